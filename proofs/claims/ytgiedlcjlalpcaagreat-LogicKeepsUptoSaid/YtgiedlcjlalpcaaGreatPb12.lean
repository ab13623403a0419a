/- Part of a proof: C3 C4 P1 P2 P5 P4 G7 K1 G8 K2 K3 K4 K6 H2 K8 E3 N2 H3. -/
import Derived.Test.YtgiedlcjlalpcaaGreatPb06
import Derived.Test.YtgiedlcjlalpcaaGreatPb08
import Derived.Test.YtgiedlcjlalpcaaGreatPb09
import Derived.Test.YtgiedlcjlalpcaaGreatPb10
set_option linter.all false
namespace Go.Proofs.YtgiedlcjlalpcaaGreat
open Go.Abs
set_option maxRecDepth 100000
set_option maxHeartbeats 4000000
attribute [local irreducible] wpA Again LeJ
attribute [local simp high] mkT_getD
attribute [local simp] runM_nil runM_cons mG_some mC_none mC_un mC_gd mV_some mV_none mD_some mP_some mP_none pickV_bool pickV_int specE_pick specE_move specE_assign specE_alloc specE_box specE_build specE_buildSlice specE_load specE_store specE_nilCheck specE_binOp specE_unOp specE_convert specE_makeFunc specE_slice specE_fieldAddr specE_field specE_indexAddr specE_index specE_extract specE_call cond_false_r cond_true_m callPure touches_move touches_assign touches_box touches_load touches_nilCheck touches_unOp touches_convert touches_fieldAddr touches_field touches_extract touches_pick touches_store touches_binOp touches_indexAddr touches_index touches_alloc touches_build touches_buildSlice touches_makeFunc touches_slice touches_call touches_builtin V.names V.namesL callOf_fn callOf_builtin callOf callResW cfg_imp wantedA evalOp_move evalOp_assign evalOp_pick evalOp_alloc evalOp_box evalOp_build evalOp_buildSlice evalOp_load evalOp_store evalOp_nilCheck evalOp_binOp evalOp_unOp evalOp_convert evalOp_makeFunc evalOp_slice evalOp_fieldAddr evalOp_field evalOp_indexAddr evalOp_index evalOp_extract evalOp_builtin opnd_tmp opnd_const opnd_func headM dropA mkT_set mkT_idx mkT_get mkT_len lookA more_true more_false constV boolV St.put getB setB V.cells cells_agg cells_int cells_bool cells_str cells_lst cells_fn cells_nilp cells_nilf cells_nilm cells_imm cells_obj cells_imap mkAgg mkFn allP partV partP placesOf fillV spliceV Ty.agg oneV oneP natOf binV_int binV_str binV_bool_eql binV_ptr_nil_eql binV_ptr_imm_eql binV_ptr_obj_eql binV_ptr_ref_eql binV_func_nil_eql binV_func_fn_eql binV_func_fv_eql binV_bool_neq binV_ptr_nil_neq binV_ptr_imm_neq binV_ptr_obj_neq binV_ptr_ref_neq binV_func_nil_neq binV_func_fn_neq binV_func_fv_neq intBin strBin cfg_ty callRes toP toPs resV addedP appendV partsToP resultPs resultVs St.head roomFor_of wrap_succ wrap_nat sizesOk_nil sizesOk_cons elemOk_int elemOk_bool elemOk_str elemOk_lst elemOk_fn List.getElem?_eq_getElem bne w64 val_cells val_fold val_eta col_cells col_fold col_eta rel_cells expr_cells expr_fold expr_fold0 expr_fold1 expr_fold2 expr_eta expr_op expr_n expr_m expr_kind expr_lit expr_args expr_rels eps_nil eps_len eps_get eps_app eps_take eps_drop eps_ok vps_nil vps_len vps_get vps_app vps_take vps_drop vps_ok cps_nil cps_len cps_get cps_app cps_take cps_drop cps_ok rps_nil rps_len rps_get eps_idx vps_idx cps_idx rps_idx ips_nil ips_len ips_get ips_idx ips_ok elemOk_e elemOk_v elemOk_c ips_app ips_take ips_drop el1 ea1 es1 el2 ea2 es2 el3 ea3 es3 elc eac vl1 va1 vs1 vl2 va2 vs2 vl3 va3 vs3 vlc vac cl1 ca1 cs1 cl2 ca2 cs2 cl3 ca3 cs3 clc cac il1 ia1 is1 il2 ia2 is2 il3 ia3 is3 ilc iac binV_val_eql binV_val_neq binV_col_eql ty2 ty3 ty4 ty5 ty9 ty22 ty23 ty25 ty26 ty27 ty29 ty30 ty34 ty43 ty52 ty57 ty61 ty75 ty86 ty87 ty102 ty131 ty132 ty134 ty135 ty137 ty138 ty141 ty149 ty152 ty156 ty159 ty160 ty172 ty176 ty184 ty185 ty186 ty187 ty189 ty204 ty211 ty221 ty222 ty242 ty259
section
attribute [local simp] runK_nil runK_cons goG_true goC_none goC_some goV_some goV_none goD_some goD_none
theorem callM275 (n:Nat) (h0:0 < n) (hn:n ≤ 4294967296):CallM cfg Tryz.prog 275 [] [.nils,.p (.int .i64 n)] [.own 1001 0] [(1001,.arr 9 [] false)]:=by
 refine ⟨⟨_,Tryz.func275,rfl,rfl⟩,fun E μ w cvs hm hlen hrep=>?_⟩
 match cvs,hlen with
 | [v0,v1],_=>
 have r0:=hrep 0 v0 _ rfl rfl
 have r1:=(hrep 1 v1 _ rfl rfl).inv_p
 have e0:v0 = .slice none 0 0:=by cases r0;rfl
 have e1:v1 = .int .i64 n:=by cases r1;rfl
 subst e0;subst e1
 obtain ⟨z,hz,happ⟩:=run_app_make w n h0 hn
 have hg:n ≤ grownCap w n 0 29:=grownCap_ge w n 0 29
 obtain ⟨E', μ',k1,k2,k3⟩:=new_arr (S:=⟨[],[],[]⟩) (es₀:=[]) (sh₀:=false) hm (w₁:=w.drew) (n:=1001) (u':=[1001]) (sz:=9) (es:=[]) (sh:=false)
  (c:=(#[] ++ Builtin.zeroCells z.cells n ++ Builtin.zeroCells z.cells (grownCap w n 0 29 - n))) (cap:=grownCap w n 0 29) (t:=29) (.inl ⟨by simp,rfl,rfl⟩) (fun _ _=>rfl) rfl rfl rfl rfl (by simp) (fun i x hi=>by simp at hi)
  (by simp only [Array.size_append,List.size_toArray,List.length_nil,size_zeroCells,hz];omega) (by simp) (fun i x hi=>by simp at hi)
 exact grow275 w n h0 hn _ _ _ happ ⟨_,E', μ',rfl,k2,k3⟩
def lps (ls:List (List Expr)):List P:=ls.map fun l=>.lst (Expr.ps l)
theorem lps_len (l:List (List Expr)):(lps l).length=l.length:=by simp [lps]
theorem lps_get (l:List (List Expr)) (i:Nat):(lps l)[i]? = l[i]?.map fun l=>.lst (Expr.ps l):=by simp [lps]
theorem lps_idx (l:List (List Expr)) (i:Nat) (h:i < (lps l).length):(lps l)[i] = .lst (Expr.ps (l[i]'(by rw [lps_len] at h;exact h))):=by simp [lps]
theorem lps_ok (l:List (List Expr)):sizesOk 1 (lps l)=true:=by
 simp [sizesOk,lps,elemOk,P.cells,oneP]
def cat (ls:List (List Expr)) (i:Nat):List Expr:=(ls.take i).flatten
theorem cat_succ (ls:List (List Expr)) (i:Nat) (h:i < ls.length):cat ls i ++ ls[i]=cat ls (i + 1):=by
 unfold cat
 rw [List.take_succ_eq_append_getElem h,List.flatten_append]
 simp
theorem cat_all (ls:List (List Expr)):cat ls ls.length=ls.flatten:=by simp [cat]
theorem cat_le (ls:List (List Expr)) (i:Nat):(cat ls i).length ≤ ls.flatten.length:=by
 have h:ls.flatten=cat ls i ++ (ls.drop i).flatten:=by
  unfold cat
  rw [← List.flatten_append,List.take_append_drop]
 rw [h,List.length_append];omega
theorem neg_nat (n:Nat):decide ((n:Int) < 0)=false:=by simp
theorem cat_zero (ls:List (List Expr)):cat ls 0=[]:=rfl
attribute [local simp] cat_zero lps_len lps_get lps_idx lps_ok neg_nat
theorem cal224 (ls:List (List Expr)) (h0:0 < ls.flatten.length) (h1:ls.flatten.length ≤ 4294967296) (h2:ls.length ≤ 1000):Cal 224 [.lst (lps ls)] [.lst (Expr.ps ls.flatten)]:=⟨by
 have msk:Msk 68215103634 68484591762:=⟨⟩
 refine CallP.of_bodyN 36 cfg_ok Tryz.func224 rfl rfl (by kernel_rfl) fun base=>?_;simp only [mkA,Nat.reduceAdd]
 refine wpA_ok 0 rfl fun ok0=>?_
 have hw:∀ i (h:i < ls.length),IntKind.wrap .i64 (((cat ls i).length:Int) + (ls[i].length:Int))=((cat ls (i + 1)).length:Int):=by
  intro i h
  have e:(cat ls (i + 1)).length=(cat ls i).length + ls[i].length:=by rw [← cat_succ ls i h,List.length_append]
  have:=cat_le ls (i + 1)
  rw [e,← Int.natCast_add]
  exact wrap_nat (by omega)
 have ld0:LD (σ:=Nat) 0 8386600 [] (fun y_=>(fun i=>[(11,.p (.int .i64 i)),(3,.p (.int .i64 (cat ls i).length))]) y_) (fun y_=>(fun i=>[]) y_) (fun y_=>(fun i=>InvL (i ≤ (ls).length) (True) (ls.drop i=ls.drop i)) y_) (fun y_=>(fun i=>(ls).length - i) y_) (0) [] (fun y_=>(fun i=>i < (ls).length) y_) (fun y_ (h:(fun i=>i < (ls).length) y_)=>(fun i (h:i < (ls).length)=>i + 1) y_ h) (fun y_ (h:(fun i=>i < (ls).length) y_)=>(fun i (h:i < (ls).length)=>i + 1) y_ h):=⟨⟩
 have st0:Stop 9:=⟨⟩
 refine walkX ?_ trivial
 intro x0 hi0 hs0 hn0 ny0 nz0 hj0
 first | intro h' h | intro h | skip
 obtain rfl:x0=ls.length:=by omega
 refine ⟨?_⟩
 refine wpA_seqK cfg_ok fun K hK=>?_
 simp -implicitDefEqProofs
 refine goX_intro (x_madeN (callM275 (cat ls ls.length).length (by rw [cat_all];exact h0) (by rw [cat_all];exact h1)) rfl rfl (by simp -implicitDefEqProofs [callArgs]) rfl (by simp)) ?_
 rintro S' rfl
 refine runK_id ?_
 simp -implicitDefEqProofs
 refine hK.out _ _ ?_
 clear hK
 clear K
 (try clear hz0)
 (try clear h')
 clear hs0 hi0 hn0 ny0 nz0 hj0
 (try clear h)
 have hr:∀ i,roomFor (cat ls i).length 112=true:=by
  intro i
  have:=cat_le ls i
  exact roomFor_of (by omega) (by decide)
 have hl:∀ i (h:i < ls.length),(cat ls i).length + ls[i].length=(cat ls (i + 1)).length:=fun i h=>by rw [← cat_succ ls i h,List.length_append]
 have ha:∀ i (h:i < ls.length),Expr.ps (cat ls i ++ ls[i])=Expr.ps (cat ls (i + 1)):=fun i h=>by rw [cat_succ ls i h]
 have ld1:LD (σ:=Nat) 2 34225520960 [] (fun y_=>(fun i=>[(27,.p (.int .i64 i)),(6,.own 24 (cat ls i).length)]) y_) (fun y_=>(fun i=>[(24,.arr 9 (Expr.ps (cat ls i)) false)]) y_) (fun y_=>(fun i=>InvL (i ≤ (ls).length) (True) (ls.drop i=ls.drop i)) y_) (fun y_=>(fun i=>(ls).length - i) y_) (0) [] (fun y_=>(fun i=>i < (ls).length) y_) (fun y_ (h:(fun i=>i < (ls).length) y_)=>(fun i (h:i < (ls).length)=>i + 1) y_ h) (fun y_ (h:(fun i=>i < (ls).length) y_)=>(fun i (h:i < (ls).length)=>i + 1) y_ h):=⟨⟩
 refine walkX ?_ trivial
 intro x1 hi1 hn1 ny1 nz1 hj1
 first | intro h' h | intro h | skip
 obtain rfl:x1=ls.length:=by omega
 rw [cat_all]⟩
theorem cal224_2 (a b:List Expr) (h0:0 < a.length + b.length) (h1:a.length + b.length ≤ 4294967296):Cal 224 [.lst [.lst (Expr.ps a),.lst (Expr.ps b)]] [.lst (Expr.ps (a ++ b))]:=by
 have:=cal224 [a,b] (by simpa using h0) (by simpa using h1) (by simp)
 simpa [lps] using this
theorem cal224_3 (a b c:List Expr) (h0:0 < a.length + (b.length + c.length)) (h1:a.length + (b.length + c.length) ≤ 4294967296):Cal 224 [.lst [.lst (Expr.ps a),.lst (Expr.ps b),.lst (Expr.ps c)]] [.lst (Expr.ps (a ++ (b ++ c)))]:=by
 have:=cal224 [a,b,c] (by simpa using h0) (by simpa using h1) (by simp)
 simpa [lps] using this
end
section
attribute [local simp] runK_nil runK_cons goG_true goC_none goC_some goV_some goV_none goD_some goD_none
theorem x_del {S:St} {o:Oper} {f:Operand} {args:Array Operand} {ts:Array TypeId} {l:List Expr} {i j a d:Nat} {t':List V} (hij:i < j) (hj:j ≤ l.length) (ho:o.op = .call { callee:=.value f,args,argTypes:=ts })
  (h1:callArgs S f args=some (232,[.own a l.length,.p (.int .i64 i),.p (.int .i64 j)])) (hb:getB S.b a=some (.arr 9 (Expr.ps l) false)) (hd:o.dst=some d) (hu:d ∉ S.u) (hda:d ≠ a)
  (hw:WeakTo S ⟨t',S.b.filter (fun p=>!(p.1 == a)),S.u⟩) :
  XStep cfg Tryz.prog o S fun S'=>S'=⟨t'.set d (.own d (l.length - (j - i))),(d,.arr 9 (Expr.ps (l.take i ++ l.drop j)) false) :: (S.b.filter (fun p=>!(p.1 == a))).filter (fun p=>!(p.1 == d)),d :: S.u⟩:=by
 have hx:=x_callN (σ:=fun n=>if n=1000 then a else d) (T:=⟨t',S.b.filter (fun p=>!(p.1 == a)),S.u⟩) (callM232 l i j hij hj) ho (by rw [h1];simp [renV,renVs])
  {weak:=hw
   blk:=fun n k hk=>by
    simp only [getB] at hk
    split at hk
    ·rename_i e;subst e;cases hk;simpa [renB] using hb
    ·cases hk
   keep:=fun n k hk ha=>by
    simp only [getB] at hk
    split at hk
    ·cases hk;simp [isArr] at ha
    ·cases hk
   gone:=fun n k hk ha=>by
    simp only [getB] at hk
    split at hk
    ·rename_i e;subst e
     refine ⟨?_,by simp [dom]⟩
     have:=getB_filter S.b [a] a
     simp [List.contains_cons,BEq.beq] at this
     simpa [BEq.beq] using this
    ·cases hk
   inj:=fun n hn m hm e=>by
    simp [dom] at hn hm
    rcases hn with rfl | rfl <;> rcases hm with rfl | rfl <;> simp_all
   new:=fun n hn=>by
    simp [dom] at hn
    subst hn
    exact .inr ⟨by simpa using hu,by simpa using hu⟩
   vals:=fun n hn=>by simp [V.namesL,V.names] at hn;subst hn;simp [dom]
   conts:=fun n k hk m hm=>by
    simp only [getB] at hk
    split at hk
    ·cases hk;simp [Blk.vals,V.namesL] at hm
    ·cases hk }
 have e:S.u.filter (fun n=>!(n == d))=S.u:=by
  rw [List.filter_eq_self]
  intro n hn
  have:n ≠ d:=fun e=>hu (e ▸ hn)
  simp [this]
 intro base a' w next R hcon hn
 refine hx base a' w next R hcon fun S' a' w' hS' hcon'=>hn S' a' w' ?_ hcon'
 rw [hS',hd]
 simp only [St.put,lentB,lentU,renBs,dom,List.map_cons,List.map_nil,renB,resVV,renV,List.cons_append,List.nil_append]
 have e':(fun n:Nat=>!([if 1001=1000 then a else d].contains n))=fun n=>!(n == d):=by
  funext n;simp [List.contains_cons,BEq.beq]
 have e'':(fun p:Nat × Blk=>!([if 1001=1000 then a else d].contains p.1))=fun p=>!(p.1 == d):=by
  funext p;simp [List.contains_cons,BEq.beq]
 rw [e',e'',e]
 simp
theorem x_delT {n:Nat} {al:List (Nat × V)} {b:Blks} {u:List Nat} {o:Oper} {f:Operand} {args:Array Operand} {ts:Array TypeId} {l:List Expr} {i j a d:Nat} (q:Nat) (hij:i < j) (hj:j ≤ l.length) (ho:o.op = .call { callee:=.value f,args,argTypes:=ts })
  (h1:callArgs ⟨mkT n al,b,u⟩ f args=some (232,[.own a l.length,.p (.int .i64 i),.p (.int .i64 j)])) (hb:getB b a=some (.arr 9 (Expr.ps l) false)) (hd:o.dst=some d) (hu:d ∉ u) (hda:d ≠ a)
  (hw:St.le [] ⟨mkT n al,b,u⟩ ⟨mkT n ((q,.any) :: al),b.filter (fun p=>!(p.1 == a)),u⟩) :
  XStep cfg Tryz.prog o ⟨mkT n al,b,u⟩ fun S'=>S'=⟨mkT n ((d,.own d (l.length - (j - i))) :: (q,.any) :: al),(d,.arr 9 (Expr.ps (l.take i ++ l.drop j)) false) :: (b.filter (fun p=>!(p.1 == a))).filter (fun p=>!(p.1 == d)),d :: u⟩:=
 x_del (S:=⟨mkT n al,b,u⟩) hij hj ho h1 hb hd hu hda (WeakTo.of_le hw)
theorem callM233L (l:List Expr) (h0:0 < l.length) (hok:l.length ≤ 4294967296):CallM cfg Tryz.prog 233 [] [.p (.lst (Expr.ps l))] [.own 5 l.length] [(5,.arr 9 (Expr.ps l) false)]:=by
 cases l with
 | nil=>simp at h0
 | cons x r=>exact callM233 x r hok
theorem cal233L (l:List Expr) (h0:0 < l.length):Cal 233 [.lst (Expr.ps l)] [.lst (Expr.ps l)]:=by
 cases l with
 | nil=>simp at h0
 | cons x r=>exact cal233 x r
theorem cal226 (e:Expr) (i:Nat) (hi:i < e.args.length):Cal 226 [e.p,.int .i64 i] [(withoutE e i).p]:=⟨by
 have msk:Msk 4128744 4194280:=⟨⟩
 refine CallP.of_bodyN 22 cfg_ok Tryz.func226 rfl rfl (by kernel_rfl) fun base=>?_;simp only [mkA,Nat.reduceAdd]
 refine wpA_ok 0 rfl fun ok0=>?_
 refine wpA_ok 1 rfl fun ok1=>?_
 have hl:e.args.length ≤ 4294967296:=okP_args ok0
 have hw:IntKind.wrap .i64 ((i:Int) + 1)=((i + 1:Nat):Int):=by rw [← Int.natCast_succ];exact wrap_nat (by omega)
 have st0:Stop 1:=⟨⟩
 refine walkX ?_ trivial
 all_goals first | intro h' h | intro h | skip
 refine ⟨?_⟩
 refine wpA_seqK cfg_ok fun K hK=>?_
 simp -implicitDefEqProofs [*]
 refine goX_intro (x_madeN (callM233L e.args (by omega) hl) rfl rfl (by simp -implicitDefEqProofs [callArgs]) rfl (by simp)) ?_
 rintro S' rfl
 refine runK_id ?_
 simp -implicitDefEqProofs [*]
 refine goX_intro (x_delT (l:=e.args) (i:=i) (j:=i + 1) (a:=7) (d:=11) 7 (by omega) (by omega) rfl (by simp -implicitDefEqProofs [callArgs]) (by simp -implicitDefEqProofs) rfl (by simp) (by simp) leS) ?_
 rintro S' rfl
 refine runK_id ?_
 simp -implicitDefEqProofs [*]
 refine hK.out _ _ ?_
 clear hK
 clear K
 have hres:withoutE e i=oneOr e (e.args.take i ++ e.args.drop (i + 1)):=rfl
 have hml:e.args.length - 1=(e.args.take i ++ e.args.drop (i + 1)).length:=by simp;omega
 rw [hres]
 generalize e.args.take i ++ e.args.drop (i + 1)=m at hml ⊢
 rw [hml]
 have hm:m.length ≤ 4294967296:=by omega
 clear hres hml hw
 by_cases hq:m.length=1
 ·have h1:((m.length:Int) == 1)=true:=by simp [hq]
  have h2:m[0]? = some (hdE m):=hdE_get? (by omega)
  have h3:0 < m.length:=by omega
  have h4:m[0]=hdE m:=hdE_get h3
  rw [show oneOr e m=hdE m by unfold oneOr;rw [h1];rfl]
  clear hq
  exact walk
 ·have h1:((m.length:Int) == 1)=false:=by simp;omega
  rw [show oneOr e m=setA e m by unfold oneOr;rw [h1];rfl]
  clear hq
  exact walk⟩
end
section
attribute [local simp] wl0 wl1 wl2 wl3 wl4 wl5 wl6 wl7 wl8 wl9 wl10 wl11 wl12 wl13 wl14 wl15 wl16 wl17 wl18 wl19 wl20
attribute [local simp high] evalOp_fieldP
attribute [local simp] fldV_p fldV_agg aggP_agg aggP_col aggP_val aggP_expr
def anyNullC (l:List Col):Bool:=l.any fun c=>c.null
def allK (k:Int) (l:List Col):Bool:=!(l.any fun c=>!(c.kind == k))
section
attribute [local simp] anyNullC
attribute [local simp] Tryz.f307 in
instance call307 (l:List Col):Cal 307 [.lst (Col.ps l)] [.bool (anyNullC l)]:=⟨by
 have msk:Msk 26 26:=⟨⟩
 refine CallP.of_bodyN 5 cfg_ok Tryz.func307 rfl rfl (by kernel_rfl) fun base=>?_;simp only [mkA,Nat.reduceAdd]
 exact walk⟩
end
section
attribute [local simp] allK
attribute [local simp] Tryz.f308 in
instance call308 (k:Int) (l:List Col):Cal 308 [.int .i64 k,.lst (Col.ps l)] [.bool (allK k l)]:=⟨by
 have msk:Msk 488 488:=⟨⟩
 refine CallP.of_bodyN 9 cfg_ok Tryz.func308 rfl rfl (by kernel_rfl) fun base=>?_;simp only [mkA,Nat.reduceAdd]
 exact walk⟩
end
def numK (l:List Col):Col × Bool:=(⟨1,anyNullC l⟩,allK 1 l)
def nnumK (l:List Col):Col × Bool:=(⟨1,true⟩,allK 1 l)
def txtK (l:List Col):Col × Bool:=(⟨3,anyNullC l⟩,allK 3 l)
def lenK (l:List Col):Col × Bool:=(⟨1,anyNullC l⟩,allK 3 l)
def bolK (l:List Col):Col × Bool:=(⟨2,anyNullC l⟩,allK 2 l)
def trueK (l:List Col):Col × Bool:=(⟨2,false⟩,allK 2 l)
def sameK (l:List Col):Col × Bool:=(⟨2,false⟩,allK (hd l).kind l)
def compK (l:List Col):Col × Bool:=(⟨2,anyNullC l⟩,allK (hd l).kind l)
def coalK (l:List Col):Col × Bool:=(⟨(hd l).kind, !(l.any fun c=>!c.null)⟩,allK (hd l).kind l)
attribute [local simp] numK nnumK txtK lenK bolK trueK sameK compK coalK idx0
theorem v263_4 (l:List Col):Cal 263 [.int .i64 4,.lst (Col.ps l)] [(numK l).1.p,.bool (numK l).2]:=⟨by
 have msk:Msk 43556140369731674708583866913994655635468 43556142965880123321245914412811829614604:=⟨⟩
 refine CallP.of_bodyN 135 cfg_ok Tryz.func263 rfl rfl (by kernel_rfl) fun base=>?_;simp only [mkA,Nat.reduceAdd]
 refine wpA_ok 0 rfl fun ok0=>?_
 refine wpA_ok 1 rfl fun ok1=>?_
 exact walk⟩
theorem v263_5 (l:List Col):Cal 263 [.int .i64 5,.lst (Col.ps l)] [(numK l).1.p,.bool (numK l).2]:=⟨by
 have msk:Msk 43556140369731674708583866913994655635468 43556142965880123321245914412811829614604:=⟨⟩
 refine CallP.of_bodyN 135 cfg_ok Tryz.func263 rfl rfl (by kernel_rfl) fun base=>?_;simp only [mkA,Nat.reduceAdd]
 refine wpA_ok 0 rfl fun ok0=>?_
 refine wpA_ok 1 rfl fun ok1=>?_
 exact walk⟩
theorem v263_6 (l:List Col):Cal 263 [.int .i64 6,.lst (Col.ps l)] [(numK l).1.p,.bool (numK l).2]:=⟨by
 have msk:Msk 43556140369731674708583866913994655635468 43556142965880123321245914412811829614604:=⟨⟩
 refine CallP.of_bodyN 135 cfg_ok Tryz.func263 rfl rfl (by kernel_rfl) fun base=>?_;simp only [mkA,Nat.reduceAdd]
 refine wpA_ok 0 rfl fun ok0=>?_
 refine wpA_ok 1 rfl fun ok1=>?_
 exact walk⟩
theorem v263_9 (l:List Col):Cal 263 [.int .i64 9,.lst (Col.ps l)] [(numK l).1.p,.bool (numK l).2]:=⟨by
 have msk:Msk 43556140369731674708583866913994655635468 43556142965880123321245914412811829614604:=⟨⟩
 refine CallP.of_bodyN 135 cfg_ok Tryz.func263 rfl rfl (by kernel_rfl) fun base=>?_;simp only [mkA,Nat.reduceAdd]
 refine wpA_ok 0 rfl fun ok0=>?_
 refine wpA_ok 1 rfl fun ok1=>?_
 exact walk⟩
theorem v263_7 (l:List Col):Cal 263 [.int .i64 7,.lst (Col.ps l)] [(nnumK l).1.p,.bool (nnumK l).2]:=⟨by
 have msk:Msk 43556140369731674708583866913994655635468 43556142965880123321245914412811829614604:=⟨⟩
 refine CallP.of_bodyN 135 cfg_ok Tryz.func263 rfl rfl (by kernel_rfl) fun base=>?_;simp only [mkA,Nat.reduceAdd]
 refine wpA_ok 0 rfl fun ok0=>?_
 refine wpA_ok 1 rfl fun ok1=>?_
 exact walk⟩
theorem v263_8 (l:List Col):Cal 263 [.int .i64 8,.lst (Col.ps l)] [(nnumK l).1.p,.bool (nnumK l).2]:=⟨by
 have msk:Msk 43556140369731674708583866913994655635468 43556142965880123321245914412811829614604:=⟨⟩
 refine CallP.of_bodyN 135 cfg_ok Tryz.func263 rfl rfl (by kernel_rfl) fun base=>?_;simp only [mkA,Nat.reduceAdd]
 refine wpA_ok 0 rfl fun ok0=>?_
 refine wpA_ok 1 rfl fun ok1=>?_
 exact walk⟩
theorem v263_10 (l:List Col):Cal 263 [.int .i64 10,.lst (Col.ps l)] [(txtK l).1.p,.bool (txtK l).2]:=⟨by
 have msk:Msk 43556140369731674708583866913994655635468 43556142965880123321245914412811829614604:=⟨⟩
 refine CallP.of_bodyN 135 cfg_ok Tryz.func263 rfl rfl (by kernel_rfl) fun base=>?_;simp only [mkA,Nat.reduceAdd]
 refine wpA_ok 0 rfl fun ok0=>?_
 refine wpA_ok 1 rfl fun ok1=>?_
 exact walk⟩
theorem v263_11 (l:List Col):Cal 263 [.int .i64 11,.lst (Col.ps l)] [(lenK l).1.p,.bool (lenK l).2]:=⟨by
 have msk:Msk 43556140369731674708583866913994655635468 43556142965880123321245914412811829614604:=⟨⟩
 refine CallP.of_bodyN 135 cfg_ok Tryz.func263 rfl rfl (by kernel_rfl) fun base=>?_;simp only [mkA,Nat.reduceAdd]
 refine wpA_ok 0 rfl fun ok0=>?_
 refine wpA_ok 1 rfl fun ok1=>?_
 exact walk⟩
theorem v263_12 (l:List Col) (h0:0 < l.length):Cal 263 [.int .i64 12,.lst (Col.ps l)] [(compK l).1.p,.bool (compK l).2]:=⟨by
 have msk:Msk 43556140369731674708583866913994655635468 43556142965880123321245914412811829614604:=⟨⟩
 refine CallP.of_bodyN 135 cfg_ok Tryz.func263 rfl rfl (by kernel_rfl) fun base=>?_;simp only [mkA,Nat.reduceAdd]
 refine wpA_ok 0 rfl fun ok0=>?_
 refine wpA_ok 1 rfl fun ok1=>?_
 exact walk⟩
theorem v263_13 (l:List Col) (h0:0 < l.length):Cal 263 [.int .i64 13,.lst (Col.ps l)] [(compK l).1.p,.bool (compK l).2]:=⟨by
 have msk:Msk 43556140369731674708583866913994655635468 43556142965880123321245914412811829614604:=⟨⟩
 refine CallP.of_bodyN 135 cfg_ok Tryz.func263 rfl rfl (by kernel_rfl) fun base=>?_;simp only [mkA,Nat.reduceAdd]
 refine wpA_ok 0 rfl fun ok0=>?_
 refine wpA_ok 1 rfl fun ok1=>?_
 exact walk⟩
theorem v263_14 (l:List Col) (h0:0 < l.length):Cal 263 [.int .i64 14,.lst (Col.ps l)] [(compK l).1.p,.bool (compK l).2]:=⟨by
 have msk:Msk 43556140369731674708583866913994655635468 43556142965880123321245914412811829614604:=⟨⟩
 refine CallP.of_bodyN 135 cfg_ok Tryz.func263 rfl rfl (by kernel_rfl) fun base=>?_;simp only [mkA,Nat.reduceAdd]
 refine wpA_ok 0 rfl fun ok0=>?_
 refine wpA_ok 1 rfl fun ok1=>?_
 exact walk⟩
theorem v263_15 (l:List Col) (h0:0 < l.length):Cal 263 [.int .i64 15,.lst (Col.ps l)] [(compK l).1.p,.bool (compK l).2]:=⟨by
 have msk:Msk 43556140369731674708583866913994655635468 43556142965880123321245914412811829614604:=⟨⟩
 refine CallP.of_bodyN 135 cfg_ok Tryz.func263 rfl rfl (by kernel_rfl) fun base=>?_;simp only [mkA,Nat.reduceAdd]
 refine wpA_ok 0 rfl fun ok0=>?_
 refine wpA_ok 1 rfl fun ok1=>?_
 exact walk⟩
theorem v263_16 (l:List Col) (h0:0 < l.length):Cal 263 [.int .i64 16,.lst (Col.ps l)] [(compK l).1.p,.bool (compK l).2]:=⟨by
 have msk:Msk 43556140369731674708583866913994655635468 43556142965880123321245914412811829614604:=⟨⟩
 refine CallP.of_bodyN 135 cfg_ok Tryz.func263 rfl rfl (by kernel_rfl) fun base=>?_;simp only [mkA,Nat.reduceAdd]
 refine wpA_ok 0 rfl fun ok0=>?_
 refine wpA_ok 1 rfl fun ok1=>?_
 exact walk⟩
theorem v263_17 (l:List Col) (h0:0 < l.length):Cal 263 [.int .i64 17,.lst (Col.ps l)] [(compK l).1.p,.bool (compK l).2]:=⟨by
 have msk:Msk 43556140369731674708583866913994655635468 43556142965880123321245914412811829614604:=⟨⟩
 refine CallP.of_bodyN 135 cfg_ok Tryz.func263 rfl rfl (by kernel_rfl) fun base=>?_;simp only [mkA,Nat.reduceAdd]
 refine wpA_ok 0 rfl fun ok0=>?_
 refine wpA_ok 1 rfl fun ok1=>?_
 exact walk⟩
theorem v263_18 (l:List Col) (h0:0 < l.length):Cal 263 [.int .i64 18,.lst (Col.ps l)] [(sameK l).1.p,.bool (sameK l).2]:=⟨by
 have msk:Msk 43556140369731674708583866913994655635468 43556142965880123321245914412811829614604:=⟨⟩
 refine CallP.of_bodyN 135 cfg_ok Tryz.func263 rfl rfl (by kernel_rfl) fun base=>?_;simp only [mkA,Nat.reduceAdd]
 refine wpA_ok 0 rfl fun ok0=>?_
 refine wpA_ok 1 rfl fun ok1=>?_
 exact walk⟩
theorem v263_19 (l:List Col):Cal 263 [.int .i64 19,.lst (Col.ps l)] [(bolK l).1.p,.bool (bolK l).2]:=⟨by
 have msk:Msk 43556140369731674708583866913994655635468 43556142965880123321245914412811829614604:=⟨⟩
 refine CallP.of_bodyN 135 cfg_ok Tryz.func263 rfl rfl (by kernel_rfl) fun base=>?_;simp only [mkA,Nat.reduceAdd]
 refine wpA_ok 0 rfl fun ok0=>?_
 refine wpA_ok 1 rfl fun ok1=>?_
 exact walk⟩
theorem v263_20 (l:List Col):Cal 263 [.int .i64 20,.lst (Col.ps l)] [(bolK l).1.p,.bool (bolK l).2]:=⟨by
 have msk:Msk 43556140369731674708583866913994655635468 43556142965880123321245914412811829614604:=⟨⟩
 refine CallP.of_bodyN 135 cfg_ok Tryz.func263 rfl rfl (by kernel_rfl) fun base=>?_;simp only [mkA,Nat.reduceAdd]
 refine wpA_ok 0 rfl fun ok0=>?_
 refine wpA_ok 1 rfl fun ok1=>?_
 exact walk⟩
theorem v263_21 (l:List Col):Cal 263 [.int .i64 21,.lst (Col.ps l)] [(bolK l).1.p,.bool (bolK l).2]:=⟨by
 have msk:Msk 43556140369731674708583866913994655635468 43556142965880123321245914412811829614604:=⟨⟩
 refine CallP.of_bodyN 135 cfg_ok Tryz.func263 rfl rfl (by kernel_rfl) fun base=>?_;simp only [mkA,Nat.reduceAdd]
 refine wpA_ok 0 rfl fun ok0=>?_
 refine wpA_ok 1 rfl fun ok1=>?_
 exact walk⟩
theorem v263_23 (l:List Col):Cal 263 [.int .i64 23,.lst (Col.ps l)] [(trueK l).1.p,.bool (trueK l).2]:=⟨by
 have msk:Msk 43556140369731674708583866913994655635468 43556142965880123321245914412811829614604:=⟨⟩
 refine CallP.of_bodyN 135 cfg_ok Tryz.func263 rfl rfl (by kernel_rfl) fun base=>?_;simp only [mkA,Nat.reduceAdd]
 refine wpA_ok 0 rfl fun ok0=>?_
 refine wpA_ok 1 rfl fun ok1=>?_
 exact walk⟩
theorem v263_25 (l:List Col) (h0:0 < l.length):Cal 263 [.int .i64 25,.lst (Col.ps l)] [(coalK l).1.p,.bool (coalK l).2]:=⟨by
 have msk:Msk 43556140369731674708583866913994655635468 43556142965880123321245914412811829614604:=⟨⟩
 refine CallP.of_bodyN 135 cfg_ok Tryz.func263 rfl rfl (by kernel_rfl) fun base=>?_;simp only [mkA,Nat.reduceAdd]
 refine wpA_ok 0 rfl fun ok0=>?_
 refine wpA_ok 1 rfl fun ok1=>?_
 exact walk⟩
theorem v263_22 (l:List Col):Cal 263 [.int .i64 22,.lst (Col.ps l)] [(Col.mk 2 false).p,.bool true]:=⟨by
 have msk:Msk 43556140369731674708583866913994655635468 43556142965880123321245914412811829614604:=⟨⟩
 refine CallP.of_bodyN 135 cfg_ok Tryz.func263 rfl rfl (by kernel_rfl) fun base=>?_;simp only [mkA,Nat.reduceAdd]
 refine wpA_ok 0 rfl fun ok0=>?_
 refine wpA_ok 1 rfl fun ok1=>?_
 exact walk⟩
end
section
attribute [local simp] wl0 wl1 wl2 wl3 wl4 wl5 wl6 wl7 wl8 wl9 wl10 wl11 wl12 wl13 wl14 wl15 wl16 wl17 wl18 wl19 wl20
attribute [local simp high] evalOp_fieldP
attribute [local simp] fldV_p fldV_agg aggP_agg aggP_col aggP_val aggP_expr
def splitC (n:Nat) (t v:List Col) (i:Nat):List Col→List Col × List Col
 | []=>(t,v)
 | c :: r=>if ((i:Int).tmod 2 == 0) && decide (i + 1 < n) then splitC n (t ++ [c]) v (i + 1) r else splitC n t (v ++ [c]) (i + 1) r
def caseK (l:List Col):Col × Bool:=
 let s:=splitC l.length [] [] 0 l
 (⟨(hd s.2).kind,anyNullC s.2⟩,allK 2 s.1 && allK (hd s.2).kind s.2)
attribute [local simp] splitC idx0 in
attribute [local simp] caseK in
theorem v263_24 (l:List Col) (hlen:l.length ≤ 16) (h0:∀ x,splitC l.length [] [] 0 l=x→0 < x.2.length):Cal 263 [.int .i64 24,.lst (Col.ps l)] [(caseK l).1.p,.bool (caseK l).2]:=⟨by
 have fz0:FZ 34 8:=⟨⟩
 have msk:Msk 43556140369731674708583866913994655635468 43556142965880123321245914412811829614604:=⟨⟩
 refine CallP.of_bodyN 135 cfg_ok Tryz.func263 rfl rfl (by kernel_rfl) fun base=>?_;simp only [mkA,Nat.reduceAdd]
 refine wpA_ok 0 rfl fun ok0=>?_
 refine wpA_ok 1 rfl fun ok1=>?_
 have hl:=okP_cps ok1
 have hc:∀ i:Nat,((i:Int) + 1 < (l.length:Int))=(i + 1 < l.length):=fun i=>by simp;omega
 have hr:∀ n:Nat,n ≤ 16→roomFor (n + 1) 16=true:=fun n _=>roomFor_of (by omega) (by decide)
 have ld0:LD (σ:=Nat × List Col × List Col) 1 19807039447974463680974686080 [10,87,91] (fun y_=>(fun i t v=>[(70,.p (.int .i64 i)),(7,.own 88 t.length),(8,.own 92 v.length)]) y_.1 y_.2.1 y_.2.2) (fun y_=>(fun i t v=>[(88,.arr 2 (Col.ps t) false),(92,.arr 2 (Col.ps v) false)]) y_.1 y_.2.1 y_.2.2) (fun y_=>(fun i t v=>InvL (i ≤ (l).length) (t.length ≤ i∧v.length ≤ i∧t.length ≤ 16∧v.length ≤ 16) (splitC l.length t v i (l.drop i)=splitC l.length [] [] 0 l)) y_.1 y_.2.1 y_.2.2) (fun y_=>(fun i t v=>(l).length - i) y_.1 y_.2.1 y_.2.2) ((0,[],[])) [88,92] (fun y_=>(fun i t v=>i < (l).length) y_.1 y_.2.1 y_.2.2) (fun y_ (h:(fun i t v=>i < (l).length) y_.1 y_.2.1 y_.2.2)=>(fun i t v (h:i < (l).length)=>(i + 1,t ++ [l[i]],v)) y_.1 y_.2.1 y_.2.2 h) (fun y_ (h:(fun i t v=>i < (l).length) y_.1 y_.2.1 y_.2.2)=>(fun i t v (h:i < (l).length)=>(i + 1,t,v ++ [l[i]])) y_.1 y_.2.1 y_.2.2 h):=⟨⟩
 exact walk⟩
end
section
attribute [local simp] wl0 wl1 wl2 wl3 wl4 wl5 wl6 wl7 wl8 wl9 wl10 wl11 wl12 wl13 wl14 wl15 wl16 wl17 wl18 wl19 wl20
attribute [local simp high] evalOp_fieldP
attribute [local simp] fldV_p fldV_agg aggP_agg aggP_col aggP_val aggP_expr
def madeE (op:Int) (l:List Col):Col × Bool:=
 if op == 4 || op == 5 || op == 6 || op == 9 then numK l else if op == 7 || op == 8 then nnumK l else if op == 10 then txtK l else if op == 11 then lenK l
 else if op == 19 || op == 20 || op == 21 then bolK l else if op == 22 then (⟨2,false⟩,true) else if op == 23 then trueK l else if op == 18 then sameK l
 else if op == 24 then caseK l else if op == 25 then coalK l else compK l
theorem splitC_len (n:Nat):∀ (r:List Col) (t v:List Col) (i:Nat),i + r.length=n→0 < r.length→0 < (splitC n t v i r).2.length
 | [],t,v,i,h,h0=>by simp at h0
 | [c],t,v,i,h,h0=>by
  simp only [splitC]
  rw [if_neg (by simp at h;simp;omega)]
  simp
 | c :: d :: r,t,v,i,h,h0=>by
  simp only [splitC]
  have h1:i + 1 + (d :: r).length=n:=by simp at h ⊢;omega
  split
  ·exact splitC_len n (d :: r) _ _ (i + 1) h1 (by simp)
  ·exact splitC_len n (d :: r) _ _ (i + 1) h1 (by simp)
theorem cal263 (op:Int) (l:List Col) (h1:4 ≤ op) (h2:op ≤ 25) (h0:0 < l.length) (h16:l.length ≤ 16):Cal 263 [.int .i64 op,.lst (Col.ps l)] [(madeE op l).1.p,.bool (madeE op l).2]:=by
 have hc:op=4 ∨ op=5 ∨ op=6 ∨ op=7 ∨ op=8 ∨ op=9 ∨ op=10 ∨ op=11 ∨ op=12 ∨ op=13 ∨ op=14 ∨ op=15 ∨ op=16 ∨ op=17 ∨ op=18 ∨ op=19 ∨ op=20 ∨ op=21 ∨ op=22 ∨ op=23 ∨ op=24 ∨ op=25:=by omega
 rcases hc with rfl | rfl | rfl | rfl | rfl | rfl | rfl | rfl | rfl | rfl | rfl | rfl | rfl | rfl | rfl | rfl | rfl | rfl | rfl | rfl | rfl | rfl
 ·exact v263_4 l
 ·exact v263_5 l
 ·exact v263_6 l
 ·exact v263_7 l
 ·exact v263_8 l
 ·exact v263_9 l
 ·exact v263_10 l
 ·exact v263_11 l
 ·exact v263_12 l h0
 ·exact v263_13 l h0
 ·exact v263_14 l h0
 ·exact v263_15 l h0
 ·exact v263_16 l h0
 ·exact v263_17 l h0
 ·exact v263_18 l h0
 ·exact v263_19 l
 ·exact v263_20 l
 ·exact v263_21 l
 ·exact v263_22 l
 ·exact v263_23 l
 ·exact v263_24 l h16 fun x hx=>by subst hx;exact splitC_len l.length l [] [] 0 (by simp) h0
 ·exact v263_25 l h0
def kindPM (op:Int):Option (List Col)→Col × Bool
 | none=>(zeroC,false)
 | some l=>madeE op l
mutual
def kindP (cols:List Col):Expr→Col × Bool
 | .mk op n m k v args r=>
  if op == 1 then (if decide (n ≥ (cols.length:Int)) then (zeroC,false) else (cols.getD n.toNat zeroC,true))
  else if op == 2 then (zeroC,false)
  else if op == 3 then (⟨k,v.kind == 0⟩,true)
  else kindPM op (kindPL cols [] args)
def kindPL (cols:List Col) (acc:List Col):List Expr→Option (List Col)
 | []=>some acc
 | a :: r=>if (kindP cols a).2 then kindPL cols (acc ++ [(kindP cols a).1]) r else none
end
theorem kindP_eq (cols:List Col) (e:Expr):kindP cols e=if e.op == 1 then (if decide (e.n ≥ (cols.length:Int)) then (zeroC,false) else (cols.getD e.n.toNat zeroC,true))
  else if e.op == 2 then (zeroC,false)
  else if e.op == 3 then (⟨e.kind,e.lit.kind == 0⟩,true)
  else kindPM e.op (kindPL cols [] e.args):=by cases e;rfl
theorem kindPM_none (op:Int):kindPM op none=(zeroC,false):=rfl
theorem kindPM_some (op:Int) (l:List Col):kindPM op (some l)=madeE op l:=rfl
def sightP (cols:List Col):P:=.agg [.lst (Col.ps cols),.nilf,.nilf]
theorem sightP_fold (cols:List Col):P.agg [.lst (Col.ps cols),.nilf,.nilf]=sightP cols:=rfl
theorem aggP_sight (cols:List Col):aggP (sightP cols)=some [.lst (Col.ps cols),.nilf,.nilf]:=rfl
theorem sight_cells (cols:List Col):P.cells (sightP cols)=[.lst (Col.ps cols),.nilf,.nilf]:=rfl
attribute [local simp] kindPL kindPM_none kindPM_some zeroC sightP_fold sight_cells in
theorem cal195 (e:Expr) (cols:List Col) (hw:wf e=true):Cal 195 [sightP cols,e.p] [(kindP cols e).1.p,.bool (kindP cols e).2]:=by
 induction hsz:e.size using Nat.strongRecOn generalizing e with
 | _ k ih=>
 subst hsz
 haveI rec195:∀ (i:Nat) (h:i < e.args.length),Cal 195 [sightP cols,e.args[i].p] [(kindP cols e.args[i]).1.p,.bool (kindP cols e.args[i]).2]:=fun i h=>ih _ (Expr.size_get h) _ (wf_get hw h) rfl
 clear ih
 have hnode:=wf_node hw
 refine ⟨?_⟩
 have heq:=kindP_eq cols e
 by_cases h1:e.op=1
 ·have hn0:0 ≤ e.n:=nodeR_col hnode (by simp [h1])
  obtain ⟨n,hn⟩:=Int.eq_ofNat_of_zero_le hn0
  clear hn0
  have msk:Msk 309447156967389027246262400 309485009758294673941588096:=⟨⟩
  refine CallP.of_bodyN 88 cfg_ok Tryz.func195 rfl rfl (by kernel_rfl) fun base=>?_;simp only [mkA,Nat.reduceAdd]
  refine wpA_ok 0 rfl fun ok0=>?_
  refine wpA_ok 1 rfl fun ok1=>?_
  exact walk
 by_cases h2:e.op=2
 ·have msk:Msk 309447156967389027246262400 309485009758294673941588096:=⟨⟩
  refine CallP.of_bodyN 88 cfg_ok Tryz.func195 rfl rfl (by kernel_rfl) fun base=>?_;simp only [mkA,Nat.reduceAdd]
  refine wpA_ok 0 rfl fun ok0=>?_
  refine wpA_ok 1 rfl fun ok1=>?_
  exact walk
 by_cases h3:e.op=3
 ·have msk:Msk 309447156967389027246262400 309485009758294673941588096:=⟨⟩
  refine CallP.of_bodyN 88 cfg_ok Tryz.func195 rfl rfl (by kernel_rfl) fun base=>?_;simp only [mkA,Nat.reduceAdd]
  refine wpA_ok 0 rfl fun ok0=>?_
  refine wpA_ok 1 rfl fun ok1=>?_
  exact walk
 have hi:=nodeR_inner hnode h1 h2 h3
 have h26:¬ 26 ≤ e.op:=by have:=hi.hi;omega
 have hpos:0 < e.args.length:=nodeR_args hnode (by simpa using h1) (by simpa using h2) (by simpa using h3)
 have hlen:=nodeR_len hnode
 have pc0:∀ {l:List Col},l.length=e.args.length→CallP cfg Tryz.prog 263 [.int .i64 e.op,.lst (Col.ps l)] [(madeE e.op l).1.p,.bool (madeE e.op l).2]:=fun {l} hl=>(cal263 e.op l hi.lo hi.hi (by omega) (by omega)).out
 clear hnode hi
 have msk:Msk 309447156967389027246262400 309485009758294673941588096:=⟨⟩
 refine CallP.of_bodyN 88 cfg_ok Tryz.func195 rfl rfl (by kernel_rfl) fun base=>?_;simp only [mkA,Nat.reduceAdd]
 refine wpA_ok 0 rfl fun ok0=>?_
 refine wpA_ok 1 rfl fun ok1=>?_
 have hl:=okP_args ok1
 have hr:∀ i,i < e.args.length→roomFor (i + 1) 16=true:=fun i _=>roomFor_of (by omega) (by decide)
 have ld0:LD (σ:=Nat × List Col) 1 9444696936942271465312 [8,9,70] (fun y_=>(fun i acc=>[(55,.p (.int .i64 i)),(6,.own 71 i)]) y_.1 y_.2) (fun y_=>(fun i acc=>[(71,.arr 2 (Col.ps acc) false)]) y_.1 y_.2) (fun y_=>(fun i acc=>InvL (i ≤ (e.args).length) (acc.length=i) (kindPM e.op (kindPL cols acc (e.args.drop i))=kindP cols e)) y_.1 y_.2) (fun y_=>(fun i acc=>(e.args).length - i) y_.1 y_.2) ((0,[])) [71] (fun y_=>(fun i acc=>i < (e.args).length) y_.1 y_.2) (fun y_ (h:(fun i acc=>i < (e.args).length) y_.1 y_.2)=>(fun i acc (h:i < (e.args).length)=>(i + 1,acc ++ [(kindP cols e.args[i]).1])) y_.1 y_.2 h) (fun y_ (h:(fun i acc=>i < (e.args).length) y_.1 y_.2)=>(fun i acc (h:i < (e.args).length)=>(i + 1,acc ++ [(kindP cols e.args[i]).1])) y_.1 y_.2 h):=⟨⟩
 exact walk
end
section
attribute [local simp] wl0 wl1 wl2 wl3 wl4 wl5 wl6 wl7 wl8 wl9 wl10 wl11 wl12 wl13 wl14 wl15 wl16 wl17 wl18 wl19 wl20
attribute [local simp high] evalOp_fieldP
attribute [local simp] fldV_p fldV_agg aggP_agg aggP_col aggP_val aggP_expr
theorem eqL_sameL:∀ (l m:List Expr),eqL sameE l m=(((l.length:Int) == (m.length:Int)) && sameL l m)
 | [],[]=>rfl
 | [],_ :: _=>by simp [eqL,sameL];omega
 | _ :: _,[]=>by simp [eqL,sameL];omega
 | a :: l,b :: m=>by
  simp only [eqL,sameL,eqL_sameL l m]
  have hz:((((a :: l).length:Nat):Int) == (((b :: m).length:Nat):Int))=((l.length:Int) == (m.length:Int)):=by
   rw [Bool.eq_iff_iff];simp
  rw [hz]
  by_cases h:sameE a b=true
  ·rw [if_pos h,if_pos h]
  ·rw [if_neg h,if_neg h];simp
theorem sameE_and (a b:Expr) (ha:a.rels=[]) (hb:b.rels=[]):sameE a b=((((((a.op == b.op) && (a.n == b.n)) && (a.m == b.m)) && (a.kind == b.kind)) && (a.lit == b.lit)) && eqL sameE a.args b.args):=by
 rw [sameE_eq,eqL_sameL,ha,hb]
 cases a.op == b.op <;> cases a.n == b.n <;> cases a.m == b.m <;> cases a.kind == b.kind <;> cases a.lit == b.lit <;> simp <;> first | done | rfl | (split <;> simp_all)
theorem cal163 (a b:Expr) (ha:wf a=true) (hb:wf b=true):Cal 163 [a.p,b.p] [.bool (sameE a b)]:=by
 induction hsz:a.size using Nat.strongRecOn generalizing a b with
 | _ k ih=>
 subst hsz
 haveI rec163:∀ (i j:Nat) (h:i < a.args.length) (k:j < b.args.length),Cal 163 ([] ++ (a.args[i]).p :: (b.args[j]).p :: []) [.bool (sameE a.args[i] b.args[j])]:=fun i j h k=>ih _ (Expr.size_get h) _ _ (wf_get ha h) (wf_get hb k) rfl
 clear ih
 have c162:=hof162 a.args b.args 163 [] [] sameE
 clear rec163
 haveI c103:Cal 103 [.lst (Expr.ps a.args),.lst (Expr.ps b.args)] [.bool (eqL sameE a.args b.args)]:=⟨by
  have msk:Msk 236 236:=⟨⟩
  refine CallP.of_bodyN 8 cfg_ok Tryz.func103 rfl rfl (by kernel_rfl) fun base=>?_;simp only [mkA,Nat.reduceAdd]
  refine wpA_ok 0 rfl fun ok0=>?_
  refine wpA_ok 1 rfl fun ok1=>?_
  exact walk⟩
 clear c162
 have ra:=nodeR_rels (wf_node ha)
 have rb:=nodeR_rels (wf_node hb)
 have heq:=sameE_and a b ra rb
 rw [heq]
 clear heq ha hb
 refine ⟨?_⟩
 have msk:Msk 4503599627370464 4503599627370464:=⟨⟩
 refine CallP.of_bodyN 52 cfg_ok Tryz.func163 rfl rfl (by kernel_rfl) fun base=>?_;simp only [mkA,Nat.reduceAdd]
 refine wpA_ok 0 rfl fun ok0=>?_
 refine wpA_ok 1 rfl fun ok1=>?_
 exact walk
theorem cal103 (l m:List Expr) (hl:∀ a ∈ l,wf a=true) (hm:∀ a ∈ m,wf a=true):Cal 103 [.lst (Expr.ps l),.lst (Expr.ps m)] [.bool (eqL sameE l m)]:=⟨by
 haveI rec163:∀ (i j:Nat) (h:i < l.length) (k:j < m.length),Cal 163 ([] ++ (l[i]).p :: (m[j]).p :: []) [.bool (sameE l[i] m[j])]:=fun i j h k=>cal163 _ _ (hl _ (List.getElem_mem h)) (hm _ (List.getElem_mem k))
 have c162:=hof162 l m 163 [] [] sameE
 clear rec163
 have msk:Msk 236 236:=⟨⟩
 refine CallP.of_bodyN 8 cfg_ok Tryz.func103 rfl rfl (by kernel_rfl) fun base=>?_;simp only [mkA,Nat.reduceAdd]
 refine wpA_ok 0 rfl fun ok0=>?_
 refine wpA_ok 1 rfl fun ok1=>?_
 exact walk⟩
theorem cal90 (e:Expr) (he:wf e=true):Cal 90 [e.p] [e.p]:=by
 induction hsz:e.size using Nat.strongRecOn generalizing e with
 | _ k ih=>
 subst hsz
 haveI rec90:∀ (i:Nat) (h:i < e.args.length),Cal 90 ([] ++ (e.args[i]).p :: []) [(id e.args[i]).p]:=fun i h=>ih _ (Expr.size_get h) _ (wf_get he h) rfl
 clear ih
 have c235:=hof235 e.args 90 [] [] id
 clear rec90
 have hid:e.args.map id=e.args:=List.map_id _
 haveI c154:Cal 154 [.lst (Expr.ps e.args)] [.lst (Expr.ps e.args)]:=⟨by
  have msk:Msk 26 26:=⟨⟩
  refine CallP.of_bodyN 5 cfg_ok Tryz.func154 rfl rfl (by kernel_rfl) fun base=>?_;simp only [mkA,Nat.reduceAdd]
  refine wpA_ok 0 rfl fun ok0=>?_
  exact walk⟩
 clear c235
 have ra:=nodeR_rels (wf_node he)
 have het:Expr.mk e.op e.n e.m e.kind e.lit e.args []=e:=by rw [← ra];exact expr_eta e
 clear he
 refine ⟨?_⟩
 have msk:Msk 4088 4088:=⟨⟩
 refine CallP.of_bodyN 12 cfg_ok Tryz.func90 rfl rfl (by kernel_rfl) fun base=>?_;simp only [mkA,Nat.reduceAdd]
 refine wpA_ok 0 rfl fun ok0=>?_
 exact walk
end
section
theorem cal131 (l:List Col) (h0:0 < l.length):Cal 131 [.lst (Col.ps l)] [(caseKinds (l.getLastD zeroC) 0 l).1.p,.bool (caseKinds (l.getLastD zeroC) 0 l).2]:=⟨by
 rw [show caseKinds (l.getLastD zeroC) 0 l=caseKI l (l.getLastD zeroC) 0 from caseKI_kinds l l.length 0 _ (by omega) h0]
 obtain ⟨n,hn⟩:∃ n,l.length=n + 1:=⟨l.length - 1,by omega⟩
 have hlast:l[n]'(by omega)=l.getLastD zeroC:=by
  rw [show l.getLastD zeroC=l.getLast (List.ne_nil_of_length_pos h0) by cases l with | nil=>simp at h0 | cons a r=>rfl]
  rw [List.getLast_eq_getElem]
  congr 1;omega
 have hst0:Hid (∀ x:Nat × Col,_):=⟨caseKI_eq l⟩
 clear h0
 have msk:Msk 1152622437444026242 1152921504606846850:=⟨⟩
 refine CallP.of_bodyN 60 cfg_ok Tryz.func131 rfl rfl (by kernel_rfl) fun base=>?_;simp only [mkA,Nat.reduceAdd]
 refine wpA_ok 0 rfl fun ok0=>?_
 have hl:=okP_cps ok0
 have hn2:n ≤ 4294967296:=by omega
 have hw:IntKind.wrap .i64 ((n:Int) + 1 - 1)=(n:Int):=by rw [Int.add_sub_cancel];exact wrap_nat (by omega)
 have hw':IntKind.wrap .i64 (n:Int)=(n:Int):=wrap_nat (by omega)
 have b3:∀ i,i < n→i < n + 1:=fun i h=>by omega
 have ld0:LD (σ:=Nat × Col) 0 576460752303407176 [] (fun y_=>(fun i o=>[(6,.p (.int .i64 i))]) y_.1 y_.2) (fun y_=>(fun i o=>[(5,.cells [.p (.int .i64 o.kind),.p (.bool o.null)])]) y_.1 y_.2) (fun y_=>(fun i o=>InvL (i ≤ n) (True) (caseKI l o i=caseKI l (l.getLastD zeroC) 0)) y_.1 y_.2) (fun y_=>(fun i o=>n - i) y_.1 y_.2) ((0,l.getLastD zeroC)) [] (fun y_=>(fun i o=>i < n) y_.1 y_.2) (fun y_ (h:(fun i o=>i < n) y_.1 y_.2)=>(fun i o (h:i < n)=>(i + 1,(⟨o.kind,o.null || (l[i]'(by omega)).null⟩))) y_.1 y_.2 h) (fun y_ (h:(fun i o=>i < n) y_.1 y_.2)=>(fun i o (h:i < n)=>(i + 1,o)) y_.1 y_.2 h):=⟨⟩
 set_option hygiene false in
 repeat' (first
  | (refine wpA_seqD cfg_ok mix msk (by decide +kernel) fun K hK=>?_)
  | (refine wpA_seq ?_)
  | (refine wpA_block ?_)
  | (refine thenR_normal ?_)
  | (refine thenR_ret ?_)
  | (refine thenR_exit ?_)
  | (refine blockR_normal ?_)
  | (refine blockR_ret ?_)
  | (refine blockR_same ?_)
  | (refine blockR_other rfl ?_)
  | (refine wpA_skip ?_)
  | (refine wpA_ret ?_)
  | (refine wpA_exit ?_)
  | (refine wpA_regD cfg_ok mix msk (by decide +kernel) fun K hK=>?_)
  | (refine hK.out _ _ _ _ _ (by first | (intro h;cases h;done) | (intro _;kernel_rfl)) ?_;clear hK;clear K;try simp only [dropA,Nat.reducePow,Nat.reduceDiv,Nat.reduceMod, ↓reduceIte,Nat.reduceOr,Nat.zero_ne_one])
  | (refine wpA_condD msk (by first | (simp -implicitDefEqProofs [*];done) | (simp -implicitDefEqProofs [*];rfl)) ?_;try simp only [dropA,Nat.reducePow,Nat.reduceDiv,Nat.reduceMod, ↓reduceIte,Nat.reduceOr,Nat.zero_ne_one])
  | (refine bodyR_ret (by first | (simp -implicitDefEqProofs [*];done) | (simp -implicitDefEqProofs [*];rfl)) ?_)
  | (refine bodyR_normal (by first | (simp -implicitDefEqProofs [*];done) | (simp -implicitDefEqProofs [*];rfl)) ?_)
  | (refine runM_id ?_;simp -implicitDefEqProofs)
  | (refine mV_id ?_;simp -implicitDefEqProofs [*])
  | (refine mG_id ?_;simp -implicitDefEqProofs [*])
  | (refine mD_id ?_;simp -implicitDefEqProofs [*])
  | (refine mQ_intro Cal.out ?_)
  | (refine mR_intro (fun _=>Cal.out) ?_)
  | (refine mR_no ?_)
  | (refine mQ_id ?_;simp -implicitDefEqProofs [*])
  | (refine mR_id ?_;simp -implicitDefEqProofs [*])
  | (refine goB_true ?_)
  | (refine goB_false ?_)
  | (refine headLD ld0 leS (by first | exact ⟨by first | exact Nat.zero_le _ | omega,by first | trivial | (simp -implicitDefEqProofs [*];done),by first | rfl | (simp -implicitDefEqProofs [*];done)⟩ | (simp -implicitDefEqProofs [*];done)) ?_;rintro x0 ⟨hi0,hs0,hn0⟩ ny0 nz0;(try simp only [headM,List.nil_append,List.cons_append,dropA,Nat.reducePow,Nat.reduceDiv,Nat.reduceMod, ↓reduceIte,Nat.reduceOr,Nat.zero_ne_one]);have hj0:x0.1 ≤ 4294967296:=by omega)
  | (refine headLD ld0 leS (by first | exact ⟨by first | exact Nat.zero_le _ | omega,by first | trivial | (simp -implicitDefEqProofs [*];done),by first | rfl | (simp -implicitDefEqProofs [*];done)⟩ | (simp -implicitDefEqProofs [*];done)) ?_;rintro x0 ⟨hi0,hs0,hn0⟩ ny0 nz0;(try simp only [headM,List.nil_append,List.cons_append,dropA,Nat.reducePow,Nat.reduceDiv,Nat.reduceMod, ↓reduceIte,Nat.reduceOr,Nat.zero_ne_one]);have hj0:x0 ≤ 4294967296:=by omega)
  | (refine goB_intro (fun h=>?_) (fun h=>?_) <;> (try simp only [Bool.not_eq_true',Bool.not_eq_false',Bool.not_eq_true,Bool.not_eq_false,Bool.and_eq_true,Bool.or_eq_false_iff,and_assoc,decide_eq_true_eq,decide_eq_false_iff_not,Nat.not_lt,Nat.not_le,Int.ofNat_lt,Int.ofNat_le,Int.not_lt,Int.not_le] at h) <;> (try have g:=ne_of_beqI h) <;> (repeat (have h':=And.left h;replace h:=And.right h)) <;> (try (have hz0:=Eq.symm hn0;rw [List.drop_eq_nil_of_le h] at hz0;simp -implicitDefEqProofs at hz0)) <;> (try (have hz1:=Eq.symm hn1;rw [List.drop_eq_nil_of_le h] at hz1;simp -implicitDefEqProofs at hz1)) <;> (try (have hz3:=Eq.symm hn3;rw [List.drop_eq_nil_of_le h] at hz3;simp -implicitDefEqProofs at hz3)) <;> (try (have hz0:=Eq.symm hn0;rw [hst0.out] at hz0;rw [dif_neg (by first | exact Nat.not_lt.mpr h | omega)] at hz0)) <;> (try (have hz1:=Eq.symm hn1;rw [hst1.out] at hz1;rw [dif_neg (by first | exact Nat.not_lt.mpr h | omega)] at hz1)) <;> (try (have hz2:=Eq.symm hn2;rw [hst2.out] at hz2;rw [dif_neg (by first | exact Nat.not_lt.mpr h | omega)] at hz2)) <;> (try (have hz3:=Eq.symm hn3;rw [hst3.out] at hz3;rw [dif_neg (by first | exact Nat.not_lt.mpr h | omega)] at hz3))))
 ·rw [caseKI_eq l x0,dif_pos (by omega),if_pos h] at hn0
  rw [← hn0];rfl
 ·refine again_nx ny0 (by assumption) (by dsimp only;omega) ?_ leS
  dsimp only
  rw [caseKI_eq l x0,dif_pos (by omega),if_neg (by rw [h',Bool.false_or];exact Bool.eq_false_iff.mp (by assumption)),if_pos h] at hn0
  exact ⟨by omega,trivial,hn0⟩
 ·refine again_nx nz0 (by assumption) (by dsimp only;omega) ?_ leS
  dsimp only
  rw [caseKI_eq l x0,dif_pos (by omega),if_neg (by rw [h',Bool.false_or];exact Bool.eq_false_iff.mp (by assumption)),if_neg (Bool.eq_false_iff.mp h)] at hn0
  exact ⟨by omega,trivial,hn0⟩
 ·rw [caseKI_eq l x0,dif_neg (by omega)] at hn0
  rw [← hn0]⟩
end
section
theorem kindM_none (e:Expr):kindM e none=(zeroC,false):=rfl
theorem kindM_some (e:Expr) (l:List Col):kindM e (some l)=combined e l:=rfl
attribute [local simp] kindL kindM_none kindM_some zeroC in
theorem cal32 (e:Expr) (cols:List Col) (hw:wf e=true):Cal 32 [e.p,.lst (Col.ps cols)] [(kindE cols e).1.p,.bool (kindE cols e).2]:=by
 induction hsz:e.size using Nat.strongRecOn generalizing e with
 | _ k ih=>
 subst hsz
 haveI rec32:∀ (i:Nat) (h:i < e.args.length),Cal 32 [e.args[i].p,.lst (Col.ps cols)] [(kindE cols e.args[i]).1.p,.bool (kindE cols e.args[i]).2]:=fun i h=>ih _ (Expr.size_get h) _ (wf_get hw h) rfl
 clear ih
 have hnode:=wf_node hw
 refine ⟨?_⟩
 have heq:=kindE_eq cols e
 by_cases h2:e.op=2
 ·have msk:Msk 144044815034543112 144115188075854856:=⟨⟩
  refine CallP.of_bodyN 57 cfg_ok Tryz.func32 rfl rfl (by kernel_rfl) fun base=>?_;simp only [mkA,Nat.reduceAdd]
  refine wpA_ok 0 rfl fun ok0=>?_
  refine wpA_ok 1 rfl fun ok1=>?_
  exact walk
 ·by_cases h1:e.op=1
  ·have hn0:0 ≤ e.n:=nodeR_col hnode (by simp [h1])
   obtain ⟨n,hn⟩:=Int.eq_ofNat_of_zero_le hn0
   clear hn0
   have msk:Msk 144044815034543112 144115188075854856:=⟨⟩
   refine CallP.of_bodyN 57 cfg_ok Tryz.func32 rfl rfl (by kernel_rfl) fun base=>?_;simp only [mkA,Nat.reduceAdd]
   refine wpA_ok 0 rfl fun ok0=>?_
   refine wpA_ok 1 rfl fun ok1=>?_
   exact walk
  ·have pc0:∀ {l:List Col},l.length=e.args.length→CallP cfg Tryz.prog 78 [e.p,.lst (Col.ps l)] [(combined e l).1.p,.bool (combined e l).2]:=fun {l} hl=>(cal78 e l (fun h3=>by rw [hl];exact nodeR_args hnode (by simpa using h1) (by simpa using h2) h3) (fun h=>cal131 l h)).out
   clear hnode
   have msk:Msk 144044815034543112 144115188075854856:=⟨⟩
   refine CallP.of_bodyN 57 cfg_ok Tryz.func32 rfl rfl (by kernel_rfl) fun base=>?_;simp only [mkA,Nat.reduceAdd]
   refine wpA_ok 0 rfl fun ok0=>?_
   refine wpA_ok 1 rfl fun ok1=>?_
   have hl:=okP_args ok0
   have hr:∀ i,i < e.args.length→roomFor (i + 1) 16=true:=fun i _=>roomFor_of (by omega) (by decide)
   have ld0:LD (σ:=Nat × List Col) 0 4503599358936032 [8,50] (fun y_=>(fun i acc=>[(7,.p (.int .i64 i)),(6,.own 51 i)]) y_.1 y_.2) (fun y_=>(fun i acc=>[(51,.arr 2 (Col.ps acc) false)]) y_.1 y_.2) (fun y_=>(fun i acc=>InvL (i ≤ (e.args).length) (acc.length=i) (kindM e (kindL cols acc (e.args.drop i))=kindE cols e)) y_.1 y_.2) (fun y_=>(fun i acc=>(e.args).length - i) y_.1 y_.2) ((0,[])) [51] (fun y_=>(fun i acc=>i < (e.args).length) y_.1 y_.2) (fun y_ (h:(fun i acc=>i < (e.args).length) y_.1 y_.2)=>(fun i acc (h:i < (e.args).length)=>(i + 1,acc ++ [(kindE cols e.args[i]).1])) y_.1 y_.2 h) (fun y_ (h:(fun i acc=>i < (e.args).length) y_.1 y_.2)=>(fun i acc (h:i < (e.args).length)=>(i + 1,acc ++ [(kindE cols e.args[i]).1])) y_.1 y_.2 h):=⟨⟩
   exact walk
end
section
theorem cal123 (v w:Val) (hs:v.text.size ≤ 4294967296):Cal 123 [v.p,w.p] [.int .i64 (compareV v w)]:=⟨by
 have hst0:Hid (∀ i,_):=⟨cmpText_eq v.text w.text⟩
 have heq:compareV v w=if v.kind != w.kind then (if decide (v.kind < w.kind) then -1 else 1) else if v.int != w.int then (if decide (v.int < w.int) then -1 else 1) else cmpText v.text w.text 0:=rfl
 have msk:Msk 2342592100560586898368 4722366482869645213632:=⟨⟩
 refine CallP.of_bodyN 72 cfg_ok Tryz.func123 rfl rfl (by kernel_rfl) fun base=>?_;simp only [mkA,Nat.reduceAdd]
 refine wpA_ok 0 rfl fun ok0=>?_
 refine wpA_ok 1 rfl fun ok1=>?_
 have ld0:LD (σ:=Nat) 0 288230376084602928 [] (fun y_=>(fun i=>[(5,.p (.int .i64 i))]) y_) (fun y_=>(fun i=>[]) y_) (fun y_=>(fun i=>InvL (i ≤ v.text.size) (True) (cmpText v.text w.text i=compareV v w)) y_) (fun y_=>(fun i=>v.text.size - i) y_) (0) [] (fun y_=>(fun i=>i < v.text.size∧i < w.text.size) y_) (fun y_ (h:(fun i=>i < v.text.size∧i < w.text.size) y_)=>(fun i (h:i < v.text.size∧i < w.text.size)=>i + 1) y_ h) (fun y_ (h:(fun i=>i < v.text.size∧i < w.text.size) y_)=>(fun i (h:i < v.text.size∧i < w.text.size)=>i + 1) y_ h):=⟨⟩
 exact walk⟩
end
section
attribute [local simp] wl0 wl1 wl2 wl3 wl4 wl5 wl6 wl7 wl8 wl9 wl10 wl11 wl12 wl13 wl14 wl15 wl16 wl17 wl18 wl19 wl20
attribute [local simp high] evalOp_fieldP
attribute [local simp] fldV_p fldV_agg aggP_agg aggP_col aggP_val aggP_expr
section
variable (x y:Val) (hx:x.text.size ≤ 200) (hy:y.text.size ≤ 200)
include hx hy
theorem s135_4:Cal 135 [.int .i64 4,.lst (Val.ps [x,y])] [(intW (w64 (x.int + y.int))).p]:=⟨by
 haveI:=cal123 x y (by omega)
 have msk:Msk 323210011123458224675895365336588 324518553658426726712787274300940:=⟨⟩
 refine CallP.of_bodyN 108 cfg_ok Tryz.func135 rfl rfl (by kernel_rfl) fun base=>?_;simp only [mkA,Nat.reduceAdd]
 refine wpA_ok 0 rfl fun ok0=>?_
 refine wpA_ok 1 rfl fun ok1=>?_
 exact walk⟩
theorem s135_5:Cal 135 [.int .i64 5,.lst (Val.ps [x,y])] [(intW (w64 (x.int - y.int))).p]:=⟨by
 haveI:=cal123 x y (by omega)
 have msk:Msk 323210011123458224675895365336588 324518553658426726712787274300940:=⟨⟩
 refine CallP.of_bodyN 108 cfg_ok Tryz.func135 rfl rfl (by kernel_rfl) fun base=>?_;simp only [mkA,Nat.reduceAdd]
 refine wpA_ok 0 rfl fun ok0=>?_
 refine wpA_ok 1 rfl fun ok1=>?_
 exact walk⟩
theorem s135_6:Cal 135 [.int .i64 6,.lst (Val.ps [x,y])] [(intW (w64 (x.int * y.int))).p]:=⟨by
 haveI:=cal123 x y (by omega)
 have msk:Msk 323210011123458224675895365336588 324518553658426726712787274300940:=⟨⟩
 refine CallP.of_bodyN 108 cfg_ok Tryz.func135 rfl rfl (by kernel_rfl) fun base=>?_;simp only [mkA,Nat.reduceAdd]
 refine wpA_ok 0 rfl fun ok0=>?_
 refine wpA_ok 1 rfl fun ok1=>?_
 exact walk⟩
theorem s135_7:Cal 135 [.int .i64 7,.lst (Val.ps [x,y])] [(divided 7 x.int y.int).p]:=⟨by
 haveI:=cal123 x y (by omega)
 have msk:Msk 323210011123458224675895365336588 324518553658426726712787274300940:=⟨⟩
 refine CallP.of_bodyN 108 cfg_ok Tryz.func135 rfl rfl (by kernel_rfl) fun base=>?_;simp only [mkA,Nat.reduceAdd]
 refine wpA_ok 0 rfl fun ok0=>?_
 refine wpA_ok 1 rfl fun ok1=>?_
 exact walk⟩
theorem s135_8:Cal 135 [.int .i64 8,.lst (Val.ps [x,y])] [(divided 8 x.int y.int).p]:=⟨by
 haveI:=cal123 x y (by omega)
 have msk:Msk 323210011123458224675895365336588 324518553658426726712787274300940:=⟨⟩
 refine CallP.of_bodyN 108 cfg_ok Tryz.func135 rfl rfl (by kernel_rfl) fun base=>?_;simp only [mkA,Nat.reduceAdd]
 refine wpA_ok 0 rfl fun ok0=>?_
 refine wpA_ok 1 rfl fun ok1=>?_
 exact walk⟩
theorem s135_10:Cal 135 [.int .i64 10,.lst (Val.ps [x,y])] [(textW (catText x.text y.text)).p]:=⟨by
 haveI:=cal123 x y (by omega)
 have hc:x.text.size + y.text.size ≤ 4294967296:=by omega
 by_cases hs:(x.text ++ y.text).size ≤ 200
 ·have e3:¬ ((200:Int) < ((x.text.size:Int) + (y.text.size:Int))):=by rw [ByteArray.size_append] at hs;omega
  have e4:(0:Int) ≤ (x.text.size:Int) + (y.text.size:Int):=by omega
  have e5:((x.text.size:Int) + (y.text.size:Int)).toNat=x.text.size + y.text.size:=by omega
  have e6:(x.text ++ y.text).extract 0 (x.text.size + y.text.size)=x.text ++ y.text:=by rw [← ByteArray.size_append];exact ByteArray.extract_zero_size
  simp only [catText]
  have msk:Msk 323210011123458224675895365336588 324518553658426726712787274300940:=⟨⟩
  refine CallP.of_bodyN 108 cfg_ok Tryz.func135 rfl rfl (by kernel_rfl) fun base=>?_;simp only [mkA,Nat.reduceAdd]
  refine wpA_ok 0 rfl fun ok0=>?_
  refine wpA_ok 1 rfl fun ok1=>?_
  exact walk
 ·have e3:((200:Int) < ((x.text.size:Int) + (y.text.size:Int))):=by rw [ByteArray.size_append] at hs;omega
  have e5:200 ≤ x.text.size + y.text.size:=by omega
  simp only [catText]
  have msk:Msk 323210011123458224675895365336588 324518553658426726712787274300940:=⟨⟩
  refine CallP.of_bodyN 108 cfg_ok Tryz.func135 rfl rfl (by kernel_rfl) fun base=>?_;simp only [mkA,Nat.reduceAdd]
  refine wpA_ok 0 rfl fun ok0=>?_
  refine wpA_ok 1 rfl fun ok1=>?_
  exact walk⟩
theorem s135_12:Cal 135 [.int .i64 12,.lst (Val.ps [x,y])] [(boolW (compareV x y == 0)).p]:=⟨by
 haveI:=cal123 x y (by omega)
 have msk:Msk 323210011123458224675895365336588 324518553658426726712787274300940:=⟨⟩
 refine CallP.of_bodyN 108 cfg_ok Tryz.func135 rfl rfl (by kernel_rfl) fun base=>?_;simp only [mkA,Nat.reduceAdd]
 refine wpA_ok 0 rfl fun ok0=>?_
 refine wpA_ok 1 rfl fun ok1=>?_
 exact walk⟩
theorem s135_13:Cal 135 [.int .i64 13,.lst (Val.ps [x,y])] [(boolW (!(compareV x y == 0))).p]:=⟨by
 haveI:=cal123 x y (by omega)
 have msk:Msk 323210011123458224675895365336588 324518553658426726712787274300940:=⟨⟩
 refine CallP.of_bodyN 108 cfg_ok Tryz.func135 rfl rfl (by kernel_rfl) fun base=>?_;simp only [mkA,Nat.reduceAdd]
 refine wpA_ok 0 rfl fun ok0=>?_
 refine wpA_ok 1 rfl fun ok1=>?_
 exact walk⟩
theorem s135_14:Cal 135 [.int .i64 14,.lst (Val.ps [x,y])] [(boolW (decide (compareV x y < 0))).p]:=⟨by
 haveI:=cal123 x y (by omega)
 have msk:Msk 323210011123458224675895365336588 324518553658426726712787274300940:=⟨⟩
 refine CallP.of_bodyN 108 cfg_ok Tryz.func135 rfl rfl (by kernel_rfl) fun base=>?_;simp only [mkA,Nat.reduceAdd]
 refine wpA_ok 0 rfl fun ok0=>?_
 refine wpA_ok 1 rfl fun ok1=>?_
 exact walk⟩
theorem s135_15:Cal 135 [.int .i64 15,.lst (Val.ps [x,y])] [(boolW (decide (compareV x y ≤ 0))).p]:=⟨by
 haveI:=cal123 x y (by omega)
 have msk:Msk 323210011123458224675895365336588 324518553658426726712787274300940:=⟨⟩
 refine CallP.of_bodyN 108 cfg_ok Tryz.func135 rfl rfl (by kernel_rfl) fun base=>?_;simp only [mkA,Nat.reduceAdd]
 refine wpA_ok 0 rfl fun ok0=>?_
 refine wpA_ok 1 rfl fun ok1=>?_
 exact walk⟩
theorem s135_16:Cal 135 [.int .i64 16,.lst (Val.ps [x,y])] [(boolW (decide (compareV x y > 0))).p]:=⟨by
 haveI:=cal123 x y (by omega)
 have msk:Msk 323210011123458224675895365336588 324518553658426726712787274300940:=⟨⟩
 refine CallP.of_bodyN 108 cfg_ok Tryz.func135 rfl rfl (by kernel_rfl) fun base=>?_;simp only [mkA,Nat.reduceAdd]
 refine wpA_ok 0 rfl fun ok0=>?_
 refine wpA_ok 1 rfl fun ok1=>?_
 exact walk⟩
theorem s135_17:Cal 135 [.int .i64 17,.lst (Val.ps [x,y])] [(boolW (decide (compareV x y ≥ 0))).p]:=⟨by
 haveI:=cal123 x y (by omega)
 have msk:Msk 323210011123458224675895365336588 324518553658426726712787274300940:=⟨⟩
 refine CallP.of_bodyN 108 cfg_ok Tryz.func135 rfl rfl (by kernel_rfl) fun base=>?_;simp only [mkA,Nat.reduceAdd]
 refine wpA_ok 0 rfl fun ok0=>?_
 refine wpA_ok 1 rfl fun ok1=>?_
 exact walk⟩
end
section
variable (x:Val) (hx:x.text.size ≤ 200)
include hx
theorem s135_9:Cal 135 [.int .i64 9,.lst (Val.ps [x])] [(intW (w64 (0 - x.int))).p]:=⟨by
 haveI:=cal123 x x (by omega)
 have msk:Msk 323210011123458224675895365336588 324518553658426726712787274300940:=⟨⟩
 refine CallP.of_bodyN 108 cfg_ok Tryz.func135 rfl rfl (by kernel_rfl) fun base=>?_;simp only [mkA,Nat.reduceAdd]
 refine wpA_ok 0 rfl fun ok0=>?_
 refine wpA_ok 1 rfl fun ok1=>?_
 exact walk⟩
theorem s135_11:Cal 135 [.int .i64 11,.lst (Val.ps [x])] [(intW x.text.size).p]:=⟨by
 haveI:=cal123 x x (by omega)
 have msk:Msk 323210011123458224675895365336588 324518553658426726712787274300940:=⟨⟩
 refine CallP.of_bodyN 108 cfg_ok Tryz.func135 rfl rfl (by kernel_rfl) fun base=>?_;simp only [mkA,Nat.reduceAdd]
 refine wpA_ok 0 rfl fun ok0=>?_
 refine wpA_ok 1 rfl fun ok1=>?_
 exact walk⟩
end
end
section
attribute [local simp] wl0 wl1 wl2 wl3 wl4 wl5 wl6 wl7 wl8 wl9 wl10 wl11 wl12 wl13 wl14 wl15 wl16 wl17 wl18 wl19 wl20
attribute [local simp high] evalOp_fieldP
attribute [local simp] fldV_p fldV_agg aggP_agg aggP_col aggP_val aggP_expr
def caseVI (l:List Val) (i:Nat):Val:=
 if h:i + 1 < l.length then (if trueV (l[i]) then l[i + 1] else caseVI l (i + 2)) else lastV l
termination_by l.length - i
theorem caseVI_eq (l:List Val) (i:Nat):caseVI l i=if h:i + 1 < l.length then (if trueV (l[i]) then l[i + 1] else caseVI l (i + 2)) else lastV l:=by rw [caseVI]
theorem caseVI_drop (l:List Val):∀ (k i:Nat),l.length - i ≤ k→caseV (lastV l) (l.drop i)=caseVI l i:=by
 intro k
 induction k with
 | zero=>
  intro i h
  rw [caseVI,dif_neg (by omega),List.drop_eq_nil_of_le (by omega)]
  rfl
 | succ k ih=>
  intro i h
  rw [caseVI]
  by_cases h1:i + 1 < l.length
  ·rw [dif_pos h1,List.drop_eq_getElem_cons (by omega),List.drop_eq_getElem_cons h1]
   simp only [caseV]
   rw [ih (i + 2) (by omega)]
  ·rw [dif_neg h1]
   by_cases h2:i < l.length
   ·rw [List.drop_eq_getElem_cons h2,List.drop_eq_nil_of_le (by omega)]
    rfl
   ·rw [List.drop_eq_nil_of_le (by omega)]
    rfl
theorem lastV_get {l:List Val} {n:Nat} (h:l.length=n + 1):l[n]'(by omega)=lastV l:=by
 have h0:0 < l.length:=by omega
 rw [show lastV l=l.getLast (List.ne_nil_of_length_pos h0) by cases l with | nil=>simp at h0 | cons a r=>rfl]
 rw [List.getLast_eq_getElem]
 congr 1;omega
variable (e:Expr)
theorem v79_18 (h:e.op=18) (x y:Val):Cal 79 [e.p,.lst (Val.ps [x,y])] [(boolW (x == y)).p]:=⟨by
 have msk:Msk 20443398744026864602841197504870664 20769187434139310514121985316879624:=⟨⟩
 refine CallP.of_bodyN 114 cfg_ok Tryz.func79 rfl rfl (by kernel_rfl) fun base=>?_;simp only [mkA,Nat.reduceAdd]
 refine wpA_ok 0 rfl fun ok0=>?_
 refine wpA_ok 1 rfl fun ok1=>?_
 exact walk⟩
theorem v79_19 (h:e.op=19) (l:List Val):Cal 79 [e.p,.lst (Val.ps l)] [(andV l).p]:=⟨by
 have msk:Msk 20443398744026864602841197504870664 20769187434139310514121985316879624:=⟨⟩
 refine CallP.of_bodyN 114 cfg_ok Tryz.func79 rfl rfl (by kernel_rfl) fun base=>?_;simp only [mkA,Nat.reduceAdd]
 refine wpA_ok 0 rfl fun ok0=>?_
 refine wpA_ok 1 rfl fun ok1=>?_
 exact walk⟩
theorem v79_20 (h:e.op=20) (l:List Val):Cal 79 [e.p,.lst (Val.ps l)] [(orVs l).p]:=⟨by
 have msk:Msk 20443398744026864602841197504870664 20769187434139310514121985316879624:=⟨⟩
 refine CallP.of_bodyN 114 cfg_ok Tryz.func79 rfl rfl (by kernel_rfl) fun base=>?_;simp only [mkA,Nat.reduceAdd]
 refine wpA_ok 0 rfl fun ok0=>?_
 refine wpA_ok 1 rfl fun ok1=>?_
 exact walk⟩
theorem v79_21 (h:e.op=21) (x:Val):Cal 79 [e.p,.lst (Val.ps [x])] [(notV x).p]:=⟨by
 have msk:Msk 20443398744026864602841197504870664 20769187434139310514121985316879624:=⟨⟩
 refine CallP.of_bodyN 114 cfg_ok Tryz.func79 rfl rfl (by kernel_rfl) fun base=>?_;simp only [mkA,Nat.reduceAdd]
 refine wpA_ok 0 rfl fun ok0=>?_
 refine wpA_ok 1 rfl fun ok1=>?_
 exact walk⟩
theorem v79_22 (h:e.op=22) (x:Val):Cal 79 [e.p,.lst (Val.ps [x])] [(boolW (x.kind == 0)).p]:=⟨by
 have msk:Msk 20443398744026864602841197504870664 20769187434139310514121985316879624:=⟨⟩
 refine CallP.of_bodyN 114 cfg_ok Tryz.func79 rfl rfl (by kernel_rfl) fun base=>?_;simp only [mkA,Nat.reduceAdd]
 refine wpA_ok 0 rfl fun ok0=>?_
 refine wpA_ok 1 rfl fun ok1=>?_
 exact walk⟩
theorem v79_23 (h:e.op=23) (x:Val):Cal 79 [e.p,.lst (Val.ps [x])] [(boolW (trueV x)).p]:=⟨by
 have msk:Msk 20443398744026864602841197504870664 20769187434139310514121985316879624:=⟨⟩
 refine CallP.of_bodyN 114 cfg_ok Tryz.func79 rfl rfl (by kernel_rfl) fun base=>?_;simp only [mkA,Nat.reduceAdd]
 refine wpA_ok 0 rfl fun ok0=>?_
 refine wpA_ok 1 rfl fun ok1=>?_
 exact walk⟩
attribute [local simp] coalV in
theorem v79_25 (h:e.op=25) (l:List Val):Cal 79 [e.p,.lst (Val.ps l)] [(coalV l).p]:=⟨by
 have msk:Msk 20443398744026864602841197504870664 20769187434139310514121985316879624:=⟨⟩
 refine CallP.of_bodyN 114 cfg_ok Tryz.func79 rfl rfl (by kernel_rfl) fun base=>?_;simp only [mkA,Nat.reduceAdd]
 refine wpA_ok 0 rfl fun ok0=>?_
 refine wpA_ok 1 rfl fun ok1=>?_
 have hl:=okP_vps ok1
 have ld1:LD (σ:=Nat) 3 79226953588444722964369244224 [] (fun y_=>(fun i=>[(6,.p (.int .i64 i))]) y_) (fun y_=>(fun i=>[]) y_) (fun y_=>(fun i=>InvL (i ≤ (l).length) (True) (coalV (l.drop i)=coalV l)) y_) (fun y_=>(fun i=>(l).length - i) y_) (0) [] (fun y_=>(fun i=>i < (l).length) y_) (fun y_ (h:(fun i=>i < (l).length) y_)=>(fun i (h:i < (l).length)=>i + 1) y_ h) (fun y_ (h:(fun i=>i < (l).length) y_)=>(fun i (h:i < (l).length)=>i + 1) y_ h):=⟨⟩
 exact walk⟩
end
section
attribute [local simp] wl0 wl1 wl2 wl3 wl4 wl5 wl6 wl7 wl8 wl9 wl10 wl11 wl12 wl13 wl14 wl15 wl16 wl17 wl18 wl19 wl20
attribute [local simp high] evalOp_fieldP
attribute [local simp] fldV_p fldV_agg aggP_agg aggP_col aggP_val aggP_expr
theorem v79_24 (e:Expr) (h:e.op=24) (l:List Val) (n:Nat) (hn:l.length=n + 1):Cal 79 [e.p,.lst (Val.ps l)] [(caseV (lastV l) l).p]:=⟨by
 have hlast:=lastV_get hn
 rw [show caseV (lastV l) l=caseVI l 0 from caseVI_drop l l.length 0 (by omega)]
 have hst0:Hid (∀ i:Nat,_):=⟨caseVI_eq l⟩
 have msk:Msk 20443398744026864602841197504870664 20769187434139310514121985316879624:=⟨⟩
 refine CallP.of_bodyN 114 cfg_ok Tryz.func79 rfl rfl (by kernel_rfl) fun base=>?_;simp only [mkA,Nat.reduceAdd]
 refine wpA_ok 0 rfl fun ok0=>?_
 refine wpA_ok 1 rfl fun ok1=>?_
 have hl:=okP_vps ok1
 have hw:IntKind.wrap .i64 ((n:Int) + 1 - 1)=(n:Int):=by rw [Int.add_sub_cancel];exact wrap_nat (by omega)
 have hw':IntKind.wrap .i64 (n:Int)=(n:Int):=wrap_nat (by omega)
 have b1:∀ i,i < n→i < n + 1:=fun i h=>by omega
 have b2:∀ i,i < n→i + 1 < n + 1:=fun i h=>by omega
 have b3:∀ i:Nat,i < n→IntKind.wrap .i64 ((i:Int) + 2)=(i:Int) + 2:=fun i h=>wrap_nat (n:=i + 2) (by omega)
 have b4:n < n + 1:=by omega
 have b5:∀ i:Nat,(0:Int) ≤ (i:Int) + 1:=fun i=>by omega
 have ld0:LD (σ:=Nat) 1 4722330454072626249760 [] (fun y_=>(fun i=>[(5,.p (.int .i64 i))]) y_) (fun y_=>(fun i=>[]) y_) (fun y_=>(fun i=>InvL (i ≤ n + 1) (True) (caseVI l i=caseVI l 0)) y_) (fun y_=>(fun i=>n + 1 - i) y_) (0) [] (fun y_=>(fun i=>i < n) y_) (fun y_ (h:(fun i=>i < n) y_)=>(fun i (h:i < n)=>i + 2) y_ h) (fun y_ (h:(fun i=>i < n) y_)=>(fun i (h:i < n)=>i + 2) y_ h):=⟨⟩
 exact walk⟩
attribute [local simp] anyNullV in
theorem v79_s (e:Expr) (h:4 ≤ e.op∧e.op ≤ 17) (l:List Val) (r:Val) (hc:Cal 135 [.int .i64 e.op,.lst (Val.ps l)] [r.p]):Cal 79 [e.p,.lst (Val.ps l)] [(if anyNullV l then nullW else r).p]:=⟨by
 have h3:¬ e.op=3:=by omega
 have h18:¬ e.op=18:=by omega
 have h19:¬ e.op=19:=by omega
 have h20:¬ e.op=20:=by omega
 have h21:¬ e.op=21:=by omega
 have h22:¬ e.op=22:=by omega
 have h23:¬ e.op=23:=by omega
 have h24:¬ e.op=24:=by omega
 have h25:¬ e.op=25:=by omega
 clear h
 have msk:Msk 20443398744026864602841197504870664 20769187434139310514121985316879624:=⟨⟩
 refine CallP.of_bodyN 114 cfg_ok Tryz.func79 rfl rfl (by kernel_rfl) fun base=>?_;simp only [mkA,Nat.reduceAdd]
 refine wpA_ok 0 rfl fun ok0=>?_
 refine wpA_ok 1 rfl fun ok1=>?_
 have hl:=okP_vps ok1
 have ld2:LD (σ:=Nat) 5 1297915758308678378457436994404480 [] (fun y_=>(fun i=>[(7,.p (.int .i64 i))]) y_) (fun y_=>(fun i=>[]) y_) (fun y_=>(fun i=>InvL (i ≤ (l).length) (True) ((if anyNullV (l.drop i) then nullW else r)=(if anyNullV l then nullW else r))) y_) (fun y_=>(fun i=>(l).length - i) y_) (0) [] (fun y_=>(fun i=>i < (l).length) y_) (fun y_ (h:(fun i=>i < (l).length) y_)=>(fun i (h:i < (l).length)=>i + 1) y_ h) (fun y_ (h:(fun i=>i < (l).length) y_)=>(fun i (h:i < (l).length)=>i + 1) y_ h):=⟨⟩
 exact walk⟩
end
section
attribute [local simp] wl0 wl1 wl2 wl3 wl4 wl5 wl6 wl7 wl8 wl9 wl10 wl11 wl12 wl13 wl14 wl15 wl16 wl17 wl18 wl19 wl20
attribute [local simp high] evalOp_fieldP
attribute [local simp] fldV_p fldV_agg aggP_agg aggP_col aggP_val aggP_expr
theorem cal94 (e:Expr) (cols:List Col) (hw:wf e=true):Cal 94 [e.p,.lst (Col.ps cols)] [(kindE cols e).1.p]:=⟨by
 haveI:=cal32 e cols hw
 have msk:Msk 16328 16328:=⟨⟩
 refine CallP.of_bodyN 14 cfg_ok Tryz.func94 rfl rfl (by kernel_rfl) fun base=>?_;simp only [mkA,Nat.reduceAdd]
 refine wpA_ok 0 rfl fun ok0=>?_
 refine wpA_ok 1 rfl fun ok1=>?_
 exact walk⟩
attribute [local simp] nullW opE in
theorem cal95 (e:Expr) (cols:List Col) (hw:wf e=true) (a b:Expr) (hab:e.args=[a,b]):Cal 95 [e.p,.lst (Col.ps cols)] [(sameStepE cols a b).1.p,.bool (sameStepE cols a b).2]:=⟨by
 haveI:=cal94 a cols (wf_arg hw a (by simp [hab]))
 haveI:=cal94 b cols (wf_arg hw b (by simp [hab]))
 simp only [sameStepE,nullE]
 have msk:Msk 562949817040648 562949953421064:=⟨⟩
 refine CallP.of_bodyN 49 cfg_ok Tryz.func95 rfl rfl (by kernel_rfl) fun base=>?_;simp only [mkA,Nat.reduceAdd]
 refine wpA_ok 0 rfl fun ok0=>?_
 refine wpA_ok 1 rfl fun ok1=>?_
 exact walk⟩
attribute [local simp] nullW opE in
theorem cal98 (e:Expr) (cols:List Col) (hw:wf e=true) (a b:Expr) (hab:e.args=[a,b]) (ho:Cal 159 [.int .i64 e.op] [.int .i64 (exchanged e.op)]):Cal 98 [e.p,.lst (Col.ps cols)] [(comparedE e cols a b).1.p,.bool (comparedE e cols a b).2]:=⟨by
 haveI:=cal94 a cols (wf_arg hw a (by simp [hab]))
 haveI:=cal94 b cols (wf_arg hw b (by simp [hab]))
 generalize hx:exchanged e.op=ex at ho
 have het:Expr.mk e.op e.n e.m e.kind e.lit [a,b] e.rels=e:=by rw [← hab];exact expr_eta e
 simp only [comparedE,nullE,opE,hx]
 have msk:Msk 37778355331698670960392 37778931862957161709320:=⟨⟩
 refine CallP.of_bodyN 75 cfg_ok Tryz.func98 rfl rfl (by kernel_rfl) fun base=>?_;simp only [mkA,Nat.reduceAdd]
 refine wpA_ok 0 rfl fun ok0=>?_
 refine wpA_ok 1 rfl fun ok1=>?_
 exact walk⟩
end
section
attribute [local simp] wl0 wl1 wl2 wl3 wl4 wl5 wl6 wl7 wl8 wl9 wl10 wl11 wl12 wl13 wl14 wl15 wl16 wl17 wl18 wl19 wl20
attribute [local simp high] evalOp_fieldP
attribute [local simp] fldV_p fldV_agg aggP_agg aggP_col aggP_val aggP_expr
theorem cal158 (op:Int) (h:op=12 ∨ op=13 ∨ op=14 ∨ op=15 ∨ op=16 ∨ op=17):Cal 158 [.int .i64 op] [.int .i64 (opposite op)]:=⟨by
 rcases h with rfl | rfl | rfl | rfl | rfl | rfl
 ·exact (show CallP cfg Tryz.prog 158 [.int .i64 12] [.int .i64 13] from by
   have msk:Msk 498 498:=⟨⟩
   refine CallP.of_bodyN 9 cfg_ok Tryz.func158 rfl rfl (by kernel_rfl) fun base=>?_;simp only [mkA,Nat.reduceAdd]
   refine wpA_ok 0 rfl fun ok0=>?_
   exact walk)
 ·exact (show CallP cfg Tryz.prog 158 [.int .i64 13] [.int .i64 12] from by
   have msk:Msk 498 498:=⟨⟩
   refine CallP.of_bodyN 9 cfg_ok Tryz.func158 rfl rfl (by kernel_rfl) fun base=>?_;simp only [mkA,Nat.reduceAdd]
   refine wpA_ok 0 rfl fun ok0=>?_
   exact walk)
 ·exact (show CallP cfg Tryz.prog 158 [.int .i64 14] [.int .i64 17] from by
   have msk:Msk 498 498:=⟨⟩
   refine CallP.of_bodyN 9 cfg_ok Tryz.func158 rfl rfl (by kernel_rfl) fun base=>?_;simp only [mkA,Nat.reduceAdd]
   refine wpA_ok 0 rfl fun ok0=>?_
   exact walk)
 ·exact (show CallP cfg Tryz.prog 158 [.int .i64 15] [.int .i64 16] from by
   have msk:Msk 498 498:=⟨⟩
   refine CallP.of_bodyN 9 cfg_ok Tryz.func158 rfl rfl (by kernel_rfl) fun base=>?_;simp only [mkA,Nat.reduceAdd]
   refine wpA_ok 0 rfl fun ok0=>?_
   exact walk)
 ·exact (show CallP cfg Tryz.prog 158 [.int .i64 16] [.int .i64 15] from by
   have msk:Msk 498 498:=⟨⟩
   refine CallP.of_bodyN 9 cfg_ok Tryz.func158 rfl rfl (by kernel_rfl) fun base=>?_;simp only [mkA,Nat.reduceAdd]
   refine wpA_ok 0 rfl fun ok0=>?_
   exact walk)
 ·exact (show CallP cfg Tryz.prog 158 [.int .i64 17] [.int .i64 14] from by
   have msk:Msk 498 498:=⟨⟩
   refine CallP.of_bodyN 9 cfg_ok Tryz.func158 rfl rfl (by kernel_rfl) fun base=>?_;simp only [mkA,Nat.reduceAdd]
   refine wpA_ok 0 rfl fun ok0=>?_
   exact walk)⟩
theorem cal159 (op:Int) (h:op=12 ∨ op=13 ∨ op=14 ∨ op=15 ∨ op=16 ∨ op=17):Cal 159 [.int .i64 op] [.int .i64 (exchanged op)]:=⟨by
 rcases h with rfl | rfl | rfl | rfl | rfl | rfl
 ·exact (show CallP cfg Tryz.prog 159 [.int .i64 12] [.int .i64 12] from by
   have msk:Msk 498 498:=⟨⟩
   refine CallP.of_bodyN 9 cfg_ok Tryz.func159 rfl rfl (by kernel_rfl) fun base=>?_;simp only [mkA,Nat.reduceAdd]
   refine wpA_ok 0 rfl fun ok0=>?_
   exact walk)
 ·exact (show CallP cfg Tryz.prog 159 [.int .i64 13] [.int .i64 13] from by
   have msk:Msk 498 498:=⟨⟩
   refine CallP.of_bodyN 9 cfg_ok Tryz.func159 rfl rfl (by kernel_rfl) fun base=>?_;simp only [mkA,Nat.reduceAdd]
   refine wpA_ok 0 rfl fun ok0=>?_
   exact walk)
 ·exact (show CallP cfg Tryz.prog 159 [.int .i64 14] [.int .i64 16] from by
   have msk:Msk 498 498:=⟨⟩
   refine CallP.of_bodyN 9 cfg_ok Tryz.func159 rfl rfl (by kernel_rfl) fun base=>?_;simp only [mkA,Nat.reduceAdd]
   refine wpA_ok 0 rfl fun ok0=>?_
   exact walk)
 ·exact (show CallP cfg Tryz.prog 159 [.int .i64 15] [.int .i64 17] from by
   have msk:Msk 498 498:=⟨⟩
   refine CallP.of_bodyN 9 cfg_ok Tryz.func159 rfl rfl (by kernel_rfl) fun base=>?_;simp only [mkA,Nat.reduceAdd]
   refine wpA_ok 0 rfl fun ok0=>?_
   exact walk)
 ·exact (show CallP cfg Tryz.prog 159 [.int .i64 16] [.int .i64 14] from by
   have msk:Msk 498 498:=⟨⟩
   refine CallP.of_bodyN 9 cfg_ok Tryz.func159 rfl rfl (by kernel_rfl) fun base=>?_;simp only [mkA,Nat.reduceAdd]
   refine wpA_ok 0 rfl fun ok0=>?_
   exact walk)
 ·exact (show CallP cfg Tryz.prog 159 [.int .i64 17] [.int .i64 15] from by
   have msk:Msk 498 498:=⟨⟩
   refine CallP.of_bodyN 9 cfg_ok Tryz.func159 rfl rfl (by kernel_rfl) fun base=>?_;simp only [mkA,Nat.reduceAdd]
   refine wpA_ok 0 rfl fun ok0=>?_
   exact walk)⟩
end
section
attribute [local simp] wl0 wl1 wl2 wl3 wl4 wl5 wl6 wl7 wl8 wl9 wl10 wl11 wl12 wl13 wl14 wl15 wl16 wl17 wl18 wl19 wl20
attribute [local simp high] evalOp_fieldP
attribute [local simp] fldV_p fldV_agg aggP_agg aggP_col aggP_val aggP_expr
theorem v93_21 (a:Expr) (h:a.op=21) (x:Expr) (hx:a.args=[x]):Cal 93 [a.p] [x.p,.bool true]:=⟨by
 have msk:Msk 9223301667573710720 9223372036854775744:=⟨⟩
 refine CallP.of_bodyN 63 cfg_ok Tryz.func93 rfl rfl (by kernel_rfl) fun base=>?_;simp only [mkA,Nat.reduceAdd]
 refine wpA_ok 0 rfl fun ok0=>?_
 exact walk⟩
theorem v93_12 (a:Expr) (h:12 ≤ a.op∧a.op ≤ 17):Cal 93 [a.p] [(opE (opposite a.op) a.args).p,.bool true]:=⟨by
 haveI:=cal158 a.op (by omega)
 have h1:¬ a.op=21:=by omega
 have h2:12 ≤ a.op:=by omega
 have h3:a.op ≤ 17:=by omega
 clear h
 simp only [opE,nullW]
 have msk:Msk 9223301667573710720 9223372036854775744:=⟨⟩
 refine CallP.of_bodyN 63 cfg_ok Tryz.func93 rfl rfl (by kernel_rfl) fun base=>?_;simp only [mkA,Nat.reduceAdd]
 refine wpA_ok 0 rfl fun ok0=>?_
 exact walk⟩
def notL (x:Expr):Expr:=opE 21 [x]
attribute [local simp] mapA in
theorem v93_19 (a:Expr) (h:a.op=19 ∨ a.op=20):Cal 93 [a.p] [(opE (39 - a.op) (a.args.map notL)).p,.bool true]:=⟨by
 have h1:¬ a.op=21:=by omega
 have h3:¬ a.op ≤ 17:=by omega
 have hw:IntKind.wrap .i64 (39 - a.op)=39 - a.op:=by rcases h with h | h <;> rw [h] <;> rfl
 rw [map_mapA]
 generalize hk:39 - a.op=k at hw
 have hno:∀ x,opE 21 [x]=notL x:=fun _=>rfl
 rw [show opE k (mapA notL [] a.args) = .mk k 0 0 0 ⟨0,0,⟨#[]⟩⟩ (mapA notL [] a.args) [] from rfl]
 have msk:Msk 9223301667573710720 9223372036854775744:=⟨⟩
 refine CallP.of_bodyN 63 cfg_ok Tryz.func93 rfl rfl (by kernel_rfl) fun base=>?_;simp only [mkA,Nat.reduceAdd]
 refine wpA_ok 0 rfl fun ok0=>?_
 have hl:=okP_args ok0
 have hr:∀ i,i < a.args.length→roomFor (i + 1) 112=true:=fun i _=>roomFor_of (by omega) (by decide)
 have ld0:LD (σ:=Nat × List Expr) 1 2305838611167182880 [56,58] (fun y_=>(fun i acc=>[(5,.p (.int .i64 i))]) y_.1 y_.2) (fun y_=>(fun i acc=>[(4,.cells [.p (.int .i64 k),.p (.int .i64 0),.p (.int .i64 0),.p (.int .i64 0),.p (.int .i64 0),.p (.int .i64 0),.p (.str ⟨#[]⟩),.own 59 i,.nils]),(59,.arr 9 (Expr.ps acc) false)]) y_.1 y_.2) (fun y_=>(fun i acc=>InvL (i ≤ (a.args).length) (acc.length=i) (mapA notL acc (a.args.drop i)=mapA notL [] a.args)) y_.1 y_.2) (fun y_=>(fun i acc=>(a.args).length - i) y_.1 y_.2) ((0,[])) [59] (fun y_=>(fun i acc=>i < (a.args).length) y_.1 y_.2) (fun y_ (h:(fun i acc=>i < (a.args).length) y_.1 y_.2)=>(fun i acc (h:i < (a.args).length)=>(i + 1,acc ++ [notL a.args[i]])) y_.1 y_.2 h) (fun y_ (h:(fun i acc=>i < (a.args).length) y_.1 y_.2)=>(fun i acc (h:i < (a.args).length)=>(i + 1,acc ++ [notL a.args[i]])) y_.1 y_.2 h):=⟨⟩
 exact walk⟩
theorem v93_no (a:Expr) (h1:¬ a.op=21) (h2:¬ (12 ≤ a.op∧a.op ≤ 17)) (h3:¬ a.op=19) (h4:¬ a.op=20):Cal 93 [a.p] [a.p,.bool false]:=⟨by
 have h5:(decide (12 ≤ a.op) && decide (a.op ≤ 17))=false:=by simp only [Bool.and_eq_false_iff,decide_eq_false_iff_not];omega
 simp only [not_and,Int.not_le] at h2
 have msk:Msk 9223301667573710720 9223372036854775744:=⟨⟩
 refine CallP.of_bodyN 63 cfg_ok Tryz.func93 rfl rfl (by kernel_rfl) fun base=>?_;simp only [mkA,Nat.reduceAdd]
 refine wpA_ok 0 rfl fun ok0=>?_
 exact walk⟩
end
section
attribute [local simp] wl0 wl1 wl2 wl3 wl4 wl5 wl6 wl7 wl8 wl9 wl10 wl11 wl12 wl13 wl14 wl15 wl16 wl17 wl18 wl19 wl20
attribute [local simp high] evalOp_fieldP
attribute [local simp] ty149
attribute [local simp] fldV_p fldV_agg aggP_agg aggP_col aggP_val aggP_expr
attribute [local simp] runK_nil runK_cons goG_true goG_false goC_none goC_some goV_some goV_none goD_some goD_none
theorem cal65 (e:Expr) (hok:okP e.p) (hb:bareE e):Cal 65 [e.p] [.bool (fitE 400 1 e).1]:=⟨by
 have recH:Hid _:=⟨callM108 e.size e (Nat.le_refl _) hok hb 400 1 (by omega) (by omega) (by omega)⟩
 clear hok hb
 have msk:Msk 496 496:=⟨⟩
 refine CallP.of_bodyN 9 cfg_ok Tryz.func65 rfl rfl (by kernel_rfl) fun base=>?_;simp only [mkA,Nat.reduceAdd]
 refine wpA_ok 0 rfl fun ok0=>?_
 have st0:Stop 2:=⟨⟩
 refine walkX ?_ trivial
 all_goals first | intro h' h | intro h | skip
 refine ⟨?_⟩
 clear st0
 refine wpA_seqK cfg_ok fun K hK=>?_
 simp -implicitDefEqProofs [*]
 refine goX_intro (x_lend (nm:=5) (cs:=[.int .i64 400,.int .i64 24]) (cs':=[.int .i64 (fitE 400 1 e).2,.int .i64 24]) (rs:=[.bool (fitE 400 1 e).1]) recH.out rfl (by simp -implicitDefEqProofs [callArgs,renVs,renV]) (by simp [V.namesL,V.names]) (by simp -implicitDefEqProofs)) ?_
 rintro S' rfl
 refine runK_id ?_
 simp -implicitDefEqProofs [*]
 refine hK.out _ _ ?_;clear hK;clear K
 exact walk⟩
def stepN (b:Bool) (e:Expr):Bool:=(b && decide (e.op < 26)) && nodeW e
theorem callM260 (e:Expr) (b:Bool):CallM cfg Tryz.prog 260 [(1000,.cells ([.bool b].map .p))] [.p e.p,.ref 1000 0] ([.bool (stepN b e)].map .p) [(1000,.cells ([.bool (stepN b e)].map .p))]:=by
 haveI:=cal261 e
 simp only [List.map_cons,List.map_nil,stepN]
 have msk:Msk 32752 32752:=⟨⟩
 refine CallM.of_body cfg_ok Tryz.func260 rfl rfl fun base=>?_
 rw [show startM Tryz.f260 [.p e.p,.ref 1000 0] [(1000,.cells [.p (.bool b)])]=⟨mkT 15 [(0,.p e.p),(1,.ref 1000 0)],[(1000,.cells [.p (.bool b)])],[1000]⟩ by kernel_rfl]
 exact walkX trivial trivial
mutual
def allN:Expr→Bool
 | .mk op n m k v args r=>stepN true (.mk op n m k v args r) && allNs args
def allNs:List Expr→Bool
 | []=>true
 | e :: r=>allN e && allNs r
end
theorem allN_eq (e:Expr):allN e=(stepN true e && allNs e.args):=by cases e;rfl
theorem allNs_nil:allNs []=true:=rfl
theorem allNs_cons (e:Expr) (r:List Expr):allNs (e :: r)=(allN e && allNs r):=rfl
theorem stepN_false (e:Expr):stepN false e=false:=by simp [stepN]
attribute [local simp] allNs_nil allNs_cons
attribute [local irreducible] allN allNs in
theorem s259 (e:Expr) (b:Bool) (ha:e.args.length ≤ 4294967296)
  (rec259:∀ (i:Nat) (h:i < e.args.length) (k:Bool),CallM cfg Tryz.prog 259 [(1000,.cells ([.bool k].map .p))] [.p e.args[i].p,.fn (.func 260) [] [.ref 1000 0]] ([].map .p) [(1000,.cells ([.bool (k && allN e.args[i])].map .p))]) :
  CallM cfg Tryz.prog 259 [(1000,.cells ([.bool b].map .p))] [.p e.p,.fn (.func 260) [] [.ref 1000 0]] ([].map .p) [(1000,.cells ([.bool (b && allN e)].map .p))]:=by
 have hR:(b && allN e)=(stepN b e && allNs e.args):=by
  rw [allN_eq]
  cases b <;> simp [stepN_false]
 have recH:Hid _:=⟨rec259⟩
 clear rec259
 rw [hR]
 clear hR
 generalize hq:(stepN b e && allNs e.args)=R
 simp only [List.map_cons,List.map_nil]
 have msk:Msk 2065880 2082776:=⟨⟩
 refine CallM.of_body cfg_ok Tryz.func259 rfl rfl fun base=>?_
 rw [show startM Tryz.f259 [.p e.p,.fn (.func 260) [] [.ref 1000 0]] [(1000,.cells [.p (.bool b)])]=⟨mkT 21 [(0,.p e.p),(1,.fn (.func 260) [] [.ref 1000 0])],[(1000,.cells [.p (.bool b)])],[1000]⟩ by kernel_rfl]
 have st0:Stop 1:=⟨⟩
 refine walkX ?_ trivial
 all_goals first | intro h' h | intro h | skip
 refine ⟨?_⟩
 clear st0
 refine wpA_seqK cfg_ok fun K hK=>?_
 simp -implicitDefEqProofs [*]
 refine goX_intro (x_lend (nm:=1000) (cs:=[.bool b]) (cs':=[.bool (stepN b e)]) (rs:=[.bool (stepN b e)]) (callM260 e b) rfl (by simp -implicitDefEqProofs [callArgs,renVs,renV]) (by simp [V.namesL,V.names]) (by simp -implicitDefEqProofs)) ?_
 rintro S' rfl
 refine runK_id ?_
 simp -implicitDefEqProofs [*]
 refine hK.out _ _ ?_;clear hK;clear K
 cases hs:stepN b e
 ·rw [hs,Bool.false_and] at hq
  subst hq
  exact walkX trivial trivial
 ·rw [hs,Bool.true_and] at hq
  have hq':(true && allNs e.args)=R:=by rw [Bool.true_and];exact hq
  clear hq hs
  have ld0:LD (σ:=Nat × Bool) 0 2088992 [5] (fun y_=>(fun i k=>[(13,.p (.int .i64 i))]) y_.1 y_.2) (fun y_=>(fun i k=>[(1000,.cells [.p (.bool k)])]) y_.1 y_.2) (fun y_=>(fun i k=>InvL (i ≤ (e.args).length) (True) ((k && allNs (e.args.drop i))=R)) y_.1 y_.2) (fun y_=>(fun i k=>(e.args).length - i) y_.1 y_.2) ((0,true)) [] (fun y_=>(fun i k=>i < (e.args).length) y_.1 y_.2) (fun y_ (h:(fun i k=>i < (e.args).length) y_.1 y_.2)=>(fun i k (h:i < (e.args).length)=>(i + 1,(k && allN e.args[i]))) y_.1 y_.2 h) (fun y_ (h:(fun i k=>i < (e.args).length) y_.1 y_.2)=>(fun i k (h:i < (e.args).length)=>(i + 1,(k && allN e.args[i]))) y_.1 y_.2 h):=⟨⟩
  have st0:Stop 5:=⟨⟩
  refine walkX ?_ ?_
  ·intro x0 hi0 hn0 ny0 nz0 hj0
   first | intro h' h | intro h | skip
   refine ⟨?_⟩
   clear st0
   refine wpA_regK cfg_ok fun K hK=>?_
   simp -implicitDefEqProofs [*]
   refine goX_intro (x_lend (nm:=1000) (cs:=[.bool x0.2]) (cs':=[.bool (x0.2 && allN e.args[x0.1])]) (rs:=[]) (recH.out x0.1 (by assumption) x0.2) rfl (by simp -implicitDefEqProofs [callArgs,renVs,renV]) (by simp [V.namesL,V.names]) (by simp -implicitDefEqProofs)) ?_
   rintro S' rfl
   refine runK_id ?_
   simp -implicitDefEqProofs [*]
   refine hK.out _ _ ?_;clear hK;clear K
   clear recH hq'
   have hd:=hn0
   rw [List.drop_eq_getElem_cons (by assumption),allNs_cons,← Bool.and_assoc] at hd
   exact walkX trivial trivial
  ·intro x0 hi0 hn0 ny0 nz0 hj0
   first | intro h' h | intro h | skip
   rw [List.drop_eq_nil_of_le (by assumption),allNs_nil,Bool.and_true] at hn0
   subst hn0
   refine bodyM_normal (bodyM_0 rfl (by simp -implicitDefEqProofs) (by rfl) (by rfl))
theorem okP_arg {op n m kind:Int} {lit:Val} {args:List Expr} {rels:List Rel} (hok:okP (Expr.mk op n m kind lit args rels).p):args.length ≤ 4294967296∧∀ (i:Nat) (h:i < args.length),okP args[i].p:=by
 simp only [Expr.p,okP,okPs,eps_len,rps_len] at hok
 refine ⟨hok.2.2.2.2.2.2.2.1.1,fun i h=>?_⟩
 have h8:=hok.2.2.2.2.2.2.2.1.2
 rw [okPs_iff] at h8
 refine h8 _ ?_
 rw [Expr.ps_map]
 exact List.mem_map.2 ⟨_,List.getElem_mem h,rfl⟩
theorem callM259:∀ (n:Nat) (e:Expr),e.size ≤ n→okP e.p→∀ (b:Bool),
  CallM cfg Tryz.prog 259 [(1000,.cells ([.bool b].map .p))] [.p e.p,.fn (.func 260) [] [.ref 1000 0]] ([].map .p) [(1000,.cells ([.bool (b && allN e)].map .p))]
 | 0,e,hn,_=>by
  obtain ⟨op,n,m,kind,lit,args,rels⟩:=e
  simp [Expr.size] at hn
 | n + 1,e,hn,hok=>by
  intro b
  obtain ⟨op,nn,m,kind,lit,args,rels⟩:=e
  obtain ⟨h1,h2⟩:=okP_arg hok
  refine s259 _ b h1 fun i h k=>?_
  have hs:args[i].size < (Expr.mk op nn m kind lit args rels).size:=Expr.size_get (e:=Expr.mk op nn m kind lit args rels) h
  exact callM259 n _ (by omega) (h2 i h) k
def formW (e:Expr):Bool:=(fitE 400 1 e).1 && allN e
attribute [local irreducible] allN fitE in
theorem cal194 (e:Expr) (hok:okP e.p) (hb:bareE e):Cal 194 [e.p] [.bool (formW e)]:=⟨by
 haveI:=cal65 e hok hb
 have recH:Hid _:=⟨callM259 e.size e (Nat.le_refl _) hok true⟩
 clear hok hb
 unfold formW
 have msk:Msk 1968 2032:=⟨⟩
 refine CallP.of_bodyN 11 cfg_ok Tryz.func194 rfl rfl (by kernel_rfl) fun base=>?_;simp only [mkA,Nat.reduceAdd]
 refine wpA_ok 0 rfl fun ok0=>?_
 cases hf:(fitE 400 1 e).1
 ·exact walk
 ·skip
  have st0:Stop 4:=⟨⟩
  refine walkX ?_ trivial
  all_goals first | intro h' h | intro h | skip
  refine ⟨?_⟩
  clear st0
  refine wpA_seqK cfg_ok fun K hK=>?_
  simp -implicitDefEqProofs [*]
  refine goX_intro (x_lend (nm:=3) (cs:=[.bool true]) (cs':=[.bool (true && allN e)]) (rs:=[]) recH.out rfl (by simp -implicitDefEqProofs [callArgs,renVs,renV]) (by simp [V.namesL,V.names]) (by simp -implicitDefEqProofs)) ?_
  rintro S' rfl
  refine runK_id ?_
  simp -implicitDefEqProofs [*]
  refine hK.out _ _ ?_;clear hK;clear K
  exact walk⟩
end
section
attribute [local simp] wl0 wl1 wl2 wl3 wl4 wl5 wl6 wl7 wl8 wl9 wl10 wl11 wl12 wl13 wl14 wl15 wl16 wl17 wl18 wl19 wl20
attribute [local simp high] evalOp_fieldP
attribute [local simp] fldV_p fldV_agg aggP_agg aggP_col aggP_val aggP_expr
def badE (e:Expr) (cols:List Col) (truth:Bool):Int:=
 if !(colsErr cols == 0) then 20 else if !form e then 30 else if !(kindE cols e).2 || truth && !((kindE cols e).1.kind == 2) then 31 else 0
theorem form_wf {e:Expr} (h:form e=true):wf e=true:=by
 simp only [form,Bool.and_eq_true] at h
 exact shaped_wf e h.1
attribute [local simp] badE in
instance call17 (e:Expr) (cols:List Col) (truth:Bool):Cal 17 [e.p,.lst (Col.ps cols),.bool truth] [.int .i64 (badE e cols truth)]:=⟨by
 cases hf:form e with
 | false=>
  have msk:Msk 1073722928 2147483184:=⟨⟩
  refine CallP.of_bodyN 31 cfg_ok Tryz.func17 rfl rfl (by kernel_rfl) fun base=>?_;simp only [mkA,Nat.reduceAdd]
  refine wpA_ok 0 rfl fun ok0=>?_
  refine wpA_ok 1 rfl fun ok1=>?_
  refine wpA_ok 2 rfl fun ok2=>?_
  exact walk
 | true=>
  haveI:=cal32 e cols (form_wf hf)
  have msk:Msk 1073722928 2147483184:=⟨⟩
  refine CallP.of_bodyN 31 cfg_ok Tryz.func17 rfl rfl (by kernel_rfl) fun base=>?_;simp only [mkA,Nat.reduceAdd]
  refine wpA_ok 0 rfl fun ok0=>?_
  refine wpA_ok 1 rfl fun ok1=>?_
  refine wpA_ok 2 rfl fun ok2=>?_
  exact walk⟩
end
section
def cut18 (l:List Col):List Col:=l.take 18
instance call47 (l:List Col):Cal 47 [.lst (Col.ps l)] [.lst (Col.ps (cut18 l))]:=⟨by
 have msk:Msk 1018 1018:=⟨⟩
 refine CallP.of_bodyN 10 cfg_ok Tryz.func47 rfl rfl (by kernel_rfl) fun base=>?_;simp only [mkA,Nat.reduceAdd]
 refine wpA_ok 0 rfl fun ok0=>?_
 have hl:=okP_cps ok0
 by_cases hs:l.length ≤ 18
 ·have e1:cut18 l=l:=List.take_of_length_le hs
  have e2:roomFor l.length 16=true:=roomFor_of (by omega) (by decide)
  have e3:¬ ((18:Int) < (l.length:Int)):=by omega
  rw [e1]
  exact walk
 ·have e2:roomFor 18 16=true:=by decide
  have e3:((18:Int) < (l.length:Int)):=by omega
  have e4:18 ≤ l.length:=by omega
  have e5:min 18 l.length=18:=by omega
  rw [show cut18 l=l.take 18 from rfl]
  exact walk⟩
end
end Go.Proofs.YtgiedlcjlalpcaaGreat
