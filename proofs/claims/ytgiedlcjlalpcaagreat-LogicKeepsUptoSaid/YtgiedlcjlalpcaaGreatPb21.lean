/- Part of a proof: V4 I1 I5 I6 I7 I8 I9. -/
import Derived.Test.YtgiedlcjlalpcaaGreatPb06
import Derived.Test.YtgiedlcjlalpcaaGreatPb07
import Derived.Test.YtgiedlcjlalpcaaGreatPb08
import Derived.Test.YtgiedlcjlalpcaaGreatPb09
import Derived.Test.YtgiedlcjlalpcaaGreatPb11
import Derived.Test.YtgiedlcjlalpcaaGreatPb12
import Derived.Test.YtgiedlcjlalpcaaGreatPb15
import Derived.Test.YtgiedlcjlalpcaaGreatPb16
import Derived.Test.YtgiedlcjlalpcaaGreatPb20
set_option linter.all false
namespace Go.Proofs.YtgiedlcjlalpcaaGreat
open Go.Abs
set_option maxRecDepth 100000
set_option maxHeartbeats 4000000
attribute [local irreducible] wpA Again LeJ
attribute [local simp high] mkT_getD
attribute [local simp] runM_nil runM_cons mG_some mC_none mC_un mC_gd mV_some mV_none mD_some mP_some mP_none pickV_bool pickV_int specE_pick specE_move specE_assign specE_alloc specE_box specE_build specE_buildSlice specE_load specE_store specE_nilCheck specE_binOp specE_unOp specE_convert specE_makeFunc specE_slice specE_fieldAddr specE_field specE_indexAddr specE_index specE_extract specE_call cond_false_r cond_true_m callPure touches_move touches_assign touches_box touches_load touches_nilCheck touches_unOp touches_convert touches_fieldAddr touches_field touches_extract touches_pick touches_store touches_binOp touches_indexAddr touches_index touches_alloc touches_build touches_buildSlice touches_makeFunc touches_slice touches_call touches_builtin V.names V.namesL callOf_fn callOf_builtin callOf callResW cfg_imp wantedA evalOp_move evalOp_assign evalOp_pick evalOp_alloc evalOp_box evalOp_build evalOp_buildSlice evalOp_load evalOp_store evalOp_nilCheck evalOp_binOp evalOp_unOp evalOp_convert evalOp_makeFunc evalOp_slice evalOp_fieldAddr evalOp_field evalOp_indexAddr evalOp_index evalOp_extract evalOp_builtin opnd_tmp opnd_const opnd_func headM dropA mkT_set mkT_idx mkT_get mkT_len lookA more_true more_false constV boolV St.put getB setB V.cells cells_agg cells_int cells_bool cells_str cells_lst cells_fn cells_nilp cells_nilf cells_nilm cells_imm cells_obj cells_imap mkAgg mkFn allP partV partP placesOf fillV spliceV Ty.agg oneV oneP natOf binV_int binV_str binV_bool_eql binV_ptr_nil_eql binV_ptr_imm_eql binV_ptr_obj_eql binV_ptr_ref_eql binV_func_nil_eql binV_func_fn_eql binV_func_fv_eql binV_bool_neq binV_ptr_nil_neq binV_ptr_imm_neq binV_ptr_obj_neq binV_ptr_ref_neq binV_func_nil_neq binV_func_fn_neq binV_func_fv_neq intBin strBin cfg_ty callRes toP toPs resV addedP appendV partsToP resultPs resultVs St.head roomFor_of wrap_succ wrap_nat sizesOk_nil sizesOk_cons elemOk_int elemOk_bool elemOk_str elemOk_lst elemOk_fn List.getElem?_eq_getElem bne w64 val_cells val_fold val_eta col_cells col_fold col_eta rel_cells expr_cells expr_fold expr_fold0 expr_fold1 expr_fold2 expr_eta expr_op expr_n expr_m expr_kind expr_lit expr_args expr_rels eps_nil eps_len eps_get eps_app eps_take eps_drop eps_ok vps_nil vps_len vps_get vps_app vps_take vps_drop vps_ok cps_nil cps_len cps_get cps_app cps_take cps_drop cps_ok rps_nil rps_len rps_get eps_idx vps_idx cps_idx rps_idx ips_nil ips_len ips_get ips_idx ips_ok elemOk_e elemOk_v elemOk_c ips_app ips_take ips_drop el1 ea1 es1 el2 ea2 es2 el3 ea3 es3 elc eac vl1 va1 vs1 vl2 va2 vs2 vl3 va3 vs3 vlc vac cl1 ca1 cs1 cl2 ca2 cs2 cl3 ca3 cs3 clc cac il1 ia1 is1 il2 ia2 is2 il3 ia3 is3 ilc iac binV_val_eql binV_val_neq binV_col_eql ty2 ty3 ty4 ty5 ty9 ty22 ty23 ty25 ty26 ty27 ty29 ty30 ty34 ty43 ty52 ty57 ty61 ty75 ty86 ty87 ty102 ty131 ty132 ty134 ty135 ty137 ty138 ty141 ty149 ty152 ty156 ty159 ty160 ty172 ty176 ty184 ty185 ty186 ty187 ty189 ty204 ty211 ty221 ty222 ty242 ty259
section
attribute [local simp] wl0 wl1 wl2 wl3 wl4 wl5 wl6 wl7 wl8 wl9 wl10 wl11 wl12 wl13 wl14 wl15 wl16 wl17 wl18 wl19 wl20
attribute [local simp high] evalOp_fieldP
attribute [local simp] ty87 ty102 ty134 ty140
attribute [local simp] fldV_p fldV_agg aggP_agg aggP_col aggP_val aggP_expr
attribute [local simp] cfg_obj0
theorem areC_real {cols:List Col} (h:areC cols=true):∀ c ∈ cols,real c.kind=true:=by
 intro c hc
 unfold areC at h
 simp only [Bool.and_eq_true,Bool.not_eq_true',List.any_eq_false] at h
 have:=h.2 c hc
 unfold badCol at this
 unfold real
 simp at this ⊢
 omega
theorem nulled_has {cols:List Col} (hc:areC cols=true) (set:List Int):∀ (n:Nat) (e:Expr),e.size ≤ n→∀ {k:Int},Has cols e k→Has cols (nulledE cols set e) k
 | 0,e,hn,k,_=>by
  obtain ⟨op,n,m,kind,lit,args,rels⟩:=e
  simp [Expr.size] at hn
 | n + 1,e,hn,k,hk=>by
  rw [nulledE_eq]
  cases hi:inSet set e
  ·rw [if_neg (by simp)]
   refine has_args hk (xs:=e.args.map (nulledE cols set)) (by simp) fun i h1 h2=>?_
   rw [List.getElem_map]
   exact nulled_has hc set n _ (by have:=Expr.size_get h1;omega) (arg_has hk (List.getElem_mem h1))
  ·rw [if_pos rfl]
   have h1:e.op=1:=by simp only [inSet,Bool.and_eq_true,beq_iff_eq] at hi;exact hi.1
   obtain ⟨j,hj,hlt⟩:=has_col hk h1
   have hkind:k=(cols.getD e.n.toNat zeroC).kind:=by
    rw [← hk.kind]
    unfold kd
    rw [kindE_eq,if_neg (by simp [h1]),if_pos (by simp [h1]),if_neg (by simp;omega)]
   unfold nullC
   rw [← hkind]
   refine has_lit ?_ right_null (.inl rfl)
   rw [hkind,hj,Int.toNat_natCast]
   refine areC_real hc _ ?_
   rw [List.getD_eq_getElem?_getD,List.getElem?_eq_getElem hlt]
   exact List.getElem_mem _
theorem cal67 (cols:List Col) (set:List Int) (e y:Expr) {k:Int} (hc:areC cols=true) (hk:Has cols e k) (hy:Simp cols (nulledE cols set e) y):Cal 67 [L cols,e.p,.lst (ips set)] [.bool (isNull y || isFalse y)]:=⟨by
 haveI c66:=cal66 cols set e hk
 haveI c51:=cal51 hy (nulled_has hc set e.size e (Nat.le_refl _) hk)
 clear hy hk hc
 unfold L at *
 have msk:Msk 16777000 16777000:=⟨⟩
 refine CallP.of_bodyN 24 cfg_ok Tryz.func67 rfl rfl (by kernel_rfl) fun base=>?_;simp only [mkA,Nat.reduceAdd]
 refine wpA_ok 0 rfl fun ok0=>?_
 refine wpA_ok 1 rfl fun ok1=>?_
 refine wpA_ok 2 rfl fun ok2=>?_
 exact walk⟩
mutual
theorem wf_ok:∀ {e:Expr},wf e=true→okP e.p
 | .mk op n m k v args rels,h=>by
  have hr:rels=[]:=nodeR_rels (wf_node h)
  have hl:=wf_len h
  subst hr
  simp only [Expr.p,okP,okPs,eps_len,rps_len,true_and,and_true]
  simp only [Expr.args] at hl
  refine ⟨⟨by omega,wf_oks fun a ha=>wf_arg h a ha⟩,by simp,?_⟩
  trivial
theorem wf_oks:∀ {l:List Expr},(∀ a ∈ l,wf a=true)→okPs (Expr.ps l)
 | [],h=>trivial
 | a :: r,h=>⟨wf_ok (h a (by simp)),wf_oks fun b hb=>h b (by simp [hb])⟩
end
theorem begR_true (e:Expr) (cols:List Col):begR cols true [] [e]=if badE e cols true=0 then (L cols,0) else (.nilp,badE e cols true):=by
 simp only [begR,List.nil_append,List.any_cons,List.any_nil,Bool.or_false,Bool.true_and]
 by_cases h:badE e cols false=0
 ·obtain ⟨hk,hc,hf⟩:=bad_has h
  have h1:(kindsP e cols).1=(kindE cols e).1:=by
   unfold kindsP
   rw [hc,hf]
   have:=kindP_has hk
   rw [this]
   have hok:=hk.ok
   unfold okk at hok
   rw [hok]
   rfl
  rw [kindsP_bad,h,hc,h1]
  have h2:badE e cols true=if !((kindE cols e).1.kind == 2) then 31 else 0:=by
   unfold badE
   rw [← areC_eq,hc,hf]
   have hok:=hk.ok
   unfold okk at hok
   rw [hok]
   rfl
  rw [h2]
  cases ((kindE cols e).1.kind == 2) <;> rfl
 ·have h2:badE e cols true=badE e cols false:=by
   unfold badE at h ⊢
   split
   ·rfl
   ·rename_i a1
    rw [if_neg a1] at h
    split
    ·rfl
    ·rename_i a2
     rw [if_neg a2] at h
     by_cases a3:(kindE cols e).2=true
     ·rw [a3] at h;exact absurd rfl h
     ·have:(kindE cols e).2=false:=by simpa using a3
      rw [this];rfl
  rw [kindsP_bad,h2,if_pos (by simp [h]),if_neg h]
theorem badT_has {e:Expr} {cols:List Col} (h:badE e cols true=0):Has cols e 2∧areC cols=true∧form e=true:=by
 have h0:badE e cols false=0:=by
  unfold badE at h ⊢
  split
  ·rename_i a;rw [if_pos a] at h;cases h
  ·rename_i a1
   rw [if_neg a1] at h
   split
   ·rename_i a;rw [if_pos a] at h;cases h
   ·rename_i a2
    rw [if_neg a2] at h
    split
    ·rename_i a3
     have:(kindE cols e).2=false:=by simpa using a3
     rw [this] at h;cases h
    ·rfl
 obtain ⟨hk,hc,hf⟩:=bad_has h0
 refine ⟨⟨hk.wf,hk.ok,?_⟩,hc,hf⟩
 unfold badE at h
 rw [← areC_eq,hc,hf] at h
 have hok:=hk.ok
 unfold okk at hok
 rw [hok] at h
 unfold kd
 simp at h
 exact h
section
variable (e:Expr) (cols:List Col)
theorem cal25_bad (set:List Int) (hb:bareE e) (hs:e.size ≤ 500000) (h:badE e cols true ≠ 0):Cal 25 [e.p,.lst (Col.ps cols),.lst (ips set)] [.bool false,.int .i64 (badE e cols true)]:=⟨by
 haveI c49:=cal49 cols true [e] (by simp) (fun i h=>by simp at h;subst h;exact hb) (fun i h=>by simp at h;subst h;exact hs)
 rw [begR_true,if_neg h] at c49
 have hne:(badE e cols true != 0)=true:=by simpa [bne] using h
 have hne':(badE e cols true == 0)=false:=by simpa using h
 clear hb hs h
 generalize badE e cols true=b at *
 have msk:Msk 33281539104 34359737376:=⟨⟩
 refine CallP.of_bodyN 35 cfg_ok Tryz.func25 rfl rfl (by kernel_rfl) fun base=>?_;simp only [mkA,Nat.reduceAdd]
 refine wpA_ok 0 rfl fun ok0=>?_
 refine wpA_ok 1 rfl fun ok1=>?_
 refine wpA_ok 2 rfl fun ok2=>?_
 exact walk⟩
theorem cal25_arg (set:List Int) (hb:bareE e) (hs:e.size ≤ 500000) (h:badE e cols true=0) (ho:set.any (outC cols)=true):Cal 25 [e.p,.lst (Col.ps cols),.lst (ips set)] [.bool false,.int .i64 1]:=⟨by
 haveI c49:=cal49 cols true [e] (by simp) (fun i h=>by simp at h;subst h;exact hb) (fun i h=>by simp at h;subst h;exact hs)
 rw [begR_true,if_pos h] at c49
 have c63:Cal 63 [.lst (ips set),.fn (.func 64) [] [.imm [.lst (Col.ps cols)] 0]] [.bool (set.any (outC cols))]:=inferInstance
 rw [ho] at c63
 clear hb hs h ho
 unfold L at *
 have msk:Msk 33281539104 34359737376:=⟨⟩
 refine CallP.of_bodyN 35 cfg_ok Tryz.func25 rfl rfl (by kernel_rfl) fun base=>?_;simp only [mkA,Nat.reduceAdd]
 refine wpA_ok 0 rfl fun ok0=>?_
 refine wpA_ok 1 rfl fun ok1=>?_
 refine wpA_ok 2 rfl fun ok2=>?_
 exact walk⟩
theorem cal25_ok (set:List Int) (y:Expr) (hb:bareE e) (hs:e.size ≤ 500000) (h:badE e cols true=0) (ho:set.any (outC cols)=false) (hy:Simp cols (nulledE cols set e) y) :
  Cal 25 [e.p,.lst (Col.ps cols),.lst (ips set)] [.bool (if (fitE 400 1 y).1 then isNull y || isFalse y else false),.int .i64 (if (fitE 400 1 y).1 then 0 else 2)]:=⟨by
 haveI c49:=cal49 cols true [e] (by simp) (fun i h=>by simp at h;subst h;exact hb) (fun i h=>by simp at h;subst h;exact hs)
 rw [begR_true,if_pos h] at c49
 obtain ⟨hk,hc,_⟩:=badT_has h
 have c63:Cal 63 [.lst (ips set),.fn (.func 64) [] [.imm [.lst (Col.ps cols)] 0]] [.bool (set.any (outC cols))]:=inferInstance
 rw [ho] at c63
 have hyk:=nulled_has hc set e.size e (Nat.le_refl _) hk
 haveI c67:=cal67 cols set e y hc hk hy
 haveI c66:=cal66 cols set e hk
 haveI c51:=cal51 hy hyk
 have hyw:=(simp_has hy hyk).wf
 haveI c65:=cal65 y (wf_ok hyw) (wf_bare hyw)
 clear hb hs h ho hk hc hy hyk hyw
 unfold L at *
 generalize (fitE 400 1 y).1=b at *
 have msk:Msk 33281539104 34359737376:=⟨⟩
 refine CallP.of_bodyN 35 cfg_ok Tryz.func25 rfl rfl (by kernel_rfl) fun base=>?_;simp only [mkA,Nat.reduceAdd]
 refine wpA_ok 0 rfl fun ok0=>?_
 refine wpA_ok 1 rfl fun ok1=>?_
 refine wpA_ok 2 rfl fun ok2=>?_
 cases b
 ·exact walk
 ·exact walk⟩
theorem cal23_bad (hb:bareE e) (hs:e.size ≤ 500000) (h:badE e cols true ≠ 0):Cal 23 [e.p,.lst (Col.ps cols)] [zeroE.p,.int .i64 (badE e cols true)]:=⟨by
 haveI c49:=cal49 cols true [e] (by simp) (fun i h=>by simp at h;subst h;exact hb) (fun i h=>by simp at h;subst h;exact hs)
 rw [begR_true,if_neg h] at c49
 have hne:(badE e cols true != 0)=true:=by simpa [bne] using h
 have hne':(badE e cols true == 0)=false:=by simpa using h
 clear hb hs h
 generalize badE e cols true=b at *
 unfold zeroE nullW
 have msk:Msk 33488648 33554184:=⟨⟩
 refine CallP.of_bodyN 25 cfg_ok Tryz.func23 rfl rfl (by kernel_rfl) fun base=>?_;simp only [mkA,Nat.reduceAdd]
 refine wpA_ok 0 rfl fun ok0=>?_
 refine wpA_ok 1 rfl fun ok1=>?_
 exact walk⟩
theorem cal23_ok (y:Expr) (hb:bareE e) (hs:e.size ≤ 500000) (h:badE e cols true=0) (hy:CondS cols e y) :
  Cal 23 [e.p,.lst (Col.ps cols)] [(if (fitE 400 1 y).1 then y else zeroE).p,.int .i64 (if (fitE 400 1 y).1 then 0 else 2)]:=⟨by
 haveI c49:=cal49 cols true [e] (by simp) (fun i h=>by simp at h;subst h;exact hb) (fun i h=>by simp at h;subst h;exact hs)
 rw [begR_true,if_pos h] at c49
 obtain ⟨hk,hc,_⟩:=badT_has h
 haveI c59:=cal59 hy hk
 haveI c50:=cal50 y (cond_has hy hk).wf
 clear hb hs h hk hc hy
 unfold L at *
 unfold zeroE nullW
 have msk:Msk 33488648 33554184:=⟨⟩
 refine CallP.of_bodyN 25 cfg_ok Tryz.func23 rfl rfl (by kernel_rfl) fun base=>?_;simp only [mkA,Nat.reduceAdd]
 refine wpA_ok 0 rfl fun ok0=>?_
 refine wpA_ok 1 rfl fun ok1=>?_
 exact walk⟩
end
end
section
attribute [local simp] wl0 wl1 wl2 wl3 wl4 wl5 wl6 wl7 wl8 wl9 wl10 wl11 wl12 wl13 wl14 wl15 wl16 wl17 wl18 wl19 wl20
attribute [local simp high] evalOp_fieldP
attribute [local simp] ty156
attribute [local simp] fldV_p fldV_agg aggP_agg aggP_col aggP_val aggP_expr
mutual
def conjE:Expr→List Expr
 | .mk op n m k v args rels=>if op == 19 then conjL [] args else [.mk op n m k v args rels]
def conjL (acc:List Expr):List Expr→List Expr
 | []=>acc
 | a :: r=>conjL (acc ++ conjE a) r
end
theorem conjE_eq (e:Expr):conjE e=if e.op == 19 then conjL [] e.args else [e]:=by cases e;rfl
theorem conjL_nil (acc:List Expr):conjL acc []=acc:=rfl
theorem conjL_cons (acc:List Expr) (a:Expr) (r:List Expr):conjL acc (a :: r)=conjL (acc ++ conjE a) r:=rfl
mutual
theorem conjE_len:∀ (e:Expr),(conjE e).length ≤ e.size
 | .mk op n m k v args rels=>by
  rw [conjE]
  simp only [Expr.size]
  split
  ·have:=conjL_len args []
   simp at this
   omega
  ·simp
theorem conjL_len:∀ (l:List Expr) (acc:List Expr),(conjL acc l).length ≤ acc.length + Expr.sizes l
 | [],acc=>by simp [conjL,Expr.sizes]
 | a :: r,acc=>by
  rw [conjL_cons]
  have h1:=conjL_len r (acc ++ conjE a)
  have h2:=conjE_len a
  simp only [List.length_append,Expr.sizes] at h1 ⊢
  omega
end
attribute [local simp] conjL_nil conjL_cons
attribute [local irreducible] conjE conjL in
theorem s166 (e:Expr) (h:e.op=19) (N:Nat) (hN:N ≤ 1000000) (h16:e.args.length ≤ 16) (hlen:∀ (i:Nat) (h:i < e.args.length),(conjE e.args[i]).length ≤ N)
  (rec166:∀ (i:Nat) (h:i < e.args.length),Cal 166 [e.args[i].p] [.lst (Expr.ps (conjE e.args[i]))]):Cal 166 [e.p] [.lst (Expr.ps (conjL [] e.args))]:=⟨by
 generalize hR:conjL [] e.args=R
 have hlenH:Hid _:=⟨hlen⟩
 clear hlen
 have msk:Msk 16715472 16748496:=⟨⟩
 refine CallP.of_bodyN 24 cfg_ok Tryz.func166 rfl rfl (by kernel_rfl) fun base=>?_;simp only [mkA,Nat.reduceAdd]
 refine wpA_ok 0 rfl fun ok0=>?_
 have ld0:LD (σ:=Nat × List Expr) 0 8372264 [5] (fun y_=>(fun i acc=>[(14,.p (.int .i64 i)),(3,.own 21 acc.length)]) y_.1 y_.2) (fun y_=>(fun i acc=>[(21,.arr 9 (Expr.ps acc) false)]) y_.1 y_.2) (fun y_=>(fun i acc=>InvL (i ≤ (e.args).length) (acc.length ≤ i * N) (conjL acc (e.args.drop i)=R)) y_.1 y_.2) (fun y_=>(fun i acc=>(e.args).length - i) y_.1 y_.2) ((0,[])) [21] (fun y_=>(fun i acc=>i < (e.args).length) y_.1 y_.2) (fun y_ (h:(fun i acc=>i < (e.args).length) y_.1 y_.2)=>(fun i acc (h:i < (e.args).length)=>(i + 1,acc ++ conjE e.args[i])) y_.1 y_.2 h) (fun y_ (h:(fun i acc=>i < (e.args).length) y_.1 y_.2)=>(fun i acc (h:i < (e.args).length)=>(i + 1,acc ++ conjE e.args[i])) y_.1 y_.2 h):=⟨⟩
 have st0:Stop 7:=⟨⟩
 refine walkX ?_ trivial
 intro x0 hi0 hs0 hn0 ny0 nz0 hj0
 first | intro h' h | intro h | skip
 refine ⟨?_⟩
 clear st0
 have h1:=hlenH.out x0.1 (by assumption)
 have h2:x0.1 * N ≤ 16 * 1000000:=Nat.mul_le_mul (by omega) hN
 have hroom:roomFor (x0.2.length + (conjE e.args[x0.1]).length) 112=true:=roomFor_of (by omega) (by decide)
 have h3:x0.2.length + (conjE e.args[x0.1]).length ≤ (x0.1 + 1) * N:=by rw [Nat.add_mul,Nat.one_mul];omega
 have hd:=hn0
 rw [List.drop_eq_getElem_cons (by assumption),conjL_cons] at hd
 clear hlenH h1 h2
 exact walk⟩
theorem s166_one (e:Expr) (h:(e.op == 19)=false):Cal 166 [e.p] [.lst (Expr.ps [e])]:=⟨by
 have msk:Msk 16715472 16748496:=⟨⟩
 refine CallP.of_bodyN 24 cfg_ok Tryz.func166 rfl rfl (by kernel_rfl) fun base=>?_;simp only [mkA,Nat.reduceAdd]
 refine wpA_ok 0 rfl fun ok0=>?_
 exact walk⟩
def testE (c:Expr):Int × Int × Val × Bool:=
 if c.op == 1 then (c.n,12,boolW true,true)
 else if c.op == 21 && (c.args.headD zeroE).op == 1 then ((c.args.headD zeroE).n,12,boolW false,true)
 else if (!(opposite c.op == 0) && (c.args.headD zeroE).op == 1) && isLit (c.args.getD 1 zeroE) && !isNull (c.args.getD 1 zeroE) then ((c.args.headD zeroE).n,c.op,(c.args.getD 1 zeroE).lit,true)
 else (0,0,nullW,false)
theorem opposite_21:opposite 21=0:=rfl
theorem binV_bi (ty:Option Ty) (op:BinOp) (a:Bool) (k:IntKind) (n:Int):binV ty op (.p (.bool a)) (.p (.int k n))=none:=by cases op <;> rfl
attribute [local simp] opposite_21 binV_bi
theorem s115_col (c:Expr) (h:c.op=1):Cal 115 [c.p] [testP c.n 12 (boolW true),.bool true]:=⟨by
 unfold testP boolW
 have msk:Msk 9444732965737142939616 9444732965739290427376:=⟨⟩
 refine CallP.of_bodyN 73 cfg_ok Tryz.func115 rfl rfl (by kernel_rfl) fun base=>?_;simp only [mkA,Nat.reduceAdd]
 refine wpA_ok 0 rfl fun ok0=>?_
 exact walk⟩
theorem s115_not (c a:Expr) (h:c.op=21) (ha:c.args=[a]) (h1:a.op=1):Cal 115 [c.p] [testP a.n 12 (boolW false),.bool true]:=⟨by
 unfold testP boolW
 have msk:Msk 9444732965737142939616 9444732965739290427376:=⟨⟩
 refine CallP.of_bodyN 73 cfg_ok Tryz.func115 rfl rfl (by kernel_rfl) fun base=>?_;simp only [mkA,Nat.reduceAdd]
 refine wpA_ok 0 rfl fun ok0=>?_
 exact walk⟩
theorem s115_not2 (c a:Expr) (h:c.op=21) (ha:c.args=[a]) (h1:(a.op == 1)=false):Cal 115 [c.p] [testP 0 0 nullW,.bool false]:=⟨by
 unfold testP nullW
 have msk:Msk 9444732965737142939616 9444732965739290427376:=⟨⟩
 refine CallP.of_bodyN 73 cfg_ok Tryz.func115 rfl rfl (by kernel_rfl) fun base=>?_;simp only [mkA,Nat.reduceAdd]
 refine wpA_ok 0 rfl fun ok0=>?_
 exact (have hnd:AndN:=⟨⟩;walkX trivial trivial)⟩
theorem s115_cmp (c a b:Expr) (h1:(c.op == 1)=false) (h2:(c.op == 21)=false) (ho:(opposite c.op == 0)=false) (ha:c.args=[a,b]) (q1:a.op=1) (q2:isLit b=true) (q3:isNull b=false):Cal 115 [c.p] [testP a.n c.op b.lit,.bool true]:=⟨by
 unfold testP
 have ho':(opposite c.op != 0)=true:=by simp [bne,ho]
 have msk:Msk 9444732965737142939616 9444732965739290427376:=⟨⟩
 refine CallP.of_bodyN 73 cfg_ok Tryz.func115 rfl rfl (by kernel_rfl) fun base=>?_;simp only [mkA,Nat.reduceAdd]
 refine wpA_ok 0 rfl fun ok0=>?_
 exact walk⟩
theorem s115_cmp2 (c a b:Expr) (h1:(c.op == 1)=false) (h2:(c.op == 21)=false) (ho:(opposite c.op == 0)=false) (ha:c.args=[a,b]) (q:(((a.op == 1) && isLit b) && !isNull b)=false):Cal 115 [c.p] [testP 0 0 nullW,.bool false]:=⟨by
 unfold testP nullW
 have ho':(opposite c.op != 0)=true:=by simp [bne,ho]
 have msk:Msk 9444732965737142939616 9444732965739290427376:=⟨⟩
 refine CallP.of_bodyN 73 cfg_ok Tryz.func115 rfl rfl (by kernel_rfl) fun base=>?_;simp only [mkA,Nat.reduceAdd]
 refine wpA_ok 0 rfl fun ok0=>?_
 cases g1:(a.op == 1)
 ·exact walk
 ·rw [g1,Bool.true_and] at q
  cases g2:isLit b
  ·exact walk
  ·rw [g2,Bool.true_and] at q
   have g3:isNull b=true:=by simpa using q
   exact walk⟩
theorem s115_else (c:Expr) (h1:(c.op == 1)=false) (h2:(c.op == 21)=false) (ho:(opposite c.op == 0)=true):Cal 115 [c.p] [testP 0 0 nullW,.bool false]:=⟨by
 unfold testP nullW
 have ho':(opposite c.op != 0)=false:=by simp [bne,ho]
 have ho2:opposite c.op=0:=by simpa using ho
 rcases hargs:c.args with _ | ⟨a,_ | ⟨b,r⟩⟩
 ·skip
  have msk:Msk 9444732965737142939616 9444732965739290427376:=⟨⟩
  refine CallP.of_bodyN 73 cfg_ok Tryz.func115 rfl rfl (by kernel_rfl) fun base=>?_;simp only [mkA,Nat.reduceAdd]
  refine wpA_ok 0 rfl fun ok0=>?_
  exact (have hnd:AndN:=⟨⟩;walkX trivial trivial)
 ·skip
  have msk:Msk 9444732965737142939616 9444732965739290427376:=⟨⟩
  refine CallP.of_bodyN 73 cfg_ok Tryz.func115 rfl rfl (by kernel_rfl) fun base=>?_;simp only [mkA,Nat.reduceAdd]
  refine wpA_ok 0 rfl fun ok0=>?_
  exact (have hnd:AndN:=⟨⟩;walkX trivial trivial)
 ·skip
  have msk:Msk 9444732965737142939616 9444732965739290427376:=⟨⟩
  refine CallP.of_bodyN 73 cfg_ok Tryz.func115 rfl rfl (by kernel_rfl) fun base=>?_;simp only [mkA,Nat.reduceAdd]
  refine wpA_ok 0 rfl fun ok0=>?_
  exact (have hnd:AndN:=⟨⟩;walkX trivial trivial)⟩
end
section
attribute [local simp] wl0 wl1 wl2 wl3 wl4 wl5 wl6 wl7 wl8 wl9 wl10 wl11 wl12 wl13 wl14 wl15 wl16 wl17 wl18 wl19 wl20
attribute [local simp high] evalOp_fieldP
attribute [local simp] ty87 ty156
attribute [local simp] fldV_p fldV_agg aggP_agg aggP_col aggP_val aggP_expr
theorem cal166:∀ (n:Nat) (e:Expr),e.size ≤ n→wf e=true→e.size ≤ 1000000→Cal 166 [e.p] [.lst (Expr.ps (conjE e))]
 | 0,e,hn,_,_=>by
  obtain ⟨op,n,m,kind,lit,args,rels⟩:=e
  simp [Expr.size] at hn
 | n + 1,e,hn,hw,hs=>by
  rw [conjE_eq]
  by_cases h:e.op=19
  ·rw [if_pos (by simp [h])]
   refine s166 e h 1000000 (Nat.le_refl _) (wf_len hw) (fun i hi=>?_) (fun i hi=>?_)
   ·have h1:=conjE_len e.args[i]
    have h2:=Expr.size_get hi
    omega
   ·have h2:=Expr.size_get hi
    exact cal166 n _ (by omega) (wf_arg hw _ (List.getElem_mem hi)) (by omega)
  ·rw [if_neg (by simp [h])]
   exact s166_one e (by simpa using h)
theorem cal114 (cols:List Col) (e y:Expr) (h59:Cal 59 [L cols,e.p] [y.p]) (hw:wf y=true) (hs:y.size ≤ 1000000):Cal 114 [L cols,e.p] [.lst (Expr.ps (conjE y))]:=⟨by
 haveI:=h59
 haveI:=cal166 _ y (Nat.le_refl _) hw hs
 clear h59 hw hs
 unfold L at *
 have msk:Msk 484 484:=⟨⟩
 refine CallP.of_bodyN 9 cfg_ok Tryz.func114 rfl rfl (by kernel_rfl) fun base=>?_;simp only [mkA,Nat.reduceAdd]
 refine wpA_ok 0 rfl fun ok0=>?_
 refine wpA_ok 1 rfl fun ok1=>?_
 exact walk⟩
end
section
attribute [local simp] wl0 wl1 wl2 wl3 wl4 wl5 wl6 wl7 wl8 wl9 wl10 wl11 wl12 wl13 wl14 wl15 wl16 wl17 wl18 wl19 wl20
attribute [local simp high] evalOp_fieldP
attribute [local simp] ty87 ty156 ty154 ty159 ty162 ty152
attribute [local simp] fldV_p fldV_agg aggP_agg aggP_col aggP_val aggP_expr
attribute [local simp] runK_nil runK_cons goG_true goG_false goC_none goC_some goV_some goV_none goD_some goD_none
theorem evalOp_look (c:Cfg) (d:Nat) (t:TypeId) (m k:Operand) (ok:Bool) (S:St):evalOp c d (.lookup t m k ok) S=none:=rfl
attribute [local simp] evalOp_look binV_bi
theorem zero159:∀ w,(zeroValue 159).run Tryz.prog w = .ok (.pointer none) w:=fun w=>rfl
theorem hz152:∀ kt et s c z q,cfg.ty 152=some ⟨.map kt et,s,c,z,q⟩→∀ w,(zeroValue et).run Tryz.prog w = .ok (.pointer none) w:=by
 intro kt et s c z q h
 rw [cfg_ty,ty152] at h
 cases h
 exact zero159
theorem cal249 (x a:Expr) (hx:wf x=true) (ha:wf a=true):Cal 249 [x.p,.imm [.int .i64 a.op,.int .i64 a.n,.int .i64 a.m,.int .i64 a.kind,.int .i64 a.lit.kind,.int .i64 a.lit.int,.str a.lit.text,.lst (Expr.ps a.args),.lst (Rel.ps a.rels)] 0] [.bool (sameE x a)]:=⟨by
 haveI:=cal163 x a hx ha
 clear hx ha
 have msk:Msk 112 112:=⟨⟩
 refine CallP.of_bodyN 7 cfg_ok Tryz.func249 rfl rfl (by kernel_rfl) fun base=>?_;simp only [mkA,Nat.reduceAdd]
 refine wpA_ok 0 rfl fun ok0=>?_
 refine wpA_ok 1 rfl fun ok1=>?_
 exact walk⟩
def kC (cols:List Col) (conj:List Expr) (c:Int) (s:Span):List P:=[.obj 0 [.lst (Col.ps cols)] 0,.lst (Expr.ps conj),.imap [.int .i64 c] [spanP s]]
def impR (conj:List Expr) (s:Span) (e:Expr) (op:Int) (v:Val):Bool:=(isTrue e || conj.any (fun x=>sameE x e)) || liesS s op v
theorem cal177 (cols:List Col) (conj:List Expr) (c:Int) (s:Span) (e:Expr) (op:Int) (v:Val) (h115:Cal 115 [e.p] [testP c op v,.bool true]) (hw:wf e=true) (hws:∀ x ∈ conj,wf x=true) (a b:Expr) (ha:e.args=[a,b]) (haa:a.args=[]) (h21:(e.op == 21)=false) (h20:(e.op == 20)=false) :
  Cal 177 [.agg (kC cols conj c s),e.p] [.bool (impR conj s e op v)]:=⟨by
 have h250:=cal250 s c op v
 unfold testP at h115 h250
 haveI c175:Cal 175 [.lst (Expr.ps conj),.fn (.func 249) [] [.imm [.int .i64 e.op,.int .i64 e.n,.int .i64 e.m,.int .i64 e.kind,.int .i64 e.lit.kind,.int .i64 e.lit.int,.str e.lit.text,.lst (Expr.ps e.args),.lst (Rel.ps e.rels)] 0]] [.bool (conj.any (fun x=>sameE x e))]:=by
  haveI hc:∀ (j:Nat) (k:j < conj.length),Cal 249 ([] ++ (conj[j]).p :: [.imm [.int .i64 e.op,.int .i64 e.n,.int .i64 e.m,.int .i64 e.kind,.int .i64 e.lit.kind,.int .i64 e.lit.int,.str e.lit.text,.lst (Expr.ps e.args),.lst (Rel.ps e.rels)] 0]) [.bool (sameE conj[j] e)]:=fun j k=>
   cal249 _ _ (hws _ (List.getElem_mem k)) hw
  exact hof175 conj 249 [] _ (fun x=>sameE x e)
 unfold impR kC
 have haH:Hid (e.args=[a,b]):=⟨ha⟩
 clear hw hws ha
 generalize conj.any (fun x=>sameE x e)=same at *
 generalize Expr.ps conj=cj at *
 generalize liesS s op v=lies at *
 unfold spanP at *
 generalize spanC s=sc at *
 have msk:Msk 9671405403995253912862464 9671406556917033397649152:=⟨⟩
 refine CallP.of_bodyN 83 cfg_ok Tryz.func177 rfl rfl (by kernel_rfl) fun base=>?_;simp only [mkA,Nat.reduceAdd]
 refine wpA_ok 0 rfl fun ok0=>?_
 refine wpA_ok 1 rfl fun ok1=>?_
 have fz0:FZ 1 3:=⟨⟩
 have st0:Stop 4:=⟨⟩
 refine walkX ?_ trivial
 all_goals first | intro h' h | intro h | skip
 refine ⟨?_⟩
 clear st0
 refine wpA_seqK cfg_ok fun K hK=>?_
 simp -implicitDefEqProofs [*]
 refine goX_intro (x_lookV cfg_ok hz152 rfl (v:=.p (.imm sc 0)) (by simp -implicitDefEqProofs [evalL,lookV,idxP])) ?_
 rintro S' rfl
 refine runK_id ?_
 simp -implicitDefEqProofs [*]
 refine goX_intro (x_lookV cfg_ok hz152 rfl (v:=.p (.imm sc 0)) (by simp -implicitDefEqProofs [evalL,lookV,idxP])) ?_
 rintro S' rfl
 refine runK_id ?_
 simp -implicitDefEqProofs [*]
 refine goR_intro h250.out ?_
 refine runK_id ?_
 simp -implicitDefEqProofs [*]
 refine hK.out _ _ ?_;clear hK;clear K
 have ha:=haH.out
 clear haH c175
 cases lies
 ·skip
  have st0:Stop 9:=⟨⟩
  refine walkX ?_ trivial
  all_goals first | intro h' h | intro h | skip
  refine ⟨?_⟩
  clear st0
  refine wpA_seqK cfg_ok fun K hK=>?_
  simp -implicitDefEqProofs [*]
  refine hK.out _ _ ?_;clear hK;clear K
  exact walk
 ·exact walk⟩
end
section
attribute [local simp] wl0 wl1 wl2 wl3 wl4 wl5 wl6 wl7 wl8 wl9 wl10 wl11 wl12 wl13 wl14 wl15 wl16 wl17 wl18 wl19 wl20
attribute [local simp high] evalOp_fieldP
attribute [local simp] ty87 ty156 ty154 ty159 ty162 ty152
attribute [local simp] fldV_p fldV_agg aggP_agg aggP_col aggP_val aggP_expr
theorem cal176 (cols:List Col) (cj ks vs:List P) (x:Expr) (b:Bool) (h:Cal 177 [.agg [.obj 0 [.lst (Col.ps cols)] 0,.lst cj,.imap ks vs],x.p] [.bool b]):Cal 176 [x.p,.imm [.obj 0 [.lst (Col.ps cols)] 0,.lst cj,.imap ks vs] 0] [.bool (!b)]:=⟨by
 have msk:Msk 240 240:=⟨⟩
 refine CallP.of_bodyN 8 cfg_ok Tryz.func176 rfl rfl (by kernel_rfl) fun base=>?_;simp only [mkA,Nat.reduceAdd]
 refine wpA_ok 0 rfl fun ok0=>?_
 refine wpA_ok 1 rfl fun ok1=>?_
 exact walk⟩
theorem cal118 (cols:List Col) (cj ks vs:List P) (l:List Expr) (r:Expr→Bool) (h:∀ (i:Nat) (hi:i < l.length),Cal 177 [.agg [.obj 0 [.lst (Col.ps cols)] 0,.lst cj,.imap ks vs],l[i].p] [.bool (r l[i])]) :
  Cal 118 [.agg [.obj 0 [.lst (Col.ps cols)] 0,.lst cj,.imap ks vs],.lst (Expr.ps l)] [.bool (!(l.any fun x=>!r x))]:=⟨by
 haveI c175:Cal 175 [.lst (Expr.ps l),.fn (.func 176) [] [.imm [.obj 0 [.lst (Col.ps cols)] 0,.lst cj,.imap ks vs] 0]] [.bool (l.any fun x=>!r x)]:=by
  haveI hc:∀ (j:Nat) (k:j < l.length),Cal 176 ([] ++ (l[j]).p :: [.imm [.obj 0 [.lst (Col.ps cols)] 0,.lst cj,.imap ks vs] 0]) [.bool (!r l[j])]:=fun j k=>cal176 cols cj ks vs l[j] (r l[j]) (h j k)
  exact hof175 l 176 [] _ (fun x=>!r x)
 generalize (l.any fun x=>!r x)=q at *
 clear h
 have fz0:FZ 1 2:=⟨⟩
 have msk:Msk 488 488:=⟨⟩
 refine CallP.of_bodyN 9 cfg_ok Tryz.func118 rfl rfl (by kernel_rfl) fun base=>?_;simp only [mkA,Nat.reduceAdd]
 refine wpA_ok 0 rfl fun ok0=>?_
 refine wpA_ok 1 rfl fun ok1=>?_
 exact walk⟩
end
section
attribute [local simp] wl0 wl1 wl2 wl3 wl4 wl5 wl6 wl7 wl8 wl9 wl10 wl11 wl12 wl13 wl14 wl15 wl16 wl17 wl18 wl19 wl20
attribute [local simp high] evalOp_fieldP
attribute [local simp] ty87 ty156 ty154 ty159 ty162 ty152
attribute [local simp] fldV_p fldV_agg aggP_agg aggP_col aggP_val aggP_expr
attribute [local simp] runK_nil runK_cons goG_true goG_false goC_none goC_some goV_some goV_none goD_some goD_none
theorem evalOp_mapU (c:Cfg) (d:Nat) (S:St) (t:TypeId) (m k x:Operand):evalOp c d (.mapUpdate t m k x) S=none:=rfl
theorem evalOp_makeM (c:Cfg) (d:Nat) (S:St) (t:TypeId) (x:Option Operand):evalOp c d (.makeMap t x) S=none:=rfl
attribute [local irreducible] roundsA
theorem leT_same {vs:List Nat}:∀ (l:List P),leT vs (l.map .p) (l.map .p)=True
 | []=>rfl
 | a :: r=>by rw [List.map_cons,leT_cons,leV_refl,leT_same r,and_true]
theorem leBs_vmap {vs:List Nat} {b r:Blks} {n:Nat} {ks:List P} {xs:List V}:leBs vs b ((n,.vmap ks xs) :: r)=((match getB b n with | some k'=>leK vs k' (.vmap ks xs) | none=>False)∧leBs vs b r):=by
 simp only [leBs,virtB,Bool.false_eq_true,false_or]
 try rfl
attribute [local simp] leT_same leBs_vmap
attribute [local simp] evalOp_mapU evalOp_makeM evalOp_look
theorem wpA_range2 {cfg:Cfg} {base:Base} {Q:Program} {R:Ex→St→Prop} {S S1:St} {nm ti:Nat} {ks vs:List P} {G:Nat→Prop}
 {i13 i14 i15 lb bb:Nat} {ops13 ops14 ops15:Array Oper} {o13 o14 o15:Oper} {r13 r14 r15:List Oper} {m c:Operand} {body:Code} {N:Bool→St} {M:P→St} {t kt et:TypeId} {ts tb:Nat} {tz:List V} {te:List TK}
  (hc:CfgOk cfg Q) (h13:ops13.toList.reverse=o13 :: r13) (x13:runK cfg Q ops13 false r13.reverse S [] (fun S' _=>S'=S1)) (g13:o13.guard=none) (p13:o13.op = .range t m) (d13:o13.dst=some ti) (hty:cfg.ty t=some ⟨.map kt et,ts,tb,tz,te⟩) (hmap:opnd S1.t m = .p (.imap ks vs))
  (hti:ti < S1.t.length) (hnm:1000 ≤ nm) (hnu:nm ∉ S1.u) (hnb:getB S1.b nm=none)
  (h14:ops14.toList=o14 :: r14) (g14:o14.guard=none) (p14:o14.op = .next (.tmp ti) false)
  (h15:ops15.toList=o15 :: r15) (g15:o15.guard=none) (p15:o15.op = .entry (.tmp ti))
  (x14:∀ q:Bool,runK cfg Q ops14 false r14 ((rngH S1 ti nm).put o14.dst (nextV q) S1.b (nm :: S1.u)) [] (fun S _=>S=N q)) (hcond:∀ q,opnd (N q).t c = .p (.bool q)) (hN:∀ q,(N q).b=S1.b∧(N q).u=nm :: S1.u∧(N q).t[ti]? = some (.ref nm 0))
  (x15:∀ v,runK cfg Q ops15 false r15 ((N true).put o15.dst (.tup [.any,.p v]) S1.b (nm :: S1.u)) [] (fun S _=>S=M v))
  (hb:∀ base j v,vs[j]? = some v→wpA cfg base Q body (blockR bb (thenR (fun S'=>G j∧St.le [] S' (rngH S1 ti nm)) (blockR lb R))) (M v))
  (hend:(∀ j,j < vs.length→G j)→R .normal (N false)) :
  wpA cfg base Q (.seq (.region i13 ops13 false) (.block lb (.loop (.seq (.region i14 ops14 false) (.seq (.cond c .skip (.exit lb)) (.block bb (.seq (.region i15 ops15 false) body))))))) R S:=
 wpA_range hc (by have:=congrArg List.reverse h13;simpa using this) x13 g13 p13 d13 hty hmap hti hnm hnu hnb h14 g14 p14 h15 g15 p15 x14 hcond hN x15 hb hend
def s0S:Span:=⟨none,none,[],false⟩
theorem cal70_two (cols:List Col) (a b c0 c1:Expr) (c op0 op1:Int) (v0 v1:Val) (cb:List Expr) (r:Bool) (s1 s2:Span)
  (h114a:Cal 114 [.obj 0 [.lst (Col.ps cols)] 0,a.p] [.lst (Expr.ps [c0,c1])]) (h114b:Cal 114 [.obj 0 [.lst (Col.ps cols)] 0,b.p] [.lst (Expr.ps cb)]) (f0:isFalse c0=false) (f1:isFalse c1=false)
  (t0:Cal 115 [c0.p] [testP c op0 v0,.bool true]) (t1:Cal 115 [c1.p] [testP c op1 v1,.bool true])
  (m0:CallM cfg Tryz.prog 116 [(1000,.cells ((spanC s0S).map .p))] [.ref 1000 0,.p (testP c op0 v0)] ([].map .p) [(1000,.cells ((spanC s1).map .p))])
  (m1:CallM cfg Tryz.prog 116 [(1000,.cells ((spanC s1).map .p))] [.ref 1000 0,.p (testP c op1 v1)] ([].map .p) [(1000,.cells ((spanC s2).map .p))])
  (h117:Cal 117 [spanP s2] [.bool false])
  (h118:Cal 118 [.agg (kC cols [c0,c1] c s2),.lst (Expr.ps cb)] [.bool r]):Cal 70 [.obj 0 [.lst (Col.ps cols)] 0,a.p,b.p] [.bool r]:=⟨by
 unfold testP at *
 unfold kC at h118
 have m0H:Hid _:=⟨m0⟩
 have m1H:Hid _:=⟨m1⟩
 clear m0 m1
 have msk:Msk 580351861264480194824 590151695170615103752:=⟨⟩
 refine CallP.of_bodyN 69 cfg_ok Tryz.func70 rfl rfl (by kernel_rfl) fun base=>?_;simp only [mkA,Nat.reduceAdd]
 refine wpA_ok 0 rfl fun ok0=>?_
 refine wpA_ok 1 rfl fun ok1=>?_
 refine wpA_ok 2 rfl fun ok2=>?_
 have st0:Stop 1:=⟨⟩
 refine walkX ?_ trivial
 all_goals first | intro h' h | intro h | skip
 refine ⟨?_⟩
 clear st0
 refine wpA_seqK cfg_ok fun K hK=>?_
 simp -implicitDefEqProofs [*]
 refine goR_intro h114a.out ?_
 refine runK_id ?_
 simp -implicitDefEqProofs [*]
 refine goX_intro (x_makeMap rfl (d:=18) (by simp -implicitDefEqProofs [evalM];rfl)) ?_
 rintro S' rfl
 refine runK_id ?_
 simp -implicitDefEqProofs [*]
 refine hK.out _ _ ?_;clear hK;clear K
 have st0:Stop 3:=⟨⟩
 refine walkX ?_ trivial
 all_goals first | intro h' h | intro h | skip
 refine wpA_rounds 3 ?_
 refine roundsA_succ ?_
 have st0:Stop 9:=⟨⟩
 refine walkX ?_ trivial
 all_goals first | intro h' h | intro h | skip
 refine ⟨?_⟩
 clear st0
 refine wpA_seqK cfg_ok fun K hK=>?_
 simp -implicitDefEqProofs [*]
 refine goX_intro (x_lookV cfg_ok hz152 rfl (v:=.p .nilp) (by simp -implicitDefEqProofs [evalL,lookV,idxP])) ?_
 rintro S' rfl
 refine runK_id ?_
 simp -implicitDefEqProofs [*]
 refine hK.out _ _ ?_;clear hK;clear K
 have st0:Stop 10:=⟨⟩
 refine walkX ?_ trivial
 all_goals first | intro h' h | intro h | skip
 refine ⟨?_⟩
 clear st0
 refine wpA_regK cfg_ok fun K hK=>?_
 simp -implicitDefEqProofs [*]
 refine goX_intro (x_mapNew cfg_ok rfl (nm:=18) (ks:=[.int .i64 c]) (vs:=[.ref 46 0]) (by simp -implicitDefEqProofs [evalU,lookV,idxP])) ?_
 rintro S' rfl
 refine runK_id ?_
 simp -implicitDefEqProofs [*]
 refine hK.out _ _ ?_;clear hK;clear K
 have st0:Stop 11:=⟨⟩
 refine walkX ?_ trivial
 all_goals first | intro h' h | intro h | skip
 refine ⟨?_⟩
 clear st0
 refine wpA_dataCells (nm:=46) (cs:=[.p .nilp,.p .nilp,.nils,.p (.bool false)]) (ps:=[.nilp,.nilp,.lst [],.bool false]) (by simp [getB]) (by simp [toPs,toP];rfl) (by simp [getB]) ?_
 simp only [setB,List.map_cons,List.map_nil]
 refine wpA_regK cfg_ok fun K hK=>?_
 simp -implicitDefEqProofs [*]
 refine goX_intro (x_lookV cfg_ok hz152 rfl (v:=.ref 46 0) (by simp -implicitDefEqProofs [evalL,lookV,idxP])) ?_
 rintro S' rfl
 refine runK_id ?_
 simp -implicitDefEqProofs [*]
 refine goX_intro (x_lend (nm:=46) (cs:=spanC s0S) (cs':=spanC s1) (rs:=[]) m0H.out rfl (by simp -implicitDefEqProofs [callArgs,renVs,renV]) (by simp [V.namesL,V.names]) (by simp -implicitDefEqProofs [spanC,s0S,bndP_none,vps_nil])) ?_
 rintro S' rfl
 refine runK_id ?_
 simp -implicitDefEqProofs [*,spanC]
 refine hK.out _ _ ?_;clear hK;clear K
 refine walkX ?_ trivial
 all_goals first | intro h' h | intro h | skip
 refine roundsA_next ⟨mkT 69 [(23,.p (.int .i64 1)),(22,.p (.int .i64 2)),(21,.p (.lst (Expr.ps [c0,c1]))),(7,.ref 7 0),(6,.p (.bool false)),(5,.ref 5 0),(4,.ref 4 0),(0,.p (.obj 0 [.lst (Col.ps cols)] 0)),(1,.p a.p),(2,.p b.p)],[(46,.cells [.p (bndP s1.low),.p (bndP s1.high),.p (.lst (Val.ps s1.out)),.p (.bool s1.empty)]),(4,.cells [.p (.int .i64 a.op),.p (.int .i64 a.n),.p (.int .i64 a.m),.p (.int .i64 a.kind),.p (.int .i64 a.lit.kind),.p (.int .i64 a.lit.int),.p (.str a.lit.text),.p (.lst (Expr.ps a.args)),.p (.lst (Rel.ps a.rels))]),(5,.cells [.p (.int .i64 b.op),.p (.int .i64 b.n),.p (.int .i64 b.m),.p (.int .i64 b.kind),.p (.int .i64 b.lit.kind),.p (.int .i64 b.lit.int),.p (.str b.lit.text),.p (.lst (Expr.ps b.args)),.p (.lst (Rel.ps b.rels))]),(18,.vmap [.int .i64 c] [.ref 46 0]),(7,.cells [.p (.obj 0 [.lst (Col.ps cols)] 0),.p (.lst (Expr.ps [c0,c1])),.mp 18])],[46,7,18,5,4]⟩ leS ?_
 have st0:Stop 9:=⟨⟩
 refine walkX ?_ trivial
 all_goals first | intro h' h | intro h | skip
 refine ⟨?_⟩
 clear st0
 refine wpA_seqK cfg_ok fun K hK=>?_
 simp -implicitDefEqProofs [*]
 refine goX_intro (x_lookV cfg_ok hz152 rfl (v:=.ref 46 0) (by simp -implicitDefEqProofs [evalL,lookV,idxP])) ?_
 rintro S' rfl
 refine runK_id ?_
 simp -implicitDefEqProofs [*]
 refine hK.out _ _ ?_;clear hK;clear K
 have st0:Stop 11:=⟨⟩
 refine walkX ?_ trivial
 all_goals first | intro h' h | intro h | skip
 refine ⟨?_⟩
 clear st0
 refine wpA_regK cfg_ok fun K hK=>?_
 simp -implicitDefEqProofs [*]
 refine goX_intro (x_lookV cfg_ok hz152 rfl (v:=.ref 46 0) (by simp -implicitDefEqProofs [evalL,lookV,idxP])) ?_
 rintro S' rfl
 refine runK_id ?_
 simp -implicitDefEqProofs [*]
 refine goX_intro (x_lend (nm:=46) (cs:=spanC s1) (cs':=spanC s2) (rs:=[]) m1H.out rfl (by simp -implicitDefEqProofs [callArgs,renVs,renV]) (by simp [V.namesL,V.names]) (by simp -implicitDefEqProofs [spanC])) ?_
 rintro S' rfl
 refine runK_id ?_
 simp -implicitDefEqProofs [*,spanC]
 refine hK.out _ _ ?_;clear hK;clear K
 refine walkX ?_ trivial
 all_goals first | intro h' h | intro h | skip
 refine roundsA_next ⟨mkT 69 [(23,.p (.int .i64 2)),(22,.p (.int .i64 2)),(21,.p (.lst (Expr.ps [c0,c1]))),(7,.ref 7 0),(6,.p (.bool false)),(5,.ref 5 0),(4,.ref 4 0),(0,.p (.obj 0 [.lst (Col.ps cols)] 0)),(1,.p a.p),(2,.p b.p)],[(46,.cells [.p (bndP s2.low),.p (bndP s2.high),.p (.lst (Val.ps s2.out)),.p (.bool s2.empty)]),(4,.cells [.p (.int .i64 a.op),.p (.int .i64 a.n),.p (.int .i64 a.m),.p (.int .i64 a.kind),.p (.int .i64 a.lit.kind),.p (.int .i64 a.lit.int),.p (.str a.lit.text),.p (.lst (Expr.ps a.args)),.p (.lst (Rel.ps a.rels))]),(5,.cells [.p (.int .i64 b.op),.p (.int .i64 b.n),.p (.int .i64 b.m),.p (.int .i64 b.kind),.p (.int .i64 b.lit.kind),.p (.int .i64 b.lit.int),.p (.str b.lit.text),.p (.lst (Expr.ps b.args)),.p (.lst (Rel.ps b.rels))]),(18,.vmap [.int .i64 c] [.ref 46 0]),(7,.cells [.p (.obj 0 [.lst (Col.ps cols)] 0),.p (.lst (Expr.ps [c0,c1])),.mp 18])],[46,7,18,5,4]⟩ leS ?_
 have st0:Stop 13:=⟨⟩
 refine walkX ?_ trivial
 all_goals first | intro h' h | intro h | skip
 refine ⟨?_⟩
 clear st0
 refine wpA_dataMap (nm:=18) (ks:=[.int .i64 c]) (vs:=[.ref 46 0]) (by simp [getB]) (by simp -implicitDefEqProofs [toPs,toP];exact ⟨rfl,rfl⟩) (by simp [getB,setB]) ?_
 refine wpA_dataCells (nm:=7) (cs:=[.p (.obj 0 [.lst (Col.ps cols)] 0),.p (.lst (Expr.ps [c0,c1])),.mp 18]) (by simp [getB,setB]) (by simp -implicitDefEqProofs [toPs,toP,getB,setB];exact ⟨rfl,rfl⟩) (by simp [getB,setB]) ?_
 simp -implicitDefEqProofs
 refine wpA_le [] ⟨mkT 69 [(7,.ref 7 0),(6,.p (.bool false)),(5,.ref 5 0),(4,.ref 4 0),(0,.p (.obj 0 [.lst (Col.ps cols)] 0)),(1,.p a.p),(2,.p b.p)],[(4,.cells [.p (.int .i64 a.op),.p (.int .i64 a.n),.p (.int .i64 a.m),.p (.int .i64 a.kind),.p (.int .i64 a.lit.kind),.p (.int .i64 a.lit.int),.p (.str a.lit.text),.p (.lst (Expr.ps a.args)),.p (.lst (Rel.ps a.rels))]),(5,.cells [.p (.int .i64 b.op),.p (.int .i64 b.n),.p (.int .i64 b.m),.p (.int .i64 b.kind),.p (.int .i64 b.lit.kind),.p (.int .i64 b.lit.int),.p (.str b.lit.text),.p (.lst (Expr.ps b.args)),.p (.lst (Rel.ps b.rels))]),(7,.cells [.p (.obj 0 [.lst (Col.ps cols)] 0),.p (.lst (Expr.ps [c0,c1])),.p (.imap [.int .i64 c] [.imm [bndP s2.low,bndP s2.high,.lst (Val.ps s2.out),.bool s2.empty] 0])])],[7,5,4]⟩ leS ?_
 refine wpA_range2 (S1:=⟨mkT 69 [(56,.p (.imap [.int .i64 c] [.imm [bndP s2.low,bndP s2.high,.lst (Val.ps s2.out),.bool s2.empty] 0])),(55,.ref 7 2),(7,.ref 7 0),(6,.p (.bool false)),(5,.ref 5 0),(4,.ref 4 0),(0,.p (.obj 0 [.lst (Col.ps cols)] 0)),(1,.p a.p),(2,.p b.p)],[(4,.cells [.p (.int .i64 a.op),.p (.int .i64 a.n),.p (.int .i64 a.m),.p (.int .i64 a.kind),.p (.int .i64 a.lit.kind),.p (.int .i64 a.lit.int),.p (.str a.lit.text),.p (.lst (Expr.ps a.args)),.p (.lst (Rel.ps a.rels))]),(5,.cells [.p (.int .i64 b.op),.p (.int .i64 b.n),.p (.int .i64 b.m),.p (.int .i64 b.kind),.p (.int .i64 b.lit.kind),.p (.int .i64 b.lit.int),.p (.str b.lit.text),.p (.lst (Expr.ps b.args)),.p (.lst (Rel.ps b.rels))]),(7,.cells [.p (.obj 0 [.lst (Col.ps cols)] 0),.p (.lst (Expr.ps [c0,c1])),.p (.imap [.int .i64 c] [.imm [bndP s2.low,bndP s2.high,.lst (Val.ps s2.out),.bool s2.empty] 0])])],[7,5,4]⟩) (nm:=2000) (ti:=57) (ks:=[.int .i64 c]) (vs:=[.imm [bndP s2.low,bndP s2.high,.lst (Val.ps s2.out),.bool s2.empty] 0]) (G:=fun _=>True)
  (N:=fun q=>⟨mkT 69 [(59,.p (.bool q)),(58,nextV q),(57,.ref 2000 0),(56,.p (.imap [.int .i64 c] [.imm [bndP s2.low,bndP s2.high,.lst (Val.ps s2.out),.bool s2.empty] 0])),(55,.ref 7 2),(7,.ref 7 0),(6,.p (.bool false)),(5,.ref 5 0),(4,.ref 4 0),(0,.p (.obj 0 [.lst (Col.ps cols)] 0)),(1,.p a.p),(2,.p b.p)],[(4,.cells [.p (.int .i64 a.op),.p (.int .i64 a.n),.p (.int .i64 a.m),.p (.int .i64 a.kind),.p (.int .i64 a.lit.kind),.p (.int .i64 a.lit.int),.p (.str a.lit.text),.p (.lst (Expr.ps a.args)),.p (.lst (Rel.ps a.rels))]),(5,.cells [.p (.int .i64 b.op),.p (.int .i64 b.n),.p (.int .i64 b.m),.p (.int .i64 b.kind),.p (.int .i64 b.lit.kind),.p (.int .i64 b.lit.int),.p (.str b.lit.text),.p (.lst (Expr.ps b.args)),.p (.lst (Rel.ps b.rels))]),(7,.cells [.p (.obj 0 [.lst (Col.ps cols)] 0),.p (.lst (Expr.ps [c0,c1])),.p (.imap [.int .i64 c] [.imm [bndP s2.low,bndP s2.high,.lst (Val.ps s2.out),.bool s2.empty] 0])])],[2000,7,5,4]⟩) (M:=fun v=>⟨mkT 69 [(13,.p v),(61,.p v),(60,.tup [.any,.p v]),(59,.p (.bool true)),(58,nextV true),(57,.ref 2000 0),(56,.p (.imap [.int .i64 c] [.imm [bndP s2.low,bndP s2.high,.lst (Val.ps s2.out),.bool s2.empty] 0])),(55,.ref 7 2),(7,.ref 7 0),(6,.p (.bool false)),(5,.ref 5 0),(4,.ref 4 0),(0,.p (.obj 0 [.lst (Col.ps cols)] 0)),(1,.p a.p),(2,.p b.p)],[(4,.cells [.p (.int .i64 a.op),.p (.int .i64 a.n),.p (.int .i64 a.m),.p (.int .i64 a.kind),.p (.int .i64 a.lit.kind),.p (.int .i64 a.lit.int),.p (.str a.lit.text),.p (.lst (Expr.ps a.args)),.p (.lst (Rel.ps a.rels))]),(5,.cells [.p (.int .i64 b.op),.p (.int .i64 b.n),.p (.int .i64 b.m),.p (.int .i64 b.kind),.p (.int .i64 b.lit.kind),.p (.int .i64 b.lit.int),.p (.str b.lit.text),.p (.lst (Expr.ps b.args)),.p (.lst (Rel.ps b.rels))]),(7,.cells [.p (.obj 0 [.lst (Col.ps cols)] 0),.p (.lst (Expr.ps [c0,c1])),.p (.imap [.int .i64 c] [.imm [bndP s2.low,bndP s2.high,.lst (Val.ps s2.out),.bool s2.empty] 0])])],[2000,7,5,4]⟩)
  cfg_ok rfl ?_ rfl rfl rfl (by rw [cfg_ty,ty152]) rfl (by simp -implicitDefEqProofs) (by decide) (by simp) (by simp [getB]) rfl rfl rfl rfl rfl rfl ?_ ?_ ?_ ?_ ?_ ?_
 ·simp -implicitDefEqProofs
 ·intro q
  cases q <;> simp -implicitDefEqProofs [rngH,nextV]
 ·intro q
  rfl
 ·intro q
  exact ⟨rfl,rfl,rfl⟩
 ·intro v
  simp -implicitDefEqProofs
 ·intro base j v hj
  have hv:v = .imm [bndP s2.low,bndP s2.high,.lst (Val.ps s2.out),.bool s2.empty] 0:=by
   match j with
   | 0=>simpa using hj.symm
   | j + 1=>simp at hj
  subst hv
  unfold spanP spanC at h117
  clear msk
  have msk:Msk 0 0:=⟨⟩
  refine walkX ?_ trivial
  all_goals first | intro h' h | intro h | skip
  refine ⟨trivial,?_⟩
  simp only [rngH,mkT_set]
  exact leS
 ·intro _
  unfold spanP spanC at h118
  refine thenR_normal ?_
  exact walk⟩
end
section
attribute [local simp] wl0 wl1 wl2 wl3 wl4 wl5 wl6 wl7 wl8 wl9 wl10 wl11 wl12 wl13 wl14 wl15 wl16 wl17 wl18 wl19 wl20
attribute [local simp high] evalOp_fieldP
attribute [local simp] ty87 ty102 ty134 ty140
attribute [local simp] fldV_p fldV_agg aggP_agg aggP_col aggP_val aggP_expr
attribute [local simp] cfg_obj0
theorem cal27_ok (cols:List Col) (a b ya yb:Expr) (r:Bool) (hba:bareE a) (hbb:bareE b) (sa:a.size ≤ 500000) (sb:b.size ≤ 500000) (hbeg:begR cols true [] [a,b]=(L cols,0)) (hka:Has cols a 2) (hkb:Has cols b 2)
  (hya:CondS cols a ya) (hyb:CondS cols b yb) (fa:(fitE 400 1 ya).1=true) (fb:(fitE 400 1 yb).1=true) (h70:Cal 70 [L cols,a.p,b.p] [.bool r]):Cal 27 [a.p,b.p,.lst (Col.ps cols)] [.bool r,.int .i64 0]:=⟨by
 haveI c49:=cal49 cols true [a,b] (by simp) (fun i h=>by match i with | 0=>exact hba | 1=>exact hbb | i + 2=>exact absurd h (by simp)) (fun i h=>by match i with | 0=>exact sa | 1=>exact sb | i + 2=>exact absurd h (by simp))
 rw [hbeg] at c49
 haveI c59a:=cal59 hya hka
 haveI c59b:=cal59 hyb hkb
 have wa:=(cond_has hya hka).wf
 have wb:=(cond_has hyb hkb).wf
 haveI c65a:=cal65 ya (wf_ok wa) (wf_bare wa)
 haveI c65b:=cal65 yb (wf_ok wb) (wf_bare wb)
 rw [fa] at c65a
 rw [fb] at c65b
 clear hba hbb sa sb hbeg hka hkb hya hyb fa fb wa wb
 unfold L at *
 have msk:Msk 133143460896 137438952480:=⟨⟩
 refine CallP.of_bodyN 37 cfg_ok Tryz.func27 rfl rfl (by kernel_rfl) fun base=>?_;simp only [mkA,Nat.reduceAdd]
 refine wpA_ok 0 rfl fun ok0=>?_
 refine wpA_ok 1 rfl fun ok1=>?_
 refine wpA_ok 2 rfl fun ok2=>?_
 exact walk⟩
def allM (f:Expr→Option Expr):List Expr→Option (List Expr)
 | []=>some []
 | a :: r=>match f a,allM f r with | some x,some xs=>some (x :: xs) | _,_=>none
theorem allM_get {f:Expr→Option Expr}:∀ {l xs:List Expr},allM f l=some xs→l.length=xs.length∧∀ (i:Nat) (h1:i < l.length) (h2:i < xs.length),f l[i]=some xs[i]
 | [],xs,h=>by
  simp [allM] at h
  subst h
  exact ⟨rfl,fun i h=>by simp at h⟩
 | a :: r,xs,h=>by
  simp only [allM] at h
  split at h
  ·rename_i x ys hx hys
   cases h
   obtain ⟨h1,h2⟩:=allM_get hys
   refine ⟨by simp [h1],fun i g1 g2=>?_⟩
   cases i with
   | zero=>exact hx
   | succ i=>exact h2 i (by simpa using g1) (by simpa using g2)
  ·cases h
def simpF (cols:List Col):Nat→Expr→Option Expr
 | 0,_=>none
 | n + 1,e=>match allM (simpF cols n) e.args with
  | some xs=>if (stepE (setA e xs) cols).2 then simpF cols n (stepE (setA e xs) cols).1 else some (setA e xs)
  | none=>none
theorem simpF_ok {cols:List Col}:∀ {n:Nat} {e y:Expr},simpF cols n e=some y→Simp cols e y
 | 0,e,y,h=>by cases h
 | n + 1,e,y,h=>by
  simp only [simpF] at h
  split at h
  ·rename_i xs hxs
   obtain ⟨h1,h2⟩:=allM_get hxs
   split at h
   ·rename_i hs
    exact .go e xs y h1 (fun i g1 g2=>simpF_ok (h2 i g1 g2)) hs (simpF_ok h)
   ·rename_i hs
    cases h
    exact .stay e xs h1 (fun i g1 g2=>simpF_ok (h2 i g1 g2)) (by simpa using hs)
  ·cases h
def condF (cols:List Col):Nat→Expr→Option Expr
 | 0,_=>none
 | n + 1,e=>match simpF cols n e with
  | some s=>if s.op == 3 || s.op == 23 || s.op == 25 then none else if s.op == 19 || s.op == 20 then
    match allM (condF cols n) s.args with
    | some xs=>if eqL sameE xs s.args then some s else none
    | none=>none
   else some s
  | none=>none
theorem condF_ok {cols:List Col}:∀ {n:Nat} {e y:Expr},condF cols n e=some y→CondS cols e y
 | 0,e,y,h=>by cases h
 | n + 1,e,y,h=>by
  cases hs:simpF cols n e with
  | none=>simp [condF,hs] at h
  | some s=>
   simp only [condF,hs] at h
   cases h3:s.op == 3 <;> cases h23:s.op == 23 <;> cases h25:s.op == 25 <;> simp [h3,h23,h25] at h
   cases hx:allM (condF cols n) s.args with
   | none=>
    simp [hx] at h
    obtain ⟨ho,rfl⟩:=h
    exact .other e _ (simpF_ok hs) h3 h23 (by simpa using ho.1) (by simpa using ho.2) h25
   | some xs=>
    simp only [hx] at h
    obtain ⟨h1,h2⟩:=allM_get hx
    by_cases ho:s.op=19 ∨ s.op=20
    ·rw [if_pos ho] at h
     cases hq:eqL sameE xs s.args with
     | false=>simp [hq] at h
     | true=>
      simp [hq] at h
      subst h
      exact .same e s xs (simpF_ok hs) ho h1 (fun i g1 g2=>condF_ok (h2 i g1 g2)) hq
    ·rw [if_neg ho] at h
     cases h
     simp only [not_or] at ho
     exact .other e _ (simpF_ok hs) h3 h23 (by simpa using ho.1) (by simpa using ho.2) h25
def n3 (n:Int):Expr:=litE 1 (intW n)
def nrE:Expr:=opE 21 [opE 20 [opE 14 [colE 0,litE (intW 3).kind (intW 3)],opE 22 [colE 1]]]
def nrY:Expr:=opE 19 [opE 17 [colE 0,litE (intW 3).kind (intW 3)],opE 21 [opE 22 [colE 1]]]
def knE:Expr:=opE 19 [opE 16 [colE 0,litE (intW 3).kind (intW 3)],opE 14 [colE 0,litE (intW 5).kind (intW 5)]]
def eqE4 (n:Int):Expr:=opE 12 [colE 0,litE (intW n).kind (intW n)]
def rjE:Expr:=opE 16 [colE 1,litE (intW 3).kind (intW 3)]
def rjY:Expr:=litE 2 nullW
theorem nr_simp:simpF twoC 9 nrE=some nrY:=by kernel_rfl
theorem kn_cond:condF twoC 9 knE=some knE:=by kernel_rfl
theorem eq4_cond:condF twoC 9 (eqE4 4)=some (eqE4 4):=by kernel_rfl
theorem eq5_cond:condF twoC 9 (eqE4 5)=some (eqE4 5):=by kernel_rfl
theorem rj_simp:simpF twoC 9 (nulledE twoC [1] rjE)=some rjY:=by kernel_rfl
end
end Go.Proofs.YtgiedlcjlalpcaaGreat
