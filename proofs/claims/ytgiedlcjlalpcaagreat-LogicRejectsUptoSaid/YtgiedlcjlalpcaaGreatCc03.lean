/- Own part of a proof: I11 C10 U11. -/
import Derived.Test.YtgiedlcjlalpcaaGreatCc02
import Derived.Test.YtgiedlcjlalpcaaGreatPb08
import Derived.Test.YtgiedlcjlalpcaaGreatPb13
import Derived.Test.YtgiedlcjlalpcaaGreatPb17
import Derived.Test.YtgiedlcjlalpcaaGreatPb19
import Derived.Test.YtgiedlcjlalpcaaGreatPb21
import Derived.Test.YtgiedlcjlalpcaaGreatPc04
set_option linter.all false
namespace Go.Proofs.YtgiedlcjlalpcaaGreat
open Go.Abs
set_option maxRecDepth 100000
set_option maxHeartbeats 4000000
attribute [local irreducible] wpA Again LeJ
attribute [local simp high] mkT_getD
attribute [local simp] runM_nil runM_cons mG_some mC_none mC_un mC_gd mV_some mV_none mD_some mP_some mP_none pickV_bool pickV_int specE_pick specE_move specE_assign specE_alloc specE_box specE_build specE_buildSlice specE_load specE_store specE_nilCheck specE_binOp specE_unOp specE_convert specE_makeFunc specE_slice specE_fieldAddr specE_field specE_indexAddr specE_index specE_extract specE_call cond_false_r cond_true_m callPure touches_move touches_assign touches_box touches_load touches_nilCheck touches_unOp touches_convert touches_fieldAddr touches_field touches_extract touches_pick touches_store touches_binOp touches_indexAddr touches_index touches_alloc touches_build touches_buildSlice touches_makeFunc touches_slice touches_call touches_builtin V.names V.namesL callOf_fn callOf_builtin callOf callResW cfg_imp wantedA evalOp_move evalOp_assign evalOp_pick evalOp_alloc evalOp_box evalOp_build evalOp_buildSlice evalOp_load evalOp_store evalOp_nilCheck evalOp_binOp evalOp_unOp evalOp_convert evalOp_makeFunc evalOp_slice evalOp_fieldAddr evalOp_field evalOp_indexAddr evalOp_index evalOp_extract evalOp_builtin opnd_tmp opnd_const opnd_func headM dropA mkT_set mkT_idx mkT_get mkT_len lookA more_true more_false constV boolV St.put getB setB V.cells cells_agg cells_int cells_bool cells_str cells_lst cells_fn cells_nilp cells_nilf cells_nilm cells_imm cells_obj cells_imap mkAgg mkFn allP partV partP placesOf fillV spliceV Ty.agg oneV oneP natOf binV_int binV_str binV_bool_eql binV_ptr_nil_eql binV_ptr_imm_eql binV_ptr_obj_eql binV_ptr_ref_eql binV_func_nil_eql binV_func_fn_eql binV_func_fv_eql binV_bool_neq binV_ptr_nil_neq binV_ptr_imm_neq binV_ptr_obj_neq binV_ptr_ref_neq binV_func_nil_neq binV_func_fn_neq binV_func_fv_neq intBin strBin cfg_ty callRes toP toPs resV addedP appendV partsToP resultPs resultVs St.head roomFor_of wrap_succ wrap_nat sizesOk_nil sizesOk_cons elemOk_int elemOk_bool elemOk_str elemOk_lst elemOk_fn List.getElem?_eq_getElem bne w64 val_cells val_fold val_eta col_cells col_fold col_eta rel_cells expr_cells expr_fold expr_fold0 expr_fold1 expr_fold2 expr_eta expr_op expr_n expr_m expr_kind expr_lit expr_args expr_rels eps_nil eps_len eps_get eps_app eps_take eps_drop eps_ok vps_nil vps_len vps_get vps_app vps_take vps_drop vps_ok cps_nil cps_len cps_get cps_app cps_take cps_drop cps_ok rps_nil rps_len rps_get eps_idx vps_idx cps_idx rps_idx ips_nil ips_len ips_get ips_idx ips_ok elemOk_e elemOk_v elemOk_c ips_app ips_take ips_drop el1 ea1 es1 el2 ea2 es2 el3 ea3 es3 elc eac vl1 va1 vs1 vl2 va2 vs2 vl3 va3 vs3 vlc vac cl1 ca1 cs1 cl2 ca2 cs2 cl3 ca3 cs3 clc cac il1 ia1 is1 il2 ia2 is2 il3 ia3 is3 ilc iac binV_val_eql binV_val_neq binV_col_eql ty2 ty3 ty4 ty5 ty9 ty22 ty23 ty25 ty26 ty27 ty29 ty30 ty34 ty43 ty52 ty57 ty61 ty75 ty86 ty87 ty102 ty131 ty132 ty134 ty135 ty137 ty138 ty141 ty149 ty152 ty156 ty159 ty160 ty172 ty176 ty184 ty185 ty186 ty187 ty189 ty204 ty211 ty221 ty222 ty242 ty259
section
attribute [local simp] wl0 wl1 wl2 wl3 wl4 wl5 wl6 wl7 wl8 wl9 wl10 wl11 wl12 wl13 wl14 wl15 wl16 wl17 wl18 wl19 wl20
attribute [local simp high] evalOp_fieldP
attribute [local simp] fldV_p fldV_agg aggP_agg aggP_col aggP_val aggP_expr
theorem call19:Cal 19 [] [.bool true]:=⟨by
 haveI h16:=c16n
 haveI h27a:=c27a
 haveI h27b:=c27b
 haveI h25:=c25n
 haveI h23:=c23n
 have hs:=sameE_refl nrY
 unfold nrE nrY at *
 unfold knE eqE4 at *
 unfold rjE at *
 have msk:Msk 170141183460469231731687303715884081152 170141183460469231731687303715884081152:=⟨⟩
 refine CallP.of_bodyN 127 cfg_ok Tryz.func19 rfl rfl (by kernel_rfl) fun base=>?_;simp only [mkA,Nat.reduceAdd]
 exact walk⟩
end
section
attribute [local simp] wl0 wl1 wl2 wl3 wl4 wl5 wl6 wl7 wl8 wl9 wl10 wl11 wl12 wl13 wl14 wl15 wl16 wl17 wl18 wl19 wl20
attribute [local simp high] evalOp_fieldP
attribute [local simp] fldV_p fldV_agg aggP_agg aggP_col aggP_val aggP_expr
theorem r69_col (e:Expr) (bl:List Expr) (j:Nat) (h1:e.op=1) (hn:e.n=j) (hlt:j < bl.length):Cal 69 [e.p,.lst (Expr.ps bl)] [bl[j].p,.bool true]:=⟨by
 have msk:Msk 17979211989773320 18014398509480968:=⟨⟩
 refine CallP.of_bodyN 54 cfg_ok Tryz.func69 rfl rfl (by kernel_rfl) fun base=>?_;simp only [mkA,Nat.reduceAdd]
 refine wpA_ok 0 rfl fun ok0=>?_
 refine wpA_ok 1 rfl fun ok1=>?_
 exact walk⟩
attribute [local simp] mapA in
theorem r69_node (e:Expr) (bl:List Expr) (q:Expr→Expr) (h1:(e.op == 1)=false) (h16:e.args.length ≤ 4294967290)
  (rec69:∀ (i:Nat) (h:i < e.args.length),Cal 69 [e.args[i].p,.lst (Expr.ps bl)] [(q e.args[i]).p,.bool true]):Cal 69 [e.p,.lst (Expr.ps bl)] [(Expr.mk e.op e.n e.m e.kind e.lit (e.args.map q) e.rels).p,.bool true]:=⟨by
 have hr:∀ i,i < e.args.length→roomFor (i + 1) 112=true:=fun i _=>roomFor_of (by omega) (by decide)
 have hmap:=map_mapA q e.args
 rw [hmap]
 generalize hR:mapA q [] e.args=R
 clear hmap
 have msk:Msk 17979211989773320 18014398509480968:=⟨⟩
 refine CallP.of_bodyN 54 cfg_ok Tryz.func69 rfl rfl (by kernel_rfl) fun base=>?_;simp only [mkA,Nat.reduceAdd]
 refine wpA_ok 0 rfl fun ok0=>?_
 refine wpA_ok 1 rfl fun ok1=>?_
 have ld0:LD (σ:=Nat × List Expr) 0 9007199120524192 [8,50] (fun y_=>(fun i acc=>[(7,.p (.int .i64 i))]) y_.1 y_.2) (fun y_=>(fun i acc=>[(6,.cells [.p (.int .i64 e.op),.p (.int .i64 e.n),.p (.int .i64 e.m),.p (.int .i64 e.kind),.p (.int .i64 e.lit.kind),.p (.int .i64 e.lit.int),.p (.str e.lit.text),.own 51 i,.p (.lst (Rel.ps e.rels))]),(51,.arr 9 (Expr.ps acc) false)]) y_.1 y_.2) (fun y_=>(fun i acc=>InvL (i ≤ (e.args).length) (acc.length=i) (mapA q acc (e.args.drop i)=R)) y_.1 y_.2) (fun y_=>(fun i acc=>(e.args).length - i) y_.1 y_.2) ((0,[])) [51] (fun y_=>(fun i acc=>i < (e.args).length) y_.1 y_.2) (fun y_ (h:(fun i acc=>i < (e.args).length) y_.1 y_.2)=>(fun i acc (h:i < (e.args).length)=>(i + 1,acc ++ [q e.args[i]])) y_.1 y_.2 h) (fun y_ (h:(fun i acc=>i < (e.args).length) y_.1 y_.2)=>(fun i acc (h:i < (e.args).length)=>(i + 1,acc ++ [q e.args[i]])) y_.1 y_.2 h):=⟨⟩
 exact walk⟩
def byX (set:List Int) (k:Int) (j:Nat):Expr:=if set.any (fun a=>(j:Int) == a) then litE k nullW else colE j
def byM (set:List Int):Nat→List Col→List Expr
 | _,[]=>[]
 | i,c :: r=>byX set c.kind i :: byM set (i + 1) r
theorem byM_len (set:List Int):∀ (l:List Col) (i:Nat),(byM set i l).length=l.length
 | [],_=>rfl
 | c :: r,i=>by simp [byM,byM_len set r]
theorem byM_get (set:List Int):∀ (l:List Col) (i j:Nat) (h:j < l.length) (h':j < (byM set i l).length),(byM set i l)[j]=byX set l[j].kind (i + j)
 | c :: r,i,0,_,_=>rfl
 | c :: r,i,j + 1,h,h'=>by
  have:=byM_get set r (i + 1) j (by simpa using h) (by simpa [byM] using h')
  simp only [byM,List.getElem_cons_succ]
  rw [this]
  congr 1
  omega
theorem colE_eta {e:Expr} (hw:wf e=true) (h1:e.op=1):e=colE e.n:=by
 have hn:=wf_node hw
 have hr:=nodeR_rels hn
 have ha:=nodeR_leaf hn (.inl h1)
 obtain ⟨op,n,m,k,v,args,rels⟩:=e
 simp only [Expr.op,Expr.n,Expr.args,Expr.rels] at *
 subst h1;subst hr;subst ha
 simp [nodeR,bareR,Expr.op,Expr.m,Expr.kind,Expr.lit] at hn
 simp [colE,hn]
theorem cal69 (cols:List Col) (set:List Int):∀ (n:Nat) (e:Expr),e.size ≤ n→∀ {k:Int},Has cols e k→Cal 69 [e.p,.lst (Expr.ps (byM set 0 cols))] [(nulledE cols set e).p,.bool true]
 | 0,e,hn,k,_=>by
  obtain ⟨op,n,m,kind,lit,args,rels⟩:=e
  simp [Expr.size] at hn
 | n + 1,e,hn,k,hk=>by
  by_cases h1:e.op=1
  ·obtain ⟨j,hj,hlt⟩:=has_col hk h1
   have hb:j < (byM set 0 cols).length:=by rw [byM_len];exact hlt
   have h:=r69_col e _ j h1 hj hb
   have hx:(byM set 0 cols)[j]=nulledE cols set e:=by
    rw [byM_get set cols 0 j hlt hb,nulledE_eq,byX]
    have he:=colE_eta hk.wf h1
    have hi:inSet set e=set.any (fun a=>((0 + j:Nat):Int) == a):=by unfold inSet;rw [h1,hj];simp
    rw [hi]
    have ha:=nodeR_leaf (wf_node hk.wf) (.inl h1)
    split
    ·unfold nullC;rw [hj];simp [List.getD_eq_getElem?_getD,hlt]
    ·rw [ha]
     have:=expr_eta e
     rw [ha] at this
     rw [List.map_nil,this,he,hj];simp
   rw [hx] at h
   exact h
  ·rw [nulledE_eq,inSet,beq_eq_false_iff_ne.2 h1,if_neg (by simp)]
   exact r69_node e _ (nulledE cols set) (by simpa using h1) (by have:=wf_len hk.wf;omega) fun i hi=>cal69 cols set n _ (by have:=Expr.size_get hi;omega) (arg_has hk (List.getElem_mem hi))
def nulX (k:Int) (i:Nat) (x:Expr):List Int→Expr
 | []=>x
 | a :: r=>nulX k i (if a == (i:Int) then litE k nullW else x) r
theorem nulX_any (k:Int) (i:Nat):∀ (l:List Int) (x:Expr),nulX k i x l=if l.any (fun a=>(i:Int) == a) then litE k nullW else x
 | [],x=>rfl
 | a :: r,x=>by
  rw [nulX,nulX_any k i r]
  have hc:(a == (i:Int))=((i:Int) == a):=by rw [Bool.eq_iff_iff];simp;omega
  rw [hc,List.any_cons]
  cases ((i:Int) == a) <;> cases r.any (fun a=>(i:Int) == a) <;> simp
def byL (set:List Int):List Expr→Nat→List Col→List Expr
 | acc,_,[]=>acc
 | acc,i,c :: r=>byL set (acc ++ [nulX c.kind i (colE i) set]) (i + 1) r
theorem byL_eq (set:List Int):∀ (l:List Col) (acc:List Expr) (i:Nat),byL set acc i l=acc ++ byM set i l
 | [],acc,i=>by simp [byL,byM]
 | c :: r,acc,i=>by
  rw [byL,byL_eq set r,byM,nulX_any,byX]
  simp
attribute [local simp] byL nulX in
theorem r26 (e x y:Expr) (cols:List Col) (set:List Int) (bl:List Expr) (hbl:byL set [] 0 cols=bl) (hc:cols.length ≤ 1000000) (c69:Cal 69 [e.p,.lst (Expr.ps bl)] [x.p,.bool true]) (c20:Cal 20 [x.p,.lst (Col.ps cols)] [y.p]) :
  Cal 26 [e.p,.lst (Col.ps cols),.lst (ips set)] [.bool (isNull y || isV y (boolW false)),y.p]:=⟨by
 have hr:∀ i,i < cols.length→roomFor (i + 1) 112=true:=fun i _=>roomFor_of (by omega) (by decide)
 have msk:Msk 2305843000590065712 2305843009213685808:=⟨⟩
 refine CallP.of_bodyN 61 cfg_ok Tryz.func26 rfl rfl (by kernel_rfl) fun base=>?_;simp only [mkA,Nat.reduceAdd]
 refine wpA_ok 0 rfl fun ok0=>?_
 refine wpA_ok 1 rfl fun ok1=>?_
 refine wpA_ok 2 rfl fun ok2=>?_
 have hset:=okP_ips ok2
 have ld0:LD (σ:=Nat × List Expr) 0 17592186031872 [10,42] (fun y_=>(fun i acc=>[(9,.p (.int .i64 i)),(8,.own 43 i)]) y_.1 y_.2) (fun y_=>(fun i acc=>[(43,.arr 9 (Expr.ps acc) false)]) y_.1 y_.2) (fun y_=>(fun i acc=>InvL (i ≤ (cols).length) (acc.length=i) (byL set acc i (cols.drop i)=bl)) y_.1 y_.2) (fun y_=>(fun i acc=>(cols).length - i) y_.1 y_.2) ((0,[])) [43] (fun y_=>(fun i acc=>i < (cols).length) y_.1 y_.2) (fun y_ (h:(fun i acc=>i < (cols).length) y_.1 y_.2)=>(fun i acc (h:i < (cols).length)=>(i + 1,acc ++ [nulX cols[i].kind i (colE i) set])) y_.1 y_.2 h) (fun y_ (h:(fun i acc=>i < (cols).length) y_.1 y_.2)=>(fun i acc (h:i < (cols).length)=>(i + 1,acc ++ [nulX cols[i].kind i (colE i) set])) y_.1 y_.2 h):=⟨⟩
 have st0:Stop 6:=⟨⟩
 have st1:Stop 12:=⟨⟩
 refine walkX ?_ ?_
 ·intro x0 hi0 hs0 hn0 ny0 nz0 hj0
  first | intro h' h | intro h | skip
  refine ⟨?_⟩
  clear st0 st1
  have hd:=hn0
  rw [List.drop_eq_getElem_cons h,byL] at hd
  have ld1:LD (σ:=Nat × Expr) 2 1099507435520 [] (fun y_=>(fun k x=>[(11,.p (.int .i64 k))]) y_.1 y_.2) (fun y_=>(fun k x=>[(10,.cells [.p (.int .i64 x.op),.p (.int .i64 x.n),.p (.int .i64 x.m),.p (.int .i64 x.kind),.p (.int .i64 x.lit.kind),.p (.int .i64 x.lit.int),.p (.str x.lit.text),.p (.lst (Expr.ps x.args)),.p (.lst (Rel.ps x.rels))])]) y_.1 y_.2) (fun y_=>(fun k x=>InvL (k ≤ (set).length) (True) (nulX cols[x0.1].kind x0.1 x (set.drop k)=nulX cols[x0.1].kind x0.1 (colE (x0.1:Int)) set)) y_.1 y_.2) (fun y_=>(fun k x=>(set).length - k) y_.1 y_.2) ((0,colE (x0.1:Int))) [] (fun y_=>(fun k x=>k < (set).length) y_.1 y_.2) (fun y_ (h:(fun k x=>k < (set).length) y_.1 y_.2)=>(fun k x (h:k < (set).length)=>(k + 1,litE cols[x0.1].kind nullW)) y_.1 y_.2 h) (fun y_ (h:(fun k x=>k < (set).length) y_.1 y_.2)=>(fun k x (h:k < (set).length)=>(k + 1,x)) y_.1 y_.2 h):=⟨⟩
  exact walkX trivial trivial
 ·intro x0 hi0 hs0 hn0 ny0 nz0 hj0
  first | intro h' h | intro h | skip
  refine ⟨?_⟩
  clear st0 st1
  obtain ⟨i0,acc⟩:=x0
  dsimp only at *
  have hx:acc=bl:=by rw [List.drop_eq_nil_of_le (by omega),byL] at hn0;exact hn0
  subst hx
  subst hs0
  clear ld0 hn0 ny0 nz0 hi0 hj0 hbl hr
  exact walk⟩
theorem cal26 (cols:List Col) (set:List Int) (e y:Expr) {k:Int} (hl:cols.length ≤ 1000000) (hc:areC cols=true) (hk:Has cols e k) (hy:Simp cols (nulledE cols set e) y):Cal 26 [e.p,.lst (Col.ps cols),.lst (ips set)] [.bool (isNull y || isFalse y),y.p]:=
 r26 e (nulledE cols set e) y cols set (byM set 0 cols) (by rw [byL_eq];rfl) hl (cal69 cols set e.size e (Nat.le_refl _) hk) (cal20 hy (nulled_has hc set e.size e (Nat.le_refl _) hk))
end
section
attribute [local simp] wl0 wl1 wl2 wl3 wl4 wl5 wl6 wl7 wl8 wl9 wl10 wl11 wl12 wl13 wl14 wl15 wl16 wl17 wl18 wl19 wl20
attribute [local simp high] evalOp_fieldP
attribute [local simp] fldV_p fldV_agg aggP_agg aggP_col aggP_val aggP_expr
theorem deep_nulled (cols:List Col) (set:List Int):∀ (n:Nat) (e:Expr),e.size ≤ n→deep (nulledE cols set e) ≤ deep e
 | 0,e,hn=>by
  obtain ⟨op,n,m,kind,lit,args,rels⟩:=e
  simp [Expr.size] at hn
 | n + 1,e,hn=>by
  rw [nulledE_eq]
  split
  ·exact deep_pos _
  ·have h:deeps (e.args.map (nulledE cols set)) ≤ deeps e.args:=deeps_le fun a ha=>by
    obtain ⟨b,hb,rfl⟩:=List.mem_map.1 ha
    obtain ⟨i,hi,rfl⟩:=List.getElem_of_mem hb
    exact Nat.le_trans (deep_nulled cols set n _ (by have:=Expr.size_get hi;omega)) (deep_mem (List.getElem_mem hi))
   rw [deep_eq e]
   show deeps (e.args.map (nulledE cols set)) + 1 ≤ _
   omega
section
variable (raw e:Expr) (rawCols cols:List Col) (set S:List Int) (m:Nat) (tame:Bool)
theorem law5_bad (hmin:(if (20:Int) < (set.length:Int) then (20:Int) else (set.length:Int))=(m:Int)) (hm:m ≤ set.length) (hS:set.take m=S) (hl0:S.length ≤ 20) (he:Cal 14 [raw.p,.lst (Col.ps rawCols),.int .i64 2,.bool tame] [e.p,.lst (Col.ps cols)])
  (h25:Cal 25 [e.p,.lst (Col.ps cols),.lst (ips S)] [.bool false,.int .i64 (badE e cols true)]) (hb:badE e cols true ≠ 0) (c19:Cal 19 [] [.bool true]):Cal 5 [raw.p,.lst (Col.ps rawCols),.lst (ips set),.bool tame] [.bool true]:=⟨by
 haveI c17:=call17 e cols true
 have hne:(badE e cols true != 0)=true:=by simpa [bne] using hb
 have hne':(badE e cols true == 0)=false:=by simpa using hb
 clear hb
 generalize badE e cols true=b at *
 have msk:Msk 81129561043169758355834774749408 81129638414606681695789004882144:=⟨⟩
 refine CallP.of_bodyN 106 cfg_ok Tryz.func5 rfl rfl (by kernel_rfl) fun base=>?_;simp only [mkA,Nat.reduceAdd]
 refine wpA_ok 0 rfl fun ok0=>?_
 refine wpA_ok 1 rfl fun ok1=>?_
 refine wpA_ok 2 rfl fun ok2=>?_
 refine wpA_ok 3 rfl fun ok3=>?_
 have e2:roomFor S.length 8=true:=roomFor_of (by omega) (by decide)
 have ld0:LD (σ:=Nat) 0 73786971896791744512 [] (fun y_=>(fun i=>[(15,.p (.int .i64 i)),(14,.p (.int .i64 b))]) y_) (fun y_=>(fun i=>[]) y_) (fun y_=>(fun i=>InvL (i ≤ (S).length) (True) (S.drop i=S.drop i)) y_) (fun y_=>(fun i=>(S).length - i) y_) (0) [] (fun y_=>(fun i=>i < (S).length) y_) (fun y_ (h:(fun i=>i < (S).length) y_)=>(fun i (h:i < (S).length)=>i + 1) y_ h) (fun y_ (h:(fun i=>i < (S).length) y_)=>(fun i (h:i < (S).length)=>i + 1) y_ h):=⟨⟩
 exact walk⟩
theorem law5_large (y:Expr) (w:Bool) (hmin:(if (20:Int) < (set.length:Int) then (20:Int) else (set.length:Int))=(m:Int)) (hm:m ≤ set.length) (hS:set.take m=S) (hl0:S.length ≤ 20) (he:Cal 14 [raw.p,.lst (Col.ps rawCols),.int .i64 2,.bool tame] [e.p,.lst (Col.ps cols)])
  (h25:Cal 25 [e.p,.lst (Col.ps cols),.lst (ips S)] [.bool false,.int .i64 2]) (hb:badE e cols true=0) (c26:Cal 26 [e.p,.lst (Col.ps cols),.lst (ips S)] [.bool w,y.p]) (ho:S.any (outC cols)=false) (hl:nodes y > 400) (c19:Cal 19 [] [.bool true]):Cal 5 [raw.p,.lst (Col.ps rawCols),.lst (ips set),.bool tame] [.bool true]:=⟨by
 haveI c17:=call17 e cols true
 rw [hb] at c17
 have hl':decide (nodes y > 400)=true:=by simpa using hl
 have hlo:∀ (i:Nat) (h:i < S.length),decide (S[i] < 0)=false:=fun i h=>by
  have:=List.any_eq_false.1 ho _ (List.getElem_mem h)
  simp [outC] at this;simp;omega
 have hhi:∀ (i:Nat) (h:i < S.length),decide (S[i] ≥ (cols.length:Int))=false:=fun i h=>by
  have:=List.any_eq_false.1 ho _ (List.getElem_mem h)
  simp [outC] at this;simp;omega
 clear hb hl ho
 have msk:Msk 81129561043169758355834774749408 81129638414606681695789004882144:=⟨⟩
 refine CallP.of_bodyN 106 cfg_ok Tryz.func5 rfl rfl (by kernel_rfl) fun base=>?_;simp only [mkA,Nat.reduceAdd]
 refine wpA_ok 0 rfl fun ok0=>?_
 refine wpA_ok 1 rfl fun ok1=>?_
 refine wpA_ok 2 rfl fun ok2=>?_
 refine wpA_ok 3 rfl fun ok3=>?_
 have e2:roomFor S.length 8=true:=roomFor_of (by omega) (by decide)
 have ld0:LD (σ:=Nat) 0 73786971896791744512 [] (fun y_=>(fun i=>[(15,.p (.int .i64 i)),(14,.p (.int .i64 0))]) y_) (fun y_=>(fun i=>[]) y_) (fun y_=>(fun i=>InvL (i ≤ (S).length) (True) (S.drop i=S.drop i)) y_) (fun y_=>(fun i=>(S).length - i) y_) (0) [] (fun y_=>(fun i=>i < (S).length) y_) (fun y_ (h:(fun i=>i < (S).length) y_)=>(fun i (h:i < (S).length)=>i + 1) y_ h) (fun y_ (h:(fun i=>i < (S).length) y_)=>(fun i (h:i < (S).length)=>i + 1) y_ h):=⟨⟩
 exact walk⟩
theorem law5_good (y:Expr) (w:Bool) (hmin:(if (20:Int) < (set.length:Int) then (20:Int) else (set.length:Int))=(m:Int)) (hm:m ≤ set.length) (hS:set.take m=S) (hl0:S.length ≤ 20) (he:Cal 14 [raw.p,.lst (Col.ps rawCols),.int .i64 2,.bool tame] [e.p,.lst (Col.ps cols)])
  (h25:Cal 25 [e.p,.lst (Col.ps cols),.lst (ips S)] [.bool w,.int .i64 0]) (hb:badE e cols true=0) (c26:Cal 26 [e.p,.lst (Col.ps cols),.lst (ips S)] [.bool w,y.p]) (ho:S.any (outC cols)=false) (hl:¬ nodes y > 400) (c19:Cal 19 [] [.bool true]):Cal 5 [raw.p,.lst (Col.ps rawCols),.lst (ips set),.bool tame] [.bool true]:=⟨by
 haveI c17:=call17 e cols true
 rw [hb] at c17
 have hl':decide (nodes y > 400)=false:=by simpa using hl
 have hlo:∀ (i:Nat) (h:i < S.length),decide (S[i] < 0)=false:=fun i h=>by
  have:=List.any_eq_false.1 ho _ (List.getElem_mem h)
  simp [outC] at this;simp;omega
 have hhi:∀ (i:Nat) (h:i < S.length),decide (S[i] ≥ (cols.length:Int))=false:=fun i h=>by
  have:=List.any_eq_false.1 ho _ (List.getElem_mem h)
  simp [outC] at this;simp;omega
 clear hb hl ho
 have msk:Msk 81129561043169758355834774749408 81129638414606681695789004882144:=⟨⟩
 refine CallP.of_bodyN 106 cfg_ok Tryz.func5 rfl rfl (by kernel_rfl) fun base=>?_;simp only [mkA,Nat.reduceAdd]
 refine wpA_ok 0 rfl fun ok0=>?_
 refine wpA_ok 1 rfl fun ok1=>?_
 refine wpA_ok 2 rfl fun ok2=>?_
 refine wpA_ok 3 rfl fun ok3=>?_
 have e2:roomFor S.length 8=true:=roomFor_of (by omega) (by decide)
 have ld0:LD (σ:=Nat) 0 73786971896791744512 [] (fun y_=>(fun i=>[(15,.p (.int .i64 i)),(14,.p (.int .i64 0))]) y_) (fun y_=>(fun i=>[]) y_) (fun y_=>(fun i=>InvL (i ≤ (S).length) (True) (S.drop i=S.drop i)) y_) (fun y_=>(fun i=>(S).length - i) y_) (0) [] (fun y_=>(fun i=>i < (S).length) y_) (fun y_ (h:(fun i=>i < (S).length) y_)=>(fun i (h:i < (S).length)=>i + 1) y_ h) (fun y_ (h:(fun i=>i < (S).length) y_)=>(fun i (h:i < (S).length)=>i + 1) y_ h):=⟨⟩
 exact walk⟩
def argL (cols:List Col):Int→List Int→Int
 | b,[]=>b
 | b,a :: r=>if b=0 then argL cols (if outC cols a then 1 else b) r else b
theorem argL_one (cols:List Col):∀ (l:List Int),argL cols 1 l=1
 | []=>rfl
 | a :: r=>by rw [argL,if_neg (by decide)]
theorem argL_any (cols:List Col):∀ (l:List Int),l.any (outC cols)=true→argL cols 0 l=1
 | [],h=>by cases h
 | a :: r,h=>by
  rw [argL,if_pos rfl]
  cases ho:outC cols a with
  | true=>rw [if_pos rfl];exact argL_one cols r
  | false=>
   rw [if_neg (by simp)]
   rw [List.any_cons,ho,Bool.false_or] at h
   exact argL_any cols r h
theorem law5_arg (hmin:(if (20:Int) < (set.length:Int) then (20:Int) else (set.length:Int))=(m:Int)) (hm:m ≤ set.length) (hS:set.take m=S) (hl0:S.length ≤ 20) (he:Cal 14 [raw.p,.lst (Col.ps rawCols),.int .i64 2,.bool tame] [e.p,.lst (Col.ps cols)])
  (h25:Cal 25 [e.p,.lst (Col.ps cols),.lst (ips S)] [.bool false,.int .i64 1]) (hb:badE e cols true=0) (ho:argL cols 0 S=1) (c19:Cal 19 [] [.bool true]):Cal 5 [raw.p,.lst (Col.ps rawCols),.lst (ips set),.bool tame] [.bool true]:=⟨by
 haveI c17:=call17 e cols true
 rw [hb] at c17
 clear hb
 have msk:Msk 81129561043169758355834774749408 81129638414606681695789004882144:=⟨⟩
 refine CallP.of_bodyN 106 cfg_ok Tryz.func5 rfl rfl (by kernel_rfl) fun base=>?_;simp only [mkA,Nat.reduceAdd]
 refine wpA_ok 0 rfl fun ok0=>?_
 refine wpA_ok 1 rfl fun ok1=>?_
 refine wpA_ok 2 rfl fun ok2=>?_
 refine wpA_ok 3 rfl fun ok3=>?_
 have e2:roomFor S.length 8=true:=roomFor_of (by omega) (by decide)
 have ld0:LD (σ:=Nat × Int) 0 73786971896791744512 [] (fun y_=>(fun i b=>[(15,.p (.int .i64 i)),(14,.p (.int .i64 b))]) y_.1 y_.2) (fun y_=>(fun i b=>[]) y_.1 y_.2) (fun y_=>(fun i b=>InvL (i ≤ (S).length) (True) (argL cols b (S.drop i)=1)) y_.1 y_.2) (fun y_=>(fun i b=>(S).length - i) y_.1 y_.2) ((0,0)) [] (fun y_=>(fun i b=>i < (S).length) y_.1 y_.2) (fun y_ (h:(fun i b=>i < (S).length) y_.1 y_.2)=>(fun i b (h:i < (S).length)=>(i + 1,1)) y_.1 y_.2 h) (fun y_ (h:(fun i b=>i < (S).length) y_.1 y_.2)=>(fun i b (h:i < (S).length)=>(i + 1,b)) y_.1 y_.2 h):=⟨⟩
 have st0:Stop 8:=⟨⟩
 have st1:Stop 10:=⟨⟩
 refine walkX ?_ ?_
 ·intro x0 hi0 hn0 ny0 nz0 hj0
  first | intro h' h | intro h | skip
  refine ⟨?_⟩
  clear st0 st1
  obtain ⟨i0,b⟩:=x0
  dsimp only at *
  have hb0:b=0:=by simpa using h
  subst hb0
  have hd:=hn0
  rw [List.drop_eq_getElem_cons h',argL,if_pos rfl] at hd
  clear hn0 ho
  by_cases hlo:S[i0] < 0
  ·have hlo':decide (S[i0] < 0)=true:=by simpa using hlo
   rw [show outC cols S[i0]=true by unfold outC;rw [hlo'];rfl,if_pos rfl] at hd
   refine walkX ?_ trivial
   all_goals first | intro h' h | intro h | skip
   exact again_nx ny0 h' (by dsimp only;omega) ⟨by dsimp only;omega,trivial,hd⟩ leS
  ·have hlo':decide (S[i0] < 0)=false:=by simpa using hlo
   by_cases hhi:S[i0] ≥ (cols.length:Int)
   ·have hhi':decide (S[i0] ≥ (cols.length:Int))=true:=by simpa using hhi
    rw [show outC cols S[i0]=true by unfold outC;rw [hlo',hhi'];rfl,if_pos rfl] at hd
    refine walkX ?_ trivial
    all_goals first | intro h' h | intro h | skip
    exact again_nx ny0 h' (by dsimp only;omega) ⟨by dsimp only;omega,trivial,hd⟩ leS
   ·have hhi':decide (S[i0] ≥ (cols.length:Int))=false:=by simpa using hhi
    rw [show outC cols S[i0]=false by unfold outC;rw [hlo',hhi'];rfl,if_neg (by simp)] at hd
    refine walkX ?_ trivial
    all_goals first | intro h' h | intro h | skip
    exact again_nx nz0 h' (by dsimp only;omega) ⟨by dsimp only;omega,trivial,hd⟩ leS
 ·intro x0 hi0 hn0 ny0 nz0 hj0
  first | intro h' h | intro h | skip
  refine ⟨?_⟩
  clear st0 st1
  obtain ⟨i0,b⟩:=x0
  dsimp only at *
  have hb1:b=1:=by
   by_cases hi:i0 < S.length
   ·have hk:¬ b=0:=by
     simp only [decide_eq_true hi,Bool.true_and,beq_eq_false_iff_ne,ne_eq] at h
     exact h
    rw [List.drop_eq_getElem_cons hi,argL,if_neg hk] at hn0
    exact hn0
   ·rw [List.drop_eq_nil_of_le (by omega),argL] at hn0
    exact hn0
  subst hb1
  clear ld0 hn0 ny0 nz0 h ho
  exact walk⟩
end
theorem law5 (raw:Expr) (rawCols:List Col) (set:List Int) (tame:Bool) (hr:rawE raw):Cal 5 [raw.p,.lst (Col.ps rawCols),.lst (ips set),.bool tame] [.bool true]:=by
 have c19:=call19
 have c14:=cal14 raw rawCols 2 tame hr
 obtain ⟨hg,hs⟩:=oneE_good raw rawCols 2 tame
 generalize oneE raw rawCols 2 tame=e at *
 generalize oneC rawCols tame=cols at *
 obtain ⟨m,hmin,hm,hm2⟩:∃ m:Nat,(if (20:Int) < (set.length:Int) then (20:Int) else (set.length:Int))=(m:Int)∧m ≤ set.length∧m ≤ 20:=by
  by_cases h:(20:Int) < (set.length:Int)
  ·exact ⟨20,by rw [if_pos h];rfl,by omega,by omega⟩
  ·exact ⟨set.length,by rw [if_neg h],by omega,by omega⟩
 have hl0:(set.take m).length ≤ 20:=by rw [List.length_take];omega
 generalize hS:set.take m=S at *
 by_cases hb:badE e cols true=0
 ·obtain ⟨hk,hc,hf⟩:=badT_has hb
  cases ho:S.any (outC cols) with
  | true=>exact law5_arg raw e rawCols cols set S m tame hmin hm hS hl0 c14 (cal25_arg e cols S hg hs hb ho) hb (argL_any cols S ho) c19
  | false=>
   have hnk:=nulled_has hc S e.size e (Nat.le_refl _) hk
   obtain ⟨y,hy,_⟩:=simp_ex (wt (nulledE cols S e)) (Nat.le_refl _) hnk
   have hw:=(simp_has hy hnk).wf
   have hd:=Nat.le_trans (deep_simp hy) (Nat.le_trans (deep_nulled cols S e.size e (Nat.le_refl _)) (form_deep hf))
   have hfit:=fit_nodes hw hd
   have hcl:cols.length ≤ 1000000:=by
    unfold areC at hc
    simp only [Bool.and_eq_true,decide_eq_true_eq] at hc
    omega
   have h25:=cal25_ok e cols S y hg hs hb ho hy
   have c26:=cal26 cols S e y hcl hc hk hy
   by_cases hl:nodes y > 400
   ·rw [hfit,decide_eq_false (by omega)] at h25
    exact law5_large raw e rawCols cols set S m tame y _ hmin hm hS hl0 c14 h25 hb c26 ho hl c19
   ·rw [hfit,decide_eq_true (by omega)] at h25
    exact law5_good raw e rawCols cols set S m tame y _ hmin hm hS hl0 c14 h25 hb c26 ho hl c19
 ·exact law5_bad raw e rawCols cols set S m tame hmin hm hS hl0 c14 (cal25_bad e cols S hg hs hb) hb c19
end
end Go.Proofs.YtgiedlcjlalpcaaGreat
