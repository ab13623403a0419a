/- Own part of a proof: I11 X1 X2 X3. -/
import Derived.Test.YtgiedlcjlalpcaaGreatCe01
import Derived.Test.YtgiedlcjlalpcaaGreatPb08
import Derived.Test.YtgiedlcjlalpcaaGreatPb15
import Derived.Test.YtgiedlcjlalpcaaGreatPc01
set_option linter.all false
namespace Go.Proofs.YtgiedlcjlalpcaaGreat
open Go.Abs
set_option maxRecDepth 100000
set_option maxHeartbeats 4000000
attribute [local irreducible] wpA Again LeJ
attribute [local simp high] mkT_getD
attribute [local simp] runM_nil runM_cons mG_some mC_none mC_un mC_gd mV_some mV_none mD_some mP_some mP_none pickV_bool pickV_int specE_pick specE_move specE_assign specE_alloc specE_box specE_build specE_buildSlice specE_load specE_store specE_nilCheck specE_binOp specE_unOp specE_convert specE_makeFunc specE_slice specE_fieldAddr specE_field specE_indexAddr specE_index specE_extract specE_call cond_false_r cond_true_m callPure touches_move touches_assign touches_box touches_load touches_nilCheck touches_unOp touches_convert touches_fieldAddr touches_field touches_extract touches_pick touches_store touches_binOp touches_indexAddr touches_index touches_alloc touches_build touches_buildSlice touches_makeFunc touches_slice touches_call touches_builtin V.names V.namesL callOf_fn callOf_builtin callOf callResW cfg_imp wantedA evalOp_move evalOp_assign evalOp_pick evalOp_alloc evalOp_box evalOp_build evalOp_buildSlice evalOp_load evalOp_store evalOp_nilCheck evalOp_binOp evalOp_unOp evalOp_convert evalOp_makeFunc evalOp_slice evalOp_fieldAddr evalOp_field evalOp_indexAddr evalOp_index evalOp_extract evalOp_builtin opnd_tmp opnd_const opnd_func headM dropA mkT_set mkT_idx mkT_get mkT_len lookA more_true more_false constV boolV St.put getB setB V.cells cells_agg cells_int cells_bool cells_str cells_lst cells_fn cells_nilp cells_nilf cells_nilm cells_imm cells_obj cells_imap mkAgg mkFn allP partV partP placesOf fillV spliceV Ty.agg oneV oneP natOf binV_int binV_str binV_bool_eql binV_ptr_nil_eql binV_ptr_imm_eql binV_ptr_obj_eql binV_ptr_ref_eql binV_func_nil_eql binV_func_fn_eql binV_func_fv_eql binV_bool_neq binV_ptr_nil_neq binV_ptr_imm_neq binV_ptr_obj_neq binV_ptr_ref_neq binV_func_nil_neq binV_func_fn_neq binV_func_fv_neq intBin strBin cfg_ty callRes toP toPs resV addedP appendV partsToP resultPs resultVs St.head roomFor_of wrap_succ wrap_nat sizesOk_nil sizesOk_cons elemOk_int elemOk_bool elemOk_str elemOk_lst elemOk_fn List.getElem?_eq_getElem bne w64 val_cells val_fold val_eta col_cells col_fold col_eta rel_cells expr_cells expr_fold expr_fold0 expr_fold1 expr_fold2 expr_eta expr_op expr_n expr_m expr_kind expr_lit expr_args expr_rels eps_nil eps_len eps_get eps_app eps_take eps_drop eps_ok vps_nil vps_len vps_get vps_app vps_take vps_drop vps_ok cps_nil cps_len cps_get cps_app cps_take cps_drop cps_ok rps_nil rps_len rps_get eps_idx vps_idx cps_idx rps_idx ips_nil ips_len ips_get ips_idx ips_ok elemOk_e elemOk_v elemOk_c ips_app ips_take ips_drop el1 ea1 es1 el2 ea2 es2 el3 ea3 es3 elc eac vl1 va1 vs1 vl2 va2 vs2 vl3 va3 vs3 vlc vac cl1 ca1 cs1 cl2 ca2 cs2 cl3 ca3 cs3 clc cac il1 ia1 is1 il2 ia2 is2 il3 ia3 is3 ilc iac binV_val_eql binV_val_neq binV_col_eql ty2 ty3 ty4 ty5 ty9 ty22 ty23 ty25 ty26 ty27 ty29 ty30 ty34 ty43 ty52 ty57 ty61 ty75 ty86 ty87 ty102 ty131 ty132 ty134 ty135 ty137 ty138 ty141 ty149 ty152 ty156 ty159 ty160 ty172 ty176 ty184 ty185 ty186 ty187 ty189 ty204 ty211 ty221 ty222 ty242 ty259
section
attribute [local simp] wl0 wl1 wl2 wl3 wl4 wl5 wl6 wl7 wl8 wl9 wl10 wl11 wl12 wl13 wl14 wl15 wl16 wl17 wl18 wl19 wl20
attribute [local simp high] evalOp_fieldP
attribute [local simp] fldV_p fldV_agg aggP_agg aggP_col aggP_val aggP_expr
theorem call19:Cal 19 [] [.bool true]:=⟨by
 haveI h16:=c16n
 haveI h27a:=c27a
 haveI h27b:=c27b
 haveI h25:=c25n
 haveI h23:=c23n
 have hs:=sameE_refl nrY
 unfold nrE nrY at *
 unfold knE eqE4 at *
 unfold rjE at *
 have msk:Msk 170141183460469231731687303715884081152 170141183460469231731687303715884081152:=⟨⟩
 refine CallP.of_bodyN 127 cfg_ok Tryz.func19 rfl rfl (by kernel_rfl) fun base=>?_;simp only [mkA,Nat.reduceAdd]
 exact walk⟩
end
section
attribute [local simp] wl0 wl1 wl2 wl3 wl4 wl5 wl6 wl7 wl8 wl9 wl10 wl11 wl12 wl13 wl14 wl15 wl16 wl17 wl18 wl19 wl20
attribute [local simp high] evalOp_fieldP
attribute [local simp] fldV_p fldV_agg aggP_agg aggP_col aggP_val aggP_expr
theorem s33_col (e:Expr) (row:List Val) (j:Nat) (h1:e.op=1) (hn:e.n=j) (hlt:j < row.length):Cal 33 [e.p,.lst (Val.ps row)] [row[j].p]:=⟨by
 have msk:Msk 34359213448 34359738248:=⟨⟩
 refine CallP.of_bodyN 35 cfg_ok Tryz.func33 rfl rfl (by kernel_rfl) fun base=>?_;simp only [mkA,Nat.reduceAdd]
 refine wpA_ok 0 rfl fun ok0=>?_
 refine wpA_ok 1 rfl fun ok1=>?_
 exact walk⟩
theorem s79_lit (e:Expr) (h:e.op=3):Cal 79 [e.p,.lst (Val.ps [])] [e.lit.p]:=⟨by
 have msk:Msk 20443398744026864602841197504870664 20769187434139310514121985316879624:=⟨⟩
 refine CallP.of_bodyN 114 cfg_ok Tryz.func79 rfl rfl (by kernel_rfl) fun base=>?_;simp only [mkA,Nat.reduceAdd]
 refine wpA_ok 0 rfl fun ok0=>?_
 refine wpA_ok 1 rfl fun ok1=>?_
 exact walk⟩
attribute [local simp] mapA in
theorem s33_node (e:Expr) (row:List Val) (h1:(e.op == 1)=false) (q:Expr→Val) (r:Val) (h16:e.args.length ≤ 16)
  (rec33:∀ (i:Nat) (h:i < e.args.length),Cal 33 [e.args[i].p,.lst (Val.ps row)] [(q e.args[i]).p]) (h79:Cal 79 [e.p,.lst (Val.ps (e.args.map q))] [r.p]):Cal 33 [e.p,.lst (Val.ps row)] [r.p]:=⟨by
 have hr:∀ i,i < e.args.length→roomFor (i + 1) 32=true:=fun i _=>roomFor_of (by omega) (by decide)
 rw [map_mapA q e.args] at h79
 generalize hR:mapA q [] e.args=R at *
 have pc0:∀ {l:List Val},l=R→CallP cfg Tryz.prog 79 [e.p,.lst (Val.ps l)] [r.p]:=fun {l} hl=>by subst hl;exact h79.out
 clear h79
 have msk:Msk 34359213448 34359738248:=⟨⟩
 refine CallP.of_bodyN 35 cfg_ok Tryz.func33 rfl rfl (by kernel_rfl) fun base=>?_;simp only [mkA,Nat.reduceAdd]
 refine wpA_ok 0 rfl fun ok0=>?_
 refine wpA_ok 1 rfl fun ok1=>?_
 have ld0:LD (σ:=Nat × List Val) 0 4294934624 [30] (fun y_=>(fun i acc=>[(6,.p (.int .i64 i)),(5,.own 31 i)]) y_.1 y_.2) (fun y_=>(fun i acc=>[(31,.arr 3 (Val.ps acc) false)]) y_.1 y_.2) (fun y_=>(fun i acc=>InvL (i ≤ (e.args).length) (acc.length=i) (mapA q acc (e.args.drop i)=R)) y_.1 y_.2) (fun y_=>(fun i acc=>(e.args).length - i) y_.1 y_.2) ((0,[])) [31] (fun y_=>(fun i acc=>i < (e.args).length) y_.1 y_.2) (fun y_ (h:(fun i acc=>i < (e.args).length) y_.1 y_.2)=>(fun i acc (h:i < (e.args).length)=>(i + 1,acc ++ [q e.args[i]])) y_.1 y_.2 h) (fun y_ (h:(fun i acc=>i < (e.args).length) y_.1 y_.2)=>(fun i acc (h:i < (e.args).length)=>(i + 1,acc ++ [q e.args[i]])) y_.1 y_.2 h):=⟨⟩
 exact walk⟩
theorem allSmallV_of:∀ {l:List Val},(∀ v ∈ l,smallV v=true)→allSmall l=true
 | [],_=>allSmall_nil
 | v :: r,h=>by
  have:=allSmallV_of (l:=r) fun w hw=>h w (by simp [hw])
  have h1:=h v (by simp)
  show (smallV v && allSmall r)=true
  rw [h1,this];rfl
theorem cal33 {cols:List Col} {row:List Val} (hf:FitR cols row) (hl:row.length=cols.length):∀ (n:Nat) (e:Expr),e.size ≤ n→∀ {k:Int},Has cols e k→Cal 33 [e.p,.lst (Val.ps row)] [(evalE row e).p]
 | 0,e,hn,k,_=>by
  obtain ⟨op,n,m,kind,lit,args,rels⟩:=e
  simp [Expr.size] at hn
 | n + 1,e,hn,k,hk=>by
  by_cases h1:e.op=1
  ·obtain ⟨j,hj,hn',_,_⟩:=has_col' hk h1
   have h:=s33_col e row j h1 hn' (by omega)
   rw [evalE_eq,if_pos (by simp [h1]),hn',Int.toNat_natCast]
   have hg:row.getD j nullW=row[j]:=by simp [List.getD_eq_getElem?_getD,show j < row.length by omega]
   rw [hg];exact h
  ·have h1':(e.op == 1)=false:=by simpa using h1
   rw [evalE_op row h1]
   by_cases h3:e.op=3
   ·have ha:=(nodeR_lit (wf_node hk.wf) h3).2.2.2.2.2.1
    have h79:=s79_lit e h3
    have hv:valueV e (e.args.map (evalE row))=e.lit:=by unfold valueV;rw [if_pos (by simp [h3])]
    rw [hv]
    exact s33_node e row h1' (evalE row) e.lit (by rw [ha];simp) (fun i h=>by rw [ha] at h;simp at h) (by rw [ha];exact h79)
   ·have hi:=nodeR_inner (wf_node hk.wf) h1 (no_two hk) h3
    have hax:=(has_elim hk hi.lo).1
    have hlen:=wf_len hk.wf
    refine s33_node e row h1' (evalE row) _ (by omega) (fun i h=>cal33 hf hl n _ (by have:=Expr.size_get h;omega) (hax _ (List.getElem_mem h))) ?_
    refine cal79 e hi _ (by simp) (allSmallV_of fun v hv=>?_)
    obtain ⟨a,ha,rfl⟩:=List.mem_map.1 hv
    simp only [smallV,decide_eq_true_eq]
    exact rightV_size (eval_kind hf (hax a ha)).2.1
end
section
attribute [local simp] wl0 wl1 wl2 wl3 wl4 wl5 wl6 wl7 wl8 wl9 wl10 wl11 wl12 wl13 wl14 wl15 wl16 wl17 wl18 wl19 wl20
attribute [local simp high] evalOp_fieldP
attribute [local simp] fldV_p fldV_agg aggP_agg aggP_col aggP_val aggP_expr
attribute [local simp] rws_nil rws_len rws_get rws_idx rws_ok wl1' wa1' ws1' rws_app
def rowA (raw:List Val) (acc:List Val) (i:Nat):List Col→List Val
 | []=>acc
 | c :: r=>rowA raw (acc ++ [tameAs (rowVal raw i) c]) (i + 1) r
theorem rowA_eq (raw:List Val):∀ (l:List Col) (acc:List Val) (i:Nat),rowA raw acc i l=acc ++ rowL raw i l
 | [],acc,i=>by simp [rowA,rowL]
 | c :: r,acc,i=>by rw [rowA,rowA_eq raw r,rowL];simp
def rowsA (cols:List Col) (m:Nat) (i:Nat) (acc:List (List Val)):List (List Val)→List (List Val)
 | []=>acc
 | r :: t=>if i < m then rowsA cols m (i + 1) (acc ++ [tameRow cols r]) t else acc
def tameRows (cols:List Col) (raw:List (List Val)) (m:Nat):List (List Val):=rowsA cols m 0 [] raw
theorem tameRows_mem (cols:List Col) (m:Nat):∀ (l:List (List Val)) (i:Nat) (acc:List (List Val)),(∀ r ∈ acc,∃ s,r=tameRow cols s)→∀ r ∈ rowsA cols m i acc l,∃ s,r=tameRow cols s
 | [],i,acc,h=>h
 | a :: t,i,acc,h=>by
  unfold rowsA
  split
  ·refine tameRows_mem cols m t _ _ fun r hr=>?_
   rcases List.mem_append.1 hr with hr | hr
   ·exact h r hr
   ·exact ⟨a,List.mem_singleton.1 hr⟩
  ·exact h
attribute [local simp] rowA in
theorem cal74 (cols:List Col) (raw:List (List Val)) (hc:cols.length ≤ 1000000) (ht:∀ r ∈ raw,∀ v ∈ r,v.text.size ≤ 4294967296):Cal 74 [.lst (Col.ps cols),.lst (rws raw),.int .i64 8] [.lst (rws (tameRows cols raw 8))]:=⟨by
 unfold tameRows
 generalize hT:rowsA cols 8 0 [] raw=T
 have msk:Msk 18889465931444152954936 18889465931478580850744:=⟨⟩
 refine CallP.of_bodyN 74 cfg_ok Tryz.func74 rfl rfl (by kernel_rfl) fun base=>?_;simp only [mkA,Nat.reduceAdd]
 refine wpA_ok 0 rfl fun ok0=>?_
 refine wpA_ok 1 rfl fun ok1=>?_
 refine wpA_ok 2 rfl fun ok2=>?_
 obtain ⟨hl,hrows⟩:=okP_rws ok1
 have fz0:FZ 14 9:=⟨⟩
 have ld0:LD (σ:=Nat × List (List Val)) 0 9444732965739290427264 [11,67,71] (fun y_=>(fun i acc=>[(8,.p (.int .i64 i)),(7,.own 72 i)]) y_.1 y_.2) (fun y_=>(fun i acc=>[(72,.arr 1 (rws acc) false)]) y_.1 y_.2) (fun y_=>(fun i acc=>InvL (i ≤ raw.length) (acc.length=i) (rowsA cols 8 i acc (raw.drop i)=T)) y_.1 y_.2) (fun y_=>(fun i acc=>raw.length - i) y_.1 y_.2) ((0,[])) [72] (fun y_=>(fun i acc=>i < raw.length∧i < 8) y_.1 y_.2) (fun y_ (h:(fun i acc=>i < raw.length∧i < 8) y_.1 y_.2)=>(fun i acc (h:i < raw.length∧i < 8)=>(i + 1,acc ++ [tameRow cols raw[i]])) y_.1 y_.2 h) (fun y_ (h:(fun i acc=>i < raw.length∧i < 8) y_.1 y_.2)=>(fun i acc (h:i < raw.length∧i < 8)=>(i + 1,acc ++ [tameRow cols raw[i]])) y_.1 y_.2 h):=⟨⟩
 have st0:Stop 5:=⟨⟩
 have st1:Stop 15:=⟨⟩
 refine walkX ?_ ?_
 ·intro x0 hi0 hs0 hn0 ny0 nz0 hj0
  first | intro h' h | intro h | skip
  refine ⟨?_⟩
  clear st0 st1
  have h2:x0.1 < 8:=by omega
  have hroom:roomFor (x0.1 + 1) 24=true:=roomFor_of (by omega) (by decide)
  have hroom2:∀ k,k < cols.length→roomFor (k + 1) 32=true:=fun k _=>roomFor_of (by omega) (by decide)
  have hd:=hn0
  rw [List.drop_eq_getElem_cons h',rowsA,if_pos h2] at hd
  have htr:=ht _ (List.getElem_mem h')
  have hrl:=hrows _ (List.getElem_mem h')
  have htar:tameRow cols raw[x0.1]=rowA raw[x0.1] [] 0 cols:=by rw [rowA_eq];rfl
  rw [htar] at hd
  generalize hT2:rowA raw[x0.1] [] 0 cols=T2 at *
  by_cases hz:raw[x0.1].length=0
  ·have hz':decide ((raw[x0.1].length:Int) > 0)=false:=decide_eq_false (by omega)
   haveI c126:∀ (k:Nat) (hk:k < cols.length),Cal 126 [(Val.mk 0 0 ⟨#[]⟩).p,cols[k].p] [(tameAs (rowVal raw[x0.1] k) cols[k]).p]:=fun k hk=>by
    have h:=cal126 nullW cols[k] (by decide)
    have:rowVal raw[x0.1] k=nullW:=by unfold rowVal;rw [if_pos hz]
    rw [this];exact h
   clear ht htr
   have ld1:LD (σ:=Nat × List Val) 2 590295810358697266688 [11,67] (fun y_=>(fun k a=>[(10,.p (.int .i64 k)),(9,.own 68 k)]) y_.1 y_.2) (fun y_=>(fun k a=>[(68,.arr 3 (Val.ps a) false)]) y_.1 y_.2) (fun y_=>(fun k a=>InvL (k ≤ (cols).length) (a.length=k) (rowA raw[x0.1] a k (cols.drop k)=T2)) y_.1 y_.2) (fun y_=>(fun k a=>(cols).length - k) y_.1 y_.2) ((0,[])) [68] (fun y_=>(fun k a=>k < (cols).length) y_.1 y_.2) (fun y_ (h:(fun k a=>k < (cols).length) y_.1 y_.2)=>(fun k a (h:k < (cols).length)=>(k + 1,a ++ [tameAs (rowVal raw[x0.1] k) cols[k]])) y_.1 y_.2 h) (fun y_ (h:(fun k a=>k < (cols).length) y_.1 y_.2)=>(fun k a (h:k < (cols).length)=>(k + 1,a ++ [tameAs (rowVal raw[x0.1] k) cols[k]])) y_.1 y_.2 h):=⟨⟩
   set_option hygiene false in
   repeat' (first
    | (refine wpA_seqZ fz0 (by rfl) (by rfl) fun K hK=>?_;refine goZ_id ?_;simp -implicitDefEqProofs [*];refine goZ_some ?_;refine hK.out _ _ ?_;clear hK;clear K)
    | (refine wpA_regZ fz0 (by rfl) (by rfl) fun K hK=>?_;refine goZ_id ?_;simp -implicitDefEqProofs [*];refine goZ_some ?_;refine hK.out _ _ ?_;clear hK;clear K)
    | (refine wpA_seqD cfg_ok mix msk (by decide +kernel) fun K hK=>?_)
    | (refine wpA_seq ?_)
    | (refine wpA_block ?_)
    | (refine thenR_normal ?_)
    | (refine thenR_ret ?_)
    | (refine thenR_exit ?_)
    | (refine blockR_normal ?_)
    | (refine blockR_ret ?_)
    | (refine blockR_same ?_)
    | (refine blockR_other rfl ?_)
    | (refine wpA_skip ?_)
    | (refine wpA_ret ?_)
    | (refine wpA_exit ?_)
    | (refine wpA_regD cfg_ok mix msk (by decide +kernel) fun K hK=>?_)
    | (refine hK.out _ _ _ _ _ (by first | (intro h;cases h;done) | (intro _;kernel_rfl)) ?_;clear hK;clear K;try simp only [dropA,Nat.reducePow,Nat.reduceDiv,Nat.reduceMod, ↓reduceIte,Nat.reduceOr,Nat.zero_ne_one])
    | (refine wpA_condD msk (by first | (simp -implicitDefEqProofs [*];done) | (simp -implicitDefEqProofs [*];rfl)) ?_;try simp only [dropA,Nat.reducePow,Nat.reduceDiv,Nat.reduceMod, ↓reduceIte,Nat.reduceOr,Nat.zero_ne_one])
    | (refine bodyR_ret (by first | (simp -implicitDefEqProofs [*];done) | (simp -implicitDefEqProofs [*];rfl)) ?_)
    | (refine bodyR_normal (by first | (simp -implicitDefEqProofs [*];done) | (simp -implicitDefEqProofs [*];rfl)) ?_)
    | (refine runM_id ?_;simp -implicitDefEqProofs)
    | (refine mV_id ?_;simp -implicitDefEqProofs [*])
    | (refine mG_id ?_;simp -implicitDefEqProofs [*])
    | (refine mD_id ?_;simp -implicitDefEqProofs [*])
    | (refine mQ_intro Cal.out ?_)
    | (refine mR_intro (fun _=>Cal.out) ?_)
    | (refine mR_no ?_)
    | (refine mQ_id ?_;simp -implicitDefEqProofs [*])
    | (refine mR_id ?_;simp -implicitDefEqProofs [*])
    | (refine goB_true ?_)
    | (refine goB_false ?_)
    | (refine headLD ld0 leS (by first | exact ⟨by first | exact Nat.zero_le _ | omega,by first | trivial | (simp -implicitDefEqProofs [*];done),by first | rfl | (simp -implicitDefEqProofs [*];done)⟩ | (simp -implicitDefEqProofs [*];done)) ?_;rintro x0 ⟨hi0,hs0,hn0⟩ ny0 nz0;(try simp only [headM,List.nil_append,List.cons_append,dropA,Nat.reducePow,Nat.reduceDiv,Nat.reduceMod, ↓reduceIte,Nat.reduceOr,Nat.zero_ne_one]);have hj0:x0.1 ≤ 4294967296:=by omega)
    | (refine headLD ld0 leS (by first | exact ⟨by first | exact Nat.zero_le _ | omega,by first | trivial | (simp -implicitDefEqProofs [*];done),by first | rfl | (simp -implicitDefEqProofs [*];done)⟩ | (simp -implicitDefEqProofs [*];done)) ?_;rintro x0 ⟨hi0,hs0,hn0⟩ ny0 nz0;(try simp only [headM,List.nil_append,List.cons_append,dropA,Nat.reducePow,Nat.reduceDiv,Nat.reduceMod, ↓reduceIte,Nat.reduceOr,Nat.zero_ne_one]);have hj0:x0 ≤ 4294967296:=by omega)
    | (refine headLD ld1 leS (by first | exact ⟨by first | exact Nat.zero_le _ | omega,by first | trivial | (simp -implicitDefEqProofs [*];done),by first | rfl | (simp -implicitDefEqProofs [*];done)⟩ | (simp -implicitDefEqProofs [*];done)) ?_;rintro x1 ⟨hi1,hs1,hn1⟩ ny1 nz1;(try simp only [headM,List.nil_append,List.cons_append,dropA,Nat.reducePow,Nat.reduceDiv,Nat.reduceMod, ↓reduceIte,Nat.reduceOr,Nat.zero_ne_one]);have hj1:x1.1 ≤ 4294967296:=by omega)
    | (refine headLD ld1 leS (by first | exact ⟨by first | exact Nat.zero_le _ | omega,by first | trivial | (simp -implicitDefEqProofs [*];done),by first | rfl | (simp -implicitDefEqProofs [*];done)⟩ | (simp -implicitDefEqProofs [*];done)) ?_;rintro x1 ⟨hi1,hs1,hn1⟩ ny1 nz1;(try simp only [headM,List.nil_append,List.cons_append,dropA,Nat.reducePow,Nat.reduceDiv,Nat.reduceMod, ↓reduceIte,Nat.reduceOr,Nat.zero_ne_one]);have hj1:x1 ≤ 4294967296:=by omega)
    | (refine goB_intro (fun h=>?_) (fun h=>?_) <;> (try simp only [Bool.not_eq_true',Bool.not_eq_false',Bool.not_eq_true,Bool.not_eq_false,Bool.and_eq_true,Bool.or_eq_false_iff,and_assoc,decide_eq_true_eq,decide_eq_false_iff_not,Nat.not_lt,Nat.not_le,Int.ofNat_lt,Int.ofNat_le,Int.not_lt,Int.not_le] at h) <;> (try have g:=ne_of_beqI h) <;> (repeat (have h':=And.left h;replace h:=And.right h)) <;> (try (have hz0:=Eq.symm hn0;rw [List.drop_eq_nil_of_le h] at hz0;simp -implicitDefEqProofs at hz0)) <;> (try (have hz1:=Eq.symm hn1;rw [List.drop_eq_nil_of_le h] at hz1;simp -implicitDefEqProofs at hz1)) <;> (try (have hz3:=Eq.symm hn3;rw [List.drop_eq_nil_of_le h] at hz3;simp -implicitDefEqProofs at hz3)) <;> (try (have hz0:=Eq.symm hn0;rw [hst0.out] at hz0;rw [dif_neg (by first | exact Nat.not_lt.mpr h | omega)] at hz0)) <;> (try (have hz1:=Eq.symm hn1;rw [hst1.out] at hz1;rw [dif_neg (by first | exact Nat.not_lt.mpr h | omega)] at hz1)) <;> (try (have hz2:=Eq.symm hn2;rw [hst2.out] at hz2;rw [dif_neg (by first | exact Nat.not_lt.mpr h | omega)] at hz2)) <;> (try (have hz3:=Eq.symm hn3;rw [hst3.out] at hz3;rw [dif_neg (by first | exact Nat.not_lt.mpr h | omega)] at hz3))))
   ·refine again_nx ny1 (by assumption) (by dsimp only;omega) ?_ leS
    rw [List.drop_eq_getElem_cons (by assumption),rowA] at hn1
    exact ⟨by dsimp only;omega,by dsimp only;rw [List.length_append,hs1];rfl,hn1⟩
   ·rw [List.drop_eq_nil_of_le (by omega),rowA] at hn1
    have hx1:x1.2=tameRow cols raw[x0.1]:=hn1.trans htar.symm
    rw [← htar] at hd
    rw [hx1]
    clear hx1 hn1 htar hT2
    refine again_nx ny0 ⟨h',h2⟩ (by dsimp only;omega) ?_ leS
    exact ⟨by dsimp only;omega,by dsimp only;rw [List.length_append,hs0];rfl,hd⟩
  ·have hz':decide ((raw[x0.1].length:Int) > 0)=true:=decide_eq_true (by omega)
   have hpos:0 < raw[x0.1].length:=by omega
   have hmod:∀ k:Nat,(k:Int).tmod (raw[x0.1].length:Int)=(k:Int) % (raw[x0.1].length:Int):=fun k=>(Int.ofNat_tmod k _).symm
   have hdiv:∀ k:Nat,(k:Int).tdiv (raw[x0.1].length:Int)=(k:Int) / (raw[x0.1].length:Int):=fun k=>(Int.ofNat_tdiv k _).symm
   have gm0:∀ k:Nat,0 ≤ (k:Int) % (raw[x0.1].length:Int):=fun k=>Int.natCast_nonneg (k % raw[x0.1].length)
   have gm1:∀ k:Nat,((k:Int) % (raw[x0.1].length:Int)).toNat=k % raw[x0.1].length:=fun k=>Int.toNat_natCast (k % raw[x0.1].length)
   have hlt:∀ k:Nat,k % raw[x0.1].length < raw[x0.1].length:=fun k=>Nat.mod_lt _ hpos
   have hz2:¬ ((raw[x0.1].length:Int)=0):=by omega
   haveI c126:∀ (k:Nat) (hk:k < cols.length),Cal 126 [(Val.mk (raw[x0.1][k % raw[x0.1].length]'(hlt k)).kind (IntKind.wrap .i64 ((raw[x0.1][k % raw[x0.1].length]'(hlt k)).int + (k:Int) / (raw[x0.1].length:Int))) (raw[x0.1][k % raw[x0.1].length]'(hlt k)).text).p,cols[k].p] [(tameAs (rowVal raw[x0.1] k) cols[k]).p]:=fun k hk=>by
    have hg:raw[x0.1].getD (k % raw[x0.1].length) nullW=raw[x0.1][k % raw[x0.1].length]'(hlt k):=by simp [List.getD_eq_getElem?_getD,hlt k]
    have:rowVal raw[x0.1] k=Val.mk (raw[x0.1][k % raw[x0.1].length]'(hlt k)).kind (IntKind.wrap .i64 ((raw[x0.1][k % raw[x0.1].length]'(hlt k)).int + (k:Int) / (raw[x0.1].length:Int))) (raw[x0.1][k % raw[x0.1].length]'(hlt k)).text:=by
     unfold rowVal
     rw [if_neg hz,hg];rfl
    rw [this]
    exact cal126 _ cols[k] (htr (raw[x0.1][k % raw[x0.1].length]'(hlt k)) (List.getElem_mem (hlt k)))
   have hw:∀ k:Nat,k < cols.length→IntKind.wrap .i64 ((k:Int) / (raw[x0.1].length:Int))=(k:Int) / (raw[x0.1].length:Int):=fun k hk=>by
    have hq:=Nat.div_le_self k raw[x0.1].length
    have:(k:Int) / (raw[x0.1].length:Int)=((k / raw[x0.1].length:Nat):Int):=rfl
    rw [this]
    generalize k / raw[x0.1].length=q at *
    exact wrap_i64 (by omega) (by omega)
   clear ht htr
   have ld1:LD (σ:=Nat × List Val) 2 590295810358697266688 [11,67] (fun y_=>(fun k a=>[(10,.p (.int .i64 k)),(9,.own 68 k)]) y_.1 y_.2) (fun y_=>(fun k a=>[(68,.arr 3 (Val.ps a) false)]) y_.1 y_.2) (fun y_=>(fun k a=>InvL (k ≤ (cols).length) (a.length=k) (rowA raw[x0.1] a k (cols.drop k)=T2)) y_.1 y_.2) (fun y_=>(fun k a=>(cols).length - k) y_.1 y_.2) ((0,[])) [68] (fun y_=>(fun k a=>k < (cols).length) y_.1 y_.2) (fun y_ (h:(fun k a=>k < (cols).length) y_.1 y_.2)=>(fun k a (h:k < (cols).length)=>(k + 1,a ++ [tameAs (rowVal raw[x0.1] k) cols[k]])) y_.1 y_.2 h) (fun y_ (h:(fun k a=>k < (cols).length) y_.1 y_.2)=>(fun k a (h:k < (cols).length)=>(k + 1,a ++ [tameAs (rowVal raw[x0.1] k) cols[k]])) y_.1 y_.2 h):=⟨⟩
   set_option hygiene false in
   repeat' (first
    | (refine wpA_seqZ fz0 (by rfl) (by rfl) fun K hK=>?_;refine goZ_id ?_;simp -implicitDefEqProofs [*];refine goZ_some ?_;refine hK.out _ _ ?_;clear hK;clear K)
    | (refine wpA_regZ fz0 (by rfl) (by rfl) fun K hK=>?_;refine goZ_id ?_;simp -implicitDefEqProofs [*];refine goZ_some ?_;refine hK.out _ _ ?_;clear hK;clear K)
    | (refine wpA_seqD cfg_ok mix msk (by decide +kernel) fun K hK=>?_)
    | (refine wpA_seq ?_)
    | (refine wpA_block ?_)
    | (refine thenR_normal ?_)
    | (refine thenR_ret ?_)
    | (refine thenR_exit ?_)
    | (refine blockR_normal ?_)
    | (refine blockR_ret ?_)
    | (refine blockR_same ?_)
    | (refine blockR_other rfl ?_)
    | (refine wpA_skip ?_)
    | (refine wpA_ret ?_)
    | (refine wpA_exit ?_)
    | (refine wpA_regD cfg_ok mix msk (by decide +kernel) fun K hK=>?_)
    | (refine hK.out _ _ _ _ _ (by first | (intro h;cases h;done) | (intro _;kernel_rfl)) ?_;clear hK;clear K;try simp only [dropA,Nat.reducePow,Nat.reduceDiv,Nat.reduceMod, ↓reduceIte,Nat.reduceOr,Nat.zero_ne_one])
    | (refine wpA_condD msk (by first | (simp -implicitDefEqProofs [*];done) | (simp -implicitDefEqProofs [*];rfl)) ?_;try simp only [dropA,Nat.reducePow,Nat.reduceDiv,Nat.reduceMod, ↓reduceIte,Nat.reduceOr,Nat.zero_ne_one])
    | (refine bodyR_ret (by first | (simp -implicitDefEqProofs [*];done) | (simp -implicitDefEqProofs [*];rfl)) ?_)
    | (refine bodyR_normal (by first | (simp -implicitDefEqProofs [*];done) | (simp -implicitDefEqProofs [*];rfl)) ?_)
    | (refine runM_id ?_;simp -implicitDefEqProofs)
    | (refine mV_id ?_;simp -implicitDefEqProofs [*])
    | (refine mG_id ?_;simp -implicitDefEqProofs [*])
    | (refine mD_id ?_;simp -implicitDefEqProofs [*])
    | (refine mQ_intro Cal.out ?_)
    | (refine mR_intro (fun _=>Cal.out) ?_)
    | (refine mR_no ?_)
    | (refine mQ_id ?_;simp -implicitDefEqProofs [*])
    | (refine mR_id ?_;simp -implicitDefEqProofs [*])
    | (refine goB_true ?_)
    | (refine goB_false ?_)
    | (refine headLD ld0 leS (by first | exact ⟨by first | exact Nat.zero_le _ | omega,by first | trivial | (simp -implicitDefEqProofs [*];done),by first | rfl | (simp -implicitDefEqProofs [*];done)⟩ | (simp -implicitDefEqProofs [*];done)) ?_;rintro x0 ⟨hi0,hs0,hn0⟩ ny0 nz0;(try simp only [headM,List.nil_append,List.cons_append,dropA,Nat.reducePow,Nat.reduceDiv,Nat.reduceMod, ↓reduceIte,Nat.reduceOr,Nat.zero_ne_one]);have hj0:x0.1 ≤ 4294967296:=by omega)
    | (refine headLD ld0 leS (by first | exact ⟨by first | exact Nat.zero_le _ | omega,by first | trivial | (simp -implicitDefEqProofs [*];done),by first | rfl | (simp -implicitDefEqProofs [*];done)⟩ | (simp -implicitDefEqProofs [*];done)) ?_;rintro x0 ⟨hi0,hs0,hn0⟩ ny0 nz0;(try simp only [headM,List.nil_append,List.cons_append,dropA,Nat.reducePow,Nat.reduceDiv,Nat.reduceMod, ↓reduceIte,Nat.reduceOr,Nat.zero_ne_one]);have hj0:x0 ≤ 4294967296:=by omega)
    | (refine headLD ld1 leS (by first | exact ⟨by first | exact Nat.zero_le _ | omega,by first | trivial | (simp -implicitDefEqProofs [*];done),by first | rfl | (simp -implicitDefEqProofs [*];done)⟩ | (simp -implicitDefEqProofs [*];done)) ?_;rintro x1 ⟨hi1,hs1,hn1⟩ ny1 nz1;(try simp only [headM,List.nil_append,List.cons_append,dropA,Nat.reducePow,Nat.reduceDiv,Nat.reduceMod, ↓reduceIte,Nat.reduceOr,Nat.zero_ne_one]);have hj1:x1.1 ≤ 4294967296:=by omega)
    | (refine headLD ld1 leS (by first | exact ⟨by first | exact Nat.zero_le _ | omega,by first | trivial | (simp -implicitDefEqProofs [*];done),by first | rfl | (simp -implicitDefEqProofs [*];done)⟩ | (simp -implicitDefEqProofs [*];done)) ?_;rintro x1 ⟨hi1,hs1,hn1⟩ ny1 nz1;(try simp only [headM,List.nil_append,List.cons_append,dropA,Nat.reducePow,Nat.reduceDiv,Nat.reduceMod, ↓reduceIte,Nat.reduceOr,Nat.zero_ne_one]);have hj1:x1 ≤ 4294967296:=by omega)
    | (refine goB_intro (fun h=>?_) (fun h=>?_) <;> (try simp only [Bool.not_eq_true',Bool.not_eq_false',Bool.not_eq_true,Bool.not_eq_false,Bool.and_eq_true,Bool.or_eq_false_iff,and_assoc,decide_eq_true_eq,decide_eq_false_iff_not,Nat.not_lt,Nat.not_le,Int.ofNat_lt,Int.ofNat_le,Int.not_lt,Int.not_le] at h) <;> (try have g:=ne_of_beqI h) <;> (repeat (have h':=And.left h;replace h:=And.right h)) <;> (try (have hz0:=Eq.symm hn0;rw [List.drop_eq_nil_of_le h] at hz0;simp -implicitDefEqProofs at hz0)) <;> (try (have hz1:=Eq.symm hn1;rw [List.drop_eq_nil_of_le h] at hz1;simp -implicitDefEqProofs at hz1)) <;> (try (have hz3:=Eq.symm hn3;rw [List.drop_eq_nil_of_le h] at hz3;simp -implicitDefEqProofs at hz3)) <;> (try (have hz0:=Eq.symm hn0;rw [hst0.out] at hz0;rw [dif_neg (by first | exact Nat.not_lt.mpr h | omega)] at hz0)) <;> (try (have hz1:=Eq.symm hn1;rw [hst1.out] at hz1;rw [dif_neg (by first | exact Nat.not_lt.mpr h | omega)] at hz1)) <;> (try (have hz2:=Eq.symm hn2;rw [hst2.out] at hz2;rw [dif_neg (by first | exact Nat.not_lt.mpr h | omega)] at hz2)) <;> (try (have hz3:=Eq.symm hn3;rw [hst3.out] at hz3;rw [dif_neg (by first | exact Nat.not_lt.mpr h | omega)] at hz3))))
   ·refine again_nx ny1 (by assumption) (by dsimp only;omega) ?_ leS
    rw [List.drop_eq_getElem_cons (by assumption),rowA] at hn1
    exact ⟨by dsimp only;omega,by dsimp only;rw [List.length_append,hs1];rfl,hn1⟩
   ·rw [List.drop_eq_nil_of_le (by omega),rowA] at hn1
    have hx1:x1.2=tameRow cols raw[x0.1]:=hn1.trans htar.symm
    rw [← htar] at hd
    rw [hx1]
    clear hx1 hn1 htar hT2
    refine again_nx ny0 ⟨h',h2⟩ (by dsimp only;omega) ?_ leS
    exact ⟨by dsimp only;omega,by dsimp only;rw [List.length_append,hs0];rfl,hd⟩
 ·intro x0 hi0 hs0 hn0 ny0 nz0 hj0
  first | intro h' h | intro h | skip
  refine ⟨?_⟩
  clear st0 st1
  have hd:x0.2=T:=by
   rw [← hn0]
   by_cases hi:x0.1 < raw.length
   ·have hk:¬ x0.1 < 8:=by
     simp only [decide_eq_true hi,Bool.true_and,decide_eq_false_iff_not] at h
     omega
    rw [List.drop_eq_getElem_cons hi,rowsA,if_neg hk]
   ·rw [List.drop_eq_nil_of_le (by omega),rowsA]
  rw [← hd]
  clear ld0 hn0 hd ny0 nz0 h hT ht
  exact walk⟩
end
section
attribute [local simp] wl0 wl1 wl2 wl3 wl4 wl5 wl6 wl7 wl8 wl9 wl10 wl11 wl12 wl13 wl14 wl15 wl16 wl17 wl18 wl19 wl20
attribute [local simp high] evalOp_fieldP
attribute [local simp] fldV_p fldV_agg aggP_agg aggP_col aggP_val aggP_expr
attribute [local simp] rws_nil rws_len rws_get rws_idx rws_ok wl1' wa1' ws1' rws_app
theorem cal29 (rawCols:List Col) (raws:List (List Val)) (ht:∀ r ∈ raws,∀ v ∈ r,v.text.size ≤ 4294967296):Cal 29 [.lst (Col.ps rawCols),.lst (rws raws),.int .i64 8] [.lst (Col.ps (tameCols rawCols)),.lst (rws (tameRows (tameCols rawCols) raws 8))]:=⟨by
 haveI c48:=cal48 rawCols
 haveI c74:=cal74 (tameCols rawCols) raws (tameCols_len _) ht
 clear ht
 have msk:Msk 65080 65080:=⟨⟩
 refine CallP.of_bodyN 16 cfg_ok Tryz.func29 rfl rfl (by kernel_rfl) fun base=>?_;simp only [mkA,Nat.reduceAdd]
 refine wpA_ok 0 rfl fun ok0=>?_
 refine wpA_ok 1 rfl fun ok1=>?_
 refine wpA_ok 2 rfl fun ok2=>?_
 exact walk⟩
theorem rowsA_len (cols : List Col) (m : Nat) : ∀ (l : List (List Val)) (i : Nat) (acc : List (List Val)), acc.length = i → i ≤ m → (rowsA cols m i acc l).length ≤ m
| [], i, acc, h, hi => by unfold rowsA; omega
| a :: t, i, acc, h, hi => by
  unfold rowsA
  split
  · exact rowsA_len cols m t _ _ (by simp [h]) (by omega)
  · omega
theorem law7_not (raw e0 e c x y:Expr) (rawCols C C':List Col) (raws R:List (List Val)) (bx by_:Bool) (c29:Cal 29 [.lst (Col.ps rawCols),.lst (rws raws),.int .i64 8] [.lst (Col.ps C),.lst (rws R)])
  (c14:Cal 14 [raw.p,.lst (Col.ps C),.int .i64 (w64 (1 + posI raw.m 3)),.bool false] [e0.p,.lst (Col.ps C')]) (c30:Cal 30 [e0.p,.lst (Col.ps C),.int .i64 (w64 (1 + posI raw.m 3)),.int .i64 5] [e.p]) (c30':Cal 30 [raw.p,.lst (Col.ps C),.int .i64 2,.int .i64 5] [c.p])
  (h16:Cal 16 [e.p,.lst (Col.ps C)] [(if bx then x else zeroE).p,.int .i64 (if bx then 0 else 2)]) (h23:Cal 23 [c.p,.lst (Col.ps C)] [(if by_ then y else zeroE).p,.int .i64 (if by_ then 0 else 2)])
  (hn:(bx && by_)=false) (c19:Cal 19 [] [.bool true]):Cal 7 [raw.p,.lst (Col.ps rawCols),.lst (rws raws)] [.bool true]:=by
 cases bx <;> cases by_
 ·simp only [Bool.false_eq_true,if_false] at h16 h23
  clear hn
  refine ⟨?_⟩
  have msk:Msk 548063113953894842469075702551787258110281778224 730750818665451459101842416358141509827964175408:=⟨⟩
  refine CallP.of_bodyN 159 cfg_ok Tryz.func7 rfl rfl (by kernel_rfl) fun base=>?_;simp only [mkA,Nat.reduceAdd]
  refine wpA_ok 0 rfl fun ok0=>?_
  refine wpA_ok 1 rfl fun ok1=>?_
  refine wpA_ok 2 rfl fun ok2=>?_
  exact walk
 ·simp only [Bool.false_eq_true,if_false,if_true] at h16 h23
  clear hn
  refine ⟨?_⟩
  have msk:Msk 548063113953894842469075702551787258110281778224 730750818665451459101842416358141509827964175408:=⟨⟩
  refine CallP.of_bodyN 159 cfg_ok Tryz.func7 rfl rfl (by kernel_rfl) fun base=>?_;simp only [mkA,Nat.reduceAdd]
  refine wpA_ok 0 rfl fun ok0=>?_
  refine wpA_ok 1 rfl fun ok1=>?_
  refine wpA_ok 2 rfl fun ok2=>?_
  exact walk
 ·simp only [Bool.false_eq_true,if_false,if_true] at h16 h23
  clear hn
  refine ⟨?_⟩
  have msk:Msk 548063113953894842469075702551787258110281778224 730750818665451459101842416358141509827964175408:=⟨⟩
  refine CallP.of_bodyN 159 cfg_ok Tryz.func7 rfl rfl (by kernel_rfl) fun base=>?_;simp only [mkA,Nat.reduceAdd]
  refine wpA_ok 0 rfl fun ok0=>?_
  refine wpA_ok 1 rfl fun ok1=>?_
  refine wpA_ok 2 rfl fun ok2=>?_
  exact walk
 ·cases hn
theorem law7_yes (raw e0 e c x y:Expr) (rawCols C C':List Col) (raws R:List (List Val)) (nx ny:Bool) (ve vy vc:Nat→Val) (c29:Cal 29 [.lst (Col.ps rawCols),.lst (rws raws),.int .i64 8] [.lst (Col.ps C),.lst (rws R)])
  (c14:Cal 14 [raw.p,.lst (Col.ps C),.int .i64 (w64 (1 + posI raw.m 3)),.bool false] [e0.p,.lst (Col.ps C')]) (c30:Cal 30 [e0.p,.lst (Col.ps C),.int .i64 (w64 (1 + posI raw.m 3)),.int .i64 5] [e.p]) (c30':Cal 30 [raw.p,.lst (Col.ps C),.int .i64 2,.int .i64 5] [c.p])
  (h16:Cal 16 [e.p,.lst (Col.ps C)] [x.p,.int .i64 0]) (h23:Cal 23 [c.p,.lst (Col.ps C)] [y.p,.int .i64 0]) (fx:form x=true) (fy:form y=true)
  (k32:Cal 32 [x.p,.lst (Col.ps C)] [(Col.mk (w64 (1 + posI raw.m 3)) nx).p,.bool true]) (k32':Cal 32 [y.p,.lst (Col.ps C)] [(Col.mk 2 ny).p,.bool true])
  (e33:∀ (i:Nat) (h:i < R.length),Cal 33 [e.p,.lst (Val.ps R[i])] [(ve i).p]) (x33:∀ (i:Nat) (h:i < R.length),Cal 33 [x.p,.lst (Val.ps R[i])] [(ve i).p])
  (y33:∀ (i:Nat) (h:i < R.length),Cal 33 [y.p,.lst (Val.ps R[i])] [(vy i).p]) (c33:∀ (i:Nat) (h:i < R.length),Cal 33 [c.p,.lst (Val.ps R[i])] [(vc i).p])
  (hRl : R.length ≤ 1000) (hv:∀ i,i < R.length→trueV (vy i)=trueV (vc i)) (c19:Cal 19 [] [.bool true]):Cal 7 [raw.p,.lst (Col.ps rawCols),.lst (rws raws)] [.bool true]:=⟨by
 generalize hkk:w64 (1 + posI raw.m 3)=kk at *
 have hkk':IntKind.wrap .i64 (1 + posI raw.m 3)=kk:=hkk
 have msk:Msk 548063113953894842469075702551787258110281778224 730750818665451459101842416358141509827964175408:=⟨⟩
 refine CallP.of_bodyN 159 cfg_ok Tryz.func7 rfl rfl (by kernel_rfl) fun base=>?_;simp only [mkA,Nat.reduceAdd]
 refine wpA_ok 0 rfl fun ok0=>?_
 refine wpA_ok 1 rfl fun ok1=>?_
 refine wpA_ok 2 rfl fun ok2=>?_
 have ld0:LD (σ:=Nat) 0 365375409327408817567781544687455526672862806080 [] (fun y_=>(fun i=>[(20,.p (.int .i64 i))]) y_) (fun y_=>(fun i=>[]) y_) (fun y_=>(fun i=>InvL (i ≤ (R).length) (True) (R.drop i=R.drop i)) y_) (fun y_=>(fun i=>(R).length - i) y_) (0) [] (fun y_=>(fun i=>i < (R).length) y_) (fun y_ (h:(fun i=>i < (R).length) y_)=>(fun i (h:i < (R).length)=>i + 1) y_ h) (fun y_ (h:(fun i=>i < (R).length) y_)=>(fun i (h:i < (R).length)=>i + 1) y_ h):=⟨⟩
 exact walk⟩
theorem law7 (raw:Expr) (rawCols:List Col) (raws:List (List Val)) (hr:rawE raw) (htx:txtE raw) (hlit:litR raw) (ht:∀ r ∈ raws,∀ v ∈ r,v.text.size ≤ 4294967296):Cal 7 [raw.p,.lst (Col.ps rawCols),.lst (rws raws)] [.bool true]:=by
 have c29:=cal29 rawCols raws ht
 have hC:=tameCols_areC rawCols
 have hCr:=tameCols_real rawCols
 have hCl:=tameCols_len rawCols
 have hRl : (tameRows (tameCols rawCols) raws 8).length ≤ 8 := rowsA_len (tameCols rawCols) 8 raws 0 [] rfl (by omega)
 have hR:=tameRows_mem (tameCols rawCols) 8 raws 0 [] (fun r h=>by cases h)
 generalize hCC:tameCols rawCols=C at *
 generalize hRR:tameRows C raws 8=R at *
 have hkk:real (w64 (1 + posI raw.m 3))=true:=by
  have h0:=posI_nonneg raw.m 3
  have h1:=posI_lt raw.m 3 (by decide)
  generalize posI raw.m 3=q at *
  have:q=0 ∨ q=1 ∨ q=2:=by omega
  rcases this with rfl | rfl | rfl <;> decide
 have c14:=cal14 raw C (w64 (1 + posI raw.m 3)) false hr
 have e14:oneE raw C (w64 (1 + posI raw.m 3)) false=cut420 raw:=rfl
 rw [e14] at c14
 have c30:=cal30 (cut420 raw) C hCl (w64 (1 + posI raw.m 3)) (by unfold cut420;exact cutE_txt)
 have c30':=cal30 raw C hCl 2 htx
 obtain ⟨hek,hef⟩:=tameIn_has (cols:=C) (cut420 raw) (w64 (1 + posI raw.m 3)) hkk 5 (by decide)
 obtain ⟨hck,hcf⟩:=tameIn_has (cols:=C) raw 2 rfl 5 (by decide)
 have hel:=tameIn_lit (cols:=C) (w64 (1 + posI raw.m 3)) 5 (raw:=cut420 raw) (by unfold cut420;exact cutE_lit _ (Nat.le_refl _) _ hlit)
 have hcl:=tameIn_lit (cols:=C) 2 5 hlit
 generalize tameIn C (cut420 raw) (w64 (1 + posI raw.m 3)) 5=e at *
 generalize tameIn C raw 2 5=c at *
 have size_of : ∀ (z : Expr) (k : Int), Has C z k → form z = true → z.size ≤ 500000 := by
  intro z k hz hf
  have hd := form_deep hf
  have hn : nodes z ≤ 400 := by simp only [form, Bool.and_eq_true, decide_eq_true_eq] at hf; exact hf.2
  obtain ⟨_, _, _, h4⟩ := nodes_deep (e := z) (by omega)
  have := h4 hn
  omega
 have c19:=call19
 obtain ⟨x,hx,_⟩:=simp_ex (wt e) (Nat.le_refl _) hek
 obtain ⟨y,hy,_⟩:=cond_ex hck
 have hxk:=simp_has hx hek
 have hyk:=cond_has hy hck
 have hxd:=Nat.le_trans (deep_simp hx) (form_deep hef)
 have hyd:=Nat.le_trans (deep_cond hy) (form_deep hcf)
 have h16:=cal16_ok e x C (wf_bare hek.wf) (size_of e _ hek hef) (has_bad hek hef hC false (fun h=>by cases h)) hx
 have h23:=cal23_ok c C y (wf_bare hck.wf) (size_of c _ hck hcf) (has_bad hck hcf hC true (fun _=>rfl)) hy
 cases hfx:(fitE 400 1 x).1 with
 | false=>rw [hfx] at h16;exact law7_not raw _ e c x y rawCols C _ raws R _ _ c29 c14 c30 c30' h16 h23 (by simp) c19
 | true=>
  cases hfy:(fitE 400 1 y).1 with
  | false=>rw [hfx] at h16;rw [hfy] at h23;exact law7_not raw _ e c x y rawCols C _ raws R _ _ c29 c14 c30 c30' h16 h23 (by simp) c19
  | true=>
   rw [hfx] at h16
   rw [hfy] at h23
   have fx:=(again_ok hxk hxd hfx).1
   have fy:=(again_ok hyk hyd hfy).1
   have k32:∀ {z:Expr} {k:Int},Has C z k→∃ n,Cal 32 [z.p,.lst (Col.ps C)] [(Col.mk k n).p,.bool true]:=fun {z k} hz=>by
    have h:=cal32 z C hz.wf
    have h1:=hz.ok
    have h2:=hz.kind
    unfold okk at h1
    unfold kd at h2
    rw [h1] at h
    obtain ⟨kk,n⟩:Col:=(kindE C z).1
    refine ⟨(kindE C z).1.null,?_⟩
    have:(kindE C z).1=⟨k,(kindE C z).1.null⟩:=by rw [← h2]
    rw [this] at h
    exact h
   obtain ⟨nx,kx⟩:=k32 hxk
   obtain ⟨ny,ky⟩:=k32 hyk
   have row:∀ (i:Nat) (h:i < R.length),FitR C R[i]∧(∀ v ∈ R[i],inI v)∧R[i].length=C.length:=fun i h=>by
    obtain ⟨s,hs⟩:=hR R[i] (by rw [show rowsA C 8 0 [] raws=R from hRR];exact List.getElem_mem h)
    rw [hs];exact tameRow_fit hCr s
   have ev:∀ {z:Expr} {k:Int},Has C z k→∀ (i:Nat) (h:i < R.length),Cal 33 [z.p,.lst (Val.ps R[i])] [(evalE (R.getD i []) z).p]:=fun {z k} hz i h=>by
    have:=cal33 (row i h).1 (row i h).2.2 z.size z (Nat.le_refl _) hz
    rw [show R.getD i []=R[i] by simp [List.getD_eq_getElem?_getD,h]]
    exact this
   refine law7_yes raw _ e c x y rawCols C _ raws R nx ny (fun i=>evalE (R.getD i []) e) (fun i=>evalE (R.getD i []) y) (fun i=>evalE (R.getD i []) c) c29 c14 c30 c30' h16 h23 fx fy kx ky (ev hek) (fun i h=>?_) (ev hyk) (ev hck) (Nat.le_trans hRl (by decide)) (fun i h=>?_) c19
   ·have h1:=ev hxk i h
    have h2:=(simp_eval (row i h).1 (row i h).2.1 hx hek hel).2
    rw [show R.getD i []=R[i] by simp [List.getD_eq_getElem?_getD,h]] at h1 ⊢
    rw [h2] at h1
    exact h1
   ·have h2:=(cond_eval (row i h).1 (row i h).2.1 hy hck hcl).2
    show trueV (evalE (R.getD i []) y)=trueV (evalE (R.getD i []) c)
    rw [show R.getD i []=R[i] by simp [List.getD_eq_getElem?_getD,h]]
    exact h2
end
end Go.Proofs.YtgiedlcjlalpcaaGreat
