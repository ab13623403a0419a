/- Part of a proof: S1 V1 E7 E8. -/
import Derived.Test.YtgiedlcjlalpcaaGreatPb07
import Derived.Test.YtgiedlcjlalpcaaGreatPb08
import Derived.Test.YtgiedlcjlalpcaaGreatPb12
import Derived.Test.YtgiedlcjlalpcaaGreatPb13
import Derived.Test.YtgiedlcjlalpcaaGreatPb15
import Derived.Test.YtgiedlcjlalpcaaGreatPb18
set_option linter.all false
namespace Go.Proofs.YtgiedlcjlalpcaaGreat
open Go.Abs
set_option maxRecDepth 100000
set_option maxHeartbeats 4000000
attribute [local irreducible] wpA Again LeJ
attribute [local simp high] mkT_getD
attribute [local simp] runM_nil runM_cons mG_some mC_none mC_un mC_gd mV_some mV_none mD_some mP_some mP_none pickV_bool pickV_int specE_pick specE_move specE_assign specE_alloc specE_box specE_build specE_buildSlice specE_load specE_store specE_nilCheck specE_binOp specE_unOp specE_convert specE_makeFunc specE_slice specE_fieldAddr specE_field specE_indexAddr specE_index specE_extract specE_call cond_false_r cond_true_m callPure touches_move touches_assign touches_box touches_load touches_nilCheck touches_unOp touches_convert touches_fieldAddr touches_field touches_extract touches_pick touches_store touches_binOp touches_indexAddr touches_index touches_alloc touches_build touches_buildSlice touches_makeFunc touches_slice touches_call touches_builtin V.names V.namesL callOf_fn callOf_builtin callOf callResW cfg_imp wantedA evalOp_move evalOp_assign evalOp_pick evalOp_alloc evalOp_box evalOp_build evalOp_buildSlice evalOp_load evalOp_store evalOp_nilCheck evalOp_binOp evalOp_unOp evalOp_convert evalOp_makeFunc evalOp_slice evalOp_fieldAddr evalOp_field evalOp_indexAddr evalOp_index evalOp_extract evalOp_builtin opnd_tmp opnd_const opnd_func headM dropA mkT_set mkT_idx mkT_get mkT_len lookA more_true more_false constV boolV St.put getB setB V.cells cells_agg cells_int cells_bool cells_str cells_lst cells_fn cells_nilp cells_nilf cells_nilm cells_imm cells_obj cells_imap mkAgg mkFn allP partV partP placesOf fillV spliceV Ty.agg oneV oneP natOf binV_int binV_str binV_bool_eql binV_ptr_nil_eql binV_ptr_imm_eql binV_ptr_obj_eql binV_ptr_ref_eql binV_func_nil_eql binV_func_fn_eql binV_func_fv_eql binV_bool_neq binV_ptr_nil_neq binV_ptr_imm_neq binV_ptr_obj_neq binV_ptr_ref_neq binV_func_nil_neq binV_func_fn_neq binV_func_fv_neq intBin strBin cfg_ty callRes toP toPs resV addedP appendV partsToP resultPs resultVs St.head roomFor_of wrap_succ wrap_nat sizesOk_nil sizesOk_cons elemOk_int elemOk_bool elemOk_str elemOk_lst elemOk_fn List.getElem?_eq_getElem bne w64 val_cells val_fold val_eta col_cells col_fold col_eta rel_cells expr_cells expr_fold expr_fold0 expr_fold1 expr_fold2 expr_eta expr_op expr_n expr_m expr_kind expr_lit expr_args expr_rels eps_nil eps_len eps_get eps_app eps_take eps_drop eps_ok vps_nil vps_len vps_get vps_app vps_take vps_drop vps_ok cps_nil cps_len cps_get cps_app cps_take cps_drop cps_ok rps_nil rps_len rps_get eps_idx vps_idx cps_idx rps_idx ips_nil ips_len ips_get ips_idx ips_ok elemOk_e elemOk_v elemOk_c ips_app ips_take ips_drop el1 ea1 es1 el2 ea2 es2 el3 ea3 es3 elc eac vl1 va1 vs1 vl2 va2 vs2 vl3 va3 vs3 vlc vac cl1 ca1 cs1 cl2 ca2 cs2 cl3 ca3 cs3 clc cac il1 ia1 is1 il2 ia2 is2 il3 ia3 is3 ilc iac binV_val_eql binV_val_neq binV_col_eql ty2 ty3 ty4 ty5 ty9 ty22 ty23 ty25 ty26 ty27 ty29 ty30 ty34 ty43 ty52 ty57 ty61 ty75 ty86 ty87 ty102 ty131 ty132 ty134 ty135 ty137 ty138 ty141 ty149 ty152 ty156 ty159 ty160 ty172 ty176 ty184 ty185 ty186 ty187 ty189 ty204 ty211 ty221 ty222 ty242 ty259
section
attribute [local simp] wl0 wl1 wl2 wl3 wl4 wl5 wl6 wl7 wl8 wl9 wl10 wl11 wl12 wl13 wl14 wl15 wl16 wl17 wl18 wl19 wl20
attribute [local simp high] evalOp_fieldP
attribute [local simp] ty140
attribute [local simp] fldV_p fldV_agg aggP_agg aggP_col aggP_val aggP_expr
theorem stepPs_len (c:P):(stepPs c).length=12:=rfl
theorem stepPs_get (c:P) (i:Nat) (h:i < 12):(stepPs c)[i]? = some (.fn (.func (142 + i)) [.obj 0 [c] 0] []):=by
 match i,h with
 | 0,_=>rfl | 1,_=>rfl | 2,_=>rfl | 3,_=>rfl | 4,_=>rfl | 5,_=>rfl | 6,_=>rfl | 7,_=>rfl | 8,_=>rfl | 9,_=>rfl | 10,_=>rfl | 11,_=>rfl
 | i + 12,h=>omega
theorem stepPs_idx (c:P) (i:Nat) (h:i < (stepPs c).length):(stepPs c)[i] = .fn (.func (142 + i)) [.obj 0 [c] 0] []:=by
 have:=stepPs_get c i h
 rw [List.getElem?_eq_getElem h] at this
 exact Option.some.inj this
theorem stepPs_ok (c:P):sizesOk 1 (stepPs c)=true:=rfl
attribute [local simp] cfg_obj0 stepPs_len stepPs_idx stepPs_ok
attribute [local simp] firstOf in
theorem s51 (e:Expr) (cols:List Col) (xs:List Expr) (hl:e.args.length=xs.length) (h16:xs.length ≤ 16) (y:Expr) (rs:List (Expr × Bool)) (hrs:rs.length=12)
  (hcal:∀ (i:Nat) (h:i < rs.length),Cal (142 + i) [L cols,(Expr.mk e.op e.n e.m e.kind e.lit xs e.rels).p] [(rs[i]).1.p,.bool (rs[i]).2])
  (rec51:∀ (i:Nat) (h1:i < e.args.length) (h2:i < xs.length),Cal 51 [L cols,e.args[i].p] [(xs[i]'h2).p])
  (hgo:(firstOf (Expr.mk e.op e.n e.m e.kind e.lit xs e.rels) rs).2=true→Cal 51 [L cols,(firstOf (Expr.mk e.op e.n e.m e.kind e.lit xs e.rels) rs).1.p] [y.p])
  (hno:(firstOf (Expr.mk e.op e.n e.m e.kind e.lit xs e.rels) rs).2=false→y=Expr.mk e.op e.n e.m e.kind e.lit xs e.rels):Cal 51 [L cols,e.p] [y.p]:=⟨by
 unfold L at *
 haveI rec51':∀ (i:Nat) (h1:i < e.args.length),Cal 51 [.obj 0 [.lst (Col.ps cols)] 0,e.args[i].p] [(xs[i]'(by omega)).p]:=fun i h1=>rec51 i h1 (by omega)
 clear rec51
 have hr:∀ i,i < xs.length→roomFor (i + 1) 112=true:=fun i _=>roomFor_of (by omega) (by decide)
 have msk:Msk 554121648017732 562934920974660:=⟨⟩
 refine CallP.of_bodyN 49 cfg_ok Tryz.func51 rfl rfl (by kernel_rfl) fun base=>?_;simp only [mkA,Nat.reduceAdd]
 refine wpA_ok 0 rfl fun ok0=>?_
 refine wpA_ok 1 rfl fun ok1=>?_
 have fz0:FZ 7 5:=⟨⟩
 have ld0:LD (σ:=Nat × List Expr) 0 67076256 [7,23] (fun y_=>(fun i acc=>[(15,.p (.int .i64 i)),(5,.own 24 i)]) y_.1 y_.2) (fun y_=>(fun i acc=>[(24,.arr 9 (Expr.ps acc) false)]) y_.1 y_.2) (fun y_=>(fun i acc=>InvL (i ≤ (xs).length) (acc.length=i) (acc ++ xs.drop i=xs)) y_.1 y_.2) (fun y_=>(fun i acc=>(xs).length - i) y_.1 y_.2) ((0,[])) [24] (fun y_=>(fun i acc=>i < (xs).length) y_.1 y_.2) (fun y_ (h:(fun i acc=>i < (xs).length) y_.1 y_.2)=>(fun i acc (h:i < (xs).length)=>(i + 1,acc ++ [xs[i]])) y_.1 y_.2 h) (fun y_ (h:(fun i acc=>i < (xs).length) y_.1 y_.2)=>(fun i acc (h:i < (xs).length)=>(i + 1,acc ++ [xs[i]])) y_.1 y_.2 h):=⟨⟩
 have st0:Stop 8:=⟨⟩
 refine walkX ?_ trivial
 intro x0 hi0 hs0 hn0 ny0 nz0 hj0
 first | intro h' h | intro h | skip
 refine ⟨?_⟩
 obtain ⟨i0,acc⟩:=x0
 dsimp only at *
 have hx:xs=acc:=by
  rw [List.drop_eq_nil_of_le h,List.append_nil] at hn0
  exact hn0.symm
 subst hx
 (try clear hz0)
 clear hn0 hs0 hi0 hj0 ny0 nz0 ld0 fz0 st0 rec51' hr
 have pc0:∀ {i:Nat} (h:i < rs.length),CallP cfg Tryz.prog (142 + i) [.obj 0 [.lst (Col.ps cols)] 0,(Expr.mk e.op e.n e.m e.kind e.lit xs e.rels).p] [(rs[i]).1.p,.bool (rs[i]).2]:=fun h=>(hcal _ h).out
 have pc1:∀ {i:Nat} {h1:i < rs.length} (h:(rs[i]'h1).2=true∧firstOf (Expr.mk e.op e.n e.m e.kind e.lit xs e.rels) (rs.drop i)=firstOf (Expr.mk e.op e.n e.m e.kind e.lit xs e.rels) rs),CallP cfg Tryz.prog 51 [.obj 0 [.lst (Col.ps cols)] 0,(rs[i]'h1).1.p] [y.p]:=fun {i} {h1} h=>by
  have h2:=h.2
  rw [List.drop_eq_getElem_cons h1,firstOf,if_pos h.1] at h2
  have h3:=hgo (by rw [← h2])
  rw [← h2] at h3
  exact h3.out
 clear hcal hgo
 have ld1:LD (σ:=Nat) 2 281466386779648 [10] (fun y_=>(fun i=>[(33,.p (.int .i64 i))]) y_) (fun y_=>(fun i=>[]) y_) (fun y_=>(fun i=>InvL (i ≤ (rs).length) (True) (firstOf (Expr.mk e.op e.n e.m e.kind e.lit xs e.rels) (rs.drop i)=firstOf (Expr.mk e.op e.n e.m e.kind e.lit xs e.rels) rs)) y_) (fun y_=>(fun i=>(rs).length - i) y_) (0) [] (fun y_=>(fun i=>i < (rs).length) y_) (fun y_ (h:(fun i=>i < (rs).length) y_)=>(fun i (h:i < (rs).length)=>i + 1) y_ h) (fun y_ (h:(fun i=>i < (rs).length) y_)=>(fun i (h:i < (rs).length)=>i + 1) y_ h):=⟨⟩
 have st0:Stop 10:=⟨⟩
 repeat' (first
  | (refine wpA_stopS st0 ?_)
  | (refine wpA_stopR st0 ?_)
  | (refine wpA_seqZ fz0 (by rfl) (by rfl) fun K hK=>?_;refine goZ_id ?_;simp -implicitDefEqProofs [*];refine goZ_some ?_;refine hK.out _ _ ?_;clear hK;clear K)
  | (refine wpA_regZ fz0 (by rfl) (by rfl) fun K hK=>?_;refine goZ_id ?_;simp -implicitDefEqProofs [*];refine goZ_some ?_;refine hK.out _ _ ?_;clear hK;clear K)
  | (refine wpA_seqD cfg_ok mix msk (by decide +kernel) fun K hK=>?_)
  | (refine wpA_seq ?_)
  | (refine wpA_block ?_)
  | (refine thenR_normal ?_)
  | (refine thenR_ret ?_)
  | (refine thenR_exit ?_)
  | (refine blockR_normal ?_)
  | (refine blockR_ret ?_)
  | (refine blockR_same ?_)
  | (refine blockR_other rfl ?_)
  | (refine wpA_skip ?_)
  | (refine wpA_ret ?_)
  | (refine wpA_exit ?_)
  | (refine wpA_regD cfg_ok mix msk (by decide +kernel) fun K hK=>?_)
  | (refine hK.out _ _ _ _ _ (by first | (intro h;cases h;done) | (intro _;kernel_rfl)) ?_;clear hK;clear K;try simp only [dropA,Nat.reducePow,Nat.reduceDiv,Nat.reduceMod, ↓reduceIte,Nat.reduceOr,Nat.zero_ne_one])
  | (refine wpA_condD msk (by first | (simp -implicitDefEqProofs [*];done) | (simp -implicitDefEqProofs [*];rfl)) ?_;try simp only [dropA,Nat.reducePow,Nat.reduceDiv,Nat.reduceMod, ↓reduceIte,Nat.reduceOr,Nat.zero_ne_one])
  | (refine bodyR_ret (by first | (simp -implicitDefEqProofs [*];done) | (simp -implicitDefEqProofs [*];rfl)) ?_)
  | (refine bodyR_normal (by first | (simp -implicitDefEqProofs [*];done) | (simp -implicitDefEqProofs [*];rfl)) ?_)
  | (refine runM_id ?_;simp -implicitDefEqProofs)
  | (refine mV_id ?_;simp -implicitDefEqProofs [*])
  | (refine mG_id ?_;simp -implicitDefEqProofs [*])
  | (refine mD_id ?_;simp -implicitDefEqProofs [*])
  | (refine mQ_intro Cal.out ?_)
  | (refine mR_intro (fun _=>Cal.out) ?_)
  | (refine mR_no ?_)
  | (refine mQ_intro (pc0 (by first | assumption | omega | (simp -implicitDefEqProofs [*];done) | (simp -implicitDefEqProofs;omega))) ?_)
  | (refine mR_intro (fun hw=>pc0 (by first | assumption | omega | (simp -implicitDefEqProofs [*];done) | (simp -implicitDefEqProofs at hw;simp -implicitDefEqProofs [*];done))) ?_)
  | (refine mQ_intro (pc1 (by first | assumption | omega | (simp -implicitDefEqProofs [*];done) | (simp -implicitDefEqProofs;omega))) ?_)
  | (refine mR_intro (fun hw=>pc1 (by first | assumption | omega | (simp -implicitDefEqProofs [*];done) | (simp -implicitDefEqProofs at hw;simp -implicitDefEqProofs [*];done))) ?_)
  | (refine mQ_id ?_;simp -implicitDefEqProofs [*])
  | (refine mR_id ?_;simp -implicitDefEqProofs [*])
  | (refine goB_true ?_)
  | (refine goB_false ?_)
  | (refine headLD ld0 leS (by first | exact ⟨by first | exact Nat.zero_le _ | omega,by first | trivial | (simp -implicitDefEqProofs [*];done),by first | rfl | (simp -implicitDefEqProofs [*];done)⟩ | (simp -implicitDefEqProofs [*];done)) ?_;rintro x0 ⟨hi0,hs0,hn0⟩ ny0 nz0;(try simp only [headM,List.nil_append,List.cons_append,dropA,Nat.reducePow,Nat.reduceDiv,Nat.reduceMod, ↓reduceIte,Nat.reduceOr,Nat.zero_ne_one]);have hj0:x0.1 ≤ 4294967296:=by omega)
  | (refine headLD ld0 leS (by first | exact ⟨by first | exact Nat.zero_le _ | omega,by first | trivial | (simp -implicitDefEqProofs [*];done),by first | rfl | (simp -implicitDefEqProofs [*];done)⟩ | (simp -implicitDefEqProofs [*];done)) ?_;rintro x0 ⟨hi0,hs0,hn0⟩ ny0 nz0;(try simp only [headM,List.nil_append,List.cons_append,dropA,Nat.reducePow,Nat.reduceDiv,Nat.reduceMod, ↓reduceIte,Nat.reduceOr,Nat.zero_ne_one]);have hj0:x0 ≤ 4294967296:=by omega)
  | (refine headLD ld1 leS (by first | exact ⟨by first | exact Nat.zero_le _ | omega,by first | trivial | (simp -implicitDefEqProofs [*];done),by first | rfl | (simp -implicitDefEqProofs [*];done)⟩ | (simp -implicitDefEqProofs [*];done)) ?_;rintro x1 ⟨hi1,hs1,hn1⟩ ny1 nz1;(try simp only [headM,List.nil_append,List.cons_append,dropA,Nat.reducePow,Nat.reduceDiv,Nat.reduceMod, ↓reduceIte,Nat.reduceOr,Nat.zero_ne_one]);have hj1:x1.1 ≤ 4294967296:=by omega)
  | (refine headLD ld1 leS (by first | exact ⟨by first | exact Nat.zero_le _ | omega,by first | trivial | (simp -implicitDefEqProofs [*];done),by first | rfl | (simp -implicitDefEqProofs [*];done)⟩ | (simp -implicitDefEqProofs [*];done)) ?_;rintro x1 ⟨hi1,hs1,hn1⟩ ny1 nz1;(try simp only [headM,List.nil_append,List.cons_append,dropA,Nat.reducePow,Nat.reduceDiv,Nat.reduceMod, ↓reduceIte,Nat.reduceOr,Nat.zero_ne_one]);have hj1:x1 ≤ 4294967296:=by omega)
  | (refine goB_intro (fun h=>?_) (fun h=>?_) <;> (try simp only [Bool.not_eq_true',Bool.not_eq_false',Bool.not_eq_true,Bool.not_eq_false,Bool.and_eq_true,Bool.or_eq_false_iff,and_assoc,decide_eq_true_eq,decide_eq_false_iff_not,Nat.not_lt,Nat.not_le,Int.ofNat_lt,Int.ofNat_le,Int.not_lt,Int.not_le] at h) <;> (try have g:=ne_of_beqI h) <;> (repeat (have h':=And.left h;replace h:=And.right h)) <;> (try (have hz0:=Eq.symm hn0;rw [List.drop_eq_nil_of_le h] at hz0;simp -implicitDefEqProofs at hz0)) <;> (try (have hz1:=Eq.symm hn1;rw [List.drop_eq_nil_of_le h] at hz1;simp -implicitDefEqProofs at hz1)) <;> (try (have hz3:=Eq.symm hn3;rw [List.drop_eq_nil_of_le h] at hz3;simp -implicitDefEqProofs at hz3)) <;> (try (have hz0:=Eq.symm hn0;rw [hst0.out] at hz0;rw [dif_neg (by first | exact Nat.not_lt.mpr h | omega)] at hz0)) <;> (try (have hz1:=Eq.symm hn1;rw [hst1.out] at hz1;rw [dif_neg (by first | exact Nat.not_lt.mpr h | omega)] at hz1)) <;> (try (have hz2:=Eq.symm hn2;rw [hst2.out] at hz2;rw [dif_neg (by first | exact Nat.not_lt.mpr h | omega)] at hz2)) <;> (try (have hz3:=Eq.symm hn3;rw [hst3.out] at hz3;rw [dif_neg (by first | exact Nat.not_lt.mpr h | omega)] at hz3))))
 all_goals try (first
  | rfl
  | (refine again_nx ny1 (by first | assumption | omega | (dsimp only;omega)) (by first | omega | (dsimp only;omega)) ?_ leS;dsimp only;(first | rw [List.drop_eq_getElem_cons (by assumption)] at hn1 | rw [hst1.out] at hn1);refine ⟨by omega,by first | trivial | omega | (simp -implicitDefEqProofs [*];done) | (simp -implicitDefEqProofs;omega),?_⟩;first | (simpa -implicitDefEqProofs [*] using hn1) | (rw [← hn1];clear hn1;simp -implicitDefEqProofs [*];done))
  | (refine again_nx nz1 (by first | assumption | omega | (dsimp only;omega)) (by first | omega | (dsimp only;omega)) ?_ leS;dsimp only;(first | rw [List.drop_eq_getElem_cons (by assumption)] at hn1 | rw [hst1.out] at hn1);refine ⟨by omega,by first | trivial | omega | (simp -implicitDefEqProofs [*];done) | (simp -implicitDefEqProofs;omega),?_⟩;first | (simpa -implicitDefEqProofs [*] using hn1) | (rw [← hn1];clear hn1;simp -implicitDefEqProofs [*];done))
  | (refine again_nx ny0 (by first | assumption | omega | (dsimp only;omega)) (by first | omega | (dsimp only;omega)) ?_ leS;dsimp only;(first | rw [List.drop_eq_getElem_cons (by assumption)] at hn0 | rw [hst0.out] at hn0);refine ⟨by omega,by first | trivial | omega | (simp -implicitDefEqProofs [*];done) | (simp -implicitDefEqProofs;omega),?_⟩;first | (simpa -implicitDefEqProofs [*] using hn0) | (rw [← hn0];clear hn0;simp -implicitDefEqProofs [*];done))
  | (refine again_nx nz0 (by first | assumption | omega | (dsimp only;omega)) (by first | omega | (dsimp only;omega)) ?_ leS;dsimp only;(first | rw [List.drop_eq_getElem_cons (by assumption)] at hn0 | rw [hst0.out] at hn0);refine ⟨by omega,by first | trivial | omega | (simp -implicitDefEqProofs [*];done) | (simp -implicitDefEqProofs;omega),?_⟩;first | (simpa -implicitDefEqProofs [*] using hn0) | (rw [← hn0];clear hn0;simp -implicitDefEqProofs [*];done))
  | (simp -implicitDefEqProofs [*];done)
  | ((first | rw [List.drop_eq_getElem_cons (by assumption)] at hn1 | rw [List.drop_eq_nil_of_le (by assumption)] at hn1 | rw [hst1.out] at hn1);rw [← hn1];first | rfl | (simp -implicitDefEqProofs [*];done))
  | ((first | rw [List.drop_eq_getElem_cons (by assumption)] at hn0 | rw [List.drop_eq_nil_of_le (by assumption)] at hn0 | rw [hst0.out] at hn0);rw [← hn0];first | rfl | (simp -implicitDefEqProofs [*];done))
  | ((first | rw [List.drop_eq_getElem_cons (by assumption)] at hn1 | rw [List.drop_eq_nil_of_le (by assumption)] at hn1 | rw [hst1.out] at hn1);(try simp -implicitDefEqProofs [*] at hn1);(try simp -implicitDefEqProofs);grind)
  | ((first | rw [List.drop_eq_getElem_cons (by assumption)] at hn0 | rw [List.drop_eq_nil_of_le (by assumption)] at hn0 | rw [hst0.out] at hn0);(try simp -implicitDefEqProofs [*] at hn0);(try simp -implicitDefEqProofs);grind)
  | (rcases Nx.em ny1 with hq | hq <;> (try simp only [Nat.not_lt] at hq) <;> (first | (rw [List.drop_eq_getElem_cons hq] at hn1;rw [← hn1];(try simp [hq] at h);first | (simp -implicitDefEqProofs [*];done) | (simp -implicitDefEqProofs;grind) | grind) | (rw [List.drop_eq_nil_of_le hq] at hn1;rw [← hn1];first | rfl | (simp -implicitDefEqProofs [*];done) | (simp -implicitDefEqProofs;grind) | grind) | (rw [hst1.out] at hn1;rw [← hn1];(try simp [hq] at h);first | rfl | (simp -implicitDefEqProofs [*];done) | (simp -implicitDefEqProofs [*];grind) | grind)))
  | (rcases Nx.em ny0 with hq | hq <;> (try simp only [Nat.not_lt] at hq) <;> (first | (rw [List.drop_eq_getElem_cons hq] at hn0;rw [← hn0];(try simp [hq] at h);first | (simp -implicitDefEqProofs [*];done) | (simp -implicitDefEqProofs;grind) | grind) | (rw [List.drop_eq_nil_of_le hq] at hn0;rw [← hn0];first | rfl | (simp -implicitDefEqProofs [*];done) | (simp -implicitDefEqProofs;grind) | grind) | (rw [hst0.out] at hn0;rw [← hn0];(try simp [hq] at h);first | rfl | (simp -implicitDefEqProofs [*];done) | (simp -implicitDefEqProofs [*];grind) | grind)))
  | (simp -implicitDefEqProofs [*];grind) | grind | (simp_all -implicitDefEqProofs;done))
 ·refine ⟨?_⟩
  clear st0
  have hx1:x1 < rs.length:=by omega
  have hx2:(x1:Int) < 12:=by omega
  have hg:=stepPs_get (.lst (Col.ps cols)) x1 (by omega)
  exact walkX trivial trivial
 ·have hn2:=hn1
  rw [List.drop_eq_nil_of_le (by omega)] at hn2
  rw [hno (by rw [← hn2];rfl)]⟩
theorem cal51 {cols:List Col} {e y:Expr} (hs:Simp cols e y):∀ {k:Int},Has cols e k→Cal 51 [L cols,e.p] [y.p]:=by
 induction hs with
 | stay e xs hl h hs ih=>
  intro k hk
  have hA:Has cols (setA e xs) k:=has_args hk hl fun i h1 h2=>simp_has (h i h1 h2) (arg_has hk (List.getElem_mem h1))
  obtain ⟨rs,hr,hc,ha⟩:=step_law hA
  refine s51 e cols xs hl (by have:=wf_len hk.wf;omega) (setA e xs) rs hr hc (fun i h1 h2=>ih i h1 h2 (arg_has hk (List.getElem_mem h1))) (fun hq=>?_) (fun _=>rfl)
  have hq':(firstOf (setA e xs) rs).2=true:=hq
  rw [ha.1,hs] at hq'
  cases hq'
 | go e xs y hl h hs hy ih ihy=>
  intro k hk
  have hA:Has cols (setA e xs) k:=has_args hk hl fun i h1 h2=>simp_has (h i h1 h2) (arg_has hk (List.getElem_mem h1))
  obtain ⟨rs,hr,hc,ha⟩:=step_law hA
  refine s51 e cols xs hl (by have:=wf_len hk.wf;omega) y rs hr hc (fun i h1 h2=>ih i h1 h2 (arg_has hk (List.getElem_mem h1))) (fun _=>?_) (fun hq=>?_)
  ·have h1:=ihy (step_has hA hs)
   rw [← ha.2 hs] at h1
   exact h1
  ·have hq':(firstOf (setA e xs) rs).2=false:=hq
   rw [ha.1,hs] at hq'
   cases hq'
end
section
attribute [local simp] wl0 wl1 wl2 wl3 wl4 wl5 wl6 wl7 wl8 wl9 wl10 wl11 wl12 wl13 wl14 wl15 wl16 wl17 wl18 wl19 wl20
attribute [local simp high] evalOp_fieldP
attribute [local simp] fldV_p fldV_agg aggP_agg aggP_col aggP_val aggP_expr
section
variable (e s y:Expr) (cols:List Col) (c51:Cal 51 [L cols,e.p] [s.p])
theorem s59_lit (c51:Cal 51 [L cols,e.p] [s.p]) (h:s.op=3):Cal 59 [L cols,e.p] [(truthE (isTrue s)).p]:=⟨by
 unfold L at *
 have msk:Msk 18815670475475123949380 18889461955644534812484:=⟨⟩
 refine CallP.of_bodyN 74 cfg_ok Tryz.func59 rfl rfl (by kernel_rfl) fun base=>?_;simp only [mkA,Nat.reduceAdd]
 refine wpA_ok 0 rfl fun ok0=>?_
 refine wpA_ok 1 rfl fun ok1=>?_
 exact walk⟩
theorem s59_istrue (c51:Cal 51 [L cols,e.p] [s.p]) (h:s.op=23) (a:Expr) (ha:s.args=[a]) (c59:Cal 59 [L cols,a.p] [y.p]):Cal 59 [L cols,e.p] [y.p]:=⟨by
 unfold L at *
 have msk:Msk 18815670475475123949380 18889461955644534812484:=⟨⟩
 refine CallP.of_bodyN 74 cfg_ok Tryz.func59 rfl rfl (by kernel_rfl) fun base=>?_;simp only [mkA,Nat.reduceAdd]
 refine wpA_ok 0 rfl fun ok0=>?_
 refine wpA_ok 1 rfl fun ok1=>?_
 exact walk⟩
theorem s59_coal (c51:Cal 51 [L cols,e.p] [s.p]) (h:s.op=25) (a b:Expr) (ha:s.args=[a,b]) (hb:isFalse b=true) (c59:Cal 59 [L cols,a.p] [y.p]):Cal 59 [L cols,e.p] [y.p]:=⟨by
 unfold L at *
 have msk:Msk 18815670475475123949380 18889461955644534812484:=⟨⟩
 refine CallP.of_bodyN 74 cfg_ok Tryz.func59 rfl rfl (by kernel_rfl) fun base=>?_;simp only [mkA,Nat.reduceAdd]
 refine wpA_ok 0 rfl fun ok0=>?_
 refine wpA_ok 1 rfl fun ok1=>?_
 exact walk⟩
theorem s59_else (c51:Cal 51 [L cols,e.p] [s.p]) (h3:(s.op == 3)=false) (h23:(s.op == 23)=false) (h19:(s.op == 19)=false) (h20:(s.op == 20)=false) (h25:(s.op == 25)=false):Cal 59 [L cols,e.p] [s.p]:=⟨by
 unfold L at *
 have msk:Msk 18815670475475123949380 18889461955644534812484:=⟨⟩
 refine CallP.of_bodyN 74 cfg_ok Tryz.func59 rfl rfl (by kernel_rfl) fun base=>?_;simp only [mkA,Nat.reduceAdd]
 refine wpA_ok 0 rfl fun ok0=>?_
 refine wpA_ok 1 rfl fun ok1=>?_
 exact walk⟩
theorem s59_coal1 (n m k:Int) (v:Val) (a b c:Expr) (l:List Expr) (r:List Rel) (c51:Cal 51 [L cols,e.p] [(Expr.mk 25 n m k v (a :: b :: c :: l) r).p]):Cal 59 [L cols,e.p] [(Expr.mk 25 n m k v (a :: b :: c :: l) r).p]:=⟨by
 unfold L at *
 have hl:(((l.length:Int) + 1 + 1 + 1) == 2)=false:=by simp;omega
 have msk:Msk 18815670475475123949380 18889461955644534812484:=⟨⟩
 refine CallP.of_bodyN 74 cfg_ok Tryz.func59 rfl rfl (by kernel_rfl) fun base=>?_;simp only [mkA,Nat.reduceAdd]
 refine wpA_ok 0 rfl fun ok0=>?_
 refine wpA_ok 1 rfl fun ok1=>?_
 exact walk⟩
theorem s59_coal2 (n m k:Int) (v:Val) (a b:Expr) (r:List Rel) (c51:Cal 51 [L cols,e.p] [(Expr.mk 25 n m k v [a,b] r).p]) (hb:isFalse b=false):Cal 59 [L cols,e.p] [(Expr.mk 25 n m k v [a,b] r).p]:=⟨by
 unfold L at *
 have msk:Msk 18815670475475123949380 18889461955644534812484:=⟨⟩
 refine CallP.of_bodyN 74 cfg_ok Tryz.func59 rfl rfl (by kernel_rfl) fun base=>?_;simp only [mkA,Nat.reduceAdd]
 refine wpA_ok 0 rfl fun ok0=>?_
 refine wpA_ok 1 rfl fun ok1=>?_
 exact walk⟩
theorem s59_same (op:Int) (hop:op=19 ∨ op=20) (xs:List Expr) (c51:Cal 51 [L cols,e.p] [s.p]) (hs:s.op=op) (hl:s.args.length=xs.length) (h16:xs.length ≤ 16)
  (rec59:∀ (i:Nat) (h1:i < s.args.length) (h2:i < xs.length),Cal 59 [L cols,s.args[i].p] [(xs[i]'h2).p]) (c103:Cal 103 [.lst (Expr.ps xs),.lst (Expr.ps s.args)] [.bool true]):Cal 59 [L cols,e.p] [s.p]:=⟨by
 unfold L at *
 haveI rec59':∀ (i:Nat) (h1:i < s.args.length),Cal 59 [.obj 0 [.lst (Col.ps cols)] 0,s.args[i].p] [(xs[i]'(by omega)).p]:=fun i h1=>rec59 i h1 (by omega)
 clear rec59
 have hr:∀ i,i < xs.length→roomFor (i + 1) 112=true:=fun i _=>roomFor_of (by omega) (by decide)
 have o1:(op == 3)=false:=by rcases hop with rfl | rfl <;> rfl
 have o2:(op == 23)=false:=by rcases hop with rfl | rfl <;> rfl
 have o3:(op == 25)=false:=by rcases hop with rfl | rfl <;> rfl
 have o4:(op == 20) = !(op == 19):=by rcases hop with rfl | rfl <;> rfl
 have heta:∀ q:Int,s.op=q→Expr.mk q s.n s.m s.kind s.lit s.args s.rels=s:=fun q h=>by rw [← h];exact expr_eta s
 clear hop
 have msk:Msk 18815670475475123949380 18889461955644534812484:=⟨⟩
 refine CallP.of_bodyN 74 cfg_ok Tryz.func59 rfl rfl (by kernel_rfl) fun base=>?_;simp only [mkA,Nat.reduceAdd]
 refine wpA_ok 0 rfl fun ok0=>?_
 refine wpA_ok 1 rfl fun ok1=>?_
 have fz0:FZ 18 5:=⟨⟩
 have ld0:LD (σ:=Nat × List Expr) 1 4609434218613702816 [7,59] (fun y_=>(fun i acc=>[(51,.p (.int .i64 i)),(5,.own 60 i)]) y_.1 y_.2) (fun y_=>(fun i acc=>[(60,.arr 9 (Expr.ps acc) false)]) y_.1 y_.2) (fun y_=>(fun i acc=>InvL (i ≤ (xs).length) (acc.length=i) (acc ++ xs.drop i=xs)) y_.1 y_.2) (fun y_=>(fun i acc=>(xs).length - i) y_.1 y_.2) ((0,[])) [60] (fun y_=>(fun i acc=>i < (xs).length) y_.1 y_.2) (fun y_ (h:(fun i acc=>i < (xs).length) y_.1 y_.2)=>(fun i acc (h:i < (xs).length)=>(i + 1,acc ++ [xs[i]])) y_.1 y_.2 h) (fun y_ (h:(fun i acc=>i < (xs).length) y_.1 y_.2)=>(fun i acc (h:i < (xs).length)=>(i + 1,acc ++ [xs[i]])) y_.1 y_.2 h):=⟨⟩
 have st0:Stop 18:=⟨⟩
 refine walkX ?_ ?_
 all_goals (intro x0 hi0 hs0 hn0 ny0 nz0 hj0;first | intro h' h | intro h | skip)
 all_goals (refine ⟨?_⟩;clear st0;obtain ⟨i0,acc⟩:=x0;dsimp only at *;have hx:xs=acc:=(by rw [List.drop_eq_nil_of_le h,List.append_nil] at hn0;exact hn0.symm);subst hx;subst hs0;(try clear hz0);(try clear h');clear hn0 hi0 hj0 ny0 nz0 ld0 rec59' hr)
 ·exact walk
 ·exact walk⟩
theorem s59_go (op:Int) (hop:op=19 ∨ op=20) (xs:List Expr) (c51:Cal 51 [L cols,e.p] [s.p]) (hs:s.op=op) (hl:s.args.length=xs.length) (h16:xs.length ≤ 16)
  (rec59:∀ (i:Nat) (h1:i < s.args.length) (h2:i < xs.length),Cal 59 [L cols,s.args[i].p] [(xs[i]'h2).p]) (c103:Cal 103 [.lst (Expr.ps xs),.lst (Expr.ps s.args)] [.bool false]) (c59:Cal 59 [L cols,(opE op xs).p] [y.p]):Cal 59 [L cols,e.p] [y.p]:=⟨by
 unfold L at *
 haveI rec59':∀ (i:Nat) (h1:i < s.args.length),Cal 59 [.obj 0 [.lst (Col.ps cols)] 0,s.args[i].p] [(xs[i]'(by omega)).p]:=fun i h1=>rec59 i h1 (by omega)
 clear rec59
 have hr:∀ i,i < xs.length→roomFor (i + 1) 112=true:=fun i _=>roomFor_of (by omega) (by decide)
 have o1:(op == 3)=false:=by rcases hop with rfl | rfl <;> rfl
 have o2:(op == 23)=false:=by rcases hop with rfl | rfl <;> rfl
 have o3:(op == 25)=false:=by rcases hop with rfl | rfl <;> rfl
 have o4:(op == 20) = !(op == 19):=by rcases hop with rfl | rfl <;> rfl
 have heta:∀ q:Int,s.op=q→Expr.mk q s.n s.m s.kind s.lit s.args s.rels=s:=fun q h=>by rw [← h];exact expr_eta s
 clear hop
 have msk:Msk 18815670475475123949380 18889461955644534812484:=⟨⟩
 refine CallP.of_bodyN 74 cfg_ok Tryz.func59 rfl rfl (by kernel_rfl) fun base=>?_;simp only [mkA,Nat.reduceAdd]
 refine wpA_ok 0 rfl fun ok0=>?_
 refine wpA_ok 1 rfl fun ok1=>?_
 have fz0:FZ 18 5:=⟨⟩
 have ld0:LD (σ:=Nat × List Expr) 1 4609434218613702816 [7,59] (fun y_=>(fun i acc=>[(51,.p (.int .i64 i)),(5,.own 60 i)]) y_.1 y_.2) (fun y_=>(fun i acc=>[(60,.arr 9 (Expr.ps acc) false)]) y_.1 y_.2) (fun y_=>(fun i acc=>InvL (i ≤ (xs).length) (acc.length=i) (acc ++ xs.drop i=xs)) y_.1 y_.2) (fun y_=>(fun i acc=>(xs).length - i) y_.1 y_.2) ((0,[])) [60] (fun y_=>(fun i acc=>i < (xs).length) y_.1 y_.2) (fun y_ (h:(fun i acc=>i < (xs).length) y_.1 y_.2)=>(fun i acc (h:i < (xs).length)=>(i + 1,acc ++ [xs[i]])) y_.1 y_.2 h) (fun y_ (h:(fun i acc=>i < (xs).length) y_.1 y_.2)=>(fun i acc (h:i < (xs).length)=>(i + 1,acc ++ [xs[i]])) y_.1 y_.2 h):=⟨⟩
 have st0:Stop 18:=⟨⟩
 refine walkX ?_ ?_
 all_goals (intro x0 hi0 hs0 hn0 ny0 nz0 hj0;first | intro h' h | intro h | skip)
 all_goals (refine ⟨?_⟩;clear st0;obtain ⟨i0,acc⟩:=x0;dsimp only at *;have hx:xs=acc:=(by rw [List.drop_eq_nil_of_le h,List.append_nil] at hn0;exact hn0.symm);subst hx;subst hs0;(try clear hz0);(try clear h');clear hn0 hi0 hj0 ny0 nz0 ld0 rec59' hr)
 ·exact walk
 ·exact walk⟩
end
inductive CondS (cols:List Col):Expr→Expr→Prop where
 | lit (e s:Expr) (hs:Simp cols e s) (h:s.op=3):CondS cols e (truthE (isTrue s))
 | istrue (e s y a:Expr) (hs:Simp cols e s) (h:s.op=23) (ha:s.args=[a]) (hy:CondS cols a y):CondS cols e y
 | coal (e s y a b:Expr) (hs:Simp cols e s) (h:s.op=25) (ha:s.args=[a,b]) (hb:isFalse b=true) (hy:CondS cols a y):CondS cols e y
 | coal1 (e:Expr) (n m k:Int) (v:Val) (a b c:Expr) (l:List Expr) (r:List Rel) (hs:Simp cols e (.mk 25 n m k v (a :: b :: c :: l) r)):CondS cols e (.mk 25 n m k v (a :: b :: c :: l) r)
 | coal2 (e:Expr) (n m k:Int) (v:Val) (a b:Expr) (r:List Rel) (hs:Simp cols e (.mk 25 n m k v [a,b] r)) (hb:isFalse b=false):CondS cols e (.mk 25 n m k v [a,b] r)
 | other (e s:Expr) (hs:Simp cols e s) (h3:(s.op == 3)=false) (h23:(s.op == 23)=false) (h19:(s.op == 19)=false) (h20:(s.op == 20)=false) (h25:(s.op == 25)=false):CondS cols e s
 | same (e s:Expr) (xs:List Expr) (hs:Simp cols e s) (hop:s.op=19 ∨ s.op=20) (hl:s.args.length=xs.length) (h:∀ (i:Nat) (h1:i < s.args.length) (h2:i < xs.length),CondS cols s.args[i] xs[i]) (hq:eqL sameE xs s.args=true):CondS cols e s
 | go (e s y:Expr) (xs:List Expr) (hs:Simp cols e s) (hop:s.op=19 ∨ s.op=20) (hl:s.args.length=xs.length) (h:∀ (i:Nat) (h1:i < s.args.length) (h2:i < xs.length),CondS cols s.args[i] xs[i]) (hq:eqL sameE xs s.args=false) (hy:CondS cols (opE s.op xs) y):CondS cols e y
end
section
attribute [local simp] wl0 wl1 wl2 wl3 wl4 wl5 wl6 wl7 wl8 wl9 wl10 wl11 wl12 wl13 wl14 wl15 wl16 wl17 wl18 wl19 wl20
attribute [local simp high] evalOp_fieldP
attribute [local simp] ty134 ty87
attribute [local simp] fldV_p fldV_agg aggP_agg aggP_col aggP_val aggP_expr
def areC (l:List Col):Bool:=decide ((l.length:Int) > 0) && decide ((l.length:Int) ≤ 16) && !l.any badCol
theorem colsErrL_eq:∀ (l:List Col),(colsErrL l == 0) = !l.any badCol
 | []=>rfl
 | c :: r=>by
  have hc:(!(c.kind == 1) && !(c.kind == 2) && !(c.kind == 3))=badCol c:=by
   unfold badCol
   rw [Bool.eq_iff_iff]
   simp
   omega
  simp only [colsErrL,List.any_cons,hc]
  cases badCol c
  ·simpa using colsErrL_eq r
  ·simp
theorem areC_eq (l:List Col):areC l=(colsErr l == 0):=by
 unfold areC colsErr
 by_cases h1:(l.length:Int) > 16
 ·rw [decide_eq_false (show ¬ (l.length:Int) ≤ 16 by omega),decide_eq_true h1]
  simp
 ·by_cases h2:l.length=0
  ·obtain rfl:=List.eq_nil_of_length_eq_zero h2
   rfl
  ·rw [decide_eq_true (show (l.length:Int) > 0 by omega),decide_eq_false h1,beq_eq_false_iff_ne.2 (show (l.length:Int) ≠ 0 by omega),decide_eq_true (show (l.length:Int) ≤ 16 by omega)]
   simpa using (colsErrL_eq l).symm
def kindsP (e:Expr) (cols:List Col):Col × Int:=
 if !areC cols then (⟨0,false⟩,20) else if !form e then (⟨0,false⟩,30) else if !(kindP cols e).2 then (⟨0,false⟩,31) else ((kindP cols e).1,0)
attribute [local simp] sightP_fold aggP_sight sight_cells
theorem cal138 (e:Expr) (cols:List Col) (hb:bareE e) (hs:e.size ≤ 500000):Cal 138 [e.p,.lst (Col.ps cols)] [(kindsP e cols).1.p,.int .i64 (kindsP e cols).2]:=⟨by
 have msk:Msk 117422856 134217480:=⟨⟩
 refine CallP.of_bodyN 27 cfg_ok Tryz.func138 rfl rfl (by kernel_rfl) fun base=>?_;simp only [mkA,Nat.reduceAdd]
 refine wpA_ok 0 rfl fun ok0=>?_
 refine wpA_ok 1 rfl fun ok1=>?_
 haveI c194:=cal194 e ok0 hb
 rw [formW_eq e hs] at c194
 unfold kindsP areC
 cases hf:form e with
 | false=>exact walk
 | true=>
  haveI:=cal195 e cols (form_wf hf)
  exact walk⟩
theorem cal85 (e:Expr) (cols:List Col) (hb:bareE e) (hs:e.size ≤ 500000):Cal 85 [e.p,.lst (Col.ps cols)] [(kindsP e cols).1.p,.int .i64 (kindsP e cols).2]:=⟨by
 haveI:=cal138 e cols hb hs
 clear hb hs
 have msk:Msk 1992 1992:=⟨⟩
 refine CallP.of_bodyN 11 cfg_ok Tryz.func85 rfl rfl (by kernel_rfl) fun base=>?_;simp only [mkA,Nat.reduceAdd]
 refine wpA_ok 0 rfl fun ok0=>?_
 refine wpA_ok 1 rfl fun ok1=>?_
 exact walk⟩
def begR (cols:List Col) (bools:Bool) (acc:List Col):List Expr→P × Int
 | []=>if !areC cols then (.nilp,20) else if bools && acc.any (fun c=>!(c.kind == 2)) then (.nilp,31) else (L cols,0)
 | e :: r=>if !((kindsP e cols).2 == 0) then (.nilp,(kindsP e cols).2) else begR cols bools (acc ++ [(kindsP e cols).1]) r
attribute [local simp] begR areC L in
theorem cal49 (cols:List Col) (bools:Bool) (l:List Expr) (hl:l.length ≤ 16) (hb:∀ (i:Nat) (h:i < l.length),bareE l[i]) (hs:∀ (i:Nat) (h:i < l.length),l[i].size ≤ 500000) :
  Cal 49 [.lst (Col.ps cols),.bool bools,.lst (Expr.ps l)] [(begR cols bools [] l).1,.int .i64 (begR cols bools [] l).2]:=⟨by
 haveI c85:∀ (i:Nat) (h:i < l.length),Cal 85 [l[i].p,.lst (Col.ps cols)] [(kindsP l[i] cols).1.p,.int .i64 (kindsP l[i] cols).2]:=fun i h=>cal85 _ cols (hb i h) (hs i h)
 haveI c89:=cal89 cols
 have hr:∀ i,i < l.length→roomFor (i + 1) 16=true:=fun i _=>roomFor_of (by omega) (by decide)
 clear hb hs
 unfold L at *
 generalize hR:begR cols bools [] l=R
 have msk:Msk 7662154416696 8796092957240:=⟨⟩
 refine CallP.of_bodyN 43 cfg_ok Tryz.func49 rfl rfl (by kernel_rfl) fun base=>?_;simp only [mkA,Nat.reduceAdd]
 refine wpA_ok 0 rfl fun ok0=>?_
 refine wpA_ok 1 rfl fun ok1=>?_
 refine wpA_ok 2 rfl fun ok2=>?_
 have fz0:FZ 12 8:=⟨⟩
 have ld0:LD (σ:=Nat × List Col) 0 8589909440 [10,11,30] (fun y_=>(fun i acc=>[(15,.p (.int .i64 i)),(8,.own 31 i)]) y_.1 y_.2) (fun y_=>(fun i acc=>[(31,.arr 2 (Col.ps acc) false)]) y_.1 y_.2) (fun y_=>(fun i acc=>InvL (i ≤ (l).length) (acc.length=i) (begR cols bools acc (l.drop i)=R)) y_.1 y_.2) (fun y_=>(fun i acc=>(l).length - i) y_.1 y_.2) ((0,[])) [31] (fun y_=>(fun i acc=>i < (l).length) y_.1 y_.2) (fun y_ (h:(fun i acc=>i < (l).length) y_.1 y_.2)=>(fun i acc (h:i < (l).length)=>(i + 1,acc ++ [(kindsP l[i] cols).1])) y_.1 y_.2 h) (fun y_ (h:(fun i acc=>i < (l).length) y_.1 y_.2)=>(fun i acc (h:i < (l).length)=>(i + 1,acc ++ [(kindsP l[i] cols).1])) y_.1 y_.2 h):=⟨⟩
 exact walk⟩
end
section
attribute [local simp] wl0 wl1 wl2 wl3 wl4 wl5 wl6 wl7 wl8 wl9 wl10 wl11 wl12 wl13 wl14 wl15 wl16 wl17 wl18 wl19 wl20
attribute [local simp high] evalOp_fieldP
attribute [local simp] ty87
attribute [local simp] fldV_p fldV_agg aggP_agg aggP_col aggP_val aggP_expr
mutual
theorem wf_bare:∀ {e:Expr},wf e=true→bareE e
 | .mk op n m k v args rels,h=>by
  have h1:nodeR (.mk op n m k v args rels)=true:=wf_node h
  have h2:rels=[]:=nodeR_rels h1
  refine ⟨wf_bares (fun a ha=>wf_arg h a ha),fun r hr=>?_⟩
  rw [h2] at hr;cases hr
theorem wf_bares:∀ {l:List Expr},(∀ a ∈ l,wf a=true)→bareEs l
 | [],h=>trivial
 | a :: r,h=>⟨wf_bare (h a (by simp)),wf_bares fun b hb=>h b (by simp [hb])⟩
end
theorem cal50 (e:Expr) (hw:wf e=true):Cal 50 [e.p] [(if (fitE 400 1 e).1 then e else Expr.mk 0 0 0 0 ⟨0,0,⟨#[]⟩⟩ [] []).p,.int .i64 (if (fitE 400 1 e).1 then 0 else 2)]:=⟨by
 haveI:=cal90 e hw
 have msk:Msk 944 1008:=⟨⟩
 refine CallP.of_bodyN 10 cfg_ok Tryz.func50 rfl rfl (by kernel_rfl) fun base=>?_;simp only [mkA,Nat.reduceAdd]
 refine wpA_ok 0 rfl fun ok0=>?_
 haveI:=cal65 e ok0 (wf_bare hw)
 cases hf:(fitE 400 1 e).1
 ·simp only [Bool.false_eq_true,if_false]
  exact walk
 ·simp only [if_true]
  exact walk⟩
theorem kindsP_bad (e:Expr) (cols:List Col):(kindsP e cols).2=badE e cols false:=by
 unfold kindsP badE
 rw [areC_eq]
 split
 ·rfl
 split
 ·rfl
 ·rename_i h1 h2
  have hf:form e=true:=by simpa using h2
  have:=(kindP_same cols e.size e (Nat.le_refl _) (form_wf hf)).1
  rw [this]
  unfold okk
  simp
  split <;> simp_all
theorem bad_has {e:Expr} {cols:List Col} (h:badE e cols false=0):Has cols e (kd cols e)∧areC cols=true∧form e=true:=by
 unfold badE at h
 split at h
 ·cases h
 split at h
 ·cases h
 split at h
 ·cases h
 ·rename_i h1 h2 h3
  have hf:form e=true:=by simpa using h2
  refine ⟨⟨form_wf hf,?_,rfl⟩,?_,hf⟩
  ·unfold okk;simpa using h3
  ·rw [areC_eq];simpa using h1
attribute [local simp] begR in
theorem cal16_bad (e:Expr) (cols:List Col) (hb:bareE e) (hs:e.size ≤ 500000) (h:badE e cols false ≠ 0):Cal 16 [e.p,.lst (Col.ps cols)] [zeroE.p,.int .i64 (badE e cols false)]:=⟨by
 haveI c49:=cal49 cols false [e] (by simp) (fun i h=>by simp at h;subst h;exact hb) (fun i h=>by simp at h;subst h;exact hs)
 have hbeg:begR cols false [] [e]=(.nilp,badE e cols false):=by
  simp only [begR,kindsP_bad]
  rw [if_pos (by simp [h])]
 rw [hbeg] at c49
 have hne:(badE e cols false != 0)=true:=by simpa [bne] using h
 have hne':(badE e cols false == 0)=false:=by simpa using h
 clear hb hs hbeg h
 generalize badE e cols false=b at *
 unfold zeroE nullW
 have msk:Msk 33488648 33554184:=⟨⟩
 refine CallP.of_bodyN 25 cfg_ok Tryz.func16 rfl rfl (by kernel_rfl) fun base=>?_;simp only [mkA,Nat.reduceAdd]
 refine wpA_ok 0 rfl fun ok0=>?_
 refine wpA_ok 1 rfl fun ok1=>?_
 exact walk⟩
theorem cal16_ok (e y:Expr) (cols:List Col) (hb:bareE e) (hs:e.size ≤ 500000) (h:badE e cols false=0) (hy:Simp cols e y) :
  Cal 16 [e.p,.lst (Col.ps cols)] [(if (fitE 400 1 y).1 then y else zeroE).p,.int .i64 (if (fitE 400 1 y).1 then 0 else 2)]:=⟨by
 haveI c49:=cal49 cols false [e] (by simp) (fun i h=>by simp at h;subst h;exact hb) (fun i h=>by simp at h;subst h;exact hs)
 obtain ⟨hk,hc,_⟩:=bad_has h
 have hbeg:begR cols false [] [e]=(L cols,0):=by
  simp only [begR,kindsP_bad,h,hc]
  rfl
 rw [hbeg] at c49
 haveI c51:=cal51 hy hk
 haveI c50:=cal50 y (simp_has hy hk).wf
 clear hb hs hbeg h hk hc hy
 unfold L at *
 unfold zeroE nullW
 have msk:Msk 33488648 33554184:=⟨⟩
 refine CallP.of_bodyN 25 cfg_ok Tryz.func16 rfl rfl (by kernel_rfl) fun base=>?_;simp only [mkA,Nat.reduceAdd]
 refine wpA_ok 0 rfl fun ok0=>?_
 refine wpA_ok 1 rfl fun ok1=>?_
 exact walk⟩
end
end Go.Proofs.YtgiedlcjlalpcaaGreat
