/- Part 17 of a proof: M6 L7 N1 U8. -/
import Derived.Test.YtgiedlcjlalpcaaGreatPk08
import Derived.Test.YtgiedlcjlalpcaaGreatPk11
import Derived.Test.YtgiedlcjlalpcaaGreatPk12
import Derived.Test.YtgiedlcjlalpcaaGreatPk13
import Derived.Test.YtgiedlcjlalpcaaGreatPk15
import Derived.Test.YtgiedlcjlalpcaaGreatPk16
set_option linter.all false
namespace Go.Proofs.YtgiedlcjlalpcaaGreat
open Go.Abs
set_option maxRecDepth 100000
set_option maxHeartbeats 4000000
attribute [local irreducible] wpA Again LeJ
attribute [local simp high] mkT_getD
attribute [local simp] runM_nil runM_cons mG_some mC_none mC_un mC_gd mV_some mV_none mD_some mP_some mP_none pickV_bool pickV_int specE_pick specE_move specE_assign specE_alloc specE_box specE_build specE_buildSlice specE_load specE_store specE_nilCheck specE_binOp specE_unOp specE_convert specE_makeFunc specE_slice specE_fieldAddr specE_field specE_indexAddr specE_index specE_extract specE_call cond_false_r cond_true_m callPure touches_move touches_assign touches_box touches_load touches_nilCheck touches_unOp touches_convert touches_fieldAddr touches_field touches_extract touches_pick touches_store touches_binOp touches_indexAddr touches_index touches_alloc touches_build touches_buildSlice touches_makeFunc touches_slice touches_call touches_builtin V.names V.namesL callOf_fn callOf_builtin callOf callResW cfg_imp wantedA evalOp_move evalOp_assign evalOp_pick evalOp_alloc evalOp_box evalOp_build evalOp_buildSlice evalOp_load evalOp_store evalOp_nilCheck evalOp_binOp evalOp_unOp evalOp_convert evalOp_makeFunc evalOp_slice evalOp_fieldAddr evalOp_field evalOp_indexAddr evalOp_index evalOp_extract evalOp_builtin opnd_tmp opnd_const opnd_func headM dropA mkT_set mkT_idx mkT_get mkT_len lookA more_true more_false constV boolV St.put getB setB V.cells cells_agg cells_int cells_bool cells_str cells_lst cells_fn cells_nilp cells_nilf cells_nilm cells_imm cells_obj cells_imap mkAgg mkFn allP partV partP placesOf fillV spliceV Ty.agg oneV oneP natOf binV_int binV_str binV_bool_eql binV_ptr_nil_eql binV_ptr_imm_eql binV_ptr_obj_eql binV_ptr_ref_eql binV_func_nil_eql binV_func_fn_eql binV_func_fv_eql binV_bool_neq binV_ptr_nil_neq binV_ptr_imm_neq binV_ptr_obj_neq binV_ptr_ref_neq binV_func_nil_neq binV_func_fn_neq binV_func_fv_neq intBin strBin cfg_ty callRes toP toPs resV addedP appendV partsToP resultPs resultVs St.head roomFor_of wrap_succ wrap_nat sizesOk_nil sizesOk_cons elemOk_int elemOk_bool elemOk_str elemOk_lst elemOk_fn List.getElem?_eq_getElem bne w64 val_cells val_fold val_eta col_cells col_fold col_eta rel_cells expr_cells expr_fold expr_fold0 expr_fold1 expr_fold2 expr_eta expr_op expr_n expr_m expr_kind expr_lit expr_args expr_rels eps_nil eps_len eps_get eps_app eps_take eps_drop eps_ok vps_nil vps_len vps_get vps_app vps_take vps_drop vps_ok cps_nil cps_len cps_get cps_app cps_take cps_drop cps_ok rps_nil rps_len rps_get eps_idx vps_idx cps_idx rps_idx ips_nil ips_len ips_get ips_idx ips_ok elemOk_e elemOk_v elemOk_c ips_app ips_take ips_drop el1 ea1 es1 el2 ea2 es2 el3 ea3 es3 elc eac vl1 va1 vs1 vl2 va2 vs2 vl3 va3 vs3 vlc vac cl1 ca1 cs1 cl2 ca2 cs2 cl3 ca3 cs3 clc cac il1 ia1 is1 il2 ia2 is2 il3 ia3 is3 ilc iac binV_val_eql binV_val_neq binV_col_eql ty2 ty3 ty4 ty5 ty9 ty22 ty23 ty25 ty26 ty27 ty29 ty30 ty34 ty43 ty52 ty57 ty61 ty75 ty86 ty87 ty102 ty131 ty132 ty134 ty135 ty137 ty138 ty141 ty149 ty152 ty156 ty159 ty160 ty172 ty176 ty184 ty185 ty186 ty187 ty189 ty204 ty211 ty221 ty222 ty242 ty259
section
attribute [local simp] wl0 wl1 wl2 wl3 wl4 wl5 wl6 wl7 wl8 wl9 wl10 wl11 wl12 wl13 wl14 wl15 wl16 wl17 wl18 wl19 wl20
attribute [local simp high] evalOp_fieldP
attribute [local simp] ty140 ty137 ty135
attribute [local simp] fldV_p fldV_agg aggP_agg aggP_col aggP_val aggP_expr
theorem doer_fold : P.agg [doP] = doerP := rfl
attribute [local simp] doer_fold
theorem v142_leaf (e : Expr) (cols : List Col) (h : e.args = []) : Cal 142 [L cols, e.p] [e.p, .bool false] := ⟨by
 have het : Expr.mk e.op e.n e.m e.kind e.lit [] e.rels = e := by rw [← h]; exact expr_eta e
 have msk : Msk 17592170184324 17592178704004 := ⟨⟩
 refine CallP.of_bodyN 44 cfg_ok Tryz.func142 rfl rfl (by kernel_rfl) fun base => ?_; simp only [mkA, Nat.reduceAdd]
 refine wpA_ok 0 rfl fun ok0 => ?_
 refine wpA_ok 1 rfl fun ok1 => ?_
 exact (have hnd : AndN := ⟨⟩; walkX trivial trivial)⟩
theorem v142_no (e : Expr) (cols : List Col) (h0 : ¬ e.args.length = 0) (h : (e.args.any fun a => !isLit a) = true) : Cal 142 [L cols, e.p] [e.p, .bool false] := ⟨by
 have h0' : ((e.args.length : Int) == 0) = false := by simp; simpa using h0
 have msk : Msk 17592170184324 17592178704004 := ⟨⟩
 refine CallP.of_bodyN 44 cfg_ok Tryz.func142 rfl rfl (by kernel_rfl) fun base => ?_; simp only [mkA, Nat.reduceAdd]
 refine wpA_ok 0 rfl fun ok0 => ?_
 refine wpA_ok 1 rfl fun ok1 => ?_
 exact (have hnd : AndN := ⟨⟩; walkX trivial trivial)⟩
attribute [local simp] litE mapA L cfg_obj0 in
theorem v142_yes (e : Expr) (cols : List Col) (k : Int) (hh : Has cols e k) (r : Val) (h0 : ¬ e.args.length = 0) (h : (e.args.any fun a => !isLit a) = false) (h223 : Cal 223 [doerP, .int .i64 e.op, .lst (Val.ps (e.args.map Expr.lit))] [r.p]) : Cal 142 [L cols, e.p] [(litE k r).p, .bool true] := ⟨by
 have h0' : ((e.args.length : Int) == 0) = false := by simp; simpa using h0
 haveI : Cal 222 [.obj 0 [.lst (Col.ps cols)] 0, e.p] [.int .i64 k] := cal222 e cols k hh
 have pc0 : ∀ {l : List Val}, l = mapA Expr.lit [] e.args → CallP cfg Tryz.prog 223 [doerP, .int .i64 e.op, .lst (Val.ps l)] [r.p] := fun {l} hl => by rw [← map_mapA] at hl; subst hl; exact h223.out
 clear h223
 have hl : e.args.length ≤ 16 := wf_len hh.wf
 have hr : ∀ i, i < e.args.length → roomFor (i + 1) 32 = true := fun i _ => roomFor_of (by omega) (by decide)
 clear hh
 have msk : Msk 17592170184324 17592178704004 := ⟨⟩
 refine CallP.of_bodyN 44 cfg_ok Tryz.func142 rfl rfl (by kernel_rfl) fun base => ?_; simp only [mkA, Nat.reduceAdd]
 refine wpA_ok 0 rfl fun ok0 => ?_
 refine wpA_ok 1 rfl fun ok1 => ?_
 have ld0 : LD (σ := Nat × List Val) 0 4290773312 [8, 29] (fun y_ => (fun i acc => [(22, .p (.int .i64 i)), (6, .own 30 i)]) y_.1 y_.2) (fun y_ => (fun i acc => [(30, .arr 3 (Val.ps acc) false)]) y_.1 y_.2) (fun y_ => (fun i acc => InvL (i ≤ (e.args).length) (acc.length = i) (mapA Expr.lit acc (e.args.drop i) = mapA Expr.lit [] e.args)) y_.1 y_.2) (fun y_ => (fun i acc => (e.args).length - i) y_.1 y_.2) ((0, [])) [30] (fun y_ => (fun i acc => i < (e.args).length) y_.1 y_.2) (fun y_ (h : (fun i acc => i < (e.args).length) y_.1 y_.2) => (fun i acc (h : i < (e.args).length) => (i + 1, acc ++ [e.args[i].lit])) y_.1 y_.2 h) (fun y_ (h : (fun i acc => i < (e.args).length) y_.1 y_.2) => (fun i acc (h : i < (e.args).length) => (i + 1, acc ++ [e.args[i].lit])) y_.1 y_.2 h) := ⟨⟩
 exact (have hnd : AndN := ⟨⟩; walkX trivial trivial)⟩
end
section
attribute [local simp] wl0 wl1 wl2 wl3 wl4 wl5 wl6 wl7 wl8 wl9 wl10 wl11 wl12 wl13 wl14 wl15 wl16 wl17 wl18 wl19 wl20
attribute [local simp high] evalOp_fieldP
attribute [local simp] fldV_p fldV_agg aggP_agg aggP_col aggP_val aggP_expr
theorem l7_stay (e : Expr) (cols : List Col) (xs : List Expr) (hl : e.args.length = xs.length) (nx : Expr) (h16 : xs.length ≤ 16)
  (rec20 : ∀ (i : Nat) (h1 : i < e.args.length) (h2 : i < xs.length), Cal 20 [e.args[i].p, .lst (Col.ps cols)] [(xs[i]'h2).p])
  (hs : Cal 57 [(Expr.mk e.op e.n e.m e.kind e.lit xs e.rels).p, .lst (Col.ps cols)] [nx.p, .bool false]) : Cal 20 [e.p, .lst (Col.ps cols)] [(Expr.mk e.op e.n e.m e.kind e.lit xs e.rels).p] := ⟨by
 haveI rec20' : ∀ (i : Nat) (h1 : i < e.args.length), Cal 20 [e.args[i].p, .lst (Col.ps cols)] [(xs[i]'(by omega)).p] := fun i h1 => rec20 i h1 (by omega)
 clear rec20
 have pc0 : ∀ {l : List Expr}, l = xs → CallP cfg Tryz.prog 57 [(Expr.mk e.op e.n e.m e.kind e.lit l e.rels).p, .lst (Col.ps cols)] [nx.p, .bool false] := fun {l} h => by subst h; exact hs.out
 clear hs
 have hr : ∀ i, i < xs.length → roomFor (i + 1) 112 = true := fun i _ => roomFor_of (by omega) (by decide)
 have msk : Msk 4260607524360 4398046510600 := ⟨⟩
 refine CallP.of_bodyN 42 cfg_ok Tryz.func20 rfl rfl (by kernel_rfl) fun base => ?_; simp only [mkA, Nat.reduceAdd]
 refine wpA_ok 0 rfl fun ok0 => ?_
 refine wpA_ok 1 rfl fun ok1 => ?_
 have ld0 : LD (σ := Nat × List Expr) 0 1073739840 [27] (fun y_ => (fun i acc => [(6, .p (.int .i64 i))]) y_.1 y_.2) (fun y_ => (fun i acc => [(5, .cells [.p (.int .i64 e.op), .p (.int .i64 e.n), .p (.int .i64 e.m), .p (.int .i64 e.kind), .p (.int .i64 e.lit.kind), .p (.int .i64 e.lit.int), .p (.str e.lit.text), .own 28 i, .p (.lst (Rel.ps e.rels))]), (28, .arr 9 (Expr.ps acc) false)]) y_.1 y_.2) (fun y_ => (fun i acc => InvL (i ≤ (xs).length) (acc.length = i) (acc ++ xs.drop i = xs)) y_.1 y_.2) (fun y_ => (fun i acc => (xs).length - i) y_.1 y_.2) ((0, [])) [28] (fun y_ => (fun i acc => i < (xs).length) y_.1 y_.2) (fun y_ (h : (fun i acc => i < (xs).length) y_.1 y_.2) => (fun i acc (h : i < (xs).length) => (i + 1, acc ++ [xs[i]])) y_.1 y_.2 h) (fun y_ (h : (fun i acc => i < (xs).length) y_.1 y_.2) => (fun i acc (h : i < (xs).length) => (i + 1, acc ++ [xs[i]])) y_.1 y_.2 h) := ⟨⟩
 exact walk⟩
theorem l7_go (e : Expr) (cols : List Col) (xs : List Expr) (hl : e.args.length = xs.length) (nx y : Expr) (h16 : xs.length ≤ 16)
  (rec20 : ∀ (i : Nat) (h1 : i < e.args.length) (h2 : i < xs.length), Cal 20 [e.args[i].p, .lst (Col.ps cols)] [(xs[i]'h2).p])
  (hs : Cal 57 [(Expr.mk e.op e.n e.m e.kind e.lit xs e.rels).p, .lst (Col.ps cols)] [nx.p, .bool true]) (hy : Cal 20 [nx.p, .lst (Col.ps cols)] [y.p]) : Cal 20 [e.p, .lst (Col.ps cols)] [y.p] := ⟨by
 haveI rec20' : ∀ (i : Nat) (h1 : i < e.args.length), Cal 20 [e.args[i].p, .lst (Col.ps cols)] [(xs[i]'(by omega)).p] := fun i h1 => rec20 i h1 (by omega)
 clear rec20
 have pc0 : ∀ {l : List Expr}, l = xs → CallP cfg Tryz.prog 57 [(Expr.mk e.op e.n e.m e.kind e.lit l e.rels).p, .lst (Col.ps cols)] [nx.p, .bool true] := fun {l} h => by subst h; exact hs.out
 clear hs
 have hr : ∀ i, i < xs.length → roomFor (i + 1) 112 = true := fun i _ => roomFor_of (by omega) (by decide)
 have msk : Msk 4260607524360 4398046510600 := ⟨⟩
 refine CallP.of_bodyN 42 cfg_ok Tryz.func20 rfl rfl (by kernel_rfl) fun base => ?_; simp only [mkA, Nat.reduceAdd]
 refine wpA_ok 0 rfl fun ok0 => ?_
 refine wpA_ok 1 rfl fun ok1 => ?_
 have ld0 : LD (σ := Nat × List Expr) 0 1073739840 [27] (fun y_ => (fun i acc => [(6, .p (.int .i64 i))]) y_.1 y_.2) (fun y_ => (fun i acc => [(5, .cells [.p (.int .i64 e.op), .p (.int .i64 e.n), .p (.int .i64 e.m), .p (.int .i64 e.kind), .p (.int .i64 e.lit.kind), .p (.int .i64 e.lit.int), .p (.str e.lit.text), .own 28 i, .p (.lst (Rel.ps e.rels))]), (28, .arr 9 (Expr.ps acc) false)]) y_.1 y_.2) (fun y_ => (fun i acc => InvL (i ≤ (xs).length) (acc.length = i) (acc ++ xs.drop i = xs)) y_.1 y_.2) (fun y_ => (fun i acc => (xs).length - i) y_.1 y_.2) ((0, [])) [28] (fun y_ => (fun i acc => i < (xs).length) y_.1 y_.2) (fun y_ (h : (fun i acc => i < (xs).length) y_.1 y_.2) => (fun i acc (h : i < (xs).length) => (i + 1, acc ++ [xs[i]])) y_.1 y_.2 h) (fun y_ (h : (fun i acc => i < (xs).length) y_.1 y_.2) => (fun i acc (h : i < (xs).length) => (i + 1, acc ++ [xs[i]])) y_.1 y_.2 h) := ⟨⟩
 exact walk⟩
end
section
attribute [local simp] wl0 wl1 wl2 wl3 wl4 wl5 wl6 wl7 wl8 wl9 wl10 wl11 wl12 wl13 wl14 wl15 wl16 wl17 wl18 wl19 wl20
attribute [local simp high] evalOp_fieldP
attribute [local simp] fldV_p fldV_agg aggP_agg aggP_col aggP_val aggP_expr
theorem cal20 {cols : List Col} {e y : Expr} (hs : Simp cols e y) : ∀ {k : Int}, Has cols e k → Cal 20 [e.p, .lst (Col.ps cols)] [y.p] := by
 induction hs with
 | stay e xs hl h hs ih =>
  intro k hk
  have hA : Has cols (setA e xs) k := has_args hk hl fun i h1 h2 => simp_has (h i h1 h2) (arg_has hk (List.getElem_mem h1))
  have h57 := cal57 (setA e xs) cols hA.wf
  rw [hs] at h57
  exact l7_stay e cols xs hl _ (by have := wf_len hk.wf; omega) (fun i h1 h2 => ih i h1 h2 (arg_has hk (List.getElem_mem h1))) h57
 | go e xs y hl h hs hy ih ihy =>
  intro k hk
  have hA : Has cols (setA e xs) k := has_args hk hl fun i h1 h2 => simp_has (h i h1 h2) (arg_has hk (List.getElem_mem h1))
  have h57 := cal57 (setA e xs) cols hA.wf
  rw [hs] at h57
  exact l7_go e cols xs hl _ y (by have := wf_len hk.wf; omega) (fun i h1 h2 => ih i h1 h2 (arg_has hk (List.getElem_mem h1))) h57 (ihy (step_has hA hs))
def badE (e : Expr) (cols : List Col) (truth : Bool) : Int :=
 if !(colsErr cols == 0) then 20 else if !form e then 30 else if !(kindE cols e).2 || truth && !((kindE cols e).1.kind == 2) then 31 else 0
theorem form_wf {e : Expr} (h : form e = true) : wf e = true := by
 simp only [form, Bool.and_eq_true] at h
 exact shaped_wf e h.1
attribute [local simp] badE in
instance call17 (e : Expr) (cols : List Col) (truth : Bool) : Cal 17 [e.p, .lst (Col.ps cols), .bool truth] [.int .i64 (badE e cols truth)] := ⟨by
 cases hf : form e with
 | false =>
  have msk : Msk 1073722928 2147483184 := ⟨⟩
  refine CallP.of_bodyN 31 cfg_ok Tryz.func17 rfl rfl (by kernel_rfl) fun base => ?_; simp only [mkA, Nat.reduceAdd]
  refine wpA_ok 0 rfl fun ok0 => ?_
  refine wpA_ok 1 rfl fun ok1 => ?_
  refine wpA_ok 2 rfl fun ok2 => ?_
  exact walk
 | true =>
  haveI := cal32 e cols (form_wf hf)
  have msk : Msk 1073722928 2147483184 := ⟨⟩
  refine CallP.of_bodyN 31 cfg_ok Tryz.func17 rfl rfl (by kernel_rfl) fun base => ?_; simp only [mkA, Nat.reduceAdd]
  refine wpA_ok 0 rfl fun ok0 => ?_
  refine wpA_ok 1 rfl fun ok1 => ?_
  refine wpA_ok 2 rfl fun ok2 => ?_
  exact walk⟩
end
section
attribute [local simp] wl0 wl1 wl2 wl3 wl4 wl5 wl6 wl7 wl8 wl9 wl10 wl11 wl12 wl13 wl14 wl15 wl16 wl17 wl18 wl19 wl20
attribute [local simp high] evalOp_fieldP
attribute [local simp] fldV_p fldV_agg aggP_agg aggP_col aggP_val aggP_expr
mutual
theorem cutE_txt : ∀ {e : Expr} {l : Int}, txtE (cutE l e).1
 | .mk op n m k v args rels, l => by
  simp only [cutE, txtE]
  refine ⟨?_, cutL_txt trivial⟩
  unfold cutTxt
  rw [ByteArray.size_extract]
  split <;> omega
theorem cutL_txt : ∀ {r : List Expr} {l : Int} {acc : List Expr}, txtEs acc → txtEs (cutL l acc r).1
 | [], l, acc, h => h
 | a :: r, l, acc, h => by
  rw [cutL_cons]
  split
  ·refine cutL_txt ?_
   have : ∀ {acc : List Expr}, txtEs acc → txtEs (acc ++ [(cutE l a).1]) := by
    intro acc
    induction acc with
    | nil => intro _; exact ⟨cutE_txt, trivial⟩
    | cons b r ih => intro h; exact ⟨h.1, ih h.2⟩
   exact this h
  ·exact h
end
theorem tipL_good (k : Int) : ∀ (l : List Col) (i : Nat) (acc : List Expr), (∀ a ∈ acc, a.args = [] ∧ a.rels = []) → ∀ a ∈ tipL k i acc l, a.args = [] ∧ a.rels = []
 | [], i, acc, h => h
 | c :: r, i, acc, h => by
  unfold tipL
  split
  ·refine tipL_good k r (i + 1) _ fun a ha => ?_
   rcases List.mem_append.1 ha with h' | h'
   ·exact h a h'
   ·have : a = colE i := by simpa using h'
    subst this; exact ⟨rfl, rfl⟩
  ·exact tipL_good k r (i + 1) acc h
theorem tipE_good (raw : Expr) (cols : List Col) (k : Int) : bareE (tipE raw cols k) ∧ (tipE raw cols k).size = 1 := by
 have key : ∀ a : Expr, a.args = [] ∧ a.rels = [] → bareE a ∧ a.size = 1 := by
  rintro ⟨op, n, m, k, v, args, rels⟩ ⟨h1, h2⟩
  simp only [Expr.args, Expr.rels] at h1 h2
  subst h1; subst h2
  exact ⟨⟨trivial, fun r hr => by cases hr⟩, rfl⟩
 unfold tipE
 split
 ·exact key _ (tipL_good k cols 0 [] (fun a ha => by cases ha) _ (List.getElem_mem _))
 ·unfold tipV
  split
  ·exact key _ ⟨rfl, rfl⟩
  ·exact key _ ⟨rfl, rfl⟩
theorem tameE_good (cols : List Col) : ∀ (n : Nat) (raw : Expr) (k : Int), bareE (tameE cols n raw k) ∧ (tameE cols n raw k).size ≤ 6 ^ n
 | 0, raw, k => by have := tipE_good raw cols k; exact ⟨this.1, by show (tipE raw cols k).size ≤ _; rw [this.2]; decide⟩
 | n + 1, raw, k => by
  unfold tameE
  have hp : 1 ≤ 6 ^ n := Nat.one_le_pow _ _ (by decide)
  have hpp : 6 ^ (n + 1) = 6 * 6 ^ n := by rw [Nat.pow_succ, Nat.mul_comm]
  split
  ·have := tipE_good raw cols k
   exact ⟨this.1, by rw [this.2]; omega⟩
  ·unfold growE opE
   generalize opT k (posI raw.op 16).toNat = op
   have hb := grN_bound raw op
   have hl : ∀ (l : List Nat), bareEs (l.map fun i => tameE cols n (argN raw i) (kindAt op (grN raw op) (grK raw op k) i)) ∧ Expr.sizes (l.map fun i => tameE cols n (argN raw i) (kindAt op (grN raw op) (grK raw op k) i)) ≤ l.length * 6 ^ n := by
    intro l
    induction l with
    | nil => exact ⟨trivial, by simp [Expr.sizes]⟩
    | cons a r ih =>
     have h1 := tameE_good cols n (argN raw a) (kindAt op (grN raw op) (grK raw op k) a)
     refine ⟨⟨h1.1, ih.1⟩, ?_⟩
     simp only [List.map_cons, Expr.sizes, List.length_cons, Nat.add_mul, Nat.one_mul]
     omega
   have h := hl (List.range (grN raw op).toNat)
   refine ⟨⟨h.1, fun r hr => by cases hr⟩, ?_⟩
   simp only [Expr.size]
   have h5 : (List.range (grN raw op).toNat).length ≤ 5 := by simp; omega
   have h6 : (List.range (grN raw op).toNat).length * 6 ^ n ≤ 5 * 6 ^ n := Nat.mul_le_mul_right _ h5
   omega
theorem tameIn_good (cols : List Col) (raw : Expr) (k : Int) (hb : bareE raw) (hs : raw.size ≤ 420) : bareE (tameIn cols raw k 5) ∧ (tameIn cols raw k 5).size ≤ 500000 := by
 unfold tameIn
 split
 ·exact ⟨hb, by omega⟩
 ·have : ∀ (m i : Nat), 5 - i ≤ m → bareE (tameLoop cols raw k 5 i) ∧ (tameLoop cols raw k 5 i).size ≤ 500000 := by
   intro m
   induction m with
   | zero =>
    intro i hi
    rw [tameLoop, dif_neg (by omega)]
    have := tameE_good cols (5 - i) raw k
    rw [show 5 - i = 0 by omega] at this ⊢
    exact ⟨this.1, by have := this.2; omega⟩
   | succ m ih =>
    intro i hi
    have hg := tameE_good cols (5 - i) raw k
    have h6 : 6 ^ (5 - i) ≤ 6 ^ 5 := Nat.pow_le_pow_right (by decide) (by omega)
    have hg' : bareE (tameE cols (5 - i) raw k) ∧ (tameE cols (5 - i) raw k).size ≤ 500000 := ⟨hg.1, by have := hg.2; omega⟩
    rw [tameLoop]
    split
    ·split
     ·exact ih (i + 1) (by omega)
     ·exact hg'
    ·exact hg'
  exact this 5 0 (by omega)
theorem cal30 (raw : Expr) (cols : List Col) (hc : cols.length ≤ 1000000) (k : Int) (ht : txtE raw) : Cal 30 [raw.p, .lst (Col.ps cols), .int .i64 k, .int .i64 5] [(tameIn cols raw k 5).p] := ⟨by
 haveI c75 : Cal 75 [raw.p, .lst (Col.ps cols), .lst [], .int .i64 k, .int .i64 5] [(tameIn cols raw k 5).p] := cal75 raw cols hc k 5 (by decide) ht
 clear ht hc
 have msk : Msk 16096 16096 := ⟨⟩
 refine CallP.of_bodyN 14 cfg_ok Tryz.func30 rfl rfl (by kernel_rfl) fun base => ?_; simp only [mkA, Nat.reduceAdd]
 refine wpA_ok 0 rfl fun ok0 => ?_
 refine wpA_ok 1 rfl fun ok1 => ?_
 refine wpA_ok 2 rfl fun ok2 => ?_
 refine wpA_ok 3 rfl fun ok3 => ?_
 exact walk⟩
theorem tameCols_len (l : List Col) : (tameCols l).length ≤ 1000000 := by
 have : ∀ (l : List Col) (i : Nat) (acc : List Col), acc.length = i → i ≤ 4 → (tcL i acc l).length ≤ 4 := by
  intro l
  induction l with
  | nil => intro i acc h hi; unfold tcL; omega
  | cons c r ih =>
   intro i acc h hi
   unfold tcL
   split
   ·exact ih _ _ (by simp [h]) (by omega)
   ·omega
 unfold tameCols
 split
 ·simp
 ·have := this l 0 [] rfl (by omega); omega
def oneC (rawCols : List Col) (tame : Bool) : List Col := if tame then tameCols (cut18 rawCols) else cut18 rawCols
def oneE (raw : Expr) (rawCols : List Col) (k : Int) (tame : Bool) : Expr := if tame then tameIn (tameCols (cut18 rawCols)) (cut420 raw) k 5 else cut420 raw
theorem oneE_good (raw : Expr) (rawCols : List Col) (k : Int) (tame : Bool) : bareE (oneE raw rawCols k tame) ∧ (oneE raw rawCols k tame).size ≤ 500000 := by
 have h := cut420_good raw
 unfold oneE
 cases tame
 ·exact ⟨h.1, by have := h.2; simp only [Bool.false_eq_true, if_false]; omega⟩
 ·exact tameIn_good _ _ k h.1 h.2
theorem cal14 (raw : Expr) (rawCols : List Col) (k : Int) (tame : Bool) (hr : rawE raw) : Cal 14 [raw.p, .lst (Col.ps rawCols), .int .i64 k, .bool tame] [(oneE raw rawCols k tame).p, .lst (Col.ps (oneC rawCols tame))] := ⟨by
 haveI c46 := cal46 raw hr
 haveI c48 := cal48 (cut18 rawCols)
 haveI c30 := cal30 (cut420 raw) (tameCols (cut18 rawCols)) (tameCols_len _) k (by unfold cut420; exact cutE_txt)
 clear hr
 unfold oneE oneC
 cases tame
 ·have msk : Msk 33485024 33550560 := ⟨⟩
  refine CallP.of_bodyN 25 cfg_ok Tryz.func14 rfl rfl (by kernel_rfl) fun base => ?_; simp only [mkA, Nat.reduceAdd]
  refine wpA_ok 0 rfl fun ok0 => ?_
  refine wpA_ok 1 rfl fun ok1 => ?_
  refine wpA_ok 2 rfl fun ok2 => ?_
  refine wpA_ok 3 rfl fun ok3 => ?_
  exact walk
 ·have msk : Msk 33485024 33550560 := ⟨⟩
  refine CallP.of_bodyN 25 cfg_ok Tryz.func14 rfl rfl (by kernel_rfl) fun base => ?_; simp only [mkA, Nat.reduceAdd]
  refine wpA_ok 0 rfl fun ok0 => ?_
  refine wpA_ok 1 rfl fun ok1 => ?_
  refine wpA_ok 2 rfl fun ok2 => ?_
  refine wpA_ok 3 rfl fun ok3 => ?_
  exact walk⟩
end
end Go.Proofs.YtgiedlcjlalpcaaGreat
