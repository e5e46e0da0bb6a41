/- What the laws on parse rest on: contracts of the functions of parse and lex, for every world in which the listed package variables hold what the text lays. Part 2. -/
import Derived.Test.YthjdnhnbgjgbkaaGreatDoorGa1
set_option linter.unusedVariables false
set_option linter.unusedSimpArgs false
namespace Go.Proofs.YthjdnhnbgjgbkaaGreatDoor
open Go.SW Go.SP Go.RowKit
theorem isHole_spec (w : World) (hG : Gl w) (t : Tok) (kv : Value) (htx : t.k = 5 → t.tx ≠ []) (hlen : t.tx.length ≤ 100000) :
   Ret Tryz.prog 52 #[.agg #[.int .i64 t.k, .int .i64 t.ln, .int .i64 t.co, .int .i64 t.nm, S t.tx, kv]] w fun v w' => v = .bool t.isHole ∧ Ext w w' := by
 have hX := Ext.refl w
 refine enter Tryz.func52 rfl rfl rfl ?_
 refine ewp_seq ?_
 refine ewp_reg ?_
 refine ewl_box rfl rfl rfl fun b1 w1 hb1 hE1 hs1 hz1 => ?_
 replace hX := hX.trans hE1
 refine ewl_run rfl (rn_assign rfl) ?_
 refine ewl_nil ?_
 refine thn_n ?_
 refine ewp_seq ?_
 refine ewp_reg ?_
 refine ewl_run rfl (rn_loada rfl ti61 hb1 rfl) ?_
 refine ewl_ret rfl (en_call ent29 rfl rfl) (isVar_spec _ (hG.ext hX) ⟨_, _, _, _, _⟩ _ htx hlen) ?_
 rintro _ w2 ⟨rfl, hE2⟩
 replace hb1 := hb1.ext hE2
 replace hX := hX.trans hE2
 have sz1 := hE2.size
 refine ewl_run rfl (rn_move rfl) ?_
 refine ewl_split 5 rfl (fun h1 => ?_) (fun h1 => ?_)
 refine ewl_off rfl rfl rfl h1 ?_
 refine ewl_off rfl rfl rfl h1 ?_
 refine ewl_run rfl (rn_pickt rfl h1 rfl) ?_
 refine ewl_run rfl (rn_assign rfl) ?_
 refine ewl_nil ?_
 refine thn_n ?_
 refine ewp_ret ?_
 refine fn_r (resv rfl (rv_tmp rfl)) ?_
 exact ⟨by simp [Tok.isHole, h1], hX⟩
 refine ewl_grd rfl rfl h1 ?_
 refine ewl_run rfl (rn_loada rfl ti61 hb1 rfl) ?_
 refine ewl_grd rfl rfl h1 ?_
 refine ewl_ret rfl (en_call ent39 rfl rfl) (isWord_spec _ ⟨_, _, _, _, _⟩ _ _) ?_
 rintro _ w3 ⟨rfl, hE3⟩
 replace hb1 := hb1.ext hE3
 replace hX := hX.trans hE3
 have sz2 := hE3.size
 refine ewl_run rfl (rn_pickf rfl h1 rfl) ?_
 refine ewl_run rfl (rn_assign rfl) ?_
 refine ewl_nil ?_
 refine thn_n ?_
 refine ewp_ret ?_
 refine fn_r (resv rfl (rv_tmp rfl)) ?_
 exact ⟨by simp [Tok.isHole, h1], hX⟩
theorem isTypeName_spec (w : World) (hG : Gl w) (t : Tok) (kv : Value) (htx : t.k = 5 → t.tx ≠ []) (hlen : t.tx.length ≤ 100000) :
   Ret Tryz.prog 25 #[.agg #[.int .i64 t.k, .int .i64 t.ln, .int .i64 t.co, .int .i64 t.nm, S t.tx, kv]] w fun v w' => v = .bool t.isTypeName ∧ Ext w w' := by
 have hX := Ext.refl w
 refine enter Tryz.func25 rfl rfl rfl ?_
 refine ewp_seq ?_
 refine ewp_reg ?_
 refine ewl_box rfl rfl rfl fun b1 w1 hb1 hE1 hs1 hz1 => ?_
 replace hX := hX.trans hE1
 refine ewl_run rfl (rn_assign rfl) ?_
 refine ewl_nil ?_
 refine thn_n ?_
 refine ewp_seq ?_
 refine ewp_reg ?_
 refine ewl_run rfl (rn_loada rfl ti61 hb1 rfl) ?_
 refine ewl_ret rfl (en_call ent29 rfl rfl) (isVar_spec _ (hG.ext hX) ⟨_, _, _, _, _⟩ _ htx hlen) ?_
 rintro _ w2 ⟨rfl, hE2⟩
 replace hb1 := hb1.ext hE2
 replace hX := hX.trans hE2
 have sz1 := hE2.size
 refine ewl_run rfl (rn_move rfl) ?_
 refine ewl_split 5 rfl (fun h1 => ?_) (fun h1 => ?_)
 refine ewl_grd rfl rfl h1 ?_
 refine ewl_run rfl (rn_fa rfl fl61_0) ?_
 refine ewl_grd rfl rfl h1 ?_
 refine ewl_run rfl (rn_fa rfl fl59_3) ?_
 refine ewl_grd rfl rfl h1 ?_
 refine ewl_run rfl (rn_load rfl ti9 hb1 rfl) ?_
 refine ewl_grd rfl rfl h1 ?_
 refine ewl_run rfl (rn_addS rfl rfl (by simp; omega)) ?_
 refine ewl_grd rfl rfl h1 ?_
 refine ewl_run rfl (rn_addS rfl rfl (by simp; omega)) ?_
 refine ewl_grd rfl rfl h1 ?_
 refine ewl_ret rfl (en_call ent38 rfl rfl) (contains_spec _ (hG.ext hX) _ _ (by decide)) ?_
 rintro _ w3 ⟨rfl, hE3⟩
 replace hb1 := hb1.ext hE3
 replace hX := hX.trans hE3
 have sz2 := hE3.size
 refine ewl_grd rfl rfl h1 ?_
 refine ewl_run rfl (rn_not rfl) ?_
 refine ewl_run rfl (rn_pickt rfl h1 rfl) ?_
 refine ewl_run rfl (rn_assign rfl) ?_
 refine ewl_nil ?_
 refine thn_n ?_
 refine ewp_ret ?_
 refine fn_r (resv rfl (rv_tmp rfl)) ?_
 refine ⟨?_, hX⟩
 show _ = Value.bool (t.isVar && !builtM t.tx)
 rw [h1]; rfl
 refine ewl_off rfl rfl rfl h1 ?_
 refine ewl_off rfl rfl rfl h1 ?_
 refine ewl_off rfl rfl rfl h1 ?_
 refine ewl_off rfl rfl rfl h1 ?_
 refine ewl_off rfl rfl rfl h1 ?_
 refine ewl_off rfl rfl rfl h1 ?_
 refine ewl_off rfl rfl rfl h1 ?_
 refine ewl_run rfl (rn_pickf rfl h1 rfl) ?_
 refine ewl_run rfl (rn_assign rfl) ?_
 refine ewl_nil ?_
 refine thn_n ?_
 refine ewp_ret ?_
 refine fn_r (resv rfl (rv_tmp rfl)) ?_
 refine ⟨?_, hX⟩
 show _ = Value.bool (t.isVar && !builtM t.tx)
 simp [h1]
theorem isTypeVar_spec (w : World) (t : Tok) (kv : Value) (htx : t.k = 5 → t.tx ≠ []) :
   Ret Tryz.prog 26 #[.agg #[.int .i64 t.k, .int .i64 t.ln, .int .i64 t.co, .int .i64 t.nm, S t.tx, kv]] w fun v w' => v = .bool t.isTypeVar ∧ Ext w w' := by
 have hX := Ext.refl w
 refine enter Tryz.func26 rfl rfl rfl ?_
 refine ewp_seq ?_
 refine ewp_reg ?_
 refine ewl_box rfl rfl rfl fun b1 w1 hb1 hE1 hs1 hz1 => ?_
 replace hX := hX.trans hE1
 refine ewl_run rfl (rn_assign rfl) ?_
 refine ewl_nil ?_
 refine thn_n ?_
 refine ewp_seq ?_
 refine ewp_reg ?_
 refine ewl_run rfl (rn_loada rfl ti61 hb1 rfl) ?_
 refine ewl_ret rfl (en_call ent24 rfl rfl) (isName_spec _ ⟨_, _, _, _, _⟩ _) ?_
 rintro _ w2 ⟨rfl, hE2⟩
 replace hb1 := hb1.ext hE2
 replace hX := hX.trans hE2
 have sz1 := hE2.size
 refine ewl_run rfl (rn_move rfl) ?_
 refine ewl_split 5 rfl (fun h1 => ?_) (fun h1 => ?_)
 refine ewl_grd rfl rfl h1 ?_
 refine ewl_run rfl (rn_fa rfl fl61_0) ?_
 refine ewl_grd rfl rfl h1 ?_
 refine ewl_run rfl (rn_fa rfl fl59_3) ?_
 refine ewl_grd rfl rfl h1 ?_
 refine ewl_run rfl (rn_load rfl ti9 hb1 rfl) ?_
 refine ewl_grd rfl rfl h1 ?_
 refine ewl_run rfl (rn_ixS rfl rfl un9 (by decide) (hd0_get (htx (by simpa using h1)))) ?_
 refine ewl_grd rfl rfl h1 ?_
 refine ewl_run rfl (rn_eqI rfl rfl) ?_
 refine ewl_run rfl (rn_pickt rfl h1 rfl) ?_
 refine ewl_run rfl (rn_move rfl) ?_
 refine ewl_split 12 rfl (fun h2 => ?_) (fun h2 => ?_)
 refine ewl_grd rfl rfl h2 ?_
 refine ewl_run rfl (rn_fa rfl fl61_0) ?_
 refine ewl_grd rfl rfl h2 ?_
 refine ewl_run rfl (rn_fa rfl fl59_3) ?_
 refine ewl_grd rfl rfl h2 ?_
 refine ewl_run rfl (rn_load rfl ti9 hb1 rfl) ?_
 refine ewl_grd rfl rfl h2 ?_
 refine ewl_run rfl (rn_lenS rfl un9) ?_
 refine ewl_grd rfl rfl h2 ?_
 refine ewl_run rfl (rn_gtI rfl rfl) ?_
 refine ewl_run rfl (rn_pickt rfl h2 rfl) ?_
 refine ewl_run rfl (rn_assign rfl) ?_
 refine ewl_nil ?_
 refine thn_n ?_
 refine ewp_ret ?_
 refine fn_r (resv rfl (rv_tmp rfl)) ?_
 refine ⟨?_, hX⟩
 show _ = Value.bool (t.k == 5 && (((hd0 t.tx).toNat : Int) == 39 && decide (1 < (t.tx.length : Int))))
 rw [h1, h2]; rfl
 refine ewl_off rfl rfl rfl h2 ?_
 refine ewl_off rfl rfl rfl h2 ?_
 refine ewl_off rfl rfl rfl h2 ?_
 refine ewl_off rfl rfl rfl h2 ?_
 refine ewl_off rfl rfl rfl h2 ?_
 refine ewl_run rfl (rn_pickf rfl h2 rfl) ?_
 refine ewl_run rfl (rn_assign rfl) ?_
 refine ewl_nil ?_
 refine thn_n ?_
 refine ewp_ret ?_
 refine fn_r (resv rfl (rv_tmp rfl)) ?_
 refine ⟨?_, hX⟩
 show _ = Value.bool (t.k == 5 && (((hd0 t.tx).toNat : Int) == 39 && decide (1 < (t.tx.length : Int))))
 simp [h1, h2]
 refine ewl_off rfl rfl rfl h1 ?_
 refine ewl_off rfl rfl rfl h1 ?_
 refine ewl_off rfl rfl rfl h1 ?_
 refine ewl_off rfl rfl rfl h1 ?_
 refine ewl_off rfl rfl rfl h1 ?_
 refine ewl_run rfl (rn_pickf rfl h1 rfl) ?_
 refine ewl_run rfl (rn_move rfl) ?_
 refine ewl_off rfl rfl rfl rfl ?_
 refine ewl_off rfl rfl rfl rfl ?_
 refine ewl_off rfl rfl rfl rfl ?_
 refine ewl_off rfl rfl rfl rfl ?_
 refine ewl_off rfl rfl rfl rfl ?_
 refine ewl_run rfl (rn_pickf rfl rfl rfl) ?_
 refine ewl_run rfl (rn_assign rfl) ?_
 refine ewl_nil ?_
 refine thn_n ?_
 refine ewp_ret ?_
 refine fn_r (resv rfl (rv_tmp rfl)) ?_
 refine ⟨?_, hX⟩
 show _ = Value.bool (t.k == 5 && (((hd0 t.tx).toNat : Int) == 39 && decide (1 < (t.tx.length : Int))))
 simp [h1]
theorem fail_spec (w : World) (t : Tok) (kv : Value) :
   RetP Tryz.prog 33 #[.agg #[.int .i64 t.k, .int .i64 t.ln, .int .i64 t.co, .int .i64 t.nm, S t.tx, kv]] w (fun v w' => False) (fun c w' => c = trb 45 (t.ln, t.co) ∧ Ext w w') := by
 have hX := Ext.refl w
 refine enterP Tryz.func33 rfl rfl rfl ?_
 refine ewp_seq ?_
 refine ewp_reg ?_
 refine ewl_box rfl rfl rfl fun b1 w1 hb1 hE1 hs1 hz1 => ?_
 replace hX := hX.trans hE1
 refine ewl_nil ?_
 refine thn_n ?_
 refine ewp_reg ?_
 refine ewl_run rfl (rn_fa rfl fl61_0) ?_
 refine ewl_run rfl (rn_fa rfl fl59_1) ?_
 refine ewl_run rfl (rn_loada rfl ti25 hb1 rfl) ?_
 refine ewl_run rfl (rn_build rfl pl45 zr45 rfl) ?_
 refine ewl_run rfl (rn_mki rfl ni45) ?_
 refine ewl_pan (pn_panic rfl) (And.intro rfl ?_)
 exact ⟨rfl, hX⟩
theorem need_spec (w : World) (t : Tok) (kv : Value) (ok : Bool) :
   RetP Tryz.prog 22 #[.agg #[.int .i64 t.k, .int .i64 t.ln, .int .i64 t.co, .int .i64 t.nm, S t.tx, kv], .bool ok] w (fun v w' => ok = true ∧ v = .tuple #[] ∧ Ext w w') (fun c w' => ok = false ∧ c = trb 45 (t.ln, t.co) ∧ Ext w w') := by
 have hX := Ext.refl w
 refine enterP Tryz.func22 rfl rfl rfl ?_
 refine ewp_seq ?_
 refine ewp_reg ?_
 refine ewl_box rfl rfl rfl fun b1 w1 hb1 hE1 hs1 hz1 => ?_
 replace hX := hX.trans hE1
 refine ewl_nil ?_
 refine thn_n ?_
 refine ewp_seq ?_
 refine ewp_reg ?_
 refine ewl_run rfl (rn_move rfl) ?_
 refine ewl_run rfl (rn_not rfl) ?_
 refine ewl_nil ?_
 refine thn_n ?_
 refine ewp_if rfl (fun h1 => ?_) (fun h1 => ?_)
 replace h1 := nott h1
 refine ewp_reg ?_
 refine ewl_run rfl (rn_loada rfl ti61 hb1 rfl) ?_
 refine ewl_retp rfl (en_call ent33 rfl rfl) (fail_spec _ ⟨_, _, _, _, _⟩ _) (fun _ _ hf => hf.elim) (fun c wp hc => And.intro rfl (⟨h1, hc.1, hX.trans hc.2⟩))
 replace h1 := notf h1
 refine ewp_skip ?_
 refine fn_n (res0 rfl) ?_
 exact ⟨h1, rfl, hX⟩
theorem node_spec (w : World) (t : Tok) (kv : Value) (op : Int) (tx : List UInt8) (ka : Option Addr) (kn kc : Nat) :
   Ret Tryz.prog 27 #[.agg #[.int .i64 t.k, .int .i64 t.ln, .int .i64 t.co, .int .i64 t.nm, S t.tx, kv], .int .i64 op, S tx, .slice ka kn kc] w fun v w' => v = .agg #[.int .i64 op, .int .i64 t.ln, .int .i64 t.co, S tx, .int .i64 0, .slice ka kn kc] ∧ Ext w w' := by
 have hX := Ext.refl w
 refine enter Tryz.func27 rfl rfl rfl ?_
 refine ewp_seq ?_
 refine ewp_reg ?_
 refine ewl_box rfl rfl rfl fun b1 w1 hb1 hE1 hs1 hz1 => ?_
 replace hX := hX.trans hE1
 refine ewl_alloc rfl zr40 fun b2 w2 hb2 hE2 hs2 hz2 => ?_
 replace hb1 := hb1.ext hE2
 replace hX := hX.trans hE2
 refine ewl_nil ?_
 refine thn_n ?_
 refine ewp_seq ?_
 refine ewp_reg ?_
 refine ewl_run rfl (rn_move rfl) ?_
 refine ewl_run rfl (rn_fa rfl fl61_0) ?_
 refine ewl_run rfl (rn_fa rfl fl59_1) ?_
 refine ewl_run rfl (rn_loada rfl ti25 hb1 rfl) ?_
 refine ewl_run rfl (rn_move rfl) ?_
 refine ewl_run rfl (rn_move rfl) ?_
 refine ewl_run rfl (rn_build rfl pl40 zr40 rfl) ?_
 refine ewl_store rfl rfl rfl ti40 rfl hb2 rfl rfl fun w3 hb3 hC1 => ?_
 replace hb1 := hb1.chg hC1 (by omega)
 replace hX := hX.chg hC1 (by omega)
 have sz1 := hC1.size
 refine ewl_nil ?_
 refine thn_n ?_
 refine ewp_ret ?_
 refine fn_r (resv rfl (rv_cella rfl ti40 hb3 rfl)) ?_
 exact ⟨rfl, hX⟩
theorem hole_spec (w : World) (t : Tok) (k : Fo) (ka : Option Addr) (kn kc : Nat) :
   Ret Tryz.prog 51 #[.agg #[.int .i64 t.k, .int .i64 t.ln, .int .i64 t.co, .int .i64 t.nm, S t.tx, .slice ka kn kc]] w fun v w' => ∃ nd, holeM t k = .ok nd ∧ NV w w' v nd ∧ Ext w w' := by
 have hX := Ext.refl w
 refine enter Tryz.func51 rfl rfl rfl ?_
 refine ewp_seq ?_
 refine ewp_reg ?_
 refine ewl_box rfl rfl rfl fun b1 w1 hb1 hE1 hs1 hz1 => ?_
 replace hX := hX.trans hE1
 refine ewl_alloc rfl zr40 fun b2 w2 hb2 hE2 hs2 hz2 => ?_
 replace hb1 := hb1.ext hE2
 replace hX := hX.trans hE2
 refine ewl_nil ?_
 refine thn_n ?_
 refine ewp_seq ?_
 refine ewp_seq ?_
 refine ewp_reg ?_
 refine ewl_run rfl (rn_loada rfl ti61 hb1 rfl) ?_
 refine ewl_ret rfl (en_call ent39 rfl rfl) (isWord_spec _ ⟨_, _, _, _, _⟩ _ _) ?_
 rintro _ w3 ⟨rfl, hE3⟩
 replace hb1 := hb1.ext hE3
 replace hb2 := hb2.ext hE3
 replace hX := hX.trans hE3
 have sz1 := hE3.size
 refine ewl_nil ?_
 refine thn_n ?_
 refine ewp_if rfl (fun h1 => ?_) (fun h1 => ?_)
 refine ewp_seq ?_
 refine ewp_reg ?_
 refine ewl_run rfl (rn_loada rfl ti61 hb1 rfl) ?_
 refine ewl_ret rfl (en_call ent27 rfl rfl) (node_spec _ ⟨_, _, _, _, _⟩ _ _ _ _ _ _) ?_
 rintro _ w4 ⟨rfl, hE4⟩
 replace hb1 := hb1.ext hE4
 replace hb2 := hb2.ext hE4
 replace hX := hX.trans hE4
 have sz2 := hE4.size
 refine ewl_store rfl rfl rfl ti40 rfl hb2 rfl rfl fun w5 hb3 hC1 => ?_
 replace hb1 := hb1.chg hC1 (by omega)
 replace hX := hX.chg hC1 (by omega)
 have sz3 := hC1.size
 refine ewl_nil ?_
 refine thn_n ?_
 refine ewp_ret ?_
 refine thn_r ?_
 refine fn_r (resv rfl (rv_cella rfl ti40 hb3 rfl)) ?_
 refine ⟨node t 21 [] .nil, by simp [holeM, h1], ⟨_, _, _, rfl, NdS.nil _ _ _ _⟩, hX⟩
 refine ewp_skip ?_
 refine thn_n ?_
 refine ewp_seq ?_
 refine ewp_reg ?_
 refine ewl_run rfl (rn_loada rfl ti61 hb1 rfl) ?_
 refine ewl_run rfl (rn_fa rfl fl61_0) ?_
 refine ewl_run rfl (rn_fa rfl fl59_3) ?_
 refine ewl_run rfl (rn_load rfl ti9 hb1 rfl) ?_
 refine ewl_ret rfl (en_call ent27 rfl rfl) (node_spec _ ⟨_, _, _, _, _⟩ _ _ _ _ _ _) ?_
 rintro _ w6 ⟨rfl, hE5⟩
 replace hb1 := hb1.ext hE5
 replace hb2 := hb2.ext hE5
 replace hX := hX.trans hE5
 have sz4 := hE5.size
 refine ewl_store rfl rfl rfl ti40 rfl hb2 rfl rfl fun w7 hb4 hC2 => ?_
 replace hb1 := hb1.chg hC2 (by omega)
 replace hX := hX.chg hC2 (by omega)
 have sz5 := hC2.size
 refine ewl_nil ?_
 refine thn_n ?_
 refine ewp_ret ?_
 refine fn_r (resv rfl (rv_cella rfl ti40 hb4 rfl)) ?_
 refine ⟨node t 22 t.tx .nil, by simp [holeM, h1], ⟨_, _, _, rfl, NdS.nil _ _ _ _⟩, hX⟩
theorem isFn_nil (w : World) (t : Tok) (U : Nat → Prop) (ka : Option Addr) (kc : Nat) :
   Ret Tryz.prog 32 #[.agg #[.int .i64 t.k, .int .i64 t.ln, .int .i64 t.co, .int .i64 t.nm, S t.tx, .slice ka 0 kc]] w fun v w' => v = .bool (isFn t .nil) ∧ Ext w w' := by
 have hX := Ext.refl w
 refine enter Tryz.func32 rfl rfl rfl ?_
 refine ewp_seq ?_
 refine ewp_reg ?_
 refine ewl_box rfl rfl rfl fun b1 w1 hb1 hE1 hs1 hz1 => ?_
 replace hX := hX.trans hE1
 refine ewl_run rfl (rn_assign rfl) ?_
 refine ewl_nil ?_
 refine thn_n ?_
 refine ewp_seq ?_
 refine ewp_reg ?_
 refine ewl_run rfl (rn_loada rfl ti61 hb1 rfl) ?_
 refine ewl_ret rfl (en_call ent23 rfl rfl) (isList_spec _ ⟨_, _, _, _, _⟩ _) ?_
 rintro _ w2 ⟨rfl, hE2⟩
 replace hb1 := hb1.ext hE2
 replace hX := hX.trans hE2
 have sz1 := hE2.size
 refine ewl_run rfl (rn_move rfl) ?_
 refine ewl_split 5 rfl (fun h1 => ?_) (fun h1 => ?_)
 refine ewl_grd rfl rfl h1 ?_
 refine ewl_run rfl (rn_fa rfl fl61_1) ?_
 refine ewl_grd rfl rfl h1 ?_
 refine ewl_run rfl (rn_load rfl ti47 hb1 rfl) ?_
 refine ewl_grd rfl rfl h1 ?_
 refine ewl_run rfl (rn_len rfl sl47) ?_
 refine ewl_grd rfl rfl h1 ?_
 refine ewl_run rfl (rn_gtI rfl rfl) ?_
 refine ewl_run rfl (rn_pickt rfl h1 rfl) ?_
 refine ewl_run rfl (rn_move rfl) ?_
 refine ewl_off rfl rfl rfl rfl ?_
 refine ewl_off rfl rfl rfl rfl ?_
 refine ewl_off rfl rfl rfl rfl ?_
 refine ewl_off rfl rfl rfl rfl ?_
 refine ewl_off rfl rfl rfl rfl ?_
 refine ewl_run rfl (rn_pickf rfl rfl rfl) ?_
 refine ewl_run rfl (rn_assign rfl) ?_
 refine ewl_nil ?_
 refine thn_n ?_
 refine ewp_ret ?_
 refine fn_r (resv rfl (rv_tmp rfl)) ?_
 exact ⟨by simp [isFn], hX⟩
 refine ewl_off rfl rfl rfl h1 ?_
 refine ewl_off rfl rfl rfl h1 ?_
 refine ewl_off rfl rfl rfl h1 ?_
 refine ewl_off rfl rfl rfl h1 ?_
 refine ewl_run rfl (rn_pickf rfl h1 rfl) ?_
 refine ewl_run rfl (rn_move rfl) ?_
 refine ewl_off rfl rfl rfl rfl ?_
 refine ewl_off rfl rfl rfl rfl ?_
 refine ewl_off rfl rfl rfl rfl ?_
 refine ewl_off rfl rfl rfl rfl ?_
 refine ewl_off rfl rfl rfl rfl ?_
 refine ewl_run rfl (rn_pickf rfl rfl rfl) ?_
 refine ewl_run rfl (rn_assign rfl) ?_
 refine ewl_nil ?_
 refine thn_n ?_
 refine ewp_ret ?_
 refine fn_r (resv rfl (rv_tmp rfl)) ?_
 exact ⟨by simp [isFn], hX⟩
theorem isFn_cons (w : World) (t : Tok) (U : Nat → Prop) (ka : Option Addr) (kn kc : Nat) (h : Tok) (k r : Fo) (hK : FoS U w ka kn kc (.cons h k r)) :
   Ret Tryz.prog 32 #[.agg #[.int .i64 t.k, .int .i64 t.ln, .int .i64 t.co, .int .i64 t.nm, S t.tx, .slice ka kn kc]] w fun v w' => v = .bool (isFn t (.cons h k r)) ∧ Ext w w' := by
 obtain ⟨b, off, cells, T, ka1, kn1, kc1, l1, hUb, rfl, hb, hd, hk1, hr1⟩ := hK.head
 obtain rfl : kn = r.len + 1 := hK.1
 have hX := Ext.refl w
 refine enter Tryz.func32 rfl rfl rfl ?_
 refine ewp_seq ?_
 refine ewp_reg ?_
 refine ewl_box rfl rfl rfl fun b1 w1 hb1 hE1 hs1 hz1 => ?_
 replace hb := hb.ext hE1
 replace hX := hX.trans hE1
 refine ewl_run rfl (rn_assign rfl) ?_
 refine ewl_nil ?_
 refine thn_n ?_
 refine ewp_seq ?_
 refine ewp_reg ?_
 refine ewl_run rfl (rn_loada rfl ti61 hb1 rfl) ?_
 refine ewl_ret rfl (en_call ent23 rfl rfl) (isList_spec _ ⟨_, _, _, _, _⟩ _) ?_
 rintro _ w2 ⟨rfl, hE2⟩
 replace hb := hb.ext hE2
 replace hb1 := hb1.ext hE2
 replace hX := hX.trans hE2
 have sz1 := hE2.size
 refine ewl_run rfl (rn_move rfl) ?_
 refine ewl_split 5 rfl (fun h1 => ?_) (fun h1 => ?_)
 refine ewl_grd rfl rfl h1 ?_
 refine ewl_run rfl (rn_fa rfl fl61_1) ?_
 refine ewl_grd rfl rfl h1 ?_
 refine ewl_run rfl (rn_load rfl ti47 hb1 rfl) ?_
 refine ewl_grd rfl rfl h1 ?_
 refine ewl_run rfl (rn_len rfl sl47) ?_
 refine ewl_grd rfl rfl h1 ?_
 refine ewl_run rfl (rn_gtI rfl rfl) ?_
 refine ewl_run rfl (rn_pickt rfl h1 rfl) ?_
 refine ewl_run rfl (rn_move rfl) ?_
 refine ewl_split 11 rfl (fun h2 => ?_) (fun h2 => ?_)
 refine ewl_grd rfl rfl h2 ?_
 refine ewl_run rfl (rn_fa rfl fl61_1) ?_
 refine ewl_grd rfl rfl h2 ?_
 refine ewl_run rfl (rn_load rfl ti47 hb1 rfl) ?_
 refine ewl_grd rfl rfl h2 ?_
 refine ewl_run rfl (rn_ixc (i := 0) rfl rfl sl47 (by omega)) ?_
 refine ewl_grd rfl rfl h2 ?_
 refine ewl_run rfl (rn_loadad 0 rfl ti61 hb hd (by omega) rfl) ?_
 refine ewl_grd rfl rfl h2 ?_
 refine ewl_ret rfl (en_call ent39 rfl rfl) (isWord_spec _ ⟨_, _, _, _, _⟩ _ _) ?_
 rintro _ w3 ⟨rfl, hE3⟩
 replace hb := hb.ext hE3
 replace hb1 := hb1.ext hE3
 replace hX := hX.trans hE3
 have sz2 := hE3.size
 refine ewl_run rfl (rn_pickt rfl h2 rfl) ?_
 refine ewl_run rfl (rn_assign rfl) ?_
 refine ewl_nil ?_
 refine thn_n ?_
 refine ewp_ret ?_
 refine fn_r (resv rfl (rv_tmp rfl)) ?_
 exact ⟨by simp [isFn, h1], hX⟩
 · exfalso
   simp at h2 <;> omega
 refine ewl_off rfl rfl rfl h1 ?_
 refine ewl_off rfl rfl rfl h1 ?_
 refine ewl_off rfl rfl rfl h1 ?_
 refine ewl_off rfl rfl rfl h1 ?_
 refine ewl_run rfl (rn_pickf rfl h1 rfl) ?_
 refine ewl_run rfl (rn_move rfl) ?_
 refine ewl_off rfl rfl rfl rfl ?_
 refine ewl_off rfl rfl rfl rfl ?_
 refine ewl_off rfl rfl rfl rfl ?_
 refine ewl_off rfl rfl rfl rfl ?_
 refine ewl_off rfl rfl rfl rfl ?_
 refine ewl_run rfl (rn_pickf rfl rfl rfl) ?_
 refine ewl_run rfl (rn_assign rfl) ?_
 refine ewl_nil ?_
 refine thn_n ?_
 refine ewp_ret ?_
 refine fn_r (resv rfl (rv_tmp rfl)) ?_
 exact ⟨by simp [isFn, h1], hX⟩
theorem isFn_spec (w : World) (t : Tok) (U : Nat → Prop) (ka : Option Addr) (kn kc : Nat) (k : Fo) (hK : FoS U w ka kn kc k) :
   Ret Tryz.prog 32 #[.agg #[.int .i64 t.k, .int .i64 t.ln, .int .i64 t.co, .int .i64 t.nm, S t.tx, .slice ka kn kc]] w fun v w' => v = .bool (isFn t k) ∧ Ext w w' := by
 cases k with
 | nil => obtain rfl : kn = 0 := hK.1; exact isFn_nil w t U ka kc
 | cons h k r => exact isFn_cons w t U ka kn kc h k r hK
end Go.Proofs.YthjdnhnbgjgbkaaGreatDoor
namespace Go.Proofs.YthjdnhnbgjgbkaaGreatDoor
open Go.SW Go.SP Go.RowKit
theorem holes_spec (w : World) (hG : Gl w) (U : Nat → Prop) (a : Option Addr) (n c : Nat) (fo : Fo) (hK : FoS U w a n c fo) (hall : fo.all (fun t _ => t.ok)) (hlen : fo.len ≤ 100000) :
   Ret Tryz.prog 50 #[.slice a n c] w fun v w' => v = .bool (holes fo) ∧ Ext w w' := by
 have hn : n = fo.len := hK.1
 have hX := Ext.refl w
 refine enter Tryz.func50 rfl rfl rfl ?_
 refine ewp_seq ?_
 refine ewp_reg ?_
 refine ewl_run rfl (rn_assign rfl) ?_
 refine ewl_nil ?_
 refine thn_n ?_
 refine ewp_seq ?_
 refine ewp_seq ?_
 refine ewp_reg ?_
 refine ewl_run rfl (rn_move rfl) ?_
 refine ewl_run rfl (rn_len rfl sl47) ?_
 refine ewl_run rfl (rn_move rfl) ?_
 refine ewl_nil ?_
 refine thn_n ?_
 refine ewp_block ?_
 refine ewp_loop (fun k σ ds w' => ∃ (i : Nat) (r : Fo), k = r.len ∧ ds = [] ∧ σ = (upd (upd (upd SW.e0 5 (.slice a n c)) 6 (.int .i64 (n : Int))) 7 (.int .i64 (i : Int))) ∧ i + r.len = n ∧ holes fo = holes r ∧ r.all (fun t _ => t.ok) ∧ At U w a i r ∧ Ext w w') fo.len (upd (upd (upd SW.e0 5 (.slice a n c)) 6 (.int .i64 (n : Int))) 7 (.int .i64 ((0 : Nat) : Int))) (le_upd (le_upd (le_upd (le_e0 _) rfl) rfl) rfl) ⟨0, fo, rfl, rfl, rfl, by omega, rfl, hall, hK.at, hX⟩ ?_
 rintro _ _ _ wl ⟨i, r, rfl, rfl, rfl, hi, hm, hal, hat, hX⟩
 have szl := hX.size
 refine ewp_seq ?_
 refine ewp_reg ?_
 refine ewl_run rfl (rn_ltI rfl rfl) ?_
 refine ewl_nil ?_
 refine thn_n ?_
 refine ewp_seq ?_
 refine ewp_if rfl (fun h1 => ?_) (fun h1 => ?_)
 refine ewp_skip ?_
 refine thn_n ?_
 refine ewp_seq ?_
 refine ewp_block ?_
 refine ewp_seq ?_
 refine ewp_reg ?_
 have hi2 : i < n := by simpa using h1
 rcases r with _ | ⟨t, k, r⟩
 · simp [Fo.len] at hi; omega
 simp only [Fo.len] at hi
 obtain ⟨b, off, cells, T, ka1, kn1, kc1, l1, hUb, rfl, hb, hd, hk1⟩ := hat.head
 refine ewl_run rfl (rn_ixc (i := i) rfl rfl sl47 hi2) ?_
 refine ewl_run rfl (rn_loadad 0 rfl ti61 (hb.ext hX) hd (by omega) rfl) ?_
 refine ewl_alloc rfl zr61 fun b1 w1 hb1 hE1 hs1 hz1 => ?_
 replace hX := hX.trans hE1
 refine ewl_store rfl rfl rfl ti61 rfl hb1 rfl rfl fun w2 hb2 hC1 => ?_
 replace hX := hX.chg hC1 (by omega)
 have sz1 := hC1.size
 refine ewl_nil ?_
 refine thn_n ?_
 refine ewp_seq ?_
 refine ewp_reg ?_
 refine ewl_run rfl (rn_loada rfl ti61 hb2 rfl) ?_
 refine ewl_ret rfl (en_call ent52 rfl rfl) (isHole_spec _ ((hG.ext hX)) ⟨_, _, _, _, _⟩ _ hal.1.1 hal.1.2) ?_
 rintro _ w3 ⟨rfl, hE2⟩
 replace hb2 := hb2.ext hE2
 replace hX := hX.trans hE2
 have sz2 := hE2.size
 refine ewl_run rfl (rn_not rfl) ?_
 refine ewl_nil ?_
 refine thn_n ?_
 refine ewp_if rfl (fun h2 => ?_) (fun h2 => ?_)
 replace h2 := nott h2
 refine ewp_seq ?_
 refine ewp_reg ?_
 refine ewl_run rfl (rn_assign rfl) ?_
 refine ewl_nil ?_
 refine thn_n ?_
 refine ewp_ret ?_
 refine blk_r ?_
 refine thn_r ?_
 refine lp_r ?_
 refine blk_r ?_
 refine thn_r ?_
 refine fn_r (resv rfl (rv_tmp rfl)) ?_
 refine ⟨?_, hX⟩
 rw [hm]; simp only [holes]; rw [h2]; rfl
 replace h2 := notf h2
 refine ewp_skip ?_
 refine blk_n ?_
 refine thn_n ?_
 refine ewp_reg ?_
 refine ewl_run rfl (rn_add rfl rfl ⟨by omega, by omega⟩) ?_
 refine ewl_run rfl (rn_move rfl) ?_
 refine ewl_nil ?_
 refine lp_n r.len (upd (upd (upd SW.e0 5 (.slice (some ⟨b, off, none⟩) n c)) 6 (.int .i64 (n : Int))) 7 (.int .i64 ((i + 1 : Nat) : Int))) (by simp [Fo.len]) (le_upd (le_upd (le_upd (le_e0 _) rfl) rfl) rfl) ⟨i + 1, r, rfl, rfl, rfl, by omega, ?_, hal.2, hat.next, hX⟩
 rw [hm]; simp only [holes]; rw [h2]; rfl
 refine ewp_exit ?_
 refine thn_e ?_
 refine lp_e ?_
 refine blk_e ?_
 refine thn_n ?_
 refine ewp_seq ?_
 refine ewp_reg ?_
 refine ewl_run rfl (rn_assign rfl) ?_
 refine ewl_nil ?_
 refine thn_n ?_
 refine ewp_ret ?_
 refine fn_r (resv rfl (rv_tmp rfl)) ?_
 refine ⟨?_, hX⟩
 have hz : r = .nil := by
   rcases r with _ | ⟨t, k, r⟩
   · rfl
   · simp [Fo.len] at hi; simp at h1; omega
 rw [hm, hz]; rfl
theorem each_spec (w : World) (f : FuncId) (hent : Ent Tryz.prog f) (m : Tok → Fo → R N) (p : Tok → Fo → Prop) (U : Nat → Prop) (a : Option Addr) (n c : Nat) (fo : Fo) (hK : FoS U w a n c fo) (hall : fo.all p) (hlen : fo.len ≤ 100000) (hf : ∀ w', Ext w w' → ∀ t k ka kn kc, FoS U w' ka kn kc k → p t k → NodeFn Tryz.prog f 45 m w' t k ka kn kc) :
   RetP Tryz.prog 15 #[.slice a n c, .func (.func f) #[] #[]] w (fun v w' => ∃ nds ra rc, eachM m fo = .ok nds ∧ v = .slice ra nds.len rc ∧ NRow 40 w w' ra nds.len rc nds ∧ Ext w w') (fun c w' => ∃ e, eachM m fo = .error e ∧ c = trb 45 e ∧ Ext w w') := by
 have hn : n = fo.len := hK.1
 have hX := Ext.refl w
 refine enterP Tryz.func15 rfl rfl rfl ?_
 refine ewp_seq ?_
 refine ewp_reg ?_
 refine ewl_run rfl (rn_assign rfl) ?_
 refine ewl_nil ?_
 refine thn_n ?_
 refine ewp_seq ?_
 refine ewp_reg ?_
 refine ewl_run rfl (rn_assign rfl) ?_
 refine ewl_nil ?_
 refine thn_n ?_
 refine ewp_seq ?_
 refine ewp_seq ?_
 refine ewp_reg ?_
 refine ewl_run rfl (rn_move rfl) ?_
 refine ewl_run rfl (rn_len rfl sl47) ?_
 refine ewl_run rfl (rn_move rfl) ?_
 refine ewl_nil ?_
 refine thn_n ?_
 refine ewp_block ?_
 refine ewp_loop (fun k σ ds w' => ∃ (i : Nat) (r : Fo) (nds : Nd) (ra : Option Addr) (rc : Nat), k = r.len ∧ ds = [] ∧ σ = (upd (upd (upd (upd (upd SW.e0 1 (.func (.func f) #[] #[])) 5 (.slice ra nds.len rc)) 8 (.slice a n c)) 9 (.int .i64 (n : Int))) 10 (.int .i64 (i : Int))) ∧ i + r.len = n ∧ nds.len = i ∧ (∀ x, eachM m r = .ok x → eachM m fo = .ok (nds.app x)) ∧ (∀ e, eachM m r = .error e → eachM m fo = .error e) ∧ r.all p ∧ At U w a i r ∧ NRow 40 w w' ra nds.len rc nds ∧ Ext w w') fo.len (upd (upd (upd (upd (upd SW.e0 1 (.func (.func f) #[] #[])) 5 (.slice none 0 0)) 8 (.slice a n c)) 9 (.int .i64 (n : Int))) 10 (.int .i64 ((0 : Nat) : Int))) (le_upd (le_upd (le_upd (le_upd (le_upd (le_e0 _) rfl) rfl) rfl) rfl) rfl) ⟨0, fo, .nil, none, 0, rfl, rfl, rfl, by omega, rfl, fun x h => h, fun e h => h, hall, hK.at, NRow.nil _ _ _, hX⟩ ?_
 rintro _ _ _ wl ⟨i, r, nds, ra, rc, rfl, rfl, rfl, hi, hnl, hmo, hme, hal, hat, hN, hX⟩
 have szl := hX.size
 have hA1 := Ext.refl wl
 refine ewp_seq ?_
 refine ewp_reg ?_
 refine ewl_run rfl (rn_ltI rfl rfl) ?_
 refine ewl_nil ?_
 refine thn_n ?_
 refine ewp_seq ?_
 refine ewp_if rfl (fun h1 => ?_) (fun h1 => ?_)
 refine ewp_skip ?_
 refine thn_n ?_
 refine ewp_seq ?_
 refine ewp_block ?_
 refine ewp_seq ?_
 refine ewp_reg ?_
 have hi2 : i < n := by simpa using h1
 rcases r with _ | ⟨t, k, r⟩
 · simp [Fo.len] at hi; omega
 simp only [Fo.len] at hi
 obtain ⟨b, off, cells, T, ka1, kn1, kc1, l1, hUb, rfl, hb, hd, hk1⟩ := hat.head
 refine ewl_run rfl (rn_ixc (i := i) rfl rfl sl47 hi2) ?_
 refine ewl_run rfl (rn_loadad 0 rfl ti61 (hb.ext hX) hd (by omega) rfl) ?_
 refine ewl_alloc rfl zr61 fun b1 w1 hb1 hE1 hs1 hz1 => ?_
 replace hX := hX.trans hE1
 replace hA1 := hA1.trans hE1
 refine ewl_store rfl rfl rfl ti61 rfl hb1 rfl rfl fun w2 hb2 hC1 => ?_
 replace hX := hX.chg hC1 (by omega)
 replace hA1 := hA1.chg hC1 (by omega)
 have sz1 := hC1.size
 refine ewl_nil ?_
 refine thn_n ?_
 refine ewp_reg ?_
 refine ewl_run rfl (rn_move rfl) ?_
 refine ewl_run rfl (rn_move rfl) ?_
 refine ewl_run rfl (rn_loada rfl ti61 hb2 rfl) ?_
 refine ewl_retp rfl (en_call hent rfl rfl) (hf _ hX t k ka1 kn1 kc1 (hk1.ext hX) hal.1) ?_ (fun c wp hc => And.intro rfl (let ⟨e, he, hc1, hc2⟩ := hc; ⟨e, hme _ (eachM_bad he), hc1, hX.trans hc2⟩))
 rintro _ w3 ⟨nd, hnd, ⟨ka2, kn2, kc2, rfl, hkids⟩, hE2⟩
 replace hb2 := hb2.ext hE2
 replace hX := hX.trans hE2
 replace hA1 := hA1.trans hE2
 have sz2 := hE2.size
 have hA2 := Ext.refl w3
 refine ewl_bs rfl rfl sl23 zr40 rfl rfl rfl rfl rfl fun b2 w4 hb3 hE3 hs2 hz2 => ?_
 replace hb2 := hb2.ext hE3
 replace hX := hX.trans hE3
 replace hA1 := hA1.trans hE3
 replace hA2 := hA2.trans hE3
 have hN1 := (hN.ext hA1)
 have hk2 := (hkids.ext hA2)
 obtain ⟨xs, hrow, hxs⟩ := hN1.ex
 refine ewl_app1 rfl ap23 rfl rfl rfl rfl hrow hb3 rfl rfl (by omega) (by omega) fun ra2 rc2 w5 hr1 hG1 => ?_
 have hl2 : (nds.app (nd.cons .nil)).len = i + 1 := by rw [Nd.len_app, hnl]; rfl
 have hl3 : nds.len + 1 = (nds.app (nd.cons .nil)).len := by omega
 have hN2 := NRow.step hrow hxs rfl hN1.new hk2 (by omega) (by omega) (fun b hb => by have := (hN.ex.choose_spec.1).lt hb; omega) hr1 hG1
 replace hX := hX.grow hG1 hN.new
 refine ewl_run rfl (rn_assign rfl) ?_
 refine ewl_nil ?_
 refine blk_n ?_
 refine thn_n ?_
 refine ewp_reg ?_
 refine ewl_run rfl (rn_add rfl rfl ⟨by omega, by omega⟩) ?_
 refine ewl_run rfl (rn_move rfl) ?_
 refine ewl_nil ?_
 refine lp_n r.len (upd (upd (upd (upd (upd SW.e0 1 (.func (.func f) #[] #[])) 5 (.slice ra2 (nds.app (nd.cons .nil)).len rc2)) 8 (.slice (some ⟨b, off, none⟩) n c)) 9 (.int .i64 (n : Int))) 10 (.int .i64 ((i + 1 : Nat) : Int))) (by simp [Fo.len]) (le_upd (le_upd (le_upd (le_upd (le_upd (le_e0 _) rfl) (hl3 ▸ rfl)) rfl) rfl) rfl) ⟨i + 1, r, nds.app (nd.cons .nil), ra2, rc2, rfl, rfl, rfl, by omega, hl2, ?_, ?_, hal.2, hat.next, hl3 ▸ hN2, hX⟩
 · intro x hx; rw [hmo _ (eachM_ok hnd hx), Nd.app_assoc]; rfl
 · intro e he; exact hme _ (eachM_bad2 hnd he)
 refine ewp_exit ?_
 refine thn_e ?_
 refine lp_e ?_
 refine blk_e ?_
 refine thn_n ?_
 refine ewp_seq ?_
 refine ewp_reg ?_
 refine ewl_run rfl (rn_move rfl) ?_
 refine ewl_run rfl (rn_assign rfl) ?_
 refine ewl_nil ?_
 refine thn_n ?_
 refine ewp_ret ?_
 refine fn_r (resv rfl (rv_tmp rfl)) ?_
 have hz : r = .nil := by
   rcases r with _ | ⟨t, k, r⟩
   · rfl
   · simp [Fo.len] at hi; simp at h1; omega
 subst hz
 exact ⟨nds, ra, rc, (hmo .nil rfl).trans (by rw [Nd.app_nil]), rfl, (hN.ext hA1), hX⟩
end Go.Proofs.YthjdnhnbgjgbkaaGreatDoor
namespace Go.Proofs.YthjdnhnbgjgbkaaGreatDoor
open Go.SW Go.SP Go.RowKit
theorem pat_nil (w : World) (hG : Gl w) (t : Tok) (ka : Option Addr) (kc n : Nat) (hok : okT 0 t .nil) :
   RetP Tryz.prog 63 #[.agg #[.int .i64 t.k, .int .i64 t.ln, .int .i64 t.co, .int .i64 t.nm, S t.tx, .slice ka 0 kc]] w (fun v w' => ∃ nd, (patM (n + 1)) t Fo.nil = .ok nd ∧ NV w w' v nd ∧ Ext w w') (fun c w' => ∃ e, (patM (n + 1)) t Fo.nil = .error e ∧ c = trb 45 e ∧ Ext w w') := by
 have hX := Ext.refl w
 refine enterP Tryz.func63 rfl rfl rfl ?_
 refine ewp_seq ?_
 refine ewp_reg ?_
 refine ewl_box rfl rfl rfl fun b1 w1 hb1 hE1 hs1 hz1 => ?_
 replace hX := hX.trans hE1
 refine ewl_alloc rfl zr40 fun b2 w2 hb2 hE2 hs2 hz2 => ?_
 replace hb1 := hb1.ext hE2
 replace hX := hX.trans hE2
 refine ewl_nil ?_
 refine thn_n ?_
 refine ewp_seq ?_
 refine ewp_seq ?_
 refine ewp_reg ?_
 refine ewl_run rfl (rn_fa rfl fl61_0) ?_
 refine ewl_run rfl (rn_fa rfl fl59_0) ?_
 refine ewl_run rfl (rn_load rfl ti3 hb1 rfl) ?_
 refine ewl_nil ?_
 refine thn_n ?_
 refine ewp_block ?_
 refine ewp_seq ?_
 refine ewp_reg ?_
 refine ewl_run rfl (rn_eqI rfl rfl) ?_
 refine ewl_run rfl (rn_assign rfl) ?_
 refine ewl_nil ?_
 refine thn_n ?_
 refine ewp_if rfl (fun h1 => ?_) (fun h1 => ?_)
 refine ewp_seq ?_
 refine ewp_reg ?_
 refine ewl_run rfl (rn_fa rfl fl61_0) ?_
 refine ewl_run rfl (rn_fa rfl fl59_1) ?_
 refine ewl_run rfl (rn_loada rfl ti25 hb1 rfl) ?_
 refine ewl_run rfl (rn_fa rfl fl61_0) ?_
 refine ewl_run rfl (rn_fa rfl fl59_2) ?_
 refine ewl_run rfl (rn_load rfl ti3 hb1 rfl) ?_
 refine ewl_run rfl (rn_build rfl pl40 zr40 rfl) ?_
 refine ewl_store rfl rfl rfl ti40 rfl hb2 rfl rfl fun w3 hb3 hC1 => ?_
 replace hb1 := hb1.chg hC1 (by omega)
 replace hX := hX.chg hC1 (by omega)
 have sz1 := hC1.size
 refine ewl_nil ?_
 refine thn_n ?_
 refine ewp_ret ?_
 refine blk_r ?_
 refine thn_r ?_
 refine fn_r (resv rfl (rv_cella rfl ti40 hb3 rfl)) ?_
 exact ⟨⟨23, t.ln, t.co, [], t.nm, .nil⟩, by rw [patM]; simp [h1], ⟨_, _, _, rfl, NdS.nil _ _ _ _⟩, hX⟩
 refine ewp_seq ?_
 refine ewp_reg ?_
 refine ewl_run rfl (rn_eqI rfl rfl) ?_
 refine ewl_run rfl (rn_assign rfl) ?_
 refine ewl_nil ?_
 refine thn_n ?_
 refine ewp_if rfl (fun h2 => ?_) (fun h2 => ?_)
 refine ewp_seq ?_
 refine ewp_reg ?_
 refine ewl_run rfl (rn_loada rfl ti61 hb1 rfl) ?_
 refine ewl_run rfl (rn_fa rfl fl61_0) ?_
 refine ewl_run rfl (rn_fa rfl fl59_3) ?_
 refine ewl_run rfl (rn_load rfl ti9 hb1 rfl) ?_
 refine ewl_ret rfl (en_call ent27 rfl rfl) (node_spec _ ⟨_, _, _, _, _⟩ _ _ _ _ _ _) ?_
 rintro _ w4 ⟨rfl, hE3⟩
 replace hb1 := hb1.ext hE3
 replace hb2 := hb2.ext hE3
 replace hX := hX.trans hE3
 have sz2 := hE3.size
 refine ewl_store rfl rfl rfl ti40 rfl hb2 rfl rfl fun w5 hb4 hC2 => ?_
 replace hb1 := hb1.chg hC2 (by omega)
 replace hX := hX.chg hC2 (by omega)
 have sz3 := hC2.size
 refine ewl_nil ?_
 refine thn_n ?_
 refine ewp_ret ?_
 refine blk_r ?_
 refine thn_r ?_
 refine fn_r (resv rfl (rv_cella rfl ti40 hb4 rfl)) ?_
 exact ⟨node t 24 t.tx .nil, by rw [patM]; simp [h1, h2], ⟨_, _, _, rfl, NdS.nil _ _ _ _⟩, hX⟩
 refine ewp_seq ?_
 refine ewp_reg ?_
 refine ewl_run rfl (rn_eqI rfl rfl) ?_
 refine ewl_run rfl (rn_assign rfl) ?_
 refine ewl_nil ?_
 refine thn_n ?_
 refine ewp_if rfl (fun h3 => ?_) (fun h3 => ?_)
 refine ewp_seq ?_
 refine ewp_reg ?_
 refine ewl_run rfl (rn_loada rfl ti61 hb1 rfl) ?_
 refine ewl_run rfl (rn_fa rfl fl61_0) ?_
 refine ewl_run rfl (rn_fa rfl fl59_3) ?_
 refine ewl_run rfl (rn_load rfl ti9 hb1 rfl) ?_
 refine ewl_ret rfl (en_call ent27 rfl rfl) (node_spec _ ⟨_, _, _, _, _⟩ _ _ _ _ _ _) ?_
 rintro _ w6 ⟨rfl, hE4⟩
 replace hb1 := hb1.ext hE4
 replace hb2 := hb2.ext hE4
 replace hX := hX.trans hE4
 have sz4 := hE4.size
 refine ewl_store rfl rfl rfl ti40 rfl hb2 rfl rfl fun w7 hb5 hC3 => ?_
 replace hb1 := hb1.chg hC3 (by omega)
 replace hX := hX.chg hC3 (by omega)
 have sz5 := hC3.size
 refine ewl_nil ?_
 refine thn_n ?_
 refine ewp_ret ?_
 refine blk_r ?_
 refine thn_r ?_
 refine fn_r (resv rfl (rv_cella rfl ti40 hb5 rfl)) ?_
 exact ⟨node t 26 t.tx .nil, by rw [patM]; simp [h1, h2, h3], ⟨_, _, _, rfl, NdS.nil _ _ _ _⟩, hX⟩
 refine ewp_seq ?_
 refine ewp_reg ?_
 refine ewl_run rfl (rn_eqI rfl rfl) ?_
 refine ewl_run rfl (rn_assign rfl) ?_
 refine ewl_nil ?_
 refine thn_n ?_
 refine ewp_if rfl (fun h4 => ?_) (fun h4 => ?_)
 refine ewp_seq ?_
 have hr1 := hb1
 have hr2 := hb2
 refine ewp_draw mixed (Keeps w2 [b1, b2]) [(true, 0), (true, 1), (false, 2), (false, 3)] (by kernel_rfl) (by kernel_rfl) rfl rfl fun w8 hE5 hz3 => ?_
 have hKp : Keeps w2 [b1, b2] w8 := Keeps.cons hr1 hE5 (Keeps.cons hr2 hE5 (Keeps.nil _ _))
 refine ⟨hKp, ?_⟩
 replace hb1 := hb1.ext hE5
 replace hb2 := hb2.ext hE5
 replace hX := hX.trans hE5
 refine ewo_rd rfl (fun _ hS => rn_loada rfl ti61 (hr1.keep hS (.head _)) rfl) ?_
 refine ewo_rd rfl (fun _ hS => rn_loada rfl ti61 (hr1.keep hS (.head _)) rfl) ?_
 refine ewo_sp ?_
 refine ewl_ret rfl (en_call ent52 rfl rfl) (isHole_spec _ (hG.ext hX) ⟨_, _, _, _, _⟩ _ hok.1.1 hok.1.2) ?_
 rintro _ w9 ⟨rfl, hE6⟩
 replace hb1 := hb1.ext hE6
 replace hb2 := hb2.ext hE6
 replace hX := hX.trans hE6
 replace hKp := hKp.ext hE6
 have sz6 := hE6.size
 refine ewl_nil (onw_n hKp ?_)
 refine ewo_sp ?_
 refine ewl_retp rfl (en_call ent22 rfl rfl) (need_spec _ ⟨_, _, _, _, _⟩ _ _) ?_ (fun c wp hc => And.intro rfl (⟨(t.ln, t.co), by first | (rw [patM]; simp [SP.need, h1, h2, h3, h4, hc.1]; done) | (exfalso; have hq := hc.1; simp at hq <;> omega), hc.2.1, hX.trans hc.2.2⟩))
 rintro _ w10 ⟨hn1, rfl, hE7⟩
 replace hb1 := hb1.ext hE7
 replace hb2 := hb2.ext hE7
 replace hX := hX.trans hE7
 replace hKp := hKp.ext hE7
 have sz7 := hE7.size
 refine ewl_nil (onw_n hKp ?_)
 refine ewo_nil ?_
 refine thn_n ?_
 refine ewp_seq ?_
 refine ewp_reg ?_
 refine ewl_run rfl (rn_loada rfl ti61 hb1 rfl) ?_
 refine ewl_ret rfl (en_call ent51 rfl rfl) (hole_spec _ ⟨_, _, _, _, _⟩ Fo.nil _ _ _) ?_
 rintro _ w11 ⟨nd, hnd, ⟨ka2, kn2, kc2, rfl, hkd⟩, hE8⟩
 replace hb1 := hb1.ext hE8
 replace hb2 := hb2.ext hE8
 replace hX := hX.trans hE8
 have sz8 := hE8.size
 have hA1 := Ext.refl w11
 refine ewl_store rfl rfl rfl ti40 rfl hb2 rfl rfl fun w12 hb6 hC4 => ?_
 replace hb1 := hb1.chg hC4 (by omega)
 replace hX := hX.chg hC4 (by omega)
 replace hkd := (hkd.ext hA1).chg hC4 (by omega)
 clear hA1
 have sz9 := hC4.size
 have hA2 := Ext.refl w12
 refine ewl_nil ?_
 refine thn_n ?_
 refine ewp_ret ?_
 refine blk_r ?_
 refine thn_r ?_
 refine fn_r (resv rfl (rv_cella rfl ti40 hb6 rfl)) ?_
 exact ⟨nd, by rw [patM]; simp [SP.need, hnd, h1, h2, h3, h4, hn1], ⟨_, _, _, rfl, ((hkd.ext hA2)).mono (fun b hb => by omega)⟩, hX⟩
 refine ewp_seq ?_
 refine ewp_reg ?_
 refine ewl_run rfl (rn_eqI rfl rfl) ?_
 refine ewl_run rfl (rn_assign rfl) ?_
 refine ewl_nil ?_
 refine thn_n ?_
 refine ewp_if rfl (fun h5 => ?_) (fun h5 => ?_)
 refine ewp_reg ?_
 refine ewl_run rfl (rn_loada rfl ti61 hb1 rfl) ?_
 refine ewl_retp rfl (en_call ent33 rfl rfl) (fail_spec _ ⟨_, _, _, _, _⟩ _) (fun _ _ hf => hf.elim) (fun c wp hc => And.intro rfl (⟨(t.ln, t.co), by rw [patM]; simp [h1, h2, h3, h4, h5], hc.1, hX.trans hc.2⟩))
 refine ewp_skip ?_
 refine blk_n ?_
 refine thn_n ?_
 refine ewp_seq ?_
 refine ewp_seq ?_
 refine ewp_reg ?_
 refine ewl_run rfl (rn_fa rfl fl61_1) ?_
 refine ewl_run rfl (rn_load rfl ti47 hb1 rfl) ?_
 refine ewl_run rfl (rn_len rfl sl47) ?_
 refine ewl_run rfl (rn_eqI rfl rfl) ?_
 refine ewl_nil ?_
 refine thn_n ?_
 refine ewp_ift rfl rfl ?_
 refine ewp_seq ?_
 refine ewp_reg ?_
 refine ewl_run rfl (rn_loada rfl ti61 hb1 rfl) ?_
 refine ewl_ret rfl (en_call ent27 rfl rfl) (node_spec _ ⟨_, _, _, _, _⟩ _ _ _ _ _ _) ?_
 rintro _ w13 ⟨rfl, hE9⟩
 replace hb1 := hb1.ext hE9
 replace hb2 := hb2.ext hE9
 replace hX := hX.trans hE9
 have sz10 := hE9.size
 refine ewl_store rfl rfl rfl ti40 rfl hb2 rfl rfl fun w14 hb7 hC5 => ?_
 replace hb1 := hb1.chg hC5 (by omega)
 replace hX := hX.chg hC5 (by omega)
 have sz11 := hC5.size
 refine ewl_nil ?_
 refine thn_n ?_
 refine ewp_ret ?_
 refine thn_r ?_
 refine fn_r (resv rfl (rv_cella rfl ti40 hb7 rfl)) ?_
 exact ⟨node t 25 [] .nil, by rw [patM]; simp [h1, h2, h3, h4, h5], ⟨_, _, _, rfl, NdS.nil _ _ _ _⟩, hX⟩
/-- What is said of a function that makes nodes, so deep. -/
def NSpec (f : FuncId) (m : Tok → Fo → R N) (n : Nat) : Prop :=
 ∀ w, Gl w → ∀ (U : Nat → Prop) t k ka kn kc, FoS U w ka kn kc k → okT n t k → NodeFn Tryz.prog f 45 m w t k ka kn kc
theorem pat_cons (w : World) (hG : Gl w) (t : Tok) (ka : Option Addr) (kn kc n : Nat) (U : Nat → Prop) (h : Tok) (k r : Fo) (hK : FoS U w ka kn kc (.cons h k r)) (hok : okT (n + 1) t (.cons h k r)) (ih : NSpec 63 (patM (n + 1)) n) :
   RetP Tryz.prog 63 #[.agg #[.int .i64 t.k, .int .i64 t.ln, .int .i64 t.co, .int .i64 t.nm, S t.tx, .slice ka kn kc]] w (fun v w' => ∃ nd, (patM (n + 2)) t (Fo.cons h k r) = .ok nd ∧ NV w w' v nd ∧ Ext w w') (fun c w' => ∃ e, (patM (n + 2)) t (Fo.cons h k r) = .error e ∧ c = trb 45 e ∧ Ext w w') := by
 obtain ⟨b, off, cells, T, ka1, kn1, kc1, l1, hUb, rfl, hb, hd, hk1, hr1⟩ := hK.head
 obtain rfl : kn = r.len + 1 := hK.1
 have hblt := hb.lt
 have hrl : r.len ≤ 99999 := by have := hok.2.2.1; simp only [Fo.len] at this; omega
 have hX := Ext.refl w
 refine enterP Tryz.func63 rfl rfl rfl ?_
 refine ewp_seq ?_
 refine ewp_reg ?_
 refine ewl_box rfl rfl rfl fun b1 w1 hb1 hE1 hs1 hz1 => ?_
 replace hX := hX.trans hE1
 refine ewl_alloc rfl zr40 fun b2 w2 hb2 hE2 hs2 hz2 => ?_
 replace hb1 := hb1.ext hE2
 replace hX := hX.trans hE2
 refine ewl_nil ?_
 refine thn_n ?_
 refine ewp_seq ?_
 refine ewp_seq ?_
 refine ewp_reg ?_
 refine ewl_run rfl (rn_fa rfl fl61_0) ?_
 refine ewl_run rfl (rn_fa rfl fl59_0) ?_
 refine ewl_run rfl (rn_load rfl ti3 hb1 rfl) ?_
 refine ewl_nil ?_
 refine thn_n ?_
 refine ewp_block ?_
 refine ewp_seq ?_
 refine ewp_reg ?_
 refine ewl_run rfl (rn_eqI rfl rfl) ?_
 refine ewl_run rfl (rn_assign rfl) ?_
 refine ewl_nil ?_
 refine thn_n ?_
 refine ewp_if rfl (fun h1 => ?_) (fun h1 => ?_)
 refine ewp_seq ?_
 refine ewp_reg ?_
 refine ewl_run rfl (rn_fa rfl fl61_0) ?_
 refine ewl_run rfl (rn_fa rfl fl59_1) ?_
 refine ewl_run rfl (rn_loada rfl ti25 hb1 rfl) ?_
 refine ewl_run rfl (rn_fa rfl fl61_0) ?_
 refine ewl_run rfl (rn_fa rfl fl59_2) ?_
 refine ewl_run rfl (rn_load rfl ti3 hb1 rfl) ?_
 refine ewl_run rfl (rn_build rfl pl40 zr40 rfl) ?_
 refine ewl_store rfl rfl rfl ti40 rfl hb2 rfl rfl fun w3 hb3 hC1 => ?_
 replace hb1 := hb1.chg hC1 (by omega)
 replace hX := hX.chg hC1 (by omega)
 have sz1 := hC1.size
 refine ewl_nil ?_
 refine thn_n ?_
 refine ewp_ret ?_
 refine blk_r ?_
 refine thn_r ?_
 refine fn_r (resv rfl (rv_cella rfl ti40 hb3 rfl)) ?_
 exact ⟨⟨23, t.ln, t.co, [], t.nm, .nil⟩, by rw [patM]; simp [h1], ⟨_, _, _, rfl, NdS.nil _ _ _ _⟩, hX⟩
 refine ewp_seq ?_
 refine ewp_reg ?_
 refine ewl_run rfl (rn_eqI rfl rfl) ?_
 refine ewl_run rfl (rn_assign rfl) ?_
 refine ewl_nil ?_
 refine thn_n ?_
 refine ewp_if rfl (fun h2 => ?_) (fun h2 => ?_)
 refine ewp_seq ?_
 refine ewp_reg ?_
 refine ewl_run rfl (rn_loada rfl ti61 hb1 rfl) ?_
 refine ewl_run rfl (rn_fa rfl fl61_0) ?_
 refine ewl_run rfl (rn_fa rfl fl59_3) ?_
 refine ewl_run rfl (rn_load rfl ti9 hb1 rfl) ?_
 refine ewl_ret rfl (en_call ent27 rfl rfl) (node_spec _ ⟨_, _, _, _, _⟩ _ _ _ _ _ _) ?_
 rintro _ w4 ⟨rfl, hE3⟩
 replace hb1 := hb1.ext hE3
 replace hb2 := hb2.ext hE3
 replace hX := hX.trans hE3
 have sz2 := hE3.size
 refine ewl_store rfl rfl rfl ti40 rfl hb2 rfl rfl fun w5 hb4 hC2 => ?_
 replace hb1 := hb1.chg hC2 (by omega)
 replace hX := hX.chg hC2 (by omega)
 have sz3 := hC2.size
 refine ewl_nil ?_
 refine thn_n ?_
 refine ewp_ret ?_
 refine blk_r ?_
 refine thn_r ?_
 refine fn_r (resv rfl (rv_cella rfl ti40 hb4 rfl)) ?_
 exact ⟨node t 24 t.tx .nil, by rw [patM]; simp [h1, h2], ⟨_, _, _, rfl, NdS.nil _ _ _ _⟩, hX⟩
 refine ewp_seq ?_
 refine ewp_reg ?_
 refine ewl_run rfl (rn_eqI rfl rfl) ?_
 refine ewl_run rfl (rn_assign rfl) ?_
 refine ewl_nil ?_
 refine thn_n ?_
 refine ewp_if rfl (fun h3 => ?_) (fun h3 => ?_)
 refine ewp_seq ?_
 refine ewp_reg ?_
 refine ewl_run rfl (rn_loada rfl ti61 hb1 rfl) ?_
 refine ewl_run rfl (rn_fa rfl fl61_0) ?_
 refine ewl_run rfl (rn_fa rfl fl59_3) ?_
 refine ewl_run rfl (rn_load rfl ti9 hb1 rfl) ?_
 refine ewl_ret rfl (en_call ent27 rfl rfl) (node_spec _ ⟨_, _, _, _, _⟩ _ _ _ _ _ _) ?_
 rintro _ w6 ⟨rfl, hE4⟩
 replace hb1 := hb1.ext hE4
 replace hb2 := hb2.ext hE4
 replace hX := hX.trans hE4
 have sz4 := hE4.size
 refine ewl_store rfl rfl rfl ti40 rfl hb2 rfl rfl fun w7 hb5 hC3 => ?_
 replace hb1 := hb1.chg hC3 (by omega)
 replace hX := hX.chg hC3 (by omega)
 have sz5 := hC3.size
 refine ewl_nil ?_
 refine thn_n ?_
 refine ewp_ret ?_
 refine blk_r ?_
 refine thn_r ?_
 refine fn_r (resv rfl (rv_cella rfl ti40 hb5 rfl)) ?_
 exact ⟨node t 26 t.tx .nil, by rw [patM]; simp [h1, h2, h3], ⟨_, _, _, rfl, NdS.nil _ _ _ _⟩, hX⟩
 refine ewp_seq ?_
 refine ewp_reg ?_
 refine ewl_run rfl (rn_eqI rfl rfl) ?_
 refine ewl_run rfl (rn_assign rfl) ?_
 refine ewl_nil ?_
 refine thn_n ?_
 refine ewp_if rfl (fun h4 => ?_) (fun h4 => ?_)
 refine ewp_seq ?_
 have hr1 := (hb.ext hX)
 have hr2 := hb1
 have hr3 := hb2
 refine ewp_draw mixed (Keeps w2 [b, b1, b2]) [(true, 0), (true, 1), (false, 2), (false, 3)] (by kernel_rfl) (by kernel_rfl) rfl rfl fun w8 hE5 hz3 => ?_
 have hKp : Keeps w2 [b, b1, b2] w8 := Keeps.cons hr1 hE5 (Keeps.cons hr2 hE5 (Keeps.cons hr3 hE5 (Keeps.nil _ _)))
 refine ⟨hKp, ?_⟩
 replace hb1 := hb1.ext hE5
 replace hb2 := hb2.ext hE5
 replace hX := hX.trans hE5
 refine ewo_rd rfl (fun _ hS => rn_loada rfl ti61 (hr2.keep hS (.tail _ (.head _))) rfl) ?_
 refine ewo_rd rfl (fun _ hS => rn_loada rfl ti61 (hr2.keep hS (.tail _ (.head _))) rfl) ?_
 refine ewo_sp ?_
 refine ewl_ret rfl (en_call ent52 rfl rfl) (isHole_spec _ (hG.ext hX) ⟨_, _, _, _, _⟩ _ hok.1.1 hok.1.2) ?_
 rintro _ w9 ⟨rfl, hE6⟩
 replace hb1 := hb1.ext hE6
 replace hb2 := hb2.ext hE6
 replace hX := hX.trans hE6
 replace hKp := hKp.ext hE6
 have sz6 := hE6.size
 refine ewl_nil (onw_n hKp ?_)
 refine ewo_sp ?_
 refine ewl_retp rfl (en_call ent22 rfl rfl) (need_spec _ ⟨_, _, _, _, _⟩ _ _) ?_ (fun c wp hc => And.intro rfl (⟨(t.ln, t.co), by first | (rw [patM]; simp [SP.need, h1, h2, h3, h4, hc.1]; done) | (exfalso; have hq := hc.1; simp at hq <;> omega), hc.2.1, hX.trans hc.2.2⟩))
 rintro _ w10 ⟨hn1, rfl, hE7⟩
 replace hb1 := hb1.ext hE7
 replace hb2 := hb2.ext hE7
 replace hX := hX.trans hE7
 replace hKp := hKp.ext hE7
 have sz7 := hE7.size
 refine ewl_nil (onw_n hKp ?_)
 refine ewo_nil ?_
 refine thn_n ?_
 refine ewp_seq ?_
 refine ewp_reg ?_
 refine ewl_run rfl (rn_loada rfl ti61 hb1 rfl) ?_
 refine ewl_ret rfl (en_call ent51 rfl rfl) (hole_spec _ ⟨_, _, _, _, _⟩ (Fo.cons h k r) _ _ _) ?_
 rintro _ w11 ⟨nd, hnd, ⟨ka2, kn2, kc2, rfl, hkd⟩, hE8⟩
 replace hb1 := hb1.ext hE8
 replace hb2 := hb2.ext hE8
 replace hX := hX.trans hE8
 have sz8 := hE8.size
 have hA1 := Ext.refl w11
 refine ewl_store rfl rfl rfl ti40 rfl hb2 rfl rfl fun w12 hb6 hC4 => ?_
 replace hb1 := hb1.chg hC4 (by omega)
 replace hX := hX.chg hC4 (by omega)
 replace hkd := (hkd.ext hA1).chg hC4 (by omega)
 clear hA1
 have sz9 := hC4.size
 have hA2 := Ext.refl w12
 refine ewl_nil ?_
 refine thn_n ?_
 refine ewp_ret ?_
 refine blk_r ?_
 refine thn_r ?_
 refine fn_r (resv rfl (rv_cella rfl ti40 hb6 rfl)) ?_
 exact ⟨nd, by rw [patM]; simp [SP.need, hnd, h1, h2, h3, h4, hn1], ⟨_, _, _, rfl, ((hkd.ext hA2)).mono (fun b hb => by omega)⟩, hX⟩
 refine ewp_seq ?_
 refine ewp_reg ?_
 refine ewl_run rfl (rn_eqI rfl rfl) ?_
 refine ewl_run rfl (rn_assign rfl) ?_
 refine ewl_nil ?_
 refine thn_n ?_
 refine ewp_if rfl (fun h5 => ?_) (fun h5 => ?_)
 refine ewp_reg ?_
 refine ewl_run rfl (rn_loada rfl ti61 hb1 rfl) ?_
 refine ewl_retp rfl (en_call ent33 rfl rfl) (fail_spec _ ⟨_, _, _, _, _⟩ _) (fun _ _ hf => hf.elim) (fun c wp hc => And.intro rfl (⟨(t.ln, t.co), by rw [patM]; simp [h1, h2, h3, h4, h5], hc.1, hX.trans hc.2⟩))
 refine ewp_skip ?_
 refine blk_n ?_
 refine thn_n ?_
 refine ewp_seq ?_
 refine ewp_seq ?_
 refine ewp_reg ?_
 refine ewl_run rfl (rn_fa rfl fl61_1) ?_
 refine ewl_run rfl (rn_load rfl ti47 hb1 rfl) ?_
 refine ewl_run rfl (rn_len rfl sl47) ?_
 refine ewl_run rfl (rn_eqI rfl rfl) ?_
 refine ewl_nil ?_
 refine thn_n ?_
 refine ewp_if rfl (fun h6 => ?_) (fun h6 => ?_)
 · exfalso
   simp at h6 <;> omega
 refine ewp_skip ?_
 refine thn_n ?_
 refine ewp_seq ?_
 have hr4 := (hb.ext hX)
 have hr5 := hb1
 have hr6 := hb2
 refine ewp_draw mixed (Keeps w2 [b, b1, b2]) [(true, 0), (true, 1), (true, 2), (true, 3), (true, 4), (true, 5), (true, 6), (false, 7), (false, 8), (true, 9)] (by kernel_rfl) (by kernel_rfl) rfl rfl fun w13 hE9 hz4 => ?_
 have hKp : Keeps w2 [b, b1, b2] w13 := Keeps.cons hr4 hE9 (Keeps.cons hr5 hE9 (Keeps.cons hr6 hE9 (Keeps.nil _ _)))
 refine ⟨hKp, ?_⟩
 replace hb1 := hb1.ext hE9
 replace hb2 := hb2.ext hE9
 replace hX := hX.trans hE9
 refine ewo_rd rfl (fun _ hS => rn_fa rfl fl61_1) ?_
 refine ewo_rd rfl (fun _ hS => rn_load rfl ti47 (hr5.keep hS (.tail _ (.head _))) rfl) ?_
 refine ewo_rd rfl (fun _ hS => rn_ixc (i := 0) rfl rfl sl47 (by omega)) ?_
 refine ewo_rd rfl (fun _ hS => rn_loadad 0 rfl ti61 (hr4.keep hS (.head _)) hd (by omega) rfl) ?_
 refine ewo_rd rfl (fun _ hS => rn_fa rfl fl61_1) ?_
 refine ewo_rd rfl (fun _ hS => rn_load rfl ti47 (hr5.keep hS (.tail _ (.head _))) rfl) ?_
 refine ewo_rd rfl (fun _ hS => rn_rest rfl rfl sl47) ?_
 refine ewo_sp ?_
 refine ewl_alloc rfl zr61 fun b3 w14 hb7 hE10 hs3 hz5 => ?_
 replace hb1 := hb1.ext hE10
 replace hb2 := hb2.ext hE10
 replace hX := hX.trans hE10
 replace hKp := hKp.ext hE10
 refine ewl_nil (onw_n hKp ?_)
 refine ewo_sp ?_
 refine ewl_store rfl rfl rfl ti61 rfl hb7 rfl rfl fun w15 hb8 hC5 => ?_
 replace hb1 := hb1.chg hC5 (by omega)
 replace hb2 := hb2.chg hC5 (by omega)
 replace hX := hX.chg hC5 (by omega)
 replace hKp := hKp.chg hC5 (by simp only [List.mem_cons, List.not_mem_nil, or_false]; omega)
 have sz10 := hC5.size
 refine ewl_nil (onw_n hKp ?_)
 refine ewo_rd rfl (fun _ hS => rn_assign rfl) ?_
 refine ewo_nil ?_
 refine thn_n ?_
 refine ewp_seq ?_
 refine ewp_seq ?_
 refine ewp_reg ?_
 refine ewl_run rfl (rn_fa rfl fl61_0) ?_
 refine ewl_run rfl (rn_fa rfl fl59_0) ?_
 refine ewl_run rfl (rn_load rfl ti3 hb8 rfl) ?_
 refine ewl_run rfl (rn_eqI rfl rfl) ?_
 refine ewl_nil ?_
 refine thn_n ?_
 refine ewp_if rfl (fun h7 => ?_) (fun h7 => ?_)
 refine ewp_seq ?_
 have hr7 := (hb.ext hX)
 have hr8 := hb1
 have hr9 := hb2
 have hr10 := hb8
 refine ewp_draw mixed (Keeps w15 [b, b1, b2, b3]) [(true, 0), (true, 1), (true, 2), (false, 3), (false, 4)] (by kernel_rfl) (by kernel_rfl) rfl rfl fun w16 hE11 hz6 => ?_
 have hKp : Keeps w15 [b, b1, b2, b3] w16 := Keeps.cons hr7 hE11 (Keeps.cons hr8 hE11 (Keeps.cons hr9 hE11 (Keeps.cons hr10 hE11 (Keeps.nil _ _))))
 refine ⟨hKp, ?_⟩
 replace hb1 := hb1.ext hE11
 replace hb2 := hb2.ext hE11
 replace hb8 := hb8.ext hE11
 replace hX := hX.trans hE11
 refine ewo_rd rfl (fun _ hS => rn_loada rfl ti61 (hr8.keep hS (.tail _ (.head _))) rfl) ?_
 refine ewo_rd rfl (fun _ hS => rn_move rfl) ?_
 refine ewo_rd rfl (fun _ hS => rn_len rfl sl47) ?_
 refine ewo_sp ?_
 refine ewl_ret rfl (en_call ent40 rfl rfl) (within_spec _ _ _ _) ?_
 rintro _ w17 ⟨rfl, hE12⟩
 replace hb1 := hb1.ext hE12
 replace hb2 := hb2.ext hE12
 replace hb8 := hb8.ext hE12
 replace hX := hX.trans hE12
 replace hKp := hKp.ext hE12
 have sz11 := hE12.size
 refine ewl_nil (onw_n hKp ?_)
 refine ewo_sp ?_
 refine ewl_retp rfl (en_call ent22 rfl rfl) (need_spec _ ⟨_, _, _, _, _⟩ _ _) ?_ (fun c wp hc => And.intro rfl (⟨(t.ln, t.co), by first | (rw [patM]; simp [SP.need, h1, h2, h3, h4, h5, h6, h7, hc.1]; done) | (exfalso; have hq := hc.1; simp at hq <;> omega), hc.2.1, hX.trans hc.2.2⟩))
 rintro _ w18 ⟨hn2, rfl, hE13⟩
 replace hb1 := hb1.ext hE13
 replace hb2 := hb2.ext hE13
 replace hb8 := hb8.ext hE13
 replace hX := hX.trans hE13
 replace hKp := hKp.ext hE13
 have sz12 := hE13.size
 refine ewl_nil (onw_n hKp ?_)
 refine ewo_nil ?_
 refine thn_n ?_
 refine ewp_seq ?_
 have hr11 := (hb.ext hX)
 have hr12 := hb1
 have hr13 := hb8
 refine ewp_draw mixed (Keeps w18 [b, b1, b3]) [(true, 0), (true, 1), (true, 2), (true, 3), (true, 4), (false, 5), (false, 6), (false, 7)] (by kernel_rfl) (by kernel_rfl) rfl rfl fun w19 hE14 hz7 => ?_
 have hKp : Keeps w18 [b, b1, b3] w19 := Keeps.cons hr11 hE14 (Keeps.cons hr12 hE14 (Keeps.cons hr13 hE14 (Keeps.nil _ _)))
 refine ⟨hKp, ?_⟩
 replace hb1 := hb1.ext hE14
 replace hb2 := hb2.ext hE14
 replace hb8 := hb8.ext hE14
 replace hX := hX.trans hE14
 refine ewo_rd rfl (fun _ hS => rn_loada rfl ti61 (hr12.keep hS (.tail _ (.head _))) rfl) ?_
 refine ewo_rd rfl (fun _ hS => rn_fa rfl fl61_0) ?_
 refine ewo_rd rfl (fun _ hS => rn_fa rfl fl59_3) ?_
 refine ewo_rd rfl (fun _ hS => rn_load rfl ti9 (hr13.keep hS (.tail _ (.tail _ (.head _)))) rfl) ?_
 refine ewo_rd rfl (fun _ hS => rn_move rfl) ?_
 refine ewo_sp ?_
 refine ewl_retp rfl (en_call ent15 rfl rfl) (each_spec _ 63 ent63 (patM (n + 1)) (okT n) U _ _ _ r (hK.rest.ext hX) (all_of n r hok.2.1.2.2.2 (by have := hok.2.2.2; simp only [Fo.deep, Bool.and_eq_true] at this; exact this.2)) (by have := hok.2.2.1; simp only [Fo.len] at this; omega) (fun w1 hE1 t1 k1 a1 n1 c1 hk1 hp1 => ih w1 (hG.ext (hX.trans hE1)) U t1 k1 a1 n1 c1 hk1 hp1)) ?_ (fun c wp hc => And.intro rfl (let ⟨e, he, hc1, hc2⟩ := hc; ⟨e, by rw [patM]; simp [SP.need, h1, h2, h3, h4, h5, h6, h7, hn2, he], hc1, hX.trans hc2⟩))
 rintro _ w20 ⟨nds, ra_nds, rc_nds, hnds, rfl, hN, hE15⟩
 replace hb1 := hb1.ext hE15
 replace hb2 := hb2.ext hE15
 replace hb8 := hb8.ext hE15
 replace hX := hX.trans hE15
 replace hKp := hKp.ext hE15
 have sz13 := hE15.size
 have hA3 := Ext.refl w20
 refine ewl_nil (onw_n hKp ?_)
 refine ewo_sp ?_
 refine ewl_ret rfl (en_call ent27 rfl rfl) (node_spec _ ⟨_, _, _, _, _⟩ _ _ _ _ _ _) ?_
 rintro _ w21 ⟨rfl, hE16⟩
 replace hb1 := hb1.ext hE16
 replace hb2 := hb2.ext hE16
 replace hb8 := hb8.ext hE16
 replace hX := hX.trans hE16
 replace hA3 := hA3.trans hE16
 replace hKp := hKp.ext hE16
 have sz14 := hE16.size
 refine ewl_nil (onw_n hKp ?_)
 refine ewo_sp ?_
 refine ewl_store rfl rfl rfl ti40 rfl hb2 rfl rfl fun w22 hb9 hC6 => ?_
 replace hb1 := hb1.chg hC6 (by omega)
 replace hb8 := hb8.chg hC6 (by omega)
 replace hX := hX.chg hC6 (by omega)
 replace hN := (hN.ext hA3).chg hC6 (by omega)
 clear hA3
 replace hKp := hKp.chg hC6 (by simp only [List.mem_cons, List.not_mem_nil, or_false]; omega)
 have sz15 := hC6.size
 have hA4 := Ext.refl w22
 refine ewl_nil (onw_n hKp ?_)
 refine ewo_nil ?_
 refine thn_n ?_
 refine ewp_ret ?_
 refine thn_r ?_
 refine fn_r (resv rfl (rv_cella rfl ti40 hb9 rfl)) ?_
 exact ⟨node t 26 h.tx nds, by rw [patM]; simp [SP.need, node, h1, h2, h3, h4, h5, h6, h7, hn2, hnds], ⟨_, _, _, rfl, ((hN.ext hA4).nds).mono (fun b hb => by omega)⟩, hX⟩
 refine ewp_skip ?_
 refine thn_n ?_
 refine ewp_seq ?_
 have hr14 := (hb.ext hX)
 have hr15 := hb1
 have hr16 := hb2
 have hr17 := hb8
 refine ewp_draw mixed (Keeps w15 [b, b1, b2, b3]) [(true, 0), (true, 1), (false, 2), (true, 3), (true, 4), (true, 5), (false, 6), (true, 7), (false, 8)] (by kernel_rfl) (by kernel_rfl) rfl rfl fun w23 hE17 hz8 => ?_
 have hKp : Keeps w15 [b, b1, b2, b3] w23 := Keeps.cons hr14 hE17 (Keeps.cons hr15 hE17 (Keeps.cons hr16 hE17 (Keeps.cons hr17 hE17 (Keeps.nil _ _))))
 refine ⟨hKp, ?_⟩
 replace hb1 := hb1.ext hE17
 replace hb2 := hb2.ext hE17
 replace hb8 := hb8.ext hE17
 replace hX := hX.trans hE17
 refine ewo_rd rfl (fun _ hS => rn_loada rfl ti61 (hr15.keep hS (.tail _ (.head _))) rfl) ?_
 refine ewo_rd rfl (fun _ hS => rn_loada rfl ti61 (hr17.keep hS (.tail _ (.tail _ (.tail _ (.head _))))) rfl) ?_
 refine ewo_sp ?_
 refine ewl_ret rfl (en_call ent39 rfl rfl) (isWord_spec _ ⟨_, _, _, _, _⟩ _ _) ?_
 rintro _ w24 ⟨rfl, hE18⟩
 replace hb1 := hb1.ext hE18
 replace hb2 := hb2.ext hE18
 replace hb8 := hb8.ext hE18
 replace hX := hX.trans hE18
 replace hKp := hKp.ext hE18
 have sz16 := hE18.size
 refine ewl_nil (onw_n hKp ?_)
 refine ewo_rd rfl (fun _ hS => rn_move rfl) ?_
 refine ewo_split 75 rfl (fun h8 => ?_) (fun h8 => ?_)
 refine ewo_rdg rfl rfl rfl h8 (fun _ hS => rn_move rfl) ?_
 refine ewo_rdg rfl rfl rfl h8 (fun _ hS => rn_len rfl sl47) ?_
 refine ewo_sp ?_
 refine ewl_grd rfl rfl h8 ?_
 refine ewl_ret rfl (en_call ent40 rfl rfl) (within_spec _ _ _ _) ?_
 rintro _ w25 ⟨rfl, hE19⟩
 replace hb1 := hb1.ext hE19
 replace hb2 := hb2.ext hE19
 replace hb8 := hb8.ext hE19
 replace hX := hX.trans hE19
 replace hKp := hKp.ext hE19
 have sz17 := hE19.size
 refine ewl_nil (onw_n hKp ?_)
 refine ewo_rd rfl (fun _ hS => rn_pickt rfl h8 rfl) ?_
 refine ewo_sp ?_
 refine ewl_retp rfl (en_call ent22 rfl rfl) (need_spec _ ⟨_, _, _, _, _⟩ _ _) ?_ (fun c wp hc => And.intro rfl (⟨(t.ln, t.co), by first | (rw [patM]; simp [SP.need, h1, h2, h3, h4, h5, h6, h7, h8, hc.1]; done) | (exfalso; have hq := hc.1; simp at hq <;> omega), hc.2.1, hX.trans hc.2.2⟩))
 rintro _ w26 ⟨hn3, rfl, hE20⟩
 replace hb1 := hb1.ext hE20
 replace hb2 := hb2.ext hE20
 replace hb8 := hb8.ext hE20
 replace hX := hX.trans hE20
 replace hKp := hKp.ext hE20
 have sz18 := hE20.size
 refine ewl_nil (onw_n hKp ?_)
 refine ewo_nil ?_
 refine thn_n ?_
 refine ewp_seq ?_
 have hr18 := (hb.ext hX)
 have hr19 := hb1
 have hr20 := hb8
 refine ewp_draw mixed (Keeps w26 [b, b1, b3]) [(true, 0), (true, 1), (false, 2), (false, 3), (false, 4)] (by kernel_rfl) (by kernel_rfl) rfl rfl fun w27 hE21 hz9 => ?_
 have hKp : Keeps w26 [b, b1, b3] w27 := Keeps.cons hr18 hE21 (Keeps.cons hr19 hE21 (Keeps.cons hr20 hE21 (Keeps.nil _ _)))
 refine ⟨hKp, ?_⟩
 replace hb1 := hb1.ext hE21
 replace hb2 := hb2.ext hE21
 replace hb8 := hb8.ext hE21
 replace hX := hX.trans hE21
 refine ewo_rd rfl (fun _ hS => rn_loada rfl ti61 (hr19.keep hS (.tail _ (.head _))) rfl) ?_
 refine ewo_rd rfl (fun _ hS => rn_move rfl) ?_
 refine ewo_sp ?_
 refine ewl_retp rfl (en_call ent15 rfl rfl) (each_spec _ 63 ent63 (patM (n + 1)) (okT n) U _ _ _ r (hK.rest.ext hX) (all_of n r hok.2.1.2.2.2 (by have := hok.2.2.2; simp only [Fo.deep, Bool.and_eq_true] at this; exact this.2)) (by have := hok.2.2.1; simp only [Fo.len] at this; omega) (fun w1 hE1 t1 k1 a1 n1 c1 hk1 hp1 => ih w1 (hG.ext (hX.trans hE1)) U t1 k1 a1 n1 c1 hk1 hp1)) ?_ (fun c wp hc => And.intro rfl (let ⟨e, he, hc1, hc2⟩ := hc; ⟨e, by rw [patM]; simp [SP.need, h1, h2, h3, h4, h5, h6, h7, h8, hn3, he], hc1, hX.trans hc2⟩))
 rintro _ w28 ⟨nds, ra_nds, rc_nds, hnds, rfl, hN, hE22⟩
 replace hb1 := hb1.ext hE22
 replace hb2 := hb2.ext hE22
 replace hb8 := hb8.ext hE22
 replace hX := hX.trans hE22
 replace hKp := hKp.ext hE22
 have sz19 := hE22.size
 have hA5 := Ext.refl w28
 refine ewl_nil (onw_n hKp ?_)
 refine ewo_sp ?_
 refine ewl_ret rfl (en_call ent27 rfl rfl) (node_spec _ ⟨_, _, _, _, _⟩ _ _ _ _ _ _) ?_
 rintro _ w29 ⟨rfl, hE23⟩
 replace hb1 := hb1.ext hE23
 replace hb2 := hb2.ext hE23
 replace hb8 := hb8.ext hE23
 replace hX := hX.trans hE23
 replace hA5 := hA5.trans hE23
 replace hKp := hKp.ext hE23
 have sz20 := hE23.size
 refine ewl_nil (onw_n hKp ?_)
 refine ewo_sp ?_
 refine ewl_store rfl rfl rfl ti40 rfl hb2 rfl rfl fun w30 hb10 hC7 => ?_
 replace hb1 := hb1.chg hC7 (by omega)
 replace hb8 := hb8.chg hC7 (by omega)
 replace hX := hX.chg hC7 (by omega)
 replace hN := (hN.ext hA5).chg hC7 (by omega)
 clear hA5
 replace hKp := hKp.chg hC7 (by simp only [List.mem_cons, List.not_mem_nil, or_false]; omega)
 have sz21 := hC7.size
 have hA6 := Ext.refl w30
 refine ewl_nil (onw_n hKp ?_)
 refine ewo_nil ?_
 refine thn_n ?_
 refine ewp_ret ?_
 refine fn_r (resv rfl (rv_cella rfl ti40 hb10 rfl)) ?_
 exact ⟨node t 27 [] nds, by rw [patM]; simp [SP.need, node, h1, h2, h3, h4, h5, h6, h7, h8, hn3, hnds], ⟨_, _, _, rfl, ((hN.ext hA6).nds).mono (fun b hb => by omega)⟩, hX⟩
 refine ewo_rdo rfl rfl rfl h8 ?_
 refine ewo_rdo rfl rfl rfl h8 ?_
 refine ewo_sp ?_
 refine ewl_off rfl rfl rfl h8 ?_
 refine ewl_nil (onw_n hKp ?_)
 refine ewo_rd rfl (fun _ hS => rn_pickf rfl h8 rfl) ?_
 refine ewo_sp ?_
 refine ewl_retp rfl (en_call ent22 rfl rfl) (need_spec _ ⟨_, _, _, _, _⟩ _ _) ?_ (fun c wp hc => And.intro rfl (⟨(t.ln, t.co), by first | (rw [patM]; simp [SP.need, h1, h2, h3, h4, h5, h6, h7, h8, hc.1]; done) | (exfalso; have hq := hc.1; simp at hq <;> omega), hc.2.1, hX.trans hc.2.2⟩))
 rintro _ w31 ⟨hn4, rfl, hE24⟩
 cases hn4
theorem pat_spec : ∀ n, NSpec 63 (patM (n + 1)) n
 | 0 => fun w hG U t k ka kn kc hK hok => by
   cases k with
   | nil => obtain rfl : kn = 0 := hK.1; exact pat_nil w hG t ka kc 0 hok
   | cons h k r => exact absurd hok.2.2.2 (by simp [Fo.deep])
 | n + 1 => fun w hG U t k ka kn kc hK hok => by
   cases k with
   | nil => obtain rfl : kn = 0 := hK.1; exact pat_nil w hG t ka kc (n + 1) ⟨hok.1, hok.2.1, hok.2.2.1, rfl⟩
   | cons h k r => exact pat_cons w hG t ka kn kc n U h k r hK hok (pat_spec n)
end Go.Proofs.YthjdnhnbgjgbkaaGreatDoor
namespace Go.Proofs.YthjdnhnbgjgbkaaGreatDoor
open Go.SW Go.SP Go.RowKit
theorem typ_nil (w : World) (hG : Gl w) (t : Tok) (ka : Option Addr) (kc n : Nat) (hok : okT 0 t .nil) :
   RetP Tryz.prog 30 #[.agg #[.int .i64 t.k, .int .i64 t.ln, .int .i64 t.co, .int .i64 t.nm, S t.tx, .slice ka 0 kc]] w (fun v w' => ∃ nd, (typM (n + 1)) t Fo.nil = .ok nd ∧ NV w w' v nd ∧ Ext w w') (fun c w' => ∃ e, (typM (n + 1)) t Fo.nil = .error e ∧ c = trb 45 e ∧ Ext w w') := by
 have hX := Ext.refl w
 refine enterP Tryz.func30 rfl rfl rfl ?_
 refine ewp_seq ?_
 refine ewp_reg ?_
 refine ewl_box rfl rfl rfl fun b1 w1 hb1 hE1 hs1 hz1 => ?_
 replace hX := hX.trans hE1
 refine ewl_alloc rfl zr40 fun b2 w2 hb2 hE2 hs2 hz2 => ?_
 replace hb1 := hb1.ext hE2
 replace hX := hX.trans hE2
 refine ewl_nil ?_
 refine thn_n ?_
 refine ewp_seq ?_
 refine ewp_seq ?_
 refine ewp_reg ?_
 refine ewl_run rfl (rn_loada rfl ti61 hb1 rfl) ?_
 refine ewl_ret rfl (en_call ent23 rfl rfl) (isList_spec _ ⟨_, _, _, _, _⟩ _) ?_
 rintro _ w3 ⟨rfl, hE3⟩
 replace hb1 := hb1.ext hE3
 replace hb2 := hb2.ext hE3
 replace hX := hX.trans hE3
 have sz1 := hE3.size
 refine ewl_run rfl (rn_not rfl) ?_
 refine ewl_nil ?_
 refine thn_n ?_
 refine ewp_if rfl (fun h1 => ?_) (fun h1 => ?_)
 replace h1 := nott h1
 refine ewp_seq ?_
 refine ewp_seq ?_
 refine ewp_reg ?_
 refine ewl_run rfl (rn_loada rfl ti61 hb1 rfl) ?_
 refine ewl_ret rfl (en_call ent26 rfl rfl) (isTypeVar_spec _ ⟨_, _, _, _, _⟩ _ hok.1.1) ?_
 rintro _ w4 ⟨rfl, hE4⟩
 replace hb1 := hb1.ext hE4
 replace hb2 := hb2.ext hE4
 replace hX := hX.trans hE4
 have sz2 := hE4.size
 refine ewl_nil ?_
 refine thn_n ?_
 refine ewp_if rfl (fun h2 => ?_) (fun h2 => ?_)
 refine ewp_seq ?_
 refine ewp_reg ?_
 refine ewl_run rfl (rn_loada rfl ti61 hb1 rfl) ?_
 refine ewl_run rfl (rn_fa rfl fl61_0) ?_
 refine ewl_run rfl (rn_fa rfl fl59_3) ?_
 refine ewl_run rfl (rn_load rfl ti9 hb1 rfl) ?_
 refine ewl_ret rfl (en_call ent27 rfl rfl) (node_spec _ ⟨_, _, _, _, _⟩ _ _ _ _ _ _) ?_
 rintro _ w5 ⟨rfl, hE5⟩
 replace hb1 := hb1.ext hE5
 replace hb2 := hb2.ext hE5
 replace hX := hX.trans hE5
 have sz3 := hE5.size
 refine ewl_store rfl rfl rfl ti40 rfl hb2 rfl rfl fun w6 hb3 hC1 => ?_
 replace hb1 := hb1.chg hC1 (by omega)
 replace hX := hX.chg hC1 (by omega)
 have sz4 := hC1.size
 refine ewl_nil ?_
 refine thn_n ?_
 refine ewp_ret ?_
 refine thn_r ?_
 refine thn_r ?_
 refine fn_r (resv rfl (rv_cella rfl ti40 hb3 rfl)) ?_
 exact ⟨node t 31 t.tx .nil, by rw [typM]; simp [SP.need, h1, h2], ⟨_, _, _, rfl, NdS.nil _ _ _ _⟩, hX⟩
 refine ewp_skip ?_
 refine thn_n ?_
 refine ewp_seq ?_
 have hr1 := hb1
 have hr2 := hb2
 refine ewp_draw mixed (Keeps w4 [b1, b2]) [(true, 0), (true, 1), (false, 2), (false, 3)] (by kernel_rfl) (by kernel_rfl) rfl rfl fun w7 hE6 hz3 => ?_
 have hKp : Keeps w4 [b1, b2] w7 := Keeps.cons hr1 hE6 (Keeps.cons hr2 hE6 (Keeps.nil _ _))
 refine ⟨hKp, ?_⟩
 replace hb1 := hb1.ext hE6
 replace hb2 := hb2.ext hE6
 replace hX := hX.trans hE6
 refine ewo_rd rfl (fun _ hS => rn_loada rfl ti61 (hr1.keep hS (.head _)) rfl) ?_
 refine ewo_rd rfl (fun _ hS => rn_loada rfl ti61 (hr1.keep hS (.head _)) rfl) ?_
 refine ewo_sp ?_
 refine ewl_ret rfl (en_call ent25 rfl rfl) (isTypeName_spec _ (hG.ext hX) ⟨_, _, _, _, _⟩ _ hok.1.1 hok.1.2) ?_
 rintro _ w8 ⟨rfl, hE7⟩
 replace hb1 := hb1.ext hE7
 replace hb2 := hb2.ext hE7
 replace hX := hX.trans hE7
 replace hKp := hKp.ext hE7
 have sz5 := hE7.size
 refine ewl_nil (onw_n hKp ?_)
 refine ewo_sp ?_
 refine ewl_retp rfl (en_call ent22 rfl rfl) (need_spec _ ⟨_, _, _, _, _⟩ _ _) ?_ (fun c wp hc => And.intro rfl (⟨(t.ln, t.co), by first | (rw [typM]; simp [SP.need, h1, h2, hc.1]; done) | (exfalso; have hq := hc.1; simp at hq <;> omega), hc.2.1, hX.trans hc.2.2⟩))
 rintro _ w9 ⟨hn1, rfl, hE8⟩
 replace hb1 := hb1.ext hE8
 replace hb2 := hb2.ext hE8
 replace hX := hX.trans hE8
 replace hKp := hKp.ext hE8
 have sz6 := hE8.size
 refine ewl_nil (onw_n hKp ?_)
 refine ewo_nil ?_
 refine thn_n ?_
 refine ewp_seq ?_
 refine ewp_reg ?_
 refine ewl_run rfl (rn_loada rfl ti61 hb1 rfl) ?_
 refine ewl_run rfl (rn_fa rfl fl61_0) ?_
 refine ewl_run rfl (rn_fa rfl fl59_3) ?_
 refine ewl_run rfl (rn_load rfl ti9 hb1 rfl) ?_
 refine ewl_ret rfl (en_call ent27 rfl rfl) (node_spec _ ⟨_, _, _, _, _⟩ _ _ _ _ _ _) ?_
 rintro _ w10 ⟨rfl, hE9⟩
 replace hb1 := hb1.ext hE9
 replace hb2 := hb2.ext hE9
 replace hX := hX.trans hE9
 have sz7 := hE9.size
 refine ewl_store rfl rfl rfl ti40 rfl hb2 rfl rfl fun w11 hb4 hC2 => ?_
 replace hb1 := hb1.chg hC2 (by omega)
 replace hX := hX.chg hC2 (by omega)
 have sz8 := hC2.size
 refine ewl_nil ?_
 refine thn_n ?_
 refine ewp_ret ?_
 refine thn_r ?_
 refine fn_r (resv rfl (rv_cella rfl ti40 hb4 rfl)) ?_
 exact ⟨node t 32 t.tx .nil, by rw [typM]; simp [SP.need, h1, h2, hn1], ⟨_, _, _, rfl, NdS.nil _ _ _ _⟩, hX⟩
 replace h1 := notf h1
 refine ewp_skip ?_
 refine thn_n ?_
 refine ewp_seq ?_
 refine ewp_reg ?_
 refine ewl_run rfl (rn_loada rfl ti61 hb1 rfl) ?_
 refine ewl_run rfl (rn_fa rfl fl61_1) ?_
 refine ewl_run rfl (rn_load rfl ti47 hb1 rfl) ?_
 refine ewl_run rfl (rn_len rfl sl47) ?_
 refine ewl_run rfl (rn_gtI rfl rfl) ?_
 refine ewl_retp rfl (en_call ent22 rfl rfl) (need_spec _ ⟨_, _, _, _, _⟩ _ _) ?_ (fun c wp hc => And.intro rfl (⟨(t.ln, t.co), by first | (rw [typM]; simp [SP.need, h1, hc.1]; done) | (exfalso; have hq := hc.1; simp at hq <;> omega), hc.2.1, hX.trans hc.2.2⟩))
 rintro _ w12 ⟨hn2, rfl, hE10⟩
 cases hn2
theorem typ_cons (w : World) (hG : Gl w) (t : Tok) (ka : Option Addr) (kn kc n : Nat) (U : Nat → Prop) (h : Tok) (k r : Fo) (hK : FoS U w ka kn kc (.cons h k r)) (hok : okT (n + 1) t (.cons h k r)) (ih : NSpec 30 (typM (n + 1)) n) :
   RetP Tryz.prog 30 #[.agg #[.int .i64 t.k, .int .i64 t.ln, .int .i64 t.co, .int .i64 t.nm, S t.tx, .slice ka kn kc]] w (fun v w' => ∃ nd, (typM (n + 2)) t (Fo.cons h k r) = .ok nd ∧ NV w w' v nd ∧ Ext w w') (fun c w' => ∃ e, (typM (n + 2)) t (Fo.cons h k r) = .error e ∧ c = trb 45 e ∧ Ext w w') := by
 obtain ⟨b, off, cells, T, ka1, kn1, kc1, l1, hUb, rfl, hb, hd, hk1, hr1⟩ := hK.head
 obtain rfl : kn = r.len + 1 := hK.1
 have hblt := hb.lt
 have hrl : r.len ≤ 99999 := by have := hok.2.2.1; simp only [Fo.len] at this; omega
 have hX := Ext.refl w
 refine enterP Tryz.func30 rfl rfl rfl ?_
 refine ewp_seq ?_
 refine ewp_reg ?_
 refine ewl_box rfl rfl rfl fun b1 w1 hb1 hE1 hs1 hz1 => ?_
 replace hX := hX.trans hE1
 refine ewl_alloc rfl zr40 fun b2 w2 hb2 hE2 hs2 hz2 => ?_
 replace hb1 := hb1.ext hE2
 replace hX := hX.trans hE2
 refine ewl_nil ?_
 refine thn_n ?_
 refine ewp_seq ?_
 refine ewp_seq ?_
 refine ewp_reg ?_
 refine ewl_run rfl (rn_loada rfl ti61 hb1 rfl) ?_
 refine ewl_ret rfl (en_call ent23 rfl rfl) (isList_spec _ ⟨_, _, _, _, _⟩ _) ?_
 rintro _ w3 ⟨rfl, hE3⟩
 replace hb1 := hb1.ext hE3
 replace hb2 := hb2.ext hE3
 replace hX := hX.trans hE3
 have sz1 := hE3.size
 refine ewl_run rfl (rn_not rfl) ?_
 refine ewl_nil ?_
 refine thn_n ?_
 refine ewp_if rfl (fun h1 => ?_) (fun h1 => ?_)
 replace h1 := nott h1
 refine ewp_seq ?_
 refine ewp_seq ?_
 refine ewp_reg ?_
 refine ewl_run rfl (rn_loada rfl ti61 hb1 rfl) ?_
 refine ewl_ret rfl (en_call ent26 rfl rfl) (isTypeVar_spec _ ⟨_, _, _, _, _⟩ _ hok.1.1) ?_
 rintro _ w4 ⟨rfl, hE4⟩
 replace hb1 := hb1.ext hE4
 replace hb2 := hb2.ext hE4
 replace hX := hX.trans hE4
 have sz2 := hE4.size
 refine ewl_nil ?_
 refine thn_n ?_
 refine ewp_if rfl (fun h2 => ?_) (fun h2 => ?_)
 refine ewp_seq ?_
 refine ewp_reg ?_
 refine ewl_run rfl (rn_loada rfl ti61 hb1 rfl) ?_
 refine ewl_run rfl (rn_fa rfl fl61_0) ?_
 refine ewl_run rfl (rn_fa rfl fl59_3) ?_
 refine ewl_run rfl (rn_load rfl ti9 hb1 rfl) ?_
 refine ewl_ret rfl (en_call ent27 rfl rfl) (node_spec _ ⟨_, _, _, _, _⟩ _ _ _ _ _ _) ?_
 rintro _ w5 ⟨rfl, hE5⟩
 replace hb1 := hb1.ext hE5
 replace hb2 := hb2.ext hE5
 replace hX := hX.trans hE5
 have sz3 := hE5.size
 refine ewl_store rfl rfl rfl ti40 rfl hb2 rfl rfl fun w6 hb3 hC1 => ?_
 replace hb1 := hb1.chg hC1 (by omega)
 replace hX := hX.chg hC1 (by omega)
 have sz4 := hC1.size
 refine ewl_nil ?_
 refine thn_n ?_
 refine ewp_ret ?_
 refine thn_r ?_
 refine thn_r ?_
 refine fn_r (resv rfl (rv_cella rfl ti40 hb3 rfl)) ?_
 exact ⟨node t 31 t.tx .nil, by rw [typM]; simp [SP.need, h1, h2], ⟨_, _, _, rfl, NdS.nil _ _ _ _⟩, hX⟩
 refine ewp_skip ?_
 refine thn_n ?_
 refine ewp_seq ?_
 have hr1 := (hb.ext hX)
 have hr2 := hb1
 have hr3 := hb2
 refine ewp_draw mixed (Keeps w4 [b, b1, b2]) [(true, 0), (true, 1), (false, 2), (false, 3)] (by kernel_rfl) (by kernel_rfl) rfl rfl fun w7 hE6 hz3 => ?_
 have hKp : Keeps w4 [b, b1, b2] w7 := Keeps.cons hr1 hE6 (Keeps.cons hr2 hE6 (Keeps.cons hr3 hE6 (Keeps.nil _ _)))
 refine ⟨hKp, ?_⟩
 replace hb1 := hb1.ext hE6
 replace hb2 := hb2.ext hE6
 replace hX := hX.trans hE6
 refine ewo_rd rfl (fun _ hS => rn_loada rfl ti61 (hr2.keep hS (.tail _ (.head _))) rfl) ?_
 refine ewo_rd rfl (fun _ hS => rn_loada rfl ti61 (hr2.keep hS (.tail _ (.head _))) rfl) ?_
 refine ewo_sp ?_
 refine ewl_ret rfl (en_call ent25 rfl rfl) (isTypeName_spec _ (hG.ext hX) ⟨_, _, _, _, _⟩ _ hok.1.1 hok.1.2) ?_
 rintro _ w8 ⟨rfl, hE7⟩
 replace hb1 := hb1.ext hE7
 replace hb2 := hb2.ext hE7
 replace hX := hX.trans hE7
 replace hKp := hKp.ext hE7
 have sz5 := hE7.size
 refine ewl_nil (onw_n hKp ?_)
 refine ewo_sp ?_
 refine ewl_retp rfl (en_call ent22 rfl rfl) (need_spec _ ⟨_, _, _, _, _⟩ _ _) ?_ (fun c wp hc => And.intro rfl (⟨(t.ln, t.co), by first | (rw [typM]; simp [SP.need, h1, h2, hc.1]; done) | (exfalso; have hq := hc.1; simp at hq <;> omega), hc.2.1, hX.trans hc.2.2⟩))
 rintro _ w9 ⟨hn1, rfl, hE8⟩
 replace hb1 := hb1.ext hE8
 replace hb2 := hb2.ext hE8
 replace hX := hX.trans hE8
 replace hKp := hKp.ext hE8
 have sz6 := hE8.size
 refine ewl_nil (onw_n hKp ?_)
 refine ewo_nil ?_
 refine thn_n ?_
 refine ewp_seq ?_
 refine ewp_reg ?_
 refine ewl_run rfl (rn_loada rfl ti61 hb1 rfl) ?_
 refine ewl_run rfl (rn_fa rfl fl61_0) ?_
 refine ewl_run rfl (rn_fa rfl fl59_3) ?_
 refine ewl_run rfl (rn_load rfl ti9 hb1 rfl) ?_
 refine ewl_ret rfl (en_call ent27 rfl rfl) (node_spec _ ⟨_, _, _, _, _⟩ _ _ _ _ _ _) ?_
 rintro _ w10 ⟨rfl, hE9⟩
 replace hb1 := hb1.ext hE9
 replace hb2 := hb2.ext hE9
 replace hX := hX.trans hE9
 have sz7 := hE9.size
 refine ewl_store rfl rfl rfl ti40 rfl hb2 rfl rfl fun w11 hb4 hC2 => ?_
 replace hb1 := hb1.chg hC2 (by omega)
 replace hX := hX.chg hC2 (by omega)
 have sz8 := hC2.size
 refine ewl_nil ?_
 refine thn_n ?_
 refine ewp_ret ?_
 refine thn_r ?_
 refine fn_r (resv rfl (rv_cella rfl ti40 hb4 rfl)) ?_
 exact ⟨node t 32 t.tx .nil, by rw [typM]; simp [SP.need, h1, h2, hn1], ⟨_, _, _, rfl, NdS.nil _ _ _ _⟩, hX⟩
 replace h1 := notf h1
 refine ewp_skip ?_
 refine thn_n ?_
 refine ewp_seq ?_
 refine ewp_reg ?_
 refine ewl_run rfl (rn_loada rfl ti61 hb1 rfl) ?_
 refine ewl_run rfl (rn_fa rfl fl61_1) ?_
 refine ewl_run rfl (rn_load rfl ti47 hb1 rfl) ?_
 refine ewl_run rfl (rn_len rfl sl47) ?_
 refine ewl_run rfl (rn_gtI rfl rfl) ?_
 refine ewl_retp rfl (en_call ent22 rfl rfl) (need_spec _ ⟨_, _, _, _, _⟩ _ _) ?_ (fun c wp hc => And.intro rfl (⟨(t.ln, t.co), by first | (rw [typM]; simp [SP.need, h1, hc.1]; done) | (exfalso; have hq := hc.1; simp at hq <;> omega), hc.2.1, hX.trans hc.2.2⟩))
 rintro _ w12 ⟨hn2, rfl, hE10⟩
 replace hb1 := hb1.ext hE10
 replace hb2 := hb2.ext hE10
 replace hX := hX.trans hE10
 have sz9 := hE10.size
 refine ewl_nil ?_
 refine thn_n ?_
 refine ewp_seq ?_
 have hr4 := (hb.ext hX)
 have hr5 := hb1
 have hr6 := hb2
 refine ewp_draw mixed (Keeps w12 [b, b1, b2]) [(true, 0), (true, 1), (true, 2), (true, 3), (true, 4), (true, 5), (true, 6), (false, 7), (false, 8), (true, 9)] (by kernel_rfl) (by kernel_rfl) rfl rfl fun w13 hE11 hz4 => ?_
 have hKp : Keeps w12 [b, b1, b2] w13 := Keeps.cons hr4 hE11 (Keeps.cons hr5 hE11 (Keeps.cons hr6 hE11 (Keeps.nil _ _)))
 refine ⟨hKp, ?_⟩
 replace hb1 := hb1.ext hE11
 replace hb2 := hb2.ext hE11
 replace hX := hX.trans hE11
 refine ewo_rd rfl (fun _ hS => rn_fa rfl fl61_1) ?_
 refine ewo_rd rfl (fun _ hS => rn_load rfl ti47 (hr5.keep hS (.tail _ (.head _))) rfl) ?_
 refine ewo_rd rfl (fun _ hS => rn_ixc (i := 0) rfl rfl sl47 (by omega)) ?_
 refine ewo_rd rfl (fun _ hS => rn_loadad 0 rfl ti61 (hr4.keep hS (.head _)) hd (by omega) rfl) ?_
 refine ewo_rd rfl (fun _ hS => rn_fa rfl fl61_1) ?_
 refine ewo_rd rfl (fun _ hS => rn_load rfl ti47 (hr5.keep hS (.tail _ (.head _))) rfl) ?_
 refine ewo_rd rfl (fun _ hS => rn_rest rfl rfl sl47) ?_
 refine ewo_sp ?_
 refine ewl_alloc rfl zr61 fun b3 w14 hb5 hE12 hs3 hz5 => ?_
 replace hb1 := hb1.ext hE12
 replace hb2 := hb2.ext hE12
 replace hX := hX.trans hE12
 replace hKp := hKp.ext hE12
 refine ewl_nil (onw_n hKp ?_)
 refine ewo_sp ?_
 refine ewl_store rfl rfl rfl ti61 rfl hb5 rfl rfl fun w15 hb6 hC3 => ?_
 replace hb1 := hb1.chg hC3 (by omega)
 replace hb2 := hb2.chg hC3 (by omega)
 replace hX := hX.chg hC3 (by omega)
 replace hKp := hKp.chg hC3 (by simp only [List.mem_cons, List.not_mem_nil, or_false]; omega)
 have sz10 := hC3.size
 refine ewl_nil (onw_n hKp ?_)
 refine ewo_rd rfl (fun _ hS => rn_assign rfl) ?_
 refine ewo_nil ?_
 refine thn_n ?_
 refine ewp_seq ?_
 refine ewp_reg ?_
 refine ewl_run rfl (rn_move rfl) ?_
 refine ewl_run rfl (rn_len rfl sl47) ?_
 refine ewl_run rfl (rn_assign rfl) ?_
 refine ewl_nil ?_
 refine thn_n ?_
 refine ewp_seq ?_
 refine ewp_block ?_
 refine ewp_seq ?_
 refine ewp_reg ?_
 refine ewl_run rfl (rn_loada rfl ti61 hb6 rfl) ?_
 refine ewl_ret rfl (en_call ent39 rfl rfl) (isWord_spec _ ⟨_, _, _, _, _⟩ _ _) ?_
 rintro _ w16 ⟨rfl, hE13⟩
 replace hb1 := hb1.ext hE13
 replace hb2 := hb2.ext hE13
 replace hb6 := hb6.ext hE13
 replace hX := hX.trans hE13
 have sz11 := hE13.size
 refine ewl_run rfl (rn_assign rfl) ?_
 refine ewl_nil ?_
 refine thn_n ?_
 refine ewp_if rfl (fun h3 => ?_) (fun h3 => ?_)
 refine ewp_seq ?_
 refine ewp_reg ?_
 refine ewl_run rfl (rn_loada rfl ti61 hb1 rfl) ?_
 refine ewl_run rfl (rn_move rfl) ?_
 refine ewl_run rfl (rn_geI rfl rfl) ?_
 refine ewl_retp rfl (en_call ent22 rfl rfl) (need_spec _ ⟨_, _, _, _, _⟩ _ _) ?_ (fun c wp hc => And.intro rfl (⟨(t.ln, t.co), by first | (rw [typM]; simp [SP.need, h1, h3, hn2, hc.1]; done) | (exfalso; have hq := hc.1; simp at hq <;> omega), hc.2.1, hX.trans hc.2.2⟩))
 rintro _ w17 ⟨hn3, rfl, hE14⟩
 replace hb1 := hb1.ext hE14
 replace hb2 := hb2.ext hE14
 replace hb6 := hb6.ext hE14
 replace hX := hX.trans hE14
 have sz12 := hE14.size
 refine ewl_nil ?_
 refine thn_n ?_
 refine ewp_seq ?_
 refine ewp_reg ?_
 refine ewl_run rfl (rn_move rfl) ?_
 refine ewl_retp rfl (en_call ent15 rfl rfl) (each_spec _ 30 ent30 (typM (n + 1)) (okT n) U _ _ _ r (hK.rest.ext hX) (all_of n r hok.2.1.2.2.2 (by have := hok.2.2.2; simp only [Fo.deep, Bool.and_eq_true] at this; exact this.2)) (by have := hok.2.2.1; simp only [Fo.len] at this; omega) (fun w1 hE1 t1 k1 a1 n1 c1 hk1 hp1 => ih w1 (hG.ext (hX.trans hE1)) U t1 k1 a1 n1 c1 hk1 hp1)) ?_ (fun c wp hc => And.intro rfl (let ⟨e, he, hc1, hc2⟩ := hc; ⟨e, by rw [typM]; simp [SP.need, h1, h3, hn2, hn3, he], hc1, hX.trans hc2⟩))
 rintro _ w18 ⟨nds, ra_nds, rc_nds, hnds, rfl, hN, hE15⟩
 replace hb1 := hb1.ext hE15
 replace hb2 := hb2.ext hE15
 replace hb6 := hb6.ext hE15
 replace hX := hX.trans hE15
 have sz13 := hE15.size
 have hA1 := Ext.refl w18
 refine ewl_run rfl (rn_assign rfl) ?_
 refine ewl_nil ?_
 refine thn_n ?_
 refine ewp_seq ?_
 refine ewp_reg ?_
 refine ewl_run rfl (rn_move rfl) ?_
 refine ewl_run rfl (rn_move rfl) ?_
 refine ewl_run rfl (rn_sub rfl rfl ⟨by omega, by omega⟩) ?_
 have hnl := eachM_len hnds
 have hge2 : 2 ≤ r.len := by have := hn3; simp at this; omega
 obtain ⟨b8, off8, cells8, T8, op8, ln8, co8, tx8, nm8, kids8, ka8, kn8, kc8, l8, hU8, rfl, hbx8, he8, hd8, hk8⟩ := hN.nds.get (r.len - 1) (by omega)
 refine ewl_run rfl (rn_ixe (r.len - 1) rfl rfl (by omega) sl23 (by omega)) ?_
 refine ewl_run rfl (rn_loadad 0 rfl ti40 (hbx8.ext hA1) hd8 (by omega) rfl) ?_
 refine ewl_alloc rfl zr40 fun b4 w19 hb7 hE16 hs4 hz6 => ?_
 replace hb1 := hb1.ext hE16
 replace hb2 := hb2.ext hE16
 replace hb6 := hb6.ext hE16
 replace hX := hX.trans hE16
 replace hA1 := hA1.trans hE16
 refine ewl_store rfl rfl rfl ti40 rfl hb7 rfl rfl fun w20 hb8 hC4 => ?_
 replace hb1 := hb1.chg hC4 (by omega)
 replace hb2 := hb2.chg hC4 (by omega)
 replace hb6 := hb6.chg hC4 (by omega)
 replace hX := hX.chg hC4 (by omega)
 replace hA1 := hA1.chg hC4 (by omega)
 have sz14 := hC4.size
 refine ewl_nil ?_
 refine thn_n ?_
 refine ewp_seq ?_
 refine ewp_seq ?_
 refine ewp_reg ?_
 refine ewl_run rfl (rn_move rfl) ?_
 refine ewl_run rfl (rn_sub rfl rfl ⟨by omega, by omega⟩) ?_
 refine ewl_run rfl (rn_assign rfl) ?_
 refine ewl_nil ?_
 refine thn_n ?_
 refine ewp_block ?_
 refine ewp_loop (fun k σ ds w' => ∃ (j : Nat) (z : Int) (o : N) (oa : Option Addr) (on oc : Nat), k = j ∧ ds = [] ∧ σ = (upd (upd (upd (upd (upd SW.e0 1 (.pointer (some ⟨b1, 0, none⟩))) 2 (.pointer (some ⟨b2, 0, none⟩))) 6 (.slice (some ⟨b8, off8, none⟩) nds.len rc_nds)) 7 (.pointer (some ⟨b4, 0, none⟩))) 8 (.int .i64 z)) ∧ z = (j : Int) - 1 ∧ j + 1 ≤ nds.len ∧ arrowM t (nds.drop j) = some o ∧ Blk w' b1 [.int .i64 t.k, .int .i64 t.ln, .int .i64 t.co, .int .i64 t.nm, S t.tx, .slice (some ⟨b, off, none⟩) (r.len + 1) kc] 61 ∧ Blk w' b2 [.int .i64 0, .int .i64 0, .int .i64 0, .string ⟨#[]⟩, .int .i64 0, .slice none 0 0] 40 ∧ Blk w' b4 [.int .i64 o.op, .int .i64 o.ln, .int .i64 o.co, S o.tx, .int .i64 o.nm, .slice oa on oc] 40 ∧ NdS (fun b => w17.heap.size ≤ b ∧ b ≠ b4) w' oa on oc o.kids ∧ Ext w18 w' ∧ Ext w w') (r.len - 1) (upd (upd (upd (upd (upd SW.e0 1 (.pointer (some ⟨b1, 0, none⟩))) 2 (.pointer (some ⟨b2, 0, none⟩))) 6 (.slice (some ⟨b8, off8, none⟩) nds.len rc_nds)) 7 (.pointer (some ⟨b4, 0, none⟩))) 8 (.int .i64 ((r.len : Int) - 2))) (le_upd (le_upd (le_upd (le_upd (le_upd (le_e0 _) rfl) rfl) rfl) rfl) rfl) ⟨r.len - 1, _, ⟨op8, ln8, co8, tx8, nm8, kids8⟩, ka8, kn8, kc8, rfl, rfl, rfl, by omega, by omega, arrowM_last he8 (by omega), hb1, hb2, hb8, ?_, hA1, hX⟩ ?_
 · exact NdS.imp hk8 fun b hb hlt => ⟨⟨hb, by omega⟩, hA1.block b hlt⟩
 rintro j _ _ wl ⟨_, z, o, oa, on, oc, rfl, rfl, rfl, hz, hj, har, hl1, hl2, hl7, hko, hAl, hX⟩
 have szl := hX.size
 have szA := hAl.size
 have lt1 := hl1.lt
 have lt2 := hl2.lt
 have lt7 := hl7.lt
 have hA2 := Ext.refl wl
 refine ewp_seq ?_
 refine ewp_seq ?_
 refine ewp_reg ?_
 refine ewl_run rfl (rn_move rfl) ?_
 refine ewl_run rfl (rn_geI rfl rfl) ?_
 refine ewl_nil ?_
 refine thn_n ?_
 refine ewp_if rfl (fun h4 => ?_) (fun h4 => ?_)
 refine ewp_skip ?_
 refine thn_n ?_
 refine ewp_seq ?_
 refine ewp_block ?_
 have hj1 : 1 ≤ j := by have := h4; simp at this; omega
 obtain ⟨b9, off9, cells9, T9, op9, ln9, co9, tx9, nm9, kids9, ka9, kn9, kc9, l9, hU9, h9e, hbx9, he9, hd9, hk9⟩ := hN.nds.get (j - 1) (by omega)
 cases h9e
 have ltx9 := hbx9.lt
 have hr7 := hl1
 have hr8 := hl2
 have hr9 := (hbx9.ext hAl)
 refine ewp_draw mixed (Keeps wl [b1, b2, b8]) [(true, 0), (true, 1), (true, 2), (true, 3), (true, 4), (false, 5), (false, 6), (false, 7), (false, 8)] (by kernel_rfl) (by kernel_rfl) rfl rfl fun w21 hE17 hz7 => ?_
 have hKp : Keeps wl [b1, b2, b8] w21 := Keeps.cons hr7 hE17 (Keeps.cons hr8 hE17 (Keeps.cons hr9 hE17 (Keeps.nil _ _)))
 refine ⟨hKp, ?_⟩
 replace hl1 := hl1.ext hE17
 replace hl2 := hl2.ext hE17
 replace hl7 := hl7.ext hE17
 replace hX := hX.trans hE17
 replace hAl := hAl.trans hE17
 replace hA2 := hA2.trans hE17
 refine ewo_rd rfl (fun _ hS => rn_loada rfl ti61 (hr7.keep hS (.head _)) rfl) ?_
 refine ewo_rd rfl (fun _ hS => rn_move rfl) ?_
 refine ewo_rd rfl (fun _ hS => rn_move rfl) ?_
 refine ewo_rd rfl (fun _ hS => rn_ixe (j - 1) rfl rfl (by omega) sl23 (by omega)) ?_
 refine ewo_rd rfl (fun _ hS => rn_loadad 0 rfl ti40 (hr9.keep hS (.tail _ (.tail _ (.head _)))) hd9 (by omega) rfl) ?_
 refine ewo_sp ?_
 refine ewl_run rfl (rn_loada rfl ti40 hl7 rfl) ?_
 refine ewl_nil (onw_n hKp ?_)
 refine ewo_sp ?_
 refine ewl_bs rfl rfl sl23 zr40 rfl rfl rfl rfl rfl fun b5 w22 hb9 hE18 hs5 hz8 => ?_
 replace hl1 := hl1.ext hE18
 replace hl2 := hl2.ext hE18
 replace hl7 := hl7.ext hE18
 replace hX := hX.trans hE18
 replace hAl := hAl.trans hE18
 replace hA2 := hA2.trans hE18
 replace hKp := hKp.ext hE18
 have hnew : NdS (fun b => w17.heap.size ≤ b ∧ b ≠ b4) w22 (some ⟨b5, 0, none⟩) 2 2 (.cons op9 ln9 co9 tx9 nm9 kids9 o.one) := nds_two hb9 ⟨by omega, by omega⟩ (NdS.imp hk9 fun b hb hlt => ⟨⟨hb, by omega⟩, hAl.block b hlt⟩) (hko.ext hA2)
 have hA3 := Ext.refl w22
 refine ewl_nil (onw_n hKp ?_)
 refine ewo_sp ?_
 refine ewl_ret rfl (en_call ent27 rfl rfl) (node_spec _ ⟨_, _, _, _, _⟩ _ _ _ _ _ _) ?_
 rintro _ w23 ⟨rfl, hE19⟩
 replace hl1 := hl1.ext hE19
 replace hl2 := hl2.ext hE19
 replace hl7 := hl7.ext hE19
 replace hb9 := hb9.ext hE19
 replace hX := hX.trans hE19
 replace hAl := hAl.trans hE19
 replace hA2 := hA2.trans hE19
 replace hA3 := hA3.trans hE19
 replace hKp := hKp.ext hE19
 have sz15 := hE19.size
 refine ewl_nil (onw_n hKp ?_)
 refine ewo_sp ?_
 refine ewl_store rfl rfl rfl ti40 rfl hl7 rfl rfl fun w24 hb10 hC5 => ?_
 replace hl1 := hl1.chg hC5 (by omega)
 replace hl2 := hl2.chg hC5 (by omega)
 replace hb9 := hb9.chg hC5 (by omega)
 replace hX := hX.chg hC5 (by omega)
 replace hAl := hAl.chg hC5 (by omega)
 replace hko := (hko.ext hA2).chg hC5 (fun hh => by have h1 := hh.1; have h2 := hh.2; omega)
 replace hnew := (hnew.ext hA3).chg hC5 (fun hh => by have h1 := hh.1; have h2 := hh.2; omega)
 clear hA2
 clear hA3
 replace hKp := hKp.chg hC5 (by simp only [List.mem_cons, List.not_mem_nil, or_false]; omega)
 have sz16 := hC5.size
 have hA4 := Ext.refl w24
 refine ewl_nil (onw_n hKp ?_)
 refine ewo_nil ?_
 refine blk_n ?_
 refine thn_n ?_
 refine ewp_reg ?_
 refine ewl_run rfl (rn_move rfl) ?_
 refine ewl_run rfl (rn_sub rfl rfl ⟨by omega, by omega⟩) ?_
 refine ewl_run rfl (rn_assign rfl) ?_
 refine ewl_nil ?_
 refine lp_n (j - 1) (upd (upd (upd (upd (upd SW.e0 1 (.pointer (some ⟨b1, 0, none⟩))) 2 (.pointer (some ⟨b2, 0, none⟩))) 6 (.slice (some ⟨b8, off8, none⟩) nds.len rc_nds)) 7 (.pointer (some ⟨b4, 0, none⟩))) 8 (.int .i64 (z - 1))) (by omega) (le_upd (le_upd (le_upd (le_upd (le_upd (le_e0 _) rfl) rfl) rfl) rfl) rfl) ⟨j - 1, z - 1, (node t 32 [45, 62] (.cons op9 ln9 co9 tx9 nm9 kids9 o.one)), some ⟨b5, 0, none⟩, 2, 2, rfl, rfl, rfl, by omega, by omega, ?_, hl1, hl2, hb10, (hnew.ext hA4), hAl, hX⟩
 have hj2 : j = j - 1 + 1 := by omega
 rw [hj2] at har; exact arrowM_more he9 har
 refine ewp_exit ?_
 refine thn_e ?_
 refine lp_e ?_
 refine blk_e ?_
 refine thn_n ?_
 refine ewp_seq ?_
 refine ewp_reg ?_
 refine ewl_run rfl (rn_loada rfl ti40 hl7 rfl) ?_
 refine ewl_store rfl rfl rfl ti40 rfl hl2 rfl rfl fun w25 hb11 hC6 => ?_
 replace hl1 := hl1.chg hC6 (by omega)
 replace hl7 := hl7.chg hC6 (by omega)
 replace hX := hX.chg hC6 (by omega)
 replace hko := (hko.ext hA2).chg hC6 (fun hh => by have h1 := hh.1; have h2 := hh.2; omega)
 clear hAl
 clear hA2
 have sz17 := hC6.size
 have hA5 := Ext.refl w25
 refine ewl_nil ?_
 refine thn_n ?_
 refine ewp_ret ?_
 refine blk_r ?_
 refine thn_r ?_
 refine fn_r (resv rfl (rv_cella rfl ti40 hb11 rfl)) ?_
 have hj0 : j = 0 := by have := h4; simp at this; omega
 subst hj0
 exact ⟨o, by rw [typM]; simp [SP.need, h1, h3, h4, hn2, hn3, hnds]; rw [show nds.drop 0 = nds from rfl] at har; rw [har], ⟨_, _, _, rfl, ((hko.ext hA5)).mono (fun b hb => by have := hb.1; omega)⟩, hX⟩
 refine ewp_seq ?_
 refine ewp_reg ?_
 refine ewl_run rfl (rn_loada rfl ti61 hb6 rfl) ?_
 refine ewl_ret rfl (en_call ent39 rfl rfl) (isWord_spec _ ⟨_, _, _, _, _⟩ _ _) ?_
 rintro _ w26 ⟨rfl, hE20⟩
 replace hb1 := hb1.ext hE20
 replace hb2 := hb2.ext hE20
 replace hb6 := hb6.ext hE20
 replace hX := hX.trans hE20
 have sz18 := hE20.size
 refine ewl_run rfl (rn_assign rfl) ?_
 refine ewl_nil ?_
 refine thn_n ?_
 refine ewp_if rfl (fun h5 => ?_) (fun h5 => ?_)
 have hr10 := (hb.ext hX)
 have hr11 := hb1
 have hr12 := hb2
 have hr13 := hb6
 refine ewp_draw mixed (Keeps w26 [b, b1, b2, b3]) [(true, 0), (true, 1), (false, 2), (false, 3)] (by kernel_rfl) (by kernel_rfl) rfl rfl fun w27 hE21 hz9 => ?_
 have hKp : Keeps w26 [b, b1, b2, b3] w27 := Keeps.cons hr10 hE21 (Keeps.cons hr11 hE21 (Keeps.cons hr12 hE21 (Keeps.cons hr13 hE21 (Keeps.nil _ _))))
 refine ⟨hKp, ?_⟩
 replace hb1 := hb1.ext hE21
 replace hb2 := hb2.ext hE21
 replace hb6 := hb6.ext hE21
 replace hX := hX.trans hE21
 refine ewo_rd rfl (fun _ hS => rn_loada rfl ti61 (hr11.keep hS (.tail _ (.head _))) rfl) ?_
 refine ewo_rd rfl (fun _ hS => rn_move rfl) ?_
 refine ewo_sp ?_
 refine ewl_ret rfl (en_call ent40 rfl rfl) (within_spec _ _ _ _) ?_
 rintro _ w28 ⟨rfl, hE22⟩
 replace hb1 := hb1.ext hE22
 replace hb2 := hb2.ext hE22
 replace hb6 := hb6.ext hE22
 replace hX := hX.trans hE22
 replace hKp := hKp.ext hE22
 have sz19 := hE22.size
 refine ewl_nil (onw_n hKp ?_)
 refine ewo_sp ?_
 refine ewl_retp rfl (en_call ent22 rfl rfl) (need_spec _ ⟨_, _, _, _, _⟩ _ _) ?_ (fun c wp hc => And.intro rfl (⟨(t.ln, t.co), by first | (rw [typM]; simp [SP.need, h1, h3, h5, hn2, hc.1]; done) | (exfalso; have hq := hc.1; simp at hq <;> omega), hc.2.1, hX.trans hc.2.2⟩))
 rintro _ w29 ⟨hn4, rfl, hE23⟩
 replace hb1 := hb1.ext hE23
 replace hb2 := hb2.ext hE23
 replace hb6 := hb6.ext hE23
 replace hX := hX.trans hE23
 replace hKp := hKp.ext hE23
 have sz20 := hE23.size
 refine ewl_nil (onw_n hKp ?_)
 refine ewo_nil ?_
 refine blk_n ?_
 refine thn_n ?_
 refine ewp_seq ?_
 have hr14 := (hb.ext hX)
 have hr15 := hb1
 have hr16 := hb6
 refine ewp_draw mixed (Keeps w29 [b, b1, b3]) [(true, 0), (true, 1), (true, 2), (true, 3), (true, 4), (false, 5), (false, 6), (false, 7)] (by kernel_rfl) (by kernel_rfl) rfl rfl fun w30 hE24 hz10 => ?_
 have hKp : Keeps w29 [b, b1, b3] w30 := Keeps.cons hr14 hE24 (Keeps.cons hr15 hE24 (Keeps.cons hr16 hE24 (Keeps.nil _ _)))
 refine ⟨hKp, ?_⟩
 replace hb1 := hb1.ext hE24
 replace hb2 := hb2.ext hE24
 replace hb6 := hb6.ext hE24
 replace hX := hX.trans hE24
 refine ewo_rd rfl (fun _ hS => rn_loada rfl ti61 (hr15.keep hS (.tail _ (.head _))) rfl) ?_
 refine ewo_rd rfl (fun _ hS => rn_fa rfl fl61_0) ?_
 refine ewo_rd rfl (fun _ hS => rn_fa rfl fl59_3) ?_
 refine ewo_rd rfl (fun _ hS => rn_load rfl ti9 (hr16.keep hS (.tail _ (.tail _ (.head _)))) rfl) ?_
 refine ewo_rd rfl (fun _ hS => rn_move rfl) ?_
 refine ewo_sp ?_
 refine ewl_retp rfl (en_call ent15 rfl rfl) (each_spec _ 30 ent30 (typM (n + 1)) (okT n) U _ _ _ r (hK.rest.ext hX) (all_of n r hok.2.1.2.2.2 (by have := hok.2.2.2; simp only [Fo.deep, Bool.and_eq_true] at this; exact this.2)) (by have := hok.2.2.1; simp only [Fo.len] at this; omega) (fun w1 hE1 t1 k1 a1 n1 c1 hk1 hp1 => ih w1 (hG.ext (hX.trans hE1)) U t1 k1 a1 n1 c1 hk1 hp1)) ?_ (fun c wp hc => And.intro rfl (let ⟨e, he, hc1, hc2⟩ := hc; ⟨e, by rw [typM]; simp [SP.need, h1, h3, h5, hn2, hn4, he], hc1, hX.trans hc2⟩))
 rintro _ w31 ⟨nds, ra_nds, rc_nds, hnds, rfl, hN, hE25⟩
 replace hb1 := hb1.ext hE25
 replace hb2 := hb2.ext hE25
 replace hb6 := hb6.ext hE25
 replace hX := hX.trans hE25
 replace hKp := hKp.ext hE25
 have sz21 := hE25.size
 have hA6 := Ext.refl w31
 refine ewl_nil (onw_n hKp ?_)
 refine ewo_sp ?_
 refine ewl_ret rfl (en_call ent27 rfl rfl) (node_spec _ ⟨_, _, _, _, _⟩ _ _ _ _ _ _) ?_
 rintro _ w32 ⟨rfl, hE26⟩
 replace hb1 := hb1.ext hE26
 replace hb2 := hb2.ext hE26
 replace hb6 := hb6.ext hE26
 replace hX := hX.trans hE26
 replace hA6 := hA6.trans hE26
 replace hKp := hKp.ext hE26
 have sz22 := hE26.size
 refine ewl_nil (onw_n hKp ?_)
 refine ewo_sp ?_
 refine ewl_store rfl rfl rfl ti40 rfl hb2 rfl rfl fun w33 hb12 hC7 => ?_
 replace hb1 := hb1.chg hC7 (by omega)
 replace hb6 := hb6.chg hC7 (by omega)
 replace hX := hX.chg hC7 (by omega)
 replace hN := (hN.ext hA6).chg hC7 (by omega)
 clear hA6
 replace hKp := hKp.chg hC7 (by simp only [List.mem_cons, List.not_mem_nil, or_false]; omega)
 have sz23 := hC7.size
 have hA7 := Ext.refl w33
 refine ewl_nil (onw_n hKp ?_)
 refine ewo_nil ?_
 refine thn_n ?_
 refine ewp_ret ?_
 refine fn_r (resv rfl (rv_cella rfl ti40 hb12 rfl)) ?_
 exact ⟨node t 32 h.tx nds, by rw [typM]; simp [SP.need, node, h1, h3, h5, hn2, hn4, hnds], ⟨_, _, _, rfl, ((hN.ext hA7).nds).mono (fun b hb => by omega)⟩, hX⟩
 refine ewp_seq ?_
 refine ewp_reg ?_
 refine ewl_run rfl (rn_loada rfl ti61 hb6 rfl) ?_
 refine ewl_ret rfl (en_call ent39 rfl rfl) (isWord_spec _ ⟨_, _, _, _, _⟩ _ _) ?_
 rintro _ w34 ⟨rfl, hE27⟩
 replace hb1 := hb1.ext hE27
 replace hb2 := hb2.ext hE27
 replace hb6 := hb6.ext hE27
 replace hX := hX.trans hE27
 have sz24 := hE27.size
 refine ewl_run rfl (rn_move rfl) ?_
 refine ewl_split 90 rfl (fun h6 => ?_) (fun h6 => ?_)
 refine ewl_off rfl rfl rfl h6 ?_
 refine ewl_off rfl rfl rfl h6 ?_
 refine ewl_run rfl (rn_pickt rfl h6 rfl) ?_
 refine ewl_run rfl (rn_assign rfl) ?_
 refine ewl_nil ?_
 refine thn_n ?_
 refine ewp_ift rfl rfl ?_
 refine ewp_reg ?_
 refine ewl_run rfl (rn_loada rfl ti61 hb1 rfl) ?_
 refine ewl_run rfl (rn_move rfl) ?_
 refine ewl_run rfl (rn_eqI rfl rfl) ?_
 refine ewl_retp rfl (en_call ent22 rfl rfl) (need_spec _ ⟨_, _, _, _, _⟩ _ _) ?_ (fun c wp hc => And.intro rfl (⟨(t.ln, t.co), by first | (rw [typM]; simp [SP.need, h1, h3, h5, h6, hn2, hc.1]; done) | (exfalso; have hq := hc.1; simp at hq <;> omega), hc.2.1, hX.trans hc.2.2⟩))
 rintro _ w35 ⟨hn5, rfl, hE28⟩
 replace hb1 := hb1.ext hE28
 replace hb2 := hb2.ext hE28
 replace hb6 := hb6.ext hE28
 replace hX := hX.trans hE28
 have sz25 := hE28.size
 refine ewl_nil ?_
 refine blk_n ?_
 refine thn_n ?_
 refine ewp_seq ?_
 have hr17 := (hb.ext hX)
 have hr18 := hb1
 have hr19 := hb6
 refine ewp_draw mixed (Keeps w35 [b, b1, b3]) [(true, 0), (true, 1), (true, 2), (true, 3), (true, 4), (false, 5), (false, 6), (false, 7)] (by kernel_rfl) (by kernel_rfl) rfl rfl fun w36 hE29 hz11 => ?_
 have hKp : Keeps w35 [b, b1, b3] w36 := Keeps.cons hr17 hE29 (Keeps.cons hr18 hE29 (Keeps.cons hr19 hE29 (Keeps.nil _ _)))
 refine ⟨hKp, ?_⟩
 replace hb1 := hb1.ext hE29
 replace hb2 := hb2.ext hE29
 replace hb6 := hb6.ext hE29
 replace hX := hX.trans hE29
 refine ewo_rd rfl (fun _ hS => rn_loada rfl ti61 (hr18.keep hS (.tail _ (.head _))) rfl) ?_
 refine ewo_rd rfl (fun _ hS => rn_fa rfl fl61_0) ?_
 refine ewo_rd rfl (fun _ hS => rn_fa rfl fl59_3) ?_
 refine ewo_rd rfl (fun _ hS => rn_load rfl ti9 (hr19.keep hS (.tail _ (.tail _ (.head _)))) rfl) ?_
 refine ewo_rd rfl (fun _ hS => rn_move rfl) ?_
 refine ewo_sp ?_
 refine ewl_retp rfl (en_call ent15 rfl rfl) (each_spec _ 30 ent30 (typM (n + 1)) (okT n) U _ _ _ r (hK.rest.ext hX) (all_of n r hok.2.1.2.2.2 (by have := hok.2.2.2; simp only [Fo.deep, Bool.and_eq_true] at this; exact this.2)) (by have := hok.2.2.1; simp only [Fo.len] at this; omega) (fun w1 hE1 t1 k1 a1 n1 c1 hk1 hp1 => ih w1 (hG.ext (hX.trans hE1)) U t1 k1 a1 n1 c1 hk1 hp1)) ?_ (fun c wp hc => And.intro rfl (let ⟨e, he, hc1, hc2⟩ := hc; ⟨e, by rw [typM]; simp [SP.need, h1, h3, h5, h6, hn2, hn5, he], hc1, hX.trans hc2⟩))
 rintro _ w37 ⟨nds, ra_nds, rc_nds, hnds, rfl, hN, hE30⟩
 replace hb1 := hb1.ext hE30
 replace hb2 := hb2.ext hE30
 replace hb6 := hb6.ext hE30
 replace hX := hX.trans hE30
 replace hKp := hKp.ext hE30
 have sz26 := hE30.size
 have hA8 := Ext.refl w37
 refine ewl_nil (onw_n hKp ?_)
 refine ewo_sp ?_
 refine ewl_ret rfl (en_call ent27 rfl rfl) (node_spec _ ⟨_, _, _, _, _⟩ _ _ _ _ _ _) ?_
 rintro _ w38 ⟨rfl, hE31⟩
 replace hb1 := hb1.ext hE31
 replace hb2 := hb2.ext hE31
 replace hb6 := hb6.ext hE31
 replace hX := hX.trans hE31
 replace hA8 := hA8.trans hE31
 replace hKp := hKp.ext hE31
 have sz27 := hE31.size
 refine ewl_nil (onw_n hKp ?_)
 refine ewo_sp ?_
 refine ewl_store rfl rfl rfl ti40 rfl hb2 rfl rfl fun w39 hb13 hC8 => ?_
 replace hb1 := hb1.chg hC8 (by omega)
 replace hb6 := hb6.chg hC8 (by omega)
 replace hX := hX.chg hC8 (by omega)
 replace hN := (hN.ext hA8).chg hC8 (by omega)
 clear hA8
 replace hKp := hKp.chg hC8 (by simp only [List.mem_cons, List.not_mem_nil, or_false]; omega)
 have sz28 := hC8.size
 have hA9 := Ext.refl w39
 refine ewl_nil (onw_n hKp ?_)
 refine ewo_nil ?_
 refine thn_n ?_
 refine ewp_ret ?_
 refine fn_r (resv rfl (rv_cella rfl ti40 hb13 rfl)) ?_
 exact ⟨node t 32 h.tx nds, by rw [typM]; simp [SP.need, node, h1, h3, h5, h6, hn2, hn5, hnds], ⟨_, _, _, rfl, ((hN.ext hA9).nds).mono (fun b hb => by omega)⟩, hX⟩
 refine ewl_grd rfl rfl h6 ?_
 refine ewl_run rfl (rn_loada rfl ti61 hb6 rfl) ?_
 refine ewl_grd rfl rfl h6 ?_
 refine ewl_ret rfl (en_call ent39 rfl rfl) (isWord_spec _ ⟨_, _, _, _, _⟩ _ _) ?_
 rintro _ w40 ⟨rfl, hE32⟩
 replace hb1 := hb1.ext hE32
 replace hb2 := hb2.ext hE32
 replace hb6 := hb6.ext hE32
 replace hX := hX.trans hE32
 have sz29 := hE32.size
 refine ewl_run rfl (rn_pickf rfl h6 rfl) ?_
 refine ewl_run rfl (rn_assign rfl) ?_
 refine ewl_nil ?_
 refine thn_n ?_
 refine ewp_if rfl (fun h7 => ?_) (fun h7 => ?_)
 refine ewp_reg ?_
 refine ewl_run rfl (rn_loada rfl ti61 hb1 rfl) ?_
 refine ewl_run rfl (rn_move rfl) ?_
 refine ewl_run rfl (rn_eqI rfl rfl) ?_
 refine ewl_retp rfl (en_call ent22 rfl rfl) (need_spec _ ⟨_, _, _, _, _⟩ _ _) ?_ (fun c wp hc => And.intro rfl (⟨(t.ln, t.co), by first | (rw [typM]; simp [SP.need, h1, h3, h5, h6, h7, hn2, hc.1]; done) | (exfalso; have hq := hc.1; simp at hq <;> omega), hc.2.1, hX.trans hc.2.2⟩))
 rintro _ w41 ⟨hn6, rfl, hE33⟩
 replace hb1 := hb1.ext hE33
 replace hb2 := hb2.ext hE33
 replace hb6 := hb6.ext hE33
 replace hX := hX.trans hE33
 have sz30 := hE33.size
 refine ewl_nil ?_
 refine blk_n ?_
 refine thn_n ?_
 refine ewp_seq ?_
 have hr20 := (hb.ext hX)
 have hr21 := hb1
 have hr22 := hb6
 refine ewp_draw mixed (Keeps w41 [b, b1, b3]) [(true, 0), (true, 1), (true, 2), (true, 3), (true, 4), (false, 5), (false, 6), (false, 7)] (by kernel_rfl) (by kernel_rfl) rfl rfl fun w42 hE34 hz12 => ?_
 have hKp : Keeps w41 [b, b1, b3] w42 := Keeps.cons hr20 hE34 (Keeps.cons hr21 hE34 (Keeps.cons hr22 hE34 (Keeps.nil _ _)))
 refine ⟨hKp, ?_⟩
 replace hb1 := hb1.ext hE34
 replace hb2 := hb2.ext hE34
 replace hb6 := hb6.ext hE34
 replace hX := hX.trans hE34
 refine ewo_rd rfl (fun _ hS => rn_loada rfl ti61 (hr21.keep hS (.tail _ (.head _))) rfl) ?_
 refine ewo_rd rfl (fun _ hS => rn_fa rfl fl61_0) ?_
 refine ewo_rd rfl (fun _ hS => rn_fa rfl fl59_3) ?_
 refine ewo_rd rfl (fun _ hS => rn_load rfl ti9 (hr22.keep hS (.tail _ (.tail _ (.head _)))) rfl) ?_
 refine ewo_rd rfl (fun _ hS => rn_move rfl) ?_
 refine ewo_sp ?_
 refine ewl_retp rfl (en_call ent15 rfl rfl) (each_spec _ 30 ent30 (typM (n + 1)) (okT n) U _ _ _ r (hK.rest.ext hX) (all_of n r hok.2.1.2.2.2 (by have := hok.2.2.2; simp only [Fo.deep, Bool.and_eq_true] at this; exact this.2)) (by have := hok.2.2.1; simp only [Fo.len] at this; omega) (fun w1 hE1 t1 k1 a1 n1 c1 hk1 hp1 => ih w1 (hG.ext (hX.trans hE1)) U t1 k1 a1 n1 c1 hk1 hp1)) ?_ (fun c wp hc => And.intro rfl (let ⟨e, he, hc1, hc2⟩ := hc; ⟨e, by rw [typM]; simp [SP.need, h1, h3, h5, h6, h7, hn2, hn6, he], hc1, hX.trans hc2⟩))
 rintro _ w43 ⟨nds, ra_nds, rc_nds, hnds, rfl, hN, hE35⟩
 replace hb1 := hb1.ext hE35
 replace hb2 := hb2.ext hE35
 replace hb6 := hb6.ext hE35
 replace hX := hX.trans hE35
 replace hKp := hKp.ext hE35
 have sz31 := hE35.size
 have hA10 := Ext.refl w43
 refine ewl_nil (onw_n hKp ?_)
 refine ewo_sp ?_
 refine ewl_ret rfl (en_call ent27 rfl rfl) (node_spec _ ⟨_, _, _, _, _⟩ _ _ _ _ _ _) ?_
 rintro _ w44 ⟨rfl, hE36⟩
 replace hb1 := hb1.ext hE36
 replace hb2 := hb2.ext hE36
 replace hb6 := hb6.ext hE36
 replace hX := hX.trans hE36
 replace hA10 := hA10.trans hE36
 replace hKp := hKp.ext hE36
 have sz32 := hE36.size
 refine ewl_nil (onw_n hKp ?_)
 refine ewo_sp ?_
 refine ewl_store rfl rfl rfl ti40 rfl hb2 rfl rfl fun w45 hb14 hC9 => ?_
 replace hb1 := hb1.chg hC9 (by omega)
 replace hb6 := hb6.chg hC9 (by omega)
 replace hX := hX.chg hC9 (by omega)
 replace hN := (hN.ext hA10).chg hC9 (by omega)
 clear hA10
 replace hKp := hKp.chg hC9 (by simp only [List.mem_cons, List.not_mem_nil, or_false]; omega)
 have sz33 := hC9.size
 have hA11 := Ext.refl w45
 refine ewl_nil (onw_n hKp ?_)
 refine ewo_nil ?_
 refine thn_n ?_
 refine ewp_ret ?_
 refine fn_r (resv rfl (rv_cella rfl ti40 hb14 rfl)) ?_
 exact ⟨node t 32 h.tx nds, by rw [typM]; simp [SP.need, node, h1, h3, h5, h6, h7, hn2, hn6, hnds], ⟨_, _, _, rfl, ((hN.ext hA11).nds).mono (fun b hb => by omega)⟩, hX⟩
 have hr23 := (hb.ext hX)
 have hr24 := hb1
 have hr25 := hb2
 have hr26 := hb6
 refine ewp_draw mixed (Keeps w40 [b, b1, b2, b3]) [(true, 0), (true, 1), (false, 2), (true, 3), (true, 4), (false, 5), (true, 6), (false, 7)] (by kernel_rfl) (by kernel_rfl) rfl rfl fun w46 hE37 hz13 => ?_
 have hKp : Keeps w40 [b, b1, b2, b3] w46 := Keeps.cons hr23 hE37 (Keeps.cons hr24 hE37 (Keeps.cons hr25 hE37 (Keeps.cons hr26 hE37 (Keeps.nil _ _))))
 refine ⟨hKp, ?_⟩
 replace hb1 := hb1.ext hE37
 replace hb2 := hb2.ext hE37
 replace hb6 := hb6.ext hE37
 replace hX := hX.trans hE37
 refine ewo_rd rfl (fun _ hS => rn_loada rfl ti61 (hr24.keep hS (.tail _ (.head _))) rfl) ?_
 refine ewo_rd rfl (fun _ hS => rn_loada rfl ti61 (hr26.keep hS (.tail _ (.tail _ (.tail _ (.head _))))) rfl) ?_
 refine ewo_sp ?_
 refine ewl_ret rfl (en_call ent25 rfl rfl) (isTypeName_spec _ (hG.ext hX) ⟨_, _, _, _, _⟩ _ hok.2.1.1.1 hok.2.1.1.2) ?_
 rintro _ w47 ⟨rfl, hE38⟩
 replace hb1 := hb1.ext hE38
 replace hb2 := hb2.ext hE38
 replace hb6 := hb6.ext hE38
 replace hX := hX.trans hE38
 replace hKp := hKp.ext hE38
 have sz34 := hE38.size
 refine ewl_nil (onw_n hKp ?_)
 refine ewo_rd rfl (fun _ hS => rn_move rfl) ?_
 refine ewo_split 46 rfl (fun h8 => ?_) (fun h8 => ?_)
 refine ewo_rdg rfl rfl rfl h8 (fun _ hS => rn_move rfl) ?_
 refine ewo_sp ?_
 refine ewl_grd rfl rfl h8 ?_
 refine ewl_ret rfl (en_call ent40 rfl rfl) (within_spec _ _ _ _) ?_
 rintro _ w48 ⟨rfl, hE39⟩
 replace hb1 := hb1.ext hE39
 replace hb2 := hb2.ext hE39
 replace hb6 := hb6.ext hE39
 replace hX := hX.trans hE39
 replace hKp := hKp.ext hE39
 have sz35 := hE39.size
 refine ewl_nil (onw_n hKp ?_)
 refine ewo_rd rfl (fun _ hS => rn_pickt rfl h8 rfl) ?_
 refine ewo_sp ?_
 refine ewl_retp rfl (en_call ent22 rfl rfl) (need_spec _ ⟨_, _, _, _, _⟩ _ _) ?_ (fun c wp hc => And.intro rfl (⟨(t.ln, t.co), by first | (rw [typM]; simp [SP.need, h1, h3, h5, h6, h7, h8, hn2, hc.1]; done) | (exfalso; have hq := hc.1; simp at hq <;> omega), hc.2.1, hX.trans hc.2.2⟩))
 rintro _ w49 ⟨hn7, rfl, hE40⟩
 replace hb1 := hb1.ext hE40
 replace hb2 := hb2.ext hE40
 replace hb6 := hb6.ext hE40
 replace hX := hX.trans hE40
 replace hKp := hKp.ext hE40
 have sz36 := hE40.size
 refine ewl_nil (onw_n hKp ?_)
 refine ewo_nil ?_
 refine blk_n ?_
 refine thn_n ?_
 refine ewp_seq ?_
 have hr27 := (hb.ext hX)
 have hr28 := hb1
 have hr29 := hb6
 refine ewp_draw mixed (Keeps w49 [b, b1, b3]) [(true, 0), (true, 1), (true, 2), (true, 3), (true, 4), (false, 5), (false, 6), (false, 7)] (by kernel_rfl) (by kernel_rfl) rfl rfl fun w50 hE41 hz14 => ?_
 have hKp : Keeps w49 [b, b1, b3] w50 := Keeps.cons hr27 hE41 (Keeps.cons hr28 hE41 (Keeps.cons hr29 hE41 (Keeps.nil _ _)))
 refine ⟨hKp, ?_⟩
 replace hb1 := hb1.ext hE41
 replace hb2 := hb2.ext hE41
 replace hb6 := hb6.ext hE41
 replace hX := hX.trans hE41
 refine ewo_rd rfl (fun _ hS => rn_loada rfl ti61 (hr28.keep hS (.tail _ (.head _))) rfl) ?_
 refine ewo_rd rfl (fun _ hS => rn_fa rfl fl61_0) ?_
 refine ewo_rd rfl (fun _ hS => rn_fa rfl fl59_3) ?_
 refine ewo_rd rfl (fun _ hS => rn_load rfl ti9 (hr29.keep hS (.tail _ (.tail _ (.head _)))) rfl) ?_
 refine ewo_rd rfl (fun _ hS => rn_move rfl) ?_
 refine ewo_sp ?_
 refine ewl_retp rfl (en_call ent15 rfl rfl) (each_spec _ 30 ent30 (typM (n + 1)) (okT n) U _ _ _ r (hK.rest.ext hX) (all_of n r hok.2.1.2.2.2 (by have := hok.2.2.2; simp only [Fo.deep, Bool.and_eq_true] at this; exact this.2)) (by have := hok.2.2.1; simp only [Fo.len] at this; omega) (fun w1 hE1 t1 k1 a1 n1 c1 hk1 hp1 => ih w1 (hG.ext (hX.trans hE1)) U t1 k1 a1 n1 c1 hk1 hp1)) ?_ (fun c wp hc => And.intro rfl (let ⟨e, he, hc1, hc2⟩ := hc; ⟨e, by rw [typM]; simp [SP.need, h1, h3, h5, h6, h7, h8, hn2, hn7, he], hc1, hX.trans hc2⟩))
 rintro _ w51 ⟨nds, ra_nds, rc_nds, hnds, rfl, hN, hE42⟩
 replace hb1 := hb1.ext hE42
 replace hb2 := hb2.ext hE42
 replace hb6 := hb6.ext hE42
 replace hX := hX.trans hE42
 replace hKp := hKp.ext hE42
 have sz37 := hE42.size
 have hA12 := Ext.refl w51
 refine ewl_nil (onw_n hKp ?_)
 refine ewo_sp ?_
 refine ewl_ret rfl (en_call ent27 rfl rfl) (node_spec _ ⟨_, _, _, _, _⟩ _ _ _ _ _ _) ?_
 rintro _ w52 ⟨rfl, hE43⟩
 replace hb1 := hb1.ext hE43
 replace hb2 := hb2.ext hE43
 replace hb6 := hb6.ext hE43
 replace hX := hX.trans hE43
 replace hA12 := hA12.trans hE43
 replace hKp := hKp.ext hE43
 have sz38 := hE43.size
 refine ewl_nil (onw_n hKp ?_)
 refine ewo_sp ?_
 refine ewl_store rfl rfl rfl ti40 rfl hb2 rfl rfl fun w53 hb15 hC10 => ?_
 replace hb1 := hb1.chg hC10 (by omega)
 replace hb6 := hb6.chg hC10 (by omega)
 replace hX := hX.chg hC10 (by omega)
 replace hN := (hN.ext hA12).chg hC10 (by omega)
 clear hA12
 replace hKp := hKp.chg hC10 (by simp only [List.mem_cons, List.not_mem_nil, or_false]; omega)
 have sz39 := hC10.size
 have hA13 := Ext.refl w53
 refine ewl_nil (onw_n hKp ?_)
 refine ewo_nil ?_
 refine thn_n ?_
 refine ewp_ret ?_
 refine fn_r (resv rfl (rv_cella rfl ti40 hb15 rfl)) ?_
 exact ⟨node t 32 h.tx nds, by rw [typM]; simp [SP.need, node, h1, h3, h5, h6, h7, h8, hn2, hn7, hnds], ⟨_, _, _, rfl, ((hN.ext hA13).nds).mono (fun b hb => by omega)⟩, hX⟩
 refine ewo_rdo rfl rfl rfl h8 ?_
 refine ewo_sp ?_
 refine ewl_off rfl rfl rfl h8 ?_
 refine ewl_nil (onw_n hKp ?_)
 refine ewo_rd rfl (fun _ hS => rn_pickf rfl h8 rfl) ?_
 refine ewo_sp ?_
 refine ewl_retp rfl (en_call ent22 rfl rfl) (need_spec _ ⟨_, _, _, _, _⟩ _ _) ?_ (fun c wp hc => And.intro rfl (⟨(t.ln, t.co), by first | (rw [typM]; simp [SP.need, h1, h3, h5, h6, h7, h8, hn2, hc.1]; done) | (exfalso; have hq := hc.1; simp at hq <;> omega), hc.2.1, hX.trans hc.2.2⟩))
 rintro _ w54 ⟨hn8, rfl, hE44⟩
 cases hn8
theorem typ_spec : ∀ n, NSpec 30 (typM (n + 1)) n
 | 0 => fun w hG U t k ka kn kc hK hok => by
   cases k with
   | nil => obtain rfl : kn = 0 := hK.1; exact typ_nil w hG t ka kc 0 hok
   | cons h k r => exact absurd hok.2.2.2 (by simp [Fo.deep])
 | n + 1 => fun w hG U t k ka kn kc hK hok => by
   cases k with
   | nil => obtain rfl : kn = 0 := hK.1; exact typ_nil w hG t ka kc (n + 1) ⟨hok.1, hok.2.1, hok.2.2.1, rfl⟩
   | cons h k r => exact typ_cons w hG t ka kn kc n U h k r hK hok (typ_spec n)
end Go.Proofs.YthjdnhnbgjgbkaaGreatDoor
namespace Go.Proofs.YthjdnhnbgjgbkaaGreatDoor
open Go.SW Go.SP Go.RowKit
/-- Does no variable stand twice? The map holds what has been seen. -/
def OnceFn (w : World) (m : Nat) (seen : List (List UInt8)) (nd : N) (ka : Option Addr) (kn kc : Nat) : Prop :=
 Ret Tryz.prog 64 #[.agg #[.int .i64 nd.op, .int .i64 nd.ln, .int .i64 nd.co, S nd.tx, .int .i64 nd.nm, .slice ka kn kc], .map (some m)] w fun v w' => v = .bool (onceM seen nd.one).isSome ∧ (∀ s, onceM seen nd.one = some s → SetB w' m s) ∧ ExB m w w'
theorem once_step (n : Nat) (ih : ∀ w m seen (nd : N) (U : Nat → Prop) ka kn kc, SetB w m seen → NdS U w ka kn kc nd.kids → ¬ U m → nd.kids.size < n → nd.ok → OnceFn w m seen nd ka kn kc) (w : World) (m : Nat) (seen : List (List UInt8)) (nd : N) (U : Nat → Prop) (ka : Option Addr) (kn kc : Nat) (hS : SetB w m seen) (hkd : NdS U w ka kn kc nd.kids) (hUm : ¬ U m) (hsz : nd.kids.size ≤ n) (hbig : nd.ok) :
   Ret Tryz.prog 64 #[.agg #[.int .i64 nd.op, .int .i64 nd.ln, .int .i64 nd.co, S nd.tx, .int .i64 nd.nm, .slice ka kn kc], .map (some m)] w fun v w' => v = .bool (onceM seen nd.one).isSome ∧ (∀ s, onceM seen nd.one = some s → SetB w' m s) ∧ ExB m w w' := by
 have mlt0 := hS.lt
 have hknl := hkd.1
 have hkl := hbig.1
 have hX := ExB.refl m w
 refine enter Tryz.func64 rfl rfl rfl ?_
 refine ewp_seq ?_
 refine ewp_reg ?_
 refine ewl_box rfl rfl rfl fun b1 w1 hb1 hE1 hs1 hz1 => ?_
 replace hS := hS.ext hE1
 replace hX := hX.trans hE1
 refine ewl_run rfl (rn_assign rfl) ?_
 refine ewl_nil ?_
 refine thn_n ?_
 refine ewp_seq ?_
 refine ewp_seq ?_
 refine ewp_reg ?_
 refine ewl_run rfl (rn_fa rfl fl40_0) ?_
 refine ewl_run rfl (rn_load rfl ti3 hb1 rfl) ?_
 refine ewl_run rfl (rn_eqI rfl rfl) ?_
 refine ewl_nil ?_
 refine thn_n ?_
 refine ewp_if rfl (fun h1 => ?_) (fun h1 => ?_)
 refine ewp_seq ?_
 refine ewp_seq ?_
 refine ewp_reg ?_
 refine ewl_run rfl (rn_move rfl) ?_
 refine ewl_run rfl (rn_fa rfl fl40_2) ?_
 refine ewl_run rfl (rn_load rfl ti9 hb1 rfl) ?_
 refine ewl_run rfl (rn_lookB rfl rfl mp93 hS) ?_
 refine ewl_nil ?_
 refine thn_n ?_
 refine ewp_if rfl (fun h2 => ?_) (fun h2 => ?_)
 refine ewp_seq ?_
 refine ewp_reg ?_
 refine ewl_run rfl (rn_assign rfl) ?_
 refine ewl_nil ?_
 refine thn_n ?_
 refine ewp_ret ?_
 refine thn_r ?_
 refine thn_r ?_
 refine fn_r (resv rfl (rv_tmp rfl)) ?_
 have e : onceM seen nd.one = none := by simp only [N.one, N.cons, onceM, h1, h2, if_true]
 exact ⟨by rw [e]; rfl, fun s hs => (by rw [e] at hs; cases hs), hX⟩
 refine ewp_skip ?_
 refine thn_n ?_
 refine ewp_reg ?_
 refine ewl_run rfl (rn_move rfl) ?_
 refine ewl_run rfl (rn_fa rfl fl40_2) ?_
 refine ewl_run rfl (rn_load rfl ti9 hb1 rfl) ?_
 refine ewl_mapB rfl rfl rfl mp93 hS h2 fun w2 hS2 hC1 => ?_
 replace hb1 := hb1.chg hC1 (by omega)
 replace hX := hX.chg hC1 (Or.inr rfl)
 have sz1 := hC1.size
 clear hS
 rename SetB _ _ _ => hS
 refine ewl_nil ?_
 refine thn_n ?_
 refine ewp_seq ?_
 refine ewp_seq ?_
 refine ewp_reg ?_
 refine ewl_run rfl (rn_fa rfl fl40_4) ?_
 refine ewl_run rfl (rn_load rfl ti23 hb1 rfl) ?_
 refine ewl_run rfl (rn_len rfl sl23) ?_
 refine ewl_run rfl (rn_move rfl) ?_
 refine ewl_nil ?_
 refine thn_n ?_
 refine ewp_block ?_
 refine ewp_loop (fun k σ ds w' => ∃ (i : Nat) (s : List (List UInt8)), k = kn - i ∧ ds = [] ∧ σ = (upd (upd (upd (upd SW.e0 1 (.map (some m))) 18 (.slice ka kn kc)) 19 (.int .i64 (kn : Int))) 20 (.int .i64 (i : Int))) ∧ i ≤ kn ∧ onceM (nd.tx :: seen) nd.kids = onceM s (nd.kids.drop i) ∧ SetB w' m s ∧ ExB m w w') kn (upd (upd (upd (upd SW.e0 1 (.map (some m))) 18 (.slice ka kn kc)) 19 (.int .i64 (kn : Int))) 20 (.int .i64 ((0 : Nat) : Int))) (le_upd (le_upd (le_upd (le_upd (le_e0 _) rfl) rfl) rfl) rfl) ⟨0, _, rfl, rfl, rfl, Nat.zero_le _, rfl, hS, hX⟩ ?_
 rintro _ _ _ wl ⟨i, s, rfl, rfl, rfl, hi, hm, hS, hX⟩
 have szl := hX.size
 have mlt := hS.lt
 refine ewp_seq ?_
 refine ewp_reg ?_
 refine ewl_run rfl (rn_ltI rfl rfl) ?_
 refine ewl_nil ?_
 refine thn_n ?_
 refine ewp_seq ?_
 refine ewp_if rfl (fun h3 => ?_) (fun h3 => ?_)
 refine ewp_skip ?_
 refine thn_n ?_
 refine ewp_seq ?_
 refine ewp_block ?_
 refine ewp_seq ?_
 refine ewp_reg ?_
 have hi2 : i < kn := by simpa using h3
 obtain ⟨b, off, cells, T, op1, ln1, co1, tx1, nm1, kids1, ka1, kn1, kc1, l1, hUb, rfl, hbk, he, hd, hk1⟩ := hkd.get i hi2
 have hbne : b ≠ m := fun e => hUm (e ▸ hUb)
 refine ewl_run rfl (rn_ixc (i := i) rfl rfl sl23 hi2) ?_
 refine ewl_run rfl (rn_loadad 0 rfl ti40 (hbk.exb hX hbne) hd (by omega) rfl) ?_
 refine ewl_alloc rfl zr40 fun b2 w3 hb2 hE2 hs2 hz2 => ?_
 replace hS := hS.ext hE2
 replace hX := hX.trans hE2
 refine ewl_store rfl rfl rfl ti40 rfl hb2 rfl rfl fun w4 hb3 hC2 => ?_
 replace hS := hS.chg hC2 (by omega)
 replace hX := hX.chg hC2 (by omega)
 have sz2 := hC2.size
 refine ewl_nil ?_
 refine thn_n ?_
 refine ewp_seq ?_
 refine ewp_reg ?_
 refine ewl_run rfl (rn_loada rfl ti40 hb3 rfl) ?_
 refine ewl_run rfl (rn_move rfl) ?_
 refine ewl_ret rfl (en_call ent64 rfl rfl) (ih _ m s ⟨op1, ln1, co1, tx1, nm1, kids1⟩ U ka1 kn1 kc1 hS (hk1.exb hX hUm) hUm (by have := Nd.size_drop i nd.kids; rw [he] at this; simp only [Nd.size] at this; show kids1.size < n; omega) (hbig.2.get he)) ?_
 rintro _ w5 ⟨rfl, hS3, hE3⟩
 replace hb3 := hb3.exb hE3 (by omega)
 replace hX := hX.trans2 hE3
 have sz3 := hE3.size
 refine ewl_run rfl (rn_not rfl) ?_
 refine ewl_nil ?_
 refine thn_n ?_
 refine ewp_if rfl (fun h4 => ?_) (fun h4 => ?_)
 replace h4 := nott h4
 refine ewp_seq ?_
 refine ewp_reg ?_
 refine ewl_run rfl (rn_assign rfl) ?_
 refine ewl_nil ?_
 refine thn_n ?_
 refine ewp_ret ?_
 refine blk_r ?_
 refine thn_r ?_
 refine lp_r ?_
 refine blk_r ?_
 refine thn_r ?_
 refine fn_r (resv rfl (rv_tmp rfl)) ?_
 have e0 : onceM seen nd.one = onceM (nd.tx :: seen) nd.kids := by simp only [N.one, N.cons, onceM, h1, h2, if_true, Bool.false_eq_true, if_false]; cases onceM (nd.tx :: seen) nd.kids <;> rfl
 have hs2 : onceM s (.cons op1 ln1 co1 tx1 nm1 kids1 .nil) = none := by have := h4; simp only [N.one, N.cons] at this; exact Option.not_isSome_iff_eq_none.1 (by simp [this])
 have e : onceM seen nd.one = none := by rw [e0, hm, he, onceM_cons, hs2]
 exact ⟨by rw [e]; rfl, fun s hs => (by rw [e] at hs; cases hs), hX⟩
 replace h4 := notf h4
 obtain ⟨s2, hs2⟩ := Option.isSome_iff_exists.1 h4
 refine ewp_skip ?_
 refine blk_n ?_
 refine thn_n ?_
 refine ewp_reg ?_
 refine ewl_run rfl (rn_add rfl rfl ⟨by omega, by omega⟩) ?_
 refine ewl_run rfl (rn_move rfl) ?_
 refine ewl_nil ?_
 refine lp_n (kn - (i + 1)) (upd (upd (upd (upd SW.e0 1 (.map (some m))) 18 (.slice (some ⟨b, off, none⟩) kn kc)) 19 (.int .i64 (kn : Int))) 20 (.int .i64 ((i + 1 : Nat) : Int))) (by omega) (le_upd (le_upd (le_upd (le_upd (le_e0 _) rfl) rfl) rfl) rfl) ⟨i + 1, s2, rfl, rfl, rfl, by omega, ?_, hS3 s2 hs2, hX⟩
 rw [hm, he, onceM_cons]; simp only [N.one, N.cons] at hs2; rw [hs2]
 refine ewp_exit ?_
 refine thn_e ?_
 refine lp_e ?_
 refine blk_e ?_
 refine thn_n ?_
 refine ewp_seq ?_
 refine ewp_reg ?_
 refine ewl_run rfl (rn_assign rfl) ?_
 refine ewl_nil ?_
 refine thn_n ?_
 refine ewp_ret ?_
 refine fn_r (resv rfl (rv_tmp rfl)) ?_
 have e0 : onceM seen nd.one = onceM (nd.tx :: seen) nd.kids := by simp only [N.one, N.cons, onceM, h1, h2, if_true, Bool.false_eq_true, if_false]; cases onceM (nd.tx :: seen) nd.kids <;> rfl
 have hi3 : i = nd.kids.len := by have := h3; simp at this; have := hkd.1; omega
 have e : onceM seen nd.one = some s := by rw [e0, hm, hi3, Nd.drop_len]; rfl
 exact ⟨by rw [e]; rfl, fun s' hs => (by rw [e] at hs; cases hs; exact hS), hX⟩
 refine ewp_skip ?_
 refine thn_n ?_
 refine ewp_seq ?_
 refine ewp_seq ?_
 refine ewp_reg ?_
 refine ewl_run rfl (rn_fa rfl fl40_4) ?_
 refine ewl_run rfl (rn_load rfl ti23 hb1 rfl) ?_
 refine ewl_run rfl (rn_len rfl sl23) ?_
 refine ewl_run rfl (rn_move rfl) ?_
 refine ewl_nil ?_
 refine thn_n ?_
 refine ewp_block ?_
 refine ewp_loop (fun k σ ds w' => ∃ (i : Nat) (s : List (List UInt8)), k = kn - i ∧ ds = [] ∧ σ = (upd (upd (upd (upd SW.e0 1 (.map (some m))) 18 (.slice ka kn kc)) 19 (.int .i64 (kn : Int))) 20 (.int .i64 (i : Int))) ∧ i ≤ kn ∧ onceM seen nd.kids = onceM s (nd.kids.drop i) ∧ SetB w' m s ∧ ExB m w w') kn (upd (upd (upd (upd SW.e0 1 (.map (some m))) 18 (.slice ka kn kc)) 19 (.int .i64 (kn : Int))) 20 (.int .i64 ((0 : Nat) : Int))) (le_upd (le_upd (le_upd (le_upd (le_e0 _) rfl) rfl) rfl) rfl) ⟨0, _, rfl, rfl, rfl, Nat.zero_le _, rfl, hS, hX⟩ ?_
 rintro _ _ _ wl ⟨i, s, rfl, rfl, rfl, hi, hm, hS, hX⟩
 have szl := hX.size
 have mlt := hS.lt
 refine ewp_seq ?_
 refine ewp_reg ?_
 refine ewl_run rfl (rn_ltI rfl rfl) ?_
 refine ewl_nil ?_
 refine thn_n ?_
 refine ewp_seq ?_
 refine ewp_if rfl (fun h5 => ?_) (fun h5 => ?_)
 refine ewp_skip ?_
 refine thn_n ?_
 refine ewp_seq ?_
 refine ewp_block ?_
 refine ewp_seq ?_
 refine ewp_reg ?_
 have hi2 : i < kn := by simpa using h5
 obtain ⟨b, off, cells, T, op1, ln1, co1, tx1, nm1, kids1, ka1, kn1, kc1, l1, hUb, rfl, hbk, he, hd, hk1⟩ := hkd.get i hi2
 have hbne : b ≠ m := fun e => hUm (e ▸ hUb)
 refine ewl_run rfl (rn_ixc (i := i) rfl rfl sl23 hi2) ?_
 refine ewl_run rfl (rn_loadad 0 rfl ti40 (hbk.exb hX hbne) hd (by omega) rfl) ?_
 refine ewl_alloc rfl zr40 fun b3 w6 hb4 hE4 hs3 hz3 => ?_
 replace hS := hS.ext hE4
 replace hX := hX.trans hE4
 refine ewl_store rfl rfl rfl ti40 rfl hb4 rfl rfl fun w7 hb5 hC3 => ?_
 replace hS := hS.chg hC3 (by omega)
 replace hX := hX.chg hC3 (by omega)
 have sz4 := hC3.size
 refine ewl_nil ?_
 refine thn_n ?_
 refine ewp_seq ?_
 refine ewp_reg ?_
 refine ewl_run rfl (rn_loada rfl ti40 hb5 rfl) ?_
 refine ewl_run rfl (rn_move rfl) ?_
 refine ewl_ret rfl (en_call ent64 rfl rfl) (ih _ m s ⟨op1, ln1, co1, tx1, nm1, kids1⟩ U ka1 kn1 kc1 hS (hk1.exb hX hUm) hUm (by have := Nd.size_drop i nd.kids; rw [he] at this; simp only [Nd.size] at this; show kids1.size < n; omega) (hbig.2.get he)) ?_
 rintro _ w8 ⟨rfl, hS3, hE5⟩
 replace hb5 := hb5.exb hE5 (by omega)
 replace hX := hX.trans2 hE5
 have sz5 := hE5.size
 refine ewl_run rfl (rn_not rfl) ?_
 refine ewl_nil ?_
 refine thn_n ?_
 refine ewp_if rfl (fun h6 => ?_) (fun h6 => ?_)
 replace h6 := nott h6
 refine ewp_seq ?_
 refine ewp_reg ?_
 refine ewl_run rfl (rn_assign rfl) ?_
 refine ewl_nil ?_
 refine thn_n ?_
 refine ewp_ret ?_
 refine blk_r ?_
 refine thn_r ?_
 refine lp_r ?_
 refine blk_r ?_
 refine thn_r ?_
 refine fn_r (resv rfl (rv_tmp rfl)) ?_
 have e0 : onceM seen nd.one = onceM (seen) nd.kids := by simp only [N.one, N.cons, onceM, h1, Bool.false_eq_true, if_false]; cases onceM (seen) nd.kids <;> rfl
 have hs2 : onceM s (.cons op1 ln1 co1 tx1 nm1 kids1 .nil) = none := by have := h6; simp only [N.one, N.cons] at this; exact Option.not_isSome_iff_eq_none.1 (by simp [this])
 have e : onceM seen nd.one = none := by rw [e0, hm, he, onceM_cons, hs2]
 exact ⟨by rw [e]; rfl, fun s hs => (by rw [e] at hs; cases hs), hX⟩
 replace h6 := notf h6
 obtain ⟨s2, hs2⟩ := Option.isSome_iff_exists.1 h6
 refine ewp_skip ?_
 refine blk_n ?_
 refine thn_n ?_
 refine ewp_reg ?_
 refine ewl_run rfl (rn_add rfl rfl ⟨by omega, by omega⟩) ?_
 refine ewl_run rfl (rn_move rfl) ?_
 refine ewl_nil ?_
 refine lp_n (kn - (i + 1)) (upd (upd (upd (upd SW.e0 1 (.map (some m))) 18 (.slice (some ⟨b, off, none⟩) kn kc)) 19 (.int .i64 (kn : Int))) 20 (.int .i64 ((i + 1 : Nat) : Int))) (by omega) (le_upd (le_upd (le_upd (le_upd (le_e0 _) rfl) rfl) rfl) rfl) ⟨i + 1, s2, rfl, rfl, rfl, by omega, ?_, hS3 s2 hs2, hX⟩
 rw [hm, he, onceM_cons]; simp only [N.one, N.cons] at hs2; rw [hs2]
 refine ewp_exit ?_
 refine thn_e ?_
 refine lp_e ?_
 refine blk_e ?_
 refine thn_n ?_
 refine ewp_seq ?_
 refine ewp_reg ?_
 refine ewl_run rfl (rn_assign rfl) ?_
 refine ewl_nil ?_
 refine thn_n ?_
 refine ewp_ret ?_
 refine fn_r (resv rfl (rv_tmp rfl)) ?_
 have e0 : onceM seen nd.one = onceM (seen) nd.kids := by simp only [N.one, N.cons, onceM, h1, Bool.false_eq_true, if_false]; cases onceM (seen) nd.kids <;> rfl
 have hi3 : i = nd.kids.len := by have := h5; simp at this; have := hkd.1; omega
 have e : onceM seen nd.one = some s := by rw [e0, hm, hi3, Nd.drop_len]; rfl
 exact ⟨by rw [e]; rfl, fun s' hs => (by rw [e] at hs; cases hs; exact hS), hX⟩
theorem once_all : ∀ n w m seen (nd : N) (U : Nat → Prop) ka kn kc, SetB w m seen → NdS U w ka kn kc nd.kids → ¬ U m → nd.kids.size < n → nd.ok → OnceFn w m seen nd ka kn kc
 | 0, _, _, _, _, _, _, _, _, _, _, _, h, _ => by omega
 | n + 1, w, m, seen, nd, U, ka, kn, kc, hS, hk, hU, hs, hb => once_step n (once_all n) w m seen nd U ka kn kc hS hk hU (by omega) hb
end Go.Proofs.YthjdnhnbgjgbkaaGreatDoor
namespace Go.Proofs.YthjdnhnbgjgbkaaGreatDoor
open Go.SW Go.SP Go.RowKit
theorem arm_two (n : Nat) (ihx : NSpec 31 (expM (n + 1)) n) (w : World) (hG : Gl w) (t : Tok) (ka : Option Addr) (kc : Nat) (U : Nat → Prop) (p b0 : Tok) (pk bk : Fo) (hK : FoS U w ka 2 kc (.cons p pk (.cons b0 bk .nil))) (hok : okT n t (.cons p pk (.cons b0 bk .nil))) (hp0 : okT n p pk) (hp1 : okT n b0 bk) :
   RetP Tryz.prog 53 #[.agg #[.int .i64 t.k, .int .i64 t.ln, .int .i64 t.co, .int .i64 t.nm, S t.tx, .slice ka 2 kc]] w (fun v w' => ∃ nd, (armM (n + 1) (expM (n + 1))) t (Fo.cons p pk (Fo.cons b0 bk Fo.nil)) = .ok nd ∧ NV w w' v nd ∧ Ext w w') (fun c w' => ∃ e, (armM (n + 1) (expM (n + 1))) t (Fo.cons p pk (Fo.cons b0 bk Fo.nil)) = .error e ∧ c = trb 45 e ∧ Ext w w') := by
 obtain ⟨b, off, cells, T, a0, n0, c0, a1, n1, c1, l1, hUb, rfl, hb, hd, hk0, hk1, hr1⟩ := hK.two
 have hblt := hb.lt
 have hX := Ext.refl w
 refine enterP Tryz.func53 rfl rfl rfl ?_
 refine ewp_seq ?_
 refine ewp_reg ?_
 refine ewl_box rfl rfl rfl fun b1 w1 hb1 hE1 hs1 hz1 => ?_
 replace hX := hX.trans hE1
 refine ewl_alloc rfl zr40 fun b2 w2 hb2 hE2 hs2 hz2 => ?_
 replace hb1 := hb1.ext hE2
 replace hX := hX.trans hE2
 refine ewl_nil ?_
 refine thn_n ?_
 refine ewp_seq ?_
 have hr1 := (hb.ext hX)
 have hr2 := hb1
 have hr3 := hb2
 refine ewp_draw mixed (Keeps w2 [b, b1, b2]) [(true, 0), (true, 1), (false, 2), (true, 3), (true, 4), (true, 5), (true, 6), (true, 7), (true, 8), (false, 9)] (by kernel_rfl) (by kernel_rfl) rfl rfl fun w3 hE3 hz3 => ?_
 have hKp : Keeps w2 [b, b1, b2] w3 := Keeps.cons hr1 hE3 (Keeps.cons hr2 hE3 (Keeps.cons hr3 hE3 (Keeps.nil _ _)))
 refine ⟨hKp, ?_⟩
 replace hb1 := hb1.ext hE3
 replace hb2 := hb2.ext hE3
 replace hX := hX.trans hE3
 refine ewo_rd rfl (fun _ hS => rn_loada rfl ti61 (hr2.keep hS (.tail _ (.head _))) rfl) ?_
 refine ewo_rd rfl (fun _ hS => rn_loada rfl ti61 (hr2.keep hS (.tail _ (.head _))) rfl) ?_
 refine ewo_sp ?_
 refine ewl_ret rfl (en_call ent23 rfl rfl) (isList_spec _ ⟨_, _, _, _, _⟩ _) ?_
 rintro _ w4 ⟨rfl, hE4⟩
 replace hb1 := hb1.ext hE4
 replace hb2 := hb2.ext hE4
 replace hX := hX.trans hE4
 replace hKp := hKp.ext hE4
 have sz1 := hE4.size
 refine ewl_nil (onw_n hKp ?_)
 refine ewo_rd rfl (fun _ hS => rn_move rfl) ?_
 refine ewo_split 7 rfl (fun h1 => ?_) (fun h1 => ?_)
 refine ewo_rdg rfl rfl rfl h1 (fun _ hS => rn_fa rfl fl61_1) ?_
 refine ewo_rdg rfl rfl rfl h1 (fun _ hS => rn_load rfl ti47 (hr2.keep hS (.tail _ (.head _))) rfl) ?_
 refine ewo_rdg rfl rfl rfl h1 (fun _ hS => rn_len rfl sl47) ?_
 refine ewo_rdg rfl rfl rfl h1 (fun _ hS => rn_eqI rfl rfl) ?_
 refine ewo_rd rfl (fun _ hS => rn_pickt rfl h1 rfl) ?_
 refine ewo_sp ?_
 refine ewl_retp rfl (en_call ent22 rfl rfl) (need_spec _ ⟨_, _, _, _, _⟩ _ _) ?_ (fun c wp hc => And.intro rfl (⟨(t.ln, t.co), by first | (simp [armM, SP.need, h1, hc.1]; done) | (exfalso; have hq := hc.1; simp at hq <;> omega), hc.2.1, hX.trans hc.2.2⟩))
 rintro _ w5 ⟨hn1, rfl, hE5⟩
 replace hb1 := hb1.ext hE5
 replace hb2 := hb2.ext hE5
 replace hX := hX.trans hE5
 replace hKp := hKp.ext hE5
 have sz2 := hE5.size
 refine ewl_nil (onw_n hKp ?_)
 refine ewo_nil ?_
 refine thn_n ?_
 refine ewp_seq ?_
 refine ewp_reg ?_
 refine ewl_run rfl (rn_fa rfl fl61_1) ?_
 refine ewl_run rfl (rn_load rfl ti47 hb1 rfl) ?_
 refine ewl_run rfl (rn_ixc (i := 0) rfl rfl sl47 (by omega)) ?_
 refine ewl_run rfl (rn_loadad 0 rfl ti61 (hb.ext hX) hd (by omega) rfl) ?_
 refine ewl_retp rfl (en_call ent63 rfl rfl) (pat_spec n _ (hG.ext hX) U p pk a0 n0 c0 (hk0.ext hX) hp0) ?_ (fun c wp hc => And.intro rfl (let ⟨e, he, hc1, hc2⟩ := hc; ⟨e, by simp [armM, SP.need, h1, hn1, he], hc1, hX.trans hc2⟩))
 rintro _ w6 ⟨nd1, hnd1, ⟨xa1, xn1, xc1, rfl, hkx1⟩, hE6⟩
 replace hb1 := hb1.ext hE6
 replace hb2 := hb2.ext hE6
 replace hX := hX.trans hE6
 have sz3 := hE6.size
 have hA1 := Ext.refl w6
 refine ewl_alloc rfl zr40 fun b3 w7 hb3 hE7 hs3 hz4 => ?_
 replace hb1 := hb1.ext hE7
 replace hb2 := hb2.ext hE7
 replace hX := hX.trans hE7
 replace hA1 := hA1.trans hE7
 refine ewl_store rfl rfl rfl ti40 rfl hb3 rfl rfl fun w8 hb4 hC1 => ?_
 replace hb1 := hb1.chg hC1 (by omega)
 replace hb2 := hb2.chg hC1 (by omega)
 replace hX := hX.chg hC1 (by omega)
 replace hA1 := hA1.chg hC1 (by omega)
 have sz4 := hC1.size
 refine ewl_nil ?_
 refine thn_n ?_
 refine ewp_seq ?_
 have hr4 := (hb.ext hX)
 have hr5 := hb1
 have hr6 := hb2
 have hr7 := hb4
 refine ewp_draw mixed (Keeps w8 [b, b1, b2, b3]) [(true, 0), (true, 1), (true, 2), (true, 3), (true, 4), (false, 5), (false, 6), (false, 7)] (by kernel_rfl) (by kernel_rfl) rfl rfl fun w9 hE8 hz5 => ?_
 have hKp : Keeps w8 [b, b1, b2, b3] w9 := Keeps.cons hr4 hE8 (Keeps.cons hr5 hE8 (Keeps.cons hr6 hE8 (Keeps.cons hr7 hE8 (Keeps.nil _ _))))
 refine ⟨hKp, ?_⟩
 replace hb1 := hb1.ext hE8
 replace hb2 := hb2.ext hE8
 replace hb4 := hb4.ext hE8
 replace hX := hX.trans hE8
 replace hA1 := hA1.trans hE8
 refine ewo_rd rfl (fun _ hS => rn_fa rfl fl61_1) ?_
 refine ewo_rd rfl (fun _ hS => rn_load rfl ti47 (hr5.keep hS (.tail _ (.head _))) rfl) ?_
 refine ewo_rd rfl (fun _ hS => rn_ixc (i := 0) rfl rfl sl47 (by omega)) ?_
 refine ewo_rd rfl (fun _ hS => rn_loadad 0 rfl ti61 (hr4.keep hS (.head _)) hd (by omega) rfl) ?_
 refine ewo_rd rfl (fun _ hS => rn_loada rfl ti40 (hr7.keep hS (.tail _ (.tail _ (.tail _ (.head _))))) rfl) ?_
 refine ewo_sp ?_
 refine ewl_mkmap rfl fun b4 w10 hS hE9 hs4 hz6 => ?_
 replace hb1 := hb1.ext hE9
 replace hb2 := hb2.ext hE9
 replace hb4 := hb4.ext hE9
 replace hX := hX.trans hE9
 replace hA1 := hA1.trans hE9
 replace hKp := hKp.ext hE9
 refine ewl_nil (onw_n hKp ?_)
 refine ewo_sp ?_
 refine ewl_ret rfl (en_call ent64 rfl rfl) (once_all (nd1.kids.size + 1) _ b4 [] nd1 (fun b => b ≠ b4) _ _ _ hS (NdS.imp hkx1 (fun b hb hlt => ⟨by have := hb; omega, hA1.block b hlt⟩)) (by simp) (by omega) (patM_nok n p pk nd1 hp0 hnd1)) ?_
 rintro _ w11 ⟨rfl, -, hE10⟩
 replace hb1 := hb1.exb hE10 (by omega)
 replace hb2 := hb2.exb hE10 (by omega)
 replace hb4 := hb4.exb hE10 (by omega)
 replace hX := hE10.ext hX (by omega)
 replace hA1 := hE10.ext hA1 (by omega)
 replace hKp := hKp.exb hE10 (by simp only [List.mem_cons, List.not_mem_nil, or_false]; omega)
 have sz5 := hE10.size
 refine ewl_nil (onw_n hKp ?_)
 refine ewo_sp ?_
 refine ewl_retp rfl (en_call ent22 rfl rfl) (need_spec _ ⟨_, _, _, _, _⟩ _ _) ?_ (fun c wp hc => And.intro rfl (⟨(p.ln, p.co), by first | (simp [armM, SP.need, h1, hn1, hnd1, hc.1]; done) | (exfalso; have hq := hc.1; simp at hq <;> omega), hc.2.1, hX.trans hc.2.2⟩))
 rintro _ w12 ⟨hn2, rfl, hE11⟩
 replace hb1 := hb1.ext hE11
 replace hb2 := hb2.ext hE11
 replace hb4 := hb4.ext hE11
 replace hX := hX.trans hE11
 replace hA1 := hA1.trans hE11
 replace hKp := hKp.ext hE11
 have sz6 := hE11.size
 refine ewl_nil (onw_n hKp ?_)
 refine ewo_nil ?_
 refine thn_n ?_
 refine ewp_seq ?_
 have hr8 := (hb.ext hX)
 have hr9 := hb1
 have hr10 := hb4
 refine ewp_draw mixed (Keeps w12 [b, b1, b3]) [(true, 0), (true, 1), (true, 2), (true, 3), (true, 4), (true, 5), (false, 6), (false, 7), (false, 8), (false, 9)] (by kernel_rfl) (by kernel_rfl) rfl rfl fun w13 hE12 hz7 => ?_
 have hKp : Keeps w12 [b, b1, b3] w13 := Keeps.cons hr8 hE12 (Keeps.cons hr9 hE12 (Keeps.cons hr10 hE12 (Keeps.nil _ _)))
 refine ⟨hKp, ?_⟩
 replace hb1 := hb1.ext hE12
 replace hb2 := hb2.ext hE12
 replace hb4 := hb4.ext hE12
 replace hX := hX.trans hE12
 replace hA1 := hA1.trans hE12
 refine ewo_rd rfl (fun _ hS => rn_loada rfl ti61 (hr9.keep hS (.tail _ (.head _))) rfl) ?_
 refine ewo_rd rfl (fun _ hS => rn_loada rfl ti40 (hr10.keep hS (.tail _ (.tail _ (.head _)))) rfl) ?_
 refine ewo_rd rfl (fun _ hS => rn_fa rfl fl61_1) ?_
 refine ewo_rd rfl (fun _ hS => rn_load rfl ti47 (hr9.keep hS (.tail _ (.head _))) rfl) ?_
 refine ewo_rd rfl (fun _ hS => rn_ixc (i := 1) rfl rfl sl47 (by omega)) ?_
 refine ewo_rd rfl (fun _ hS => rn_loadad 6 rfl ti61 (hr8.keep hS (.head _)) hd (by omega) rfl) ?_
 refine ewo_sp ?_
 refine ewl_retp rfl (en_call ent31 rfl rfl) (ihx _ (hG.ext hX) U b0 bk a1 n1 c1 (hk1.ext hX) hp1) ?_ (fun c wp hc => And.intro rfl (let ⟨e, he, hc1, hc2⟩ := hc; ⟨e, by simp [armM, SP.need, h1, hn1, hnd1, hn2, he], hc1, hX.trans hc2⟩))
 rintro _ w14 ⟨nd2, hnd2, ⟨xa2, xn2, xc2, rfl, hkx2⟩, hE13⟩
 replace hb1 := hb1.ext hE13
 replace hb2 := hb2.ext hE13
 replace hb4 := hb4.ext hE13
 replace hX := hX.trans hE13
 replace hA1 := hA1.trans hE13
 replace hKp := hKp.ext hE13
 have sz7 := hE13.size
 have hA2 := Ext.refl w14
 refine ewl_nil (onw_n hKp ?_)
 refine ewo_sp ?_
 refine ewl_bs rfl rfl sl23 zr40 rfl rfl rfl rfl rfl fun b5 w15 hb5 hE14 hs5 hz8 => ?_
 replace hb1 := hb1.ext hE14
 replace hb2 := hb2.ext hE14
 replace hb4 := hb4.ext hE14
 replace hX := hX.trans hE14
 replace hA1 := hA1.trans hE14
 replace hA2 := hA2.trans hE14
 replace hKp := hKp.ext hE14
 have hnew : NdS (fun b => w2.heap.size ≤ b) w15 (some ⟨b5, 0, none⟩) 2 2 (nd1.cons nd2.one) := nds_two hb5 (by omega) ((hkx1.ext hA1).mono (fun b hb => by omega)) ((hkx2.ext hA2).mono (fun b hb => by omega))
 have hA3 := Ext.refl w15
 refine ewl_nil (onw_n hKp ?_)
 refine ewo_sp ?_
 refine ewl_ret rfl (en_call ent27 rfl rfl) (node_spec _ ⟨_, _, _, _, _⟩ _ _ _ _ _ _) ?_
 rintro _ w16 ⟨rfl, hE15⟩
 replace hb1 := hb1.ext hE15
 replace hb2 := hb2.ext hE15
 replace hb4 := hb4.ext hE15
 replace hb5 := hb5.ext hE15
 replace hX := hX.trans hE15
 replace hA1 := hA1.trans hE15
 replace hA2 := hA2.trans hE15
 replace hA3 := hA3.trans hE15
 replace hKp := hKp.ext hE15
 have sz8 := hE15.size
 refine ewl_nil (onw_n hKp ?_)
 refine ewo_sp ?_
 refine ewl_store rfl rfl rfl ti40 rfl hb2 rfl rfl fun w17 hb6 hC2 => ?_
 replace hb1 := hb1.chg hC2 (by omega)
 replace hb4 := hb4.chg hC2 (by omega)
 replace hb5 := hb5.chg hC2 (by omega)
 replace hX := hX.chg hC2 (by omega)
 replace hkx1 := (hkx1.ext hA1).chg hC2 (by omega)
 replace hkx2 := (hkx2.ext hA2).chg hC2 (by omega)
 replace hnew := (hnew.ext hA3).chg hC2 (by omega)
 clear hA1
 clear hA2
 clear hA3
 replace hKp := hKp.chg hC2 (by simp only [List.mem_cons, List.not_mem_nil, or_false]; omega)
 have sz9 := hC2.size
 have hA4 := Ext.refl w17
 refine ewl_nil (onw_n hKp ?_)
 refine ewo_nil ?_
 refine thn_n ?_
 refine ewp_ret ?_
 refine fn_r (resv rfl (rv_cella rfl ti40 hb6 rfl)) ?_
 exact ⟨node t 18 [] (nd1.cons nd2.one), by simp [armM, SP.need, h1, hn1, hnd1, hn2, hnd2], ⟨_, _, _, rfl, (hnew.ext hA4).mono (fun b hb => by omega)⟩, hX⟩
 refine ewo_rdo rfl rfl rfl h1 ?_
 refine ewo_rdo rfl rfl rfl h1 ?_
 refine ewo_rdo rfl rfl rfl h1 ?_
 refine ewo_rdo rfl rfl rfl h1 ?_
 refine ewo_rd rfl (fun _ hS => rn_pickf rfl h1 rfl) ?_
 refine ewo_sp ?_
 refine ewl_retp rfl (en_call ent22 rfl rfl) (need_spec _ ⟨_, _, _, _, _⟩ _ _) ?_ (fun c wp hc => And.intro rfl (⟨(t.ln, t.co), by first | (simp [armM, SP.need, h1, hc.1]; done) | (exfalso; have hq := hc.1; simp at hq <;> omega), hc.2.1, hX.trans hc.2.2⟩))
 rintro _ w18 ⟨hn3, rfl, hE16⟩
 cases hn3
theorem arm_bad (n : Nat) (ihx : NSpec 31 (expM (n + 1)) n) (w : World) (hG : Gl w) (t : Tok) (ka : Option Addr) (kc : Nat) (U : Nat → Prop) (k : Fo) (kn : Nat) (hK : FoS U w ka kn kc k) (hne : ((kn : Int) == 2) = false) (hm : armM (n + 1) (expM (n + 1)) t k = .error (t.ln, t.co)) :
   RetP Tryz.prog 53 #[.agg #[.int .i64 t.k, .int .i64 t.ln, .int .i64 t.co, .int .i64 t.nm, S t.tx, .slice ka kn kc]] w (fun v w' => ∃ nd, (armM (n + 1) (expM (n + 1))) t k = .ok nd ∧ NV w w' v nd ∧ Ext w w') (fun c w' => ∃ e, (armM (n + 1) (expM (n + 1))) t k = .error e ∧ c = trb 45 e ∧ Ext w w') := by
 have hX := Ext.refl w
 refine enterP Tryz.func53 rfl rfl rfl ?_
 refine ewp_seq ?_
 refine ewp_reg ?_
 refine ewl_box rfl rfl rfl fun b1 w1 hb1 hE1 hs1 hz1 => ?_
 replace hX := hX.trans hE1
 refine ewl_alloc rfl zr40 fun b2 w2 hb2 hE2 hs2 hz2 => ?_
 replace hb1 := hb1.ext hE2
 replace hX := hX.trans hE2
 refine ewl_nil ?_
 refine thn_n ?_
 refine ewp_seq ?_
 have hr1 := hb1
 have hr2 := hb2
 refine ewp_draw mixed (Keeps w2 [b1, b2]) [(true, 0), (true, 1), (false, 2), (true, 3), (true, 4), (true, 5), (true, 6), (true, 7), (true, 8), (false, 9)] (by kernel_rfl) (by kernel_rfl) rfl rfl fun w3 hE3 hz3 => ?_
 have hKp : Keeps w2 [b1, b2] w3 := Keeps.cons hr1 hE3 (Keeps.cons hr2 hE3 (Keeps.nil _ _))
 refine ⟨hKp, ?_⟩
 replace hb1 := hb1.ext hE3
 replace hb2 := hb2.ext hE3
 replace hX := hX.trans hE3
 refine ewo_rd rfl (fun _ hS => rn_loada rfl ti61 (hr1.keep hS (.head _)) rfl) ?_
 refine ewo_rd rfl (fun _ hS => rn_loada rfl ti61 (hr1.keep hS (.head _)) rfl) ?_
 refine ewo_sp ?_
 refine ewl_ret rfl (en_call ent23 rfl rfl) (isList_spec _ ⟨_, _, _, _, _⟩ _) ?_
 rintro _ w4 ⟨rfl, hE4⟩
 replace hb1 := hb1.ext hE4
 replace hb2 := hb2.ext hE4
 replace hX := hX.trans hE4
 replace hKp := hKp.ext hE4
 have sz1 := hE4.size
 refine ewl_nil (onw_n hKp ?_)
 refine ewo_rd rfl (fun _ hS => rn_move rfl) ?_
 refine ewo_split 7 rfl (fun h1 => ?_) (fun h1 => ?_)
 refine ewo_rdg rfl rfl rfl h1 (fun _ hS => rn_fa rfl fl61_1) ?_
 refine ewo_rdg rfl rfl rfl h1 (fun _ hS => rn_load rfl ti47 (hr1.keep hS (.head _)) rfl) ?_
 refine ewo_rdg rfl rfl rfl h1 (fun _ hS => rn_len rfl sl47) ?_
 refine ewo_rdg rfl rfl rfl h1 (fun _ hS => rn_eqI rfl rfl) ?_
 refine ewo_rd rfl (fun _ hS => rn_pickt rfl h1 rfl) ?_
 refine ewo_sp ?_
 refine ewl_retp rfl (en_call ent22 rfl rfl) (need_spec _ ⟨_, _, _, _, _⟩ _ _) ?_ (fun c wp hc => And.intro rfl (⟨(t.ln, t.co), by exact hm, hc.2.1, hX.trans hc.2.2⟩))
 rintro _ w5 ⟨hn1, rfl, hE5⟩
 exfalso
 rw [hne] at hn1; contradiction
 refine ewo_rdo rfl rfl rfl h1 ?_
 refine ewo_rdo rfl rfl rfl h1 ?_
 refine ewo_rdo rfl rfl rfl h1 ?_
 refine ewo_rdo rfl rfl rfl h1 ?_
 refine ewo_rd rfl (fun _ hS => rn_pickf rfl h1 rfl) ?_
 refine ewo_sp ?_
 refine ewl_retp rfl (en_call ent22 rfl rfl) (need_spec _ ⟨_, _, _, _, _⟩ _ _) ?_ (fun c wp hc => And.intro rfl (⟨(t.ln, t.co), by exact hm, hc.2.1, hX.trans hc.2.2⟩))
 rintro _ w6 ⟨hn2, rfl, hE6⟩
 cases hn2
theorem arm_spec (n : Nat) (ihx : NSpec 31 (expM (n + 1)) n) : NSpec 53 (armM (n + 1) (expM (n + 1))) n := by
 intro w hG U t k ka kn kc hK hok
 have hkn := hK.1
 rcases k with _ | ⟨p, pk, _ | ⟨b0, bk, _ | ⟨c, ck, r⟩⟩⟩
 · exact arm_bad n ihx w hG t ka kc U _ kn hK (by rw [hkn]; rfl) rfl
 · exact arm_bad n ihx w hG t ka kc U _ kn hK (by rw [hkn]; rfl) rfl
 · obtain rfl : kn = 2 := hkn
   cases n with
   | zero => exact absurd hok.2.2.2 (by simp [Fo.deep])
   | succ n => exact arm_two (n + 1) ihx w hG t ka kc U p b0 pk bk hK hok (okT_mono (okT_kids hok).1) (okT_mono (okT_kids hok).2.1)
 · exact arm_bad n ihx w hG t ka kc U _ kn hK (by rw [hkn]; simp [Fo.len]; omega) rfl
end Go.Proofs.YthjdnhnbgjgbkaaGreatDoor
