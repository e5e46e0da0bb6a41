/- What the laws on parse rest on: contracts of the functions of parse and lex, for every world in which the listed package variables hold what the text lays. Part 3. -/
import Derived.Test.YthjdnhnbgjgbkaaGreatDoorGa2
set_option linter.unusedVariables false
set_option linter.unusedSimpArgs false
namespace Go.Proofs.YthjdnhnbgjgbkaaGreatDoor
open Go.SW Go.SP Go.RowKit
theorem form_if (n : Nat) (ihx : NSpec 31 (expM (n + 1)) n) (w : World) (hG : Gl w) (t : Tok) (kv : Value) (U : Nat → Prop) (ka : Option Addr) (kc : Nat) (kn : Nat) (l : Fo) (hK : FoS U w ka kn kc l) (hall : l.all (okT n)) (hlen : l.len ≤ 100000) :
   RetP Tryz.prog 41 #[.agg #[.int .i64 t.k, .int .i64 t.ln, .int .i64 t.co, .int .i64 t.nm, S t.tx, kv], S [105, 102], .slice ka kn kc] w (fun v w' => ∃ nd, formM (n + 1) (expM (n + 1)) t [105, 102] l = .ok nd ∧ NV w w' v nd ∧ Ext w w') (fun c w' => ∃ e, formM (n + 1) (expM (n + 1)) t [105, 102] l = .error e ∧ c = trb 45 e ∧ Ext w w') := by
 obtain rfl : kn = l.len := hK.1
 have hX := Ext.refl w
 refine enterP Tryz.func41 rfl rfl rfl ?_
 refine ewp_seq ?_
 refine ewp_reg ?_
 refine ewl_box rfl rfl rfl fun b1 w1 hb1 hE1 hs1 hz1 => ?_
 replace hX := hX.trans hE1
 refine ewl_alloc rfl zr40 fun b2 w2 hb2 hE2 hs2 hz2 => ?_
 replace hb1 := hb1.ext hE2
 replace hX := hX.trans hE2
 refine ewl_nil ?_
 refine thn_n ?_
 refine ewp_seq ?_
 refine ewp_reg ?_
 refine ewl_run rfl (rn_move rfl) ?_
 refine ewl_run rfl (rn_len rfl sl47) ?_
 refine ewl_run rfl (rn_assign rfl) ?_
 refine ewl_nil ?_
 refine thn_n ?_
 refine ewp_seq ?_
 refine ewp_seq ?_
 refine ewp_reg ?_
 refine ewl_run rfl (rn_move rfl) ?_
 refine ewl_nil ?_
 refine thn_n ?_
 refine ewp_block ?_
 refine ewp_seq ?_
 refine ewp_reg ?_
 refine ewl_run rfl (rn_eqS rfl rfl) ?_
 refine ewl_run rfl (rn_assign rfl) ?_
 refine ewl_nil ?_
 refine thn_n ?_
 refine ewp_iff rfl rfl ?_
 refine ewp_seq ?_
 refine ewp_reg ?_
 refine ewl_run rfl (rn_eqS rfl rfl) ?_
 refine ewl_run rfl (rn_assign rfl) ?_
 refine ewl_nil ?_
 refine thn_n ?_
 refine ewp_iff rfl rfl ?_
 refine ewp_seq ?_
 refine ewp_reg ?_
 refine ewl_run rfl (rn_eqS rfl rfl) ?_
 refine ewl_run rfl (rn_assign rfl) ?_
 refine ewl_nil ?_
 refine thn_n ?_
 refine ewp_iff rfl rfl ?_
 refine ewp_seq ?_
 refine ewp_reg ?_
 refine ewl_run rfl (rn_eqS rfl rfl) ?_
 refine ewl_run rfl (rn_assign rfl) ?_
 refine ewl_nil ?_
 refine thn_n ?_
 refine ewp_ift rfl rfl ?_
 refine ewp_seq ?_
 refine ewp_reg ?_
 refine ewl_run rfl (rn_loada rfl ti61 hb1 rfl) ?_
 refine ewl_run rfl (rn_move rfl) ?_
 refine ewl_run rfl (rn_eqI rfl rfl) ?_
 refine ewl_retp rfl (en_call ent22 rfl rfl) (need_spec _ ⟨_, _, _, _, _⟩ _ _) ?_ (fun c wp hc => And.intro rfl (⟨(t.ln, t.co), by first | (simp [formM, SP.need, Fo.len, hc.1]; done) | (exfalso; have hq := hc.1; simp [Fo.len] at hq <;> omega), hc.2.1, hX.trans hc.2.2⟩))
 rintro _ w3 ⟨hn1, rfl, hE3⟩
 replace hb1 := hb1.ext hE3
 replace hb2 := hb2.ext hE3
 replace hX := hX.trans hE3
 have sz1 := hE3.size
 refine ewl_nil ?_
 refine thn_n ?_
 refine ewp_seq ?_
 have hr1 := hb1
 refine ewp_draw mixed (Keeps w3 [b1]) [(true, 0), (true, 1), (false, 2), (false, 3), (false, 4)] (by kernel_rfl) (by kernel_rfl) rfl rfl fun w4 hE4 hz3 => ?_
 have hKp : Keeps w3 [b1] w4 := Keeps.cons hr1 hE4 (Keeps.nil _ _)
 refine ⟨hKp, ?_⟩
 replace hb1 := hb1.ext hE4
 replace hb2 := hb2.ext hE4
 replace hX := hX.trans hE4
 refine ewo_rd rfl (fun _ hS => rn_loada rfl ti61 (hr1.keep hS (.head _)) rfl) ?_
 refine ewo_rd rfl (fun _ hS => rn_move rfl) ?_
 refine ewo_sp ?_
 refine ewl_retp rfl (en_call ent15 rfl rfl) (each_spec _ 31 ent31 (expM (n + 1)) (okT n) U _ _ _ l (hK.ext hX) hall hlen (fun w1 hE1 t1 q1 a9 n9 c9 hk9 hp9 => ihx w1 (hG.ext (hX.trans hE1)) U t1 q1 a9 n9 c9 hk9 hp9)) ?_ (fun c wp hc => And.intro rfl (let ⟨e, he, hc1, hc2⟩ := hc; ⟨e, by first | (simp [formM, SP.need, hn1, he]; done) | (simp [formM, SP.need, hn1, Fo.len, he]; done), hc1, hX.trans hc2⟩))
 rintro _ w5 ⟨nds, ra_nds, rc_nds, hnds, rfl, hN, hE5⟩
 replace hb1 := hb1.ext hE5
 replace hb2 := hb2.ext hE5
 replace hX := hX.trans hE5
 replace hKp := hKp.ext hE5
 have sz2 := hE5.size
 have hA1 := Ext.refl w5
 refine ewl_nil (onw_n hKp ?_)
 refine ewo_sp ?_
 refine ewl_ret rfl (en_call ent27 rfl rfl) (node_spec _ ⟨_, _, _, _, _⟩ _ _ _ _ _ _) ?_
 rintro _ w6 ⟨rfl, hE6⟩
 replace hb1 := hb1.ext hE6
 replace hb2 := hb2.ext hE6
 replace hX := hX.trans hE6
 replace hA1 := hA1.trans hE6
 replace hKp := hKp.ext hE6
 have sz3 := hE6.size
 refine ewl_nil (onw_n hKp ?_)
 refine ewo_sp ?_
 refine ewl_store rfl rfl rfl ti40 rfl hb2 rfl rfl fun w7 hb3 hC1 => ?_
 replace hb1 := hb1.chg hC1 (by omega)
 replace hX := hX.chg hC1 (by omega)
 replace hN := (hN.ext hA1).chg hC1 (by omega)
 clear hA1
 replace hKp := hKp.chg hC1 (by simp only [List.mem_cons, List.not_mem_nil, or_false]; omega)
 have sz4 := hC1.size
 have hA2 := Ext.refl w7
 refine ewl_nil (onw_n hKp ?_)
 refine ewo_nil ?_
 refine thn_n ?_
 refine ewp_ret ?_
 refine blk_r ?_
 refine thn_r ?_
 refine fn_r (resv rfl (rv_cella rfl ti40 hb3 rfl)) ?_
 exact ⟨node t 11 [] (nds), by simp [formM, SP.need, node, hn1, hnds], ⟨_, _, _, rfl, ((hN.ext hA2).nds).mono (fun b hb => by omega)⟩, hX⟩
theorem form_seq (n : Nat) (ihx : NSpec 31 (expM (n + 1)) n) (w : World) (hG : Gl w) (t : Tok) (kv : Value) (U : Nat → Prop) (ka : Option Addr) (kc : Nat) (kn : Nat) (l : Fo) (hK : FoS U w ka kn kc l) (hall : l.all (okT n)) (hlen : l.len ≤ 100000) :
   RetP Tryz.prog 41 #[.agg #[.int .i64 t.k, .int .i64 t.ln, .int .i64 t.co, .int .i64 t.nm, S t.tx, kv], S [115, 101, 113], .slice ka kn kc] w (fun v w' => ∃ nd, formM (n + 1) (expM (n + 1)) t [115, 101, 113] l = .ok nd ∧ NV w w' v nd ∧ Ext w w') (fun c w' => ∃ e, formM (n + 1) (expM (n + 1)) t [115, 101, 113] l = .error e ∧ c = trb 45 e ∧ Ext w w') := by
 obtain rfl : kn = l.len := hK.1
 have hX := Ext.refl w
 refine enterP Tryz.func41 rfl rfl rfl ?_
 refine ewp_seq ?_
 refine ewp_reg ?_
 refine ewl_box rfl rfl rfl fun b1 w1 hb1 hE1 hs1 hz1 => ?_
 replace hX := hX.trans hE1
 refine ewl_alloc rfl zr40 fun b2 w2 hb2 hE2 hs2 hz2 => ?_
 replace hb1 := hb1.ext hE2
 replace hX := hX.trans hE2
 refine ewl_nil ?_
 refine thn_n ?_
 refine ewp_seq ?_
 refine ewp_reg ?_
 refine ewl_run rfl (rn_move rfl) ?_
 refine ewl_run rfl (rn_len rfl sl47) ?_
 refine ewl_run rfl (rn_assign rfl) ?_
 refine ewl_nil ?_
 refine thn_n ?_
 refine ewp_seq ?_
 refine ewp_seq ?_
 refine ewp_reg ?_
 refine ewl_run rfl (rn_move rfl) ?_
 refine ewl_nil ?_
 refine thn_n ?_
 refine ewp_block ?_
 refine ewp_seq ?_
 refine ewp_reg ?_
 refine ewl_run rfl (rn_eqS rfl rfl) ?_
 refine ewl_run rfl (rn_assign rfl) ?_
 refine ewl_nil ?_
 refine thn_n ?_
 refine ewp_iff rfl rfl ?_
 refine ewp_seq ?_
 refine ewp_reg ?_
 refine ewl_run rfl (rn_eqS rfl rfl) ?_
 refine ewl_run rfl (rn_assign rfl) ?_
 refine ewl_nil ?_
 refine thn_n ?_
 refine ewp_iff rfl rfl ?_
 refine ewp_seq ?_
 refine ewp_reg ?_
 refine ewl_run rfl (rn_eqS rfl rfl) ?_
 refine ewl_run rfl (rn_assign rfl) ?_
 refine ewl_nil ?_
 refine thn_n ?_
 refine ewp_iff rfl rfl ?_
 refine ewp_seq ?_
 refine ewp_reg ?_
 refine ewl_run rfl (rn_eqS rfl rfl) ?_
 refine ewl_run rfl (rn_assign rfl) ?_
 refine ewl_nil ?_
 refine thn_n ?_
 refine ewp_iff rfl rfl ?_
 refine ewp_seq ?_
 refine ewp_reg ?_
 refine ewl_run rfl (rn_eqS rfl rfl) ?_
 refine ewl_run rfl (rn_assign rfl) ?_
 refine ewl_nil ?_
 refine thn_n ?_
 refine ewp_ift rfl rfl ?_
 refine ewp_seq ?_
 refine ewp_reg ?_
 refine ewl_run rfl (rn_loada rfl ti61 hb1 rfl) ?_
 refine ewl_run rfl (rn_move rfl) ?_
 refine ewl_run rfl (rn_geI rfl rfl) ?_
 refine ewl_retp rfl (en_call ent22 rfl rfl) (need_spec _ ⟨_, _, _, _, _⟩ _ _) ?_ (fun c wp hc => And.intro rfl (⟨(t.ln, t.co), by first | (simp [formM, SP.need, Fo.len, hc.1]; done) | (exfalso; have hq := hc.1; simp [Fo.len] at hq <;> omega), hc.2.1, hX.trans hc.2.2⟩))
 rintro _ w3 ⟨hn1, rfl, hE3⟩
 replace hb1 := hb1.ext hE3
 replace hb2 := hb2.ext hE3
 replace hX := hX.trans hE3
 have sz1 := hE3.size
 refine ewl_nil ?_
 refine thn_n ?_
 refine ewp_seq ?_
 have hr1 := hb1
 refine ewp_draw mixed (Keeps w3 [b1]) [(true, 0), (true, 1), (false, 2), (false, 3), (false, 4)] (by kernel_rfl) (by kernel_rfl) rfl rfl fun w4 hE4 hz3 => ?_
 have hKp : Keeps w3 [b1] w4 := Keeps.cons hr1 hE4 (Keeps.nil _ _)
 refine ⟨hKp, ?_⟩
 replace hb1 := hb1.ext hE4
 replace hb2 := hb2.ext hE4
 replace hX := hX.trans hE4
 refine ewo_rd rfl (fun _ hS => rn_loada rfl ti61 (hr1.keep hS (.head _)) rfl) ?_
 refine ewo_rd rfl (fun _ hS => rn_move rfl) ?_
 refine ewo_sp ?_
 refine ewl_retp rfl (en_call ent15 rfl rfl) (each_spec _ 31 ent31 (expM (n + 1)) (okT n) U _ _ _ l (hK.ext hX) hall hlen (fun w1 hE1 t1 q1 a9 n9 c9 hk9 hp9 => ihx w1 (hG.ext (hX.trans hE1)) U t1 q1 a9 n9 c9 hk9 hp9)) ?_ (fun c wp hc => And.intro rfl (let ⟨e, he, hc1, hc2⟩ := hc; ⟨e, by first | (simp [formM, SP.need, hn1, he]; done) | (simp [formM, SP.need, hn1, Fo.len, he]; done), hc1, hX.trans hc2⟩))
 rintro _ w5 ⟨nds, ra_nds, rc_nds, hnds, rfl, hN, hE5⟩
 replace hb1 := hb1.ext hE5
 replace hb2 := hb2.ext hE5
 replace hX := hX.trans hE5
 replace hKp := hKp.ext hE5
 have sz2 := hE5.size
 have hA1 := Ext.refl w5
 refine ewl_nil (onw_n hKp ?_)
 refine ewo_sp ?_
 refine ewl_ret rfl (en_call ent27 rfl rfl) (node_spec _ ⟨_, _, _, _, _⟩ _ _ _ _ _ _) ?_
 rintro _ w6 ⟨rfl, hE6⟩
 replace hb1 := hb1.ext hE6
 replace hb2 := hb2.ext hE6
 replace hX := hX.trans hE6
 replace hA1 := hA1.trans hE6
 replace hKp := hKp.ext hE6
 have sz3 := hE6.size
 refine ewl_nil (onw_n hKp ?_)
 refine ewo_sp ?_
 refine ewl_store rfl rfl rfl ti40 rfl hb2 rfl rfl fun w7 hb3 hC1 => ?_
 replace hb1 := hb1.chg hC1 (by omega)
 replace hX := hX.chg hC1 (by omega)
 replace hN := (hN.ext hA1).chg hC1 (by omega)
 clear hA1
 replace hKp := hKp.chg hC1 (by simp only [List.mem_cons, List.not_mem_nil, or_false]; omega)
 have sz4 := hC1.size
 have hA2 := Ext.refl w7
 refine ewl_nil (onw_n hKp ?_)
 refine ewo_nil ?_
 refine thn_n ?_
 refine ewp_ret ?_
 refine blk_r ?_
 refine thn_r ?_
 refine fn_r (resv rfl (rv_cella rfl ti40 hb3 rfl)) ?_
 exact ⟨node t 12 [] (nds), by simp [formM, SP.need, node, hn1, hnds], ⟨_, _, _, rfl, ((hN.ext hA2).nds).mono (fun b hb => by omega)⟩, hX⟩
theorem form_tuple (n : Nat) (ihx : NSpec 31 (expM (n + 1)) n) (w : World) (hG : Gl w) (t : Tok) (kv : Value) (U : Nat → Prop) (ka : Option Addr) (kc : Nat) (kn : Nat) (l : Fo) (hK : FoS U w ka kn kc l) (hall : l.all (okT n)) (hlen : l.len ≤ 100000) :
   RetP Tryz.prog 41 #[.agg #[.int .i64 t.k, .int .i64 t.ln, .int .i64 t.co, .int .i64 t.nm, S t.tx, kv], S [116, 117, 112, 108, 101], .slice ka kn kc] w (fun v w' => ∃ nd, formM (n + 1) (expM (n + 1)) t [116, 117, 112, 108, 101] l = .ok nd ∧ NV w w' v nd ∧ Ext w w') (fun c w' => ∃ e, formM (n + 1) (expM (n + 1)) t [116, 117, 112, 108, 101] l = .error e ∧ c = trb 45 e ∧ Ext w w') := by
 obtain rfl : kn = l.len := hK.1
 have hX := Ext.refl w
 refine enterP Tryz.func41 rfl rfl rfl ?_
 refine ewp_seq ?_
 refine ewp_reg ?_
 refine ewl_box rfl rfl rfl fun b1 w1 hb1 hE1 hs1 hz1 => ?_
 replace hX := hX.trans hE1
 refine ewl_alloc rfl zr40 fun b2 w2 hb2 hE2 hs2 hz2 => ?_
 replace hb1 := hb1.ext hE2
 replace hX := hX.trans hE2
 refine ewl_nil ?_
 refine thn_n ?_
 refine ewp_seq ?_
 refine ewp_reg ?_
 refine ewl_run rfl (rn_move rfl) ?_
 refine ewl_run rfl (rn_len rfl sl47) ?_
 refine ewl_run rfl (rn_assign rfl) ?_
 refine ewl_nil ?_
 refine thn_n ?_
 refine ewp_seq ?_
 refine ewp_seq ?_
 refine ewp_reg ?_
 refine ewl_run rfl (rn_move rfl) ?_
 refine ewl_nil ?_
 refine thn_n ?_
 refine ewp_block ?_
 refine ewp_seq ?_
 refine ewp_reg ?_
 refine ewl_run rfl (rn_eqS rfl rfl) ?_
 refine ewl_run rfl (rn_assign rfl) ?_
 refine ewl_nil ?_
 refine thn_n ?_
 refine ewp_iff rfl rfl ?_
 refine ewp_seq ?_
 refine ewp_reg ?_
 refine ewl_run rfl (rn_eqS rfl rfl) ?_
 refine ewl_run rfl (rn_assign rfl) ?_
 refine ewl_nil ?_
 refine thn_n ?_
 refine ewp_iff rfl rfl ?_
 refine ewp_seq ?_
 refine ewp_reg ?_
 refine ewl_run rfl (rn_eqS rfl rfl) ?_
 refine ewl_run rfl (rn_assign rfl) ?_
 refine ewl_nil ?_
 refine thn_n ?_
 refine ewp_iff rfl rfl ?_
 refine ewp_seq ?_
 refine ewp_reg ?_
 refine ewl_run rfl (rn_eqS rfl rfl) ?_
 refine ewl_run rfl (rn_assign rfl) ?_
 refine ewl_nil ?_
 refine thn_n ?_
 refine ewp_iff rfl rfl ?_
 refine ewp_seq ?_
 refine ewp_reg ?_
 refine ewl_run rfl (rn_eqS rfl rfl) ?_
 refine ewl_run rfl (rn_assign rfl) ?_
 refine ewl_nil ?_
 refine thn_n ?_
 refine ewp_iff rfl rfl ?_
 refine ewp_seq ?_
 refine ewp_reg ?_
 refine ewl_run rfl (rn_eqS rfl rfl) ?_
 refine ewl_run rfl (rn_assign rfl) ?_
 refine ewl_nil ?_
 refine thn_n ?_
 refine ewp_ift rfl rfl ?_
 refine ewp_seq ?_
 have hr1 := hb1
 have hr2 := hb2
 refine ewp_draw mixed (Keeps w2 [b1, b2]) [(true, 0), (true, 1), (false, 2), (false, 3)] (by kernel_rfl) (by kernel_rfl) rfl rfl fun w3 hE3 hz3 => ?_
 have hKp : Keeps w2 [b1, b2] w3 := Keeps.cons hr1 hE3 (Keeps.cons hr2 hE3 (Keeps.nil _ _))
 refine ⟨hKp, ?_⟩
 replace hb1 := hb1.ext hE3
 replace hb2 := hb2.ext hE3
 replace hX := hX.trans hE3
 refine ewo_rd rfl (fun _ hS => rn_loada rfl ti61 (hr1.keep hS (.head _)) rfl) ?_
 refine ewo_rd rfl (fun _ hS => rn_move rfl) ?_
 refine ewo_sp ?_
 refine ewl_ret rfl (en_call ent40 rfl rfl) (within_spec _ _ _ _) ?_
 rintro _ w4 ⟨rfl, hE4⟩
 replace hb1 := hb1.ext hE4
 replace hb2 := hb2.ext hE4
 replace hX := hX.trans hE4
 replace hKp := hKp.ext hE4
 have sz1 := hE4.size
 refine ewl_nil (onw_n hKp ?_)
 refine ewo_sp ?_
 refine ewl_retp rfl (en_call ent22 rfl rfl) (need_spec _ ⟨_, _, _, _, _⟩ _ _) ?_ (fun c wp hc => And.intro rfl (⟨(t.ln, t.co), by first | (simp [formM, SP.need, Fo.len, hc.1]; done) | (exfalso; have hq := hc.1; simp [Fo.len] at hq <;> omega), hc.2.1, hX.trans hc.2.2⟩))
 rintro _ w5 ⟨hn1, rfl, hE5⟩
 replace hb1 := hb1.ext hE5
 replace hb2 := hb2.ext hE5
 replace hX := hX.trans hE5
 replace hKp := hKp.ext hE5
 have sz2 := hE5.size
 refine ewl_nil (onw_n hKp ?_)
 refine ewo_nil ?_
 refine thn_n ?_
 refine ewp_seq ?_
 have hr3 := hb1
 refine ewp_draw mixed (Keeps w5 [b1]) [(true, 0), (true, 1), (false, 2), (false, 3), (false, 4)] (by kernel_rfl) (by kernel_rfl) rfl rfl fun w6 hE6 hz4 => ?_
 have hKp : Keeps w5 [b1] w6 := Keeps.cons hr3 hE6 (Keeps.nil _ _)
 refine ⟨hKp, ?_⟩
 replace hb1 := hb1.ext hE6
 replace hb2 := hb2.ext hE6
 replace hX := hX.trans hE6
 refine ewo_rd rfl (fun _ hS => rn_loada rfl ti61 (hr3.keep hS (.head _)) rfl) ?_
 refine ewo_rd rfl (fun _ hS => rn_move rfl) ?_
 refine ewo_sp ?_
 refine ewl_retp rfl (en_call ent15 rfl rfl) (each_spec _ 31 ent31 (expM (n + 1)) (okT n) U _ _ _ l (hK.ext hX) hall hlen (fun w1 hE1 t1 q1 a9 n9 c9 hk9 hp9 => ihx w1 (hG.ext (hX.trans hE1)) U t1 q1 a9 n9 c9 hk9 hp9)) ?_ (fun c wp hc => And.intro rfl (let ⟨e, he, hc1, hc2⟩ := hc; ⟨e, by first | (simp [formM, SP.need, hn1, he]; done) | (simp [formM, SP.need, hn1, Fo.len, he]; done), hc1, hX.trans hc2⟩))
 rintro _ w7 ⟨nds, ra_nds, rc_nds, hnds, rfl, hN, hE7⟩
 replace hb1 := hb1.ext hE7
 replace hb2 := hb2.ext hE7
 replace hX := hX.trans hE7
 replace hKp := hKp.ext hE7
 have sz3 := hE7.size
 have hA1 := Ext.refl w7
 refine ewl_nil (onw_n hKp ?_)
 refine ewo_sp ?_
 refine ewl_ret rfl (en_call ent27 rfl rfl) (node_spec _ ⟨_, _, _, _, _⟩ _ _ _ _ _ _) ?_
 rintro _ w8 ⟨rfl, hE8⟩
 replace hb1 := hb1.ext hE8
 replace hb2 := hb2.ext hE8
 replace hX := hX.trans hE8
 replace hA1 := hA1.trans hE8
 replace hKp := hKp.ext hE8
 have sz4 := hE8.size
 refine ewl_nil (onw_n hKp ?_)
 refine ewo_sp ?_
 refine ewl_store rfl rfl rfl ti40 rfl hb2 rfl rfl fun w9 hb3 hC1 => ?_
 replace hb1 := hb1.chg hC1 (by omega)
 replace hX := hX.chg hC1 (by omega)
 replace hN := (hN.ext hA1).chg hC1 (by omega)
 clear hA1
 replace hKp := hKp.chg hC1 (by simp only [List.mem_cons, List.not_mem_nil, or_false]; omega)
 have sz5 := hC1.size
 have hA2 := Ext.refl w9
 refine ewl_nil (onw_n hKp ?_)
 refine ewo_nil ?_
 refine thn_n ?_
 refine ewp_ret ?_
 refine blk_r ?_
 refine thn_r ?_
 refine fn_r (resv rfl (rv_cella rfl ti40 hb3 rfl)) ?_
 exact ⟨node t 13 [] (nds), by simp [formM, SP.need, node, hn1, hnds], ⟨_, _, _, rfl, ((hN.ext hA2).nds).mono (fun b hb => by omega)⟩, hX⟩
theorem form_let (n : Nat) (ihx : NSpec 31 (expM (n + 1)) n) (w : World) (hG : Gl w) (t : Tok) (kv : Value) (U : Nat → Prop) (ka : Option Addr) (kc : Nat) (e0 e1 e2 : Tok) (k0 k1 k2 : Fo) (hK : FoS U w ka 3 kc (.cons e0 k0 (.cons e1 k1 (.cons e2 k2 .nil)))) (hp0 : okT n e0 k0) (hp1 : okT n e1 k1) (hp2 : okT n e2 k2) :
   RetP Tryz.prog 41 #[.agg #[.int .i64 t.k, .int .i64 t.ln, .int .i64 t.co, .int .i64 t.nm, S t.tx, kv], S [108, 101, 116], .slice ka 3 kc] w (fun v w' => ∃ nd, formM (n + 1) (expM (n + 1)) t [108, 101, 116] (Fo.cons e0 k0 (Fo.cons e1 k1 (Fo.cons e2 k2 Fo.nil))) = .ok nd ∧ NV w w' v nd ∧ Ext w w') (fun c w' => ∃ e, formM (n + 1) (expM (n + 1)) t [108, 101, 116] (Fo.cons e0 k0 (Fo.cons e1 k1 (Fo.cons e2 k2 Fo.nil))) = .error e ∧ c = trb 45 e ∧ Ext w w') := by
 obtain ⟨b, off, cells, T, a0, n0, c0, a1, n1, c1, a2, n2, c2, l1, hUb, rfl, hb, hd, hk0, hk1, hk2, hr1⟩ := hK.three
 have hblt := hb.lt
 have hX := Ext.refl w
 refine enterP Tryz.func41 rfl rfl rfl ?_
 refine ewp_seq ?_
 refine ewp_reg ?_
 refine ewl_box rfl rfl rfl fun b1 w1 hb1 hE1 hs1 hz1 => ?_
 replace hX := hX.trans hE1
 refine ewl_alloc rfl zr40 fun b2 w2 hb2 hE2 hs2 hz2 => ?_
 replace hb1 := hb1.ext hE2
 replace hX := hX.trans hE2
 refine ewl_nil ?_
 refine thn_n ?_
 refine ewp_seq ?_
 refine ewp_reg ?_
 refine ewl_run rfl (rn_move rfl) ?_
 refine ewl_run rfl (rn_len rfl sl47) ?_
 refine ewl_run rfl (rn_assign rfl) ?_
 refine ewl_nil ?_
 refine thn_n ?_
 refine ewp_seq ?_
 refine ewp_seq ?_
 refine ewp_reg ?_
 refine ewl_run rfl (rn_move rfl) ?_
 refine ewl_nil ?_
 refine thn_n ?_
 refine ewp_block ?_
 refine ewp_seq ?_
 refine ewp_reg ?_
 refine ewl_run rfl (rn_eqS rfl rfl) ?_
 refine ewl_run rfl (rn_assign rfl) ?_
 refine ewl_nil ?_
 refine thn_n ?_
 refine ewp_iff rfl rfl ?_
 refine ewp_seq ?_
 refine ewp_reg ?_
 refine ewl_run rfl (rn_eqS rfl rfl) ?_
 refine ewl_run rfl (rn_assign rfl) ?_
 refine ewl_nil ?_
 refine thn_n ?_
 refine ewp_ift rfl rfl ?_
 refine ewp_seq ?_
 have hr1 := (hb.ext hX)
 have hr2 := hb1
 have hr3 := hb2
 refine ewp_draw mixed (Keeps w2 [b, b1, b2]) [(true, 0), (true, 1), (true, 2), (true, 3), (true, 4), (true, 5), (true, 6), (false, 7), (true, 8), (false, 9)] (by kernel_rfl) (by kernel_rfl) rfl rfl fun w3 hE3 hz3 => ?_
 have hKp : Keeps w2 [b, b1, b2] w3 := Keeps.cons hr1 hE3 (Keeps.cons hr2 hE3 (Keeps.cons hr3 hE3 (Keeps.nil _ _)))
 refine ⟨hKp, ?_⟩
 replace hb1 := hb1.ext hE3
 replace hb2 := hb2.ext hE3
 replace hX := hX.trans hE3
 refine ewo_rd rfl (fun _ hS => rn_loada rfl ti61 (hr2.keep hS (.tail _ (.head _))) rfl) ?_
 refine ewo_rd rfl (fun _ hS => rn_move rfl) ?_
 refine ewo_rd rfl (fun _ hS => rn_eqI rfl rfl) ?_
 refine ewo_rd rfl (fun _ hS => rn_move rfl) ?_
 refine ewo_rdg rfl rfl rfl rfl (fun _ hS => rn_move rfl) ?_
 refine ewo_rdg rfl rfl rfl rfl (fun _ hS => rn_ixc (i := 0) rfl rfl sl47 (by omega)) ?_
 refine ewo_rdg rfl rfl rfl rfl (fun _ hS => rn_loadad 0 rfl ti61 (hr1.keep hS (.head _)) hd (by omega) rfl) ?_
 refine ewo_sp ?_
 refine ewl_grd rfl rfl rfl ?_
 refine ewl_ret rfl (en_call ent52 rfl rfl) (isHole_spec _ (hG.ext hX) ⟨_, _, _, _, _⟩ _ hp0.1.1 hp0.1.2) ?_
 rintro _ w4 ⟨rfl, hE4⟩
 replace hb1 := hb1.ext hE4
 replace hb2 := hb2.ext hE4
 replace hX := hX.trans hE4
 replace hKp := hKp.ext hE4
 have sz1 := hE4.size
 refine ewl_nil (onw_n hKp ?_)
 refine ewo_rd rfl (fun _ hS => rn_pickt rfl rfl rfl) ?_
 refine ewo_sp ?_
 refine ewl_retp rfl (en_call ent22 rfl rfl) (need_spec _ ⟨_, _, _, _, _⟩ _ _) ?_ (fun c wp hc => And.intro rfl (⟨(t.ln, t.co), by first | (simp [formM, SP.need, Fo.len, hc.1]; done) | (exfalso; have hq := hc.1; simp [Fo.len] at hq <;> omega), hc.2.1, hX.trans hc.2.2⟩))
 rintro _ w5 ⟨hn1, rfl, hE5⟩
 replace hb1 := hb1.ext hE5
 replace hb2 := hb2.ext hE5
 replace hX := hX.trans hE5
 replace hKp := hKp.ext hE5
 have sz2 := hE5.size
 refine ewl_nil (onw_n hKp ?_)
 refine ewo_nil ?_
 refine thn_n ?_
 refine ewp_seq ?_
 have hr4 := (hb.ext hX)
 have hr5 := hb1
 refine ewp_draw mixed (Keeps w5 [b, b1]) [(true, 0), (true, 1), (true, 2), (true, 3), (true, 4), (true, 5), (true, 6), (true, 7), (true, 8), (true, 10), (true, 11), (true, 12), (false, 9), (false, 13), (false, 14), (false, 15), (false, 16)] (by kernel_rfl) (by kernel_rfl) rfl rfl fun w6 hE6 hz4 => ?_
 have hKp : Keeps w5 [b, b1] w6 := Keeps.cons hr4 hE6 (Keeps.cons hr5 hE6 (Keeps.nil _ _))
 refine ⟨hKp, ?_⟩
 replace hb1 := hb1.ext hE6
 replace hb2 := hb2.ext hE6
 replace hX := hX.trans hE6
 refine ewo_rd rfl (fun _ hS => rn_loada rfl ti61 (hr5.keep hS (.tail _ (.head _))) rfl) ?_
 refine ewo_rd rfl (fun _ hS => rn_move rfl) ?_
 refine ewo_rd rfl (fun _ hS => rn_ixc (i := 0) rfl rfl sl47 (by omega)) ?_
 refine ewo_rd rfl (fun _ hS => rn_fa rfl fl61_0) ?_
 refine ewo_rd rfl (fun _ hS => rn_fa rfl fl59_3) ?_
 refine ewo_rd rfl (fun _ hS => rn_loadd 4 rfl ti9 (hr4.keep hS (.head _)) hd (by omega) rfl) ?_
 refine ewo_rd rfl (fun _ hS => rn_move rfl) ?_
 refine ewo_rd rfl (fun _ hS => rn_ixc (i := 1) rfl rfl sl47 (by omega)) ?_
 refine ewo_rd rfl (fun _ hS => rn_loadad 6 rfl ti61 (hr4.keep hS (.head _)) hd (by omega) rfl) ?_
 refine ewo_rd rfl (fun _ hS => rn_move rfl) ?_
 refine ewo_rd rfl (fun _ hS => rn_ixc (i := 2) rfl rfl sl47 (by omega)) ?_
 refine ewo_rd rfl (fun _ hS => rn_loadad 12 rfl ti61 (hr4.keep hS (.head _)) hd (by omega) rfl) ?_
 refine ewo_sp ?_
 refine ewl_retp rfl (en_call ent31 rfl rfl) (ihx _ (hG.ext hX) U e1 k1 a1 n1 c1 (hk1.ext hX) hp1) ?_ (fun c wp hc => And.intro rfl (let ⟨e, he, hc1, hc2⟩ := hc; ⟨e, by first | (simp [formM, SP.need, hn1, he]; done) | (simp [formM, SP.need, hn1, Fo.len, he]; done), hc1, hX.trans hc2⟩))
 rintro _ w7 ⟨nd1, hnd1, ⟨xa1, xn1, xc1, rfl, hkx1⟩, hE7⟩
 replace hb1 := hb1.ext hE7
 replace hb2 := hb2.ext hE7
 replace hX := hX.trans hE7
 replace hKp := hKp.ext hE7
 have sz3 := hE7.size
 have hA1 := Ext.refl w7
 refine ewl_nil (onw_n hKp ?_)
 refine ewo_sp ?_
 refine ewl_retp rfl (en_call ent31 rfl rfl) (ihx _ (hG.ext hX) U e2 k2 a2 n2 c2 (hk2.ext hX) hp2) ?_ (fun c wp hc => And.intro rfl (let ⟨e, he, hc1, hc2⟩ := hc; ⟨e, by first | (simp [formM, SP.need, hn1, hnd1, he]; done) | (simp [formM, SP.need, hn1, hnd1, Fo.len, he]; done), hc1, hX.trans hc2⟩))
 rintro _ w8 ⟨nd2, hnd2, ⟨xa2, xn2, xc2, rfl, hkx2⟩, hE8⟩
 replace hb1 := hb1.ext hE8
 replace hb2 := hb2.ext hE8
 replace hX := hX.trans hE8
 replace hA1 := hA1.trans hE8
 replace hKp := hKp.ext hE8
 have sz4 := hE8.size
 have hA2 := Ext.refl w8
 refine ewl_nil (onw_n hKp ?_)
 refine ewo_sp ?_
 refine ewl_bs rfl rfl sl23 zr40 rfl rfl rfl rfl rfl fun b3 w9 hb3 hE9 hs3 hz5 => ?_
 replace hb1 := hb1.ext hE9
 replace hb2 := hb2.ext hE9
 replace hX := hX.trans hE9
 replace hA1 := hA1.trans hE9
 replace hA2 := hA2.trans hE9
 replace hKp := hKp.ext hE9
 have hnew : NdS (fun b => w2.heap.size ≤ b) w9 (some ⟨b3, 0, none⟩) 2 2 (nd1.cons nd2.one) := nds_two hb3 (by omega) ((hkx1.ext hA1).mono (fun b hb => by omega)) ((hkx2.ext hA2).mono (fun b hb => by omega))
 have hA3 := Ext.refl w9
 refine ewl_nil (onw_n hKp ?_)
 refine ewo_sp ?_
 refine ewl_ret rfl (en_call ent27 rfl rfl) (node_spec _ ⟨_, _, _, _, _⟩ _ _ _ _ _ _) ?_
 rintro _ w10 ⟨rfl, hE10⟩
 replace hb1 := hb1.ext hE10
 replace hb2 := hb2.ext hE10
 replace hb3 := hb3.ext hE10
 replace hX := hX.trans hE10
 replace hA1 := hA1.trans hE10
 replace hA2 := hA2.trans hE10
 replace hA3 := hA3.trans hE10
 replace hKp := hKp.ext hE10
 have sz5 := hE10.size
 refine ewl_nil (onw_n hKp ?_)
 refine ewo_sp ?_
 refine ewl_store rfl rfl rfl ti40 rfl hb2 rfl rfl fun w11 hb4 hC1 => ?_
 replace hb1 := hb1.chg hC1 (by omega)
 replace hb3 := hb3.chg hC1 (by omega)
 replace hX := hX.chg hC1 (by omega)
 replace hkx1 := (hkx1.ext hA1).chg hC1 (by omega)
 replace hkx2 := (hkx2.ext hA2).chg hC1 (by omega)
 replace hnew := (hnew.ext hA3).chg hC1 (by omega)
 clear hA1
 clear hA2
 clear hA3
 replace hKp := hKp.chg hC1 (by simp only [List.mem_cons, List.not_mem_nil, or_false]; omega)
 have sz6 := hC1.size
 have hA4 := Ext.refl w11
 refine ewl_nil (onw_n hKp ?_)
 refine ewo_nil ?_
 refine thn_n ?_
 refine ewp_ret ?_
 refine blk_r ?_
 refine thn_r ?_
 refine fn_r (resv rfl (rv_cella rfl ti40 hb4 rfl)) ?_
 exact ⟨node t 9 e0.tx (nd1.cons nd2.one), by simp [formM, SP.need, node, hn1, hnd1, hnd2], ⟨_, _, _, rfl, ((hnew.ext hA4)).mono (fun b hb => by omega)⟩, hX⟩
theorem form_rec (n : Nat) (ihx : NSpec 31 (expM (n + 1)) n) (w : World) (hG : Gl w) (t : Tok) (kv : Value) (U : Nat → Prop) (ka : Option Addr) (kc : Nat) (e0 e1 e2 : Tok) (k0 k1 k2 : Fo) (hK : FoS U w ka 3 kc (.cons e0 k0 (.cons e1 k1 (.cons e2 k2 .nil)))) (hp0 : okT n e0 k0) (hp1 : okT n e1 k1) (hp2 : okT n e2 k2) :
   RetP Tryz.prog 41 #[.agg #[.int .i64 t.k, .int .i64 t.ln, .int .i64 t.co, .int .i64 t.nm, S t.tx, kv], S [114, 101, 99], .slice ka 3 kc] w (fun v w' => ∃ nd, formM (n + 1) (expM (n + 1)) t [114, 101, 99] (Fo.cons e0 k0 (Fo.cons e1 k1 (Fo.cons e2 k2 Fo.nil))) = .ok nd ∧ NV w w' v nd ∧ Ext w w') (fun c w' => ∃ e, formM (n + 1) (expM (n + 1)) t [114, 101, 99] (Fo.cons e0 k0 (Fo.cons e1 k1 (Fo.cons e2 k2 Fo.nil))) = .error e ∧ c = trb 45 e ∧ Ext w w') := by
 obtain ⟨b, off, cells, T, a0, n0, c0, a1, n1, c1, a2, n2, c2, l1, hUb, rfl, hb, hd, hk0, hk1, hk2, hr1⟩ := hK.three
 have hblt := hb.lt
 have hX := Ext.refl w
 refine enterP Tryz.func41 rfl rfl rfl ?_
 refine ewp_seq ?_
 refine ewp_reg ?_
 refine ewl_box rfl rfl rfl fun b1 w1 hb1 hE1 hs1 hz1 => ?_
 replace hX := hX.trans hE1
 refine ewl_alloc rfl zr40 fun b2 w2 hb2 hE2 hs2 hz2 => ?_
 replace hb1 := hb1.ext hE2
 replace hX := hX.trans hE2
 refine ewl_nil ?_
 refine thn_n ?_
 refine ewp_seq ?_
 refine ewp_reg ?_
 refine ewl_run rfl (rn_move rfl) ?_
 refine ewl_run rfl (rn_len rfl sl47) ?_
 refine ewl_run rfl (rn_assign rfl) ?_
 refine ewl_nil ?_
 refine thn_n ?_
 refine ewp_seq ?_
 refine ewp_seq ?_
 refine ewp_reg ?_
 refine ewl_run rfl (rn_move rfl) ?_
 refine ewl_nil ?_
 refine thn_n ?_
 refine ewp_block ?_
 refine ewp_seq ?_
 refine ewp_reg ?_
 refine ewl_run rfl (rn_eqS rfl rfl) ?_
 refine ewl_run rfl (rn_assign rfl) ?_
 refine ewl_nil ?_
 refine thn_n ?_
 refine ewp_iff rfl rfl ?_
 refine ewp_seq ?_
 refine ewp_reg ?_
 refine ewl_run rfl (rn_eqS rfl rfl) ?_
 refine ewl_run rfl (rn_assign rfl) ?_
 refine ewl_nil ?_
 refine thn_n ?_
 refine ewp_iff rfl rfl ?_
 refine ewp_seq ?_
 refine ewp_reg ?_
 refine ewl_run rfl (rn_eqS rfl rfl) ?_
 refine ewl_run rfl (rn_assign rfl) ?_
 refine ewl_nil ?_
 refine thn_n ?_
 refine ewp_ift rfl rfl ?_
 refine ewp_seq ?_
 have hr1 := (hb.ext hX)
 have hr2 := hb1
 have hr3 := hb2
 refine ewp_draw mixed (Keeps w2 [b, b1, b2]) [(true, 0), (true, 1), (true, 2), (true, 3), (true, 4), (true, 5), (true, 6), (false, 7), (true, 8), (true, 9), (true, 10), (true, 11), (true, 12), (false, 13), (true, 14), (false, 15)] (by kernel_rfl) (by kernel_rfl) rfl rfl fun w3 hE3 hz3 => ?_
 have hKp : Keeps w2 [b, b1, b2] w3 := Keeps.cons hr1 hE3 (Keeps.cons hr2 hE3 (Keeps.cons hr3 hE3 (Keeps.nil _ _)))
 refine ⟨hKp, ?_⟩
 replace hb1 := hb1.ext hE3
 replace hb2 := hb2.ext hE3
 replace hX := hX.trans hE3
 refine ewo_rd rfl (fun _ hS => rn_loada rfl ti61 (hr2.keep hS (.tail _ (.head _))) rfl) ?_
 refine ewo_rd rfl (fun _ hS => rn_move rfl) ?_
 refine ewo_rd rfl (fun _ hS => rn_eqI rfl rfl) ?_
 refine ewo_rd rfl (fun _ hS => rn_move rfl) ?_
 refine ewo_rdg rfl rfl rfl rfl (fun _ hS => rn_move rfl) ?_
 refine ewo_rdg rfl rfl rfl rfl (fun _ hS => rn_ixc (i := 0) rfl rfl sl47 (by omega)) ?_
 refine ewo_rdg rfl rfl rfl rfl (fun _ hS => rn_loadad 0 rfl ti61 (hr1.keep hS (.head _)) hd (by omega) rfl) ?_
 refine ewo_sp ?_
 refine ewl_grd rfl rfl rfl ?_
 refine ewl_ret rfl (en_call ent29 rfl rfl) (isVar_spec _ (hG.ext hX) ⟨_, _, _, _, _⟩ _ hp0.1.1 hp0.1.2) ?_
 rintro _ w4 ⟨rfl, hE4⟩
 replace hb1 := hb1.ext hE4
 replace hb2 := hb2.ext hE4
 replace hX := hX.trans hE4
 replace hKp := hKp.ext hE4
 have sz1 := hE4.size
 refine ewl_nil (onw_n hKp ?_)
 refine ewo_rd rfl (fun _ hS => rn_pickt rfl rfl rfl) ?_
 refine ewo_rd rfl (fun _ hS => rn_move rfl) ?_
 refine ewo_split 92 rfl (fun h1 => ?_) (fun h1 => ?_)
 refine ewo_rdg rfl rfl rfl h1 (fun _ hS => rn_move rfl) ?_
 refine ewo_rdg rfl rfl rfl h1 (fun _ hS => rn_ixc (i := 1) rfl rfl sl47 (by omega)) ?_
 refine ewo_rdg rfl rfl rfl h1 (fun _ hS => rn_loadad 6 rfl ti61 (hr1.keep hS (.head _)) hd (by omega) rfl) ?_
 refine ewo_sp ?_
 refine ewl_grd rfl rfl h1 ?_
 refine ewl_ret rfl (en_call ent32 rfl rfl) (isFn_spec _ ⟨_, _, _, _, _⟩ U _ _ _ k1 (hk1.ext hX)) ?_
 rintro _ w5 ⟨rfl, hE5⟩
 replace hb1 := hb1.ext hE5
 replace hb2 := hb2.ext hE5
 replace hX := hX.trans hE5
 replace hKp := hKp.ext hE5
 have sz2 := hE5.size
 refine ewl_nil (onw_n hKp ?_)
 refine ewo_rd rfl (fun _ hS => rn_pickt rfl h1 rfl) ?_
 refine ewo_sp ?_
 refine ewl_retp rfl (en_call ent22 rfl rfl) (need_spec _ ⟨_, _, _, _, _⟩ _ _) ?_ (fun c wp hc => And.intro rfl (⟨(t.ln, t.co), by first | (simp [formM, SP.need, Fo.len, h1, hc.1]; done) | (exfalso; have hq := hc.1; simp [Fo.len] at hq <;> omega), hc.2.1, hX.trans hc.2.2⟩))
 rintro _ w6 ⟨hn1, rfl, hE6⟩
 replace hb1 := hb1.ext hE6
 replace hb2 := hb2.ext hE6
 replace hX := hX.trans hE6
 replace hKp := hKp.ext hE6
 have sz3 := hE6.size
 refine ewl_nil (onw_n hKp ?_)
 refine ewo_nil ?_
 refine thn_n ?_
 refine ewp_seq ?_
 have hr4 := (hb.ext hX)
 have hr5 := hb1
 refine ewp_draw mixed (Keeps w6 [b, b1]) [(true, 0), (true, 1), (true, 2), (true, 3), (true, 4), (true, 5), (true, 6), (true, 7), (true, 8), (true, 10), (true, 11), (true, 12), (false, 9), (false, 13), (false, 14), (false, 15), (false, 16)] (by kernel_rfl) (by kernel_rfl) rfl rfl fun w7 hE7 hz4 => ?_
 have hKp : Keeps w6 [b, b1] w7 := Keeps.cons hr4 hE7 (Keeps.cons hr5 hE7 (Keeps.nil _ _))
 refine ⟨hKp, ?_⟩
 replace hb1 := hb1.ext hE7
 replace hb2 := hb2.ext hE7
 replace hX := hX.trans hE7
 refine ewo_rd rfl (fun _ hS => rn_loada rfl ti61 (hr5.keep hS (.tail _ (.head _))) rfl) ?_
 refine ewo_rd rfl (fun _ hS => rn_move rfl) ?_
 refine ewo_rd rfl (fun _ hS => rn_ixc (i := 0) rfl rfl sl47 (by omega)) ?_
 refine ewo_rd rfl (fun _ hS => rn_fa rfl fl61_0) ?_
 refine ewo_rd rfl (fun _ hS => rn_fa rfl fl59_3) ?_
 refine ewo_rd rfl (fun _ hS => rn_loadd 4 rfl ti9 (hr4.keep hS (.head _)) hd (by omega) rfl) ?_
 refine ewo_rd rfl (fun _ hS => rn_move rfl) ?_
 refine ewo_rd rfl (fun _ hS => rn_ixc (i := 1) rfl rfl sl47 (by omega)) ?_
 refine ewo_rd rfl (fun _ hS => rn_loadad 6 rfl ti61 (hr4.keep hS (.head _)) hd (by omega) rfl) ?_
 refine ewo_rd rfl (fun _ hS => rn_move rfl) ?_
 refine ewo_rd rfl (fun _ hS => rn_ixc (i := 2) rfl rfl sl47 (by omega)) ?_
 refine ewo_rd rfl (fun _ hS => rn_loadad 12 rfl ti61 (hr4.keep hS (.head _)) hd (by omega) rfl) ?_
 refine ewo_sp ?_
 refine ewl_retp rfl (en_call ent31 rfl rfl) (ihx _ (hG.ext hX) U e1 k1 a1 n1 c1 (hk1.ext hX) hp1) ?_ (fun c wp hc => And.intro rfl (let ⟨e, he, hc1, hc2⟩ := hc; ⟨e, by first | (simp [formM, SP.need, h1, hn1, he]; done) | (simp [formM, SP.need, h1, hn1, Fo.len, he]; done), hc1, hX.trans hc2⟩))
 rintro _ w8 ⟨nd1, hnd1, ⟨xa1, xn1, xc1, rfl, hkx1⟩, hE8⟩
 replace hb1 := hb1.ext hE8
 replace hb2 := hb2.ext hE8
 replace hX := hX.trans hE8
 replace hKp := hKp.ext hE8
 have sz4 := hE8.size
 have hA1 := Ext.refl w8
 refine ewl_nil (onw_n hKp ?_)
 refine ewo_sp ?_
 refine ewl_retp rfl (en_call ent31 rfl rfl) (ihx _ (hG.ext hX) U e2 k2 a2 n2 c2 (hk2.ext hX) hp2) ?_ (fun c wp hc => And.intro rfl (let ⟨e, he, hc1, hc2⟩ := hc; ⟨e, by first | (simp [formM, SP.need, h1, hn1, hnd1, he]; done) | (simp [formM, SP.need, h1, hn1, hnd1, Fo.len, he]; done), hc1, hX.trans hc2⟩))
 rintro _ w9 ⟨nd2, hnd2, ⟨xa2, xn2, xc2, rfl, hkx2⟩, hE9⟩
 replace hb1 := hb1.ext hE9
 replace hb2 := hb2.ext hE9
 replace hX := hX.trans hE9
 replace hA1 := hA1.trans hE9
 replace hKp := hKp.ext hE9
 have sz5 := hE9.size
 have hA2 := Ext.refl w9
 refine ewl_nil (onw_n hKp ?_)
 refine ewo_sp ?_
 refine ewl_bs rfl rfl sl23 zr40 rfl rfl rfl rfl rfl fun b3 w10 hb3 hE10 hs3 hz5 => ?_
 replace hb1 := hb1.ext hE10
 replace hb2 := hb2.ext hE10
 replace hX := hX.trans hE10
 replace hA1 := hA1.trans hE10
 replace hA2 := hA2.trans hE10
 replace hKp := hKp.ext hE10
 have hnew : NdS (fun b => w2.heap.size ≤ b) w10 (some ⟨b3, 0, none⟩) 2 2 (nd1.cons nd2.one) := nds_two hb3 (by omega) ((hkx1.ext hA1).mono (fun b hb => by omega)) ((hkx2.ext hA2).mono (fun b hb => by omega))
 have hA3 := Ext.refl w10
 refine ewl_nil (onw_n hKp ?_)
 refine ewo_sp ?_
 refine ewl_ret rfl (en_call ent27 rfl rfl) (node_spec _ ⟨_, _, _, _, _⟩ _ _ _ _ _ _) ?_
 rintro _ w11 ⟨rfl, hE11⟩
 replace hb1 := hb1.ext hE11
 replace hb2 := hb2.ext hE11
 replace hb3 := hb3.ext hE11
 replace hX := hX.trans hE11
 replace hA1 := hA1.trans hE11
 replace hA2 := hA2.trans hE11
 replace hA3 := hA3.trans hE11
 replace hKp := hKp.ext hE11
 have sz6 := hE11.size
 refine ewl_nil (onw_n hKp ?_)
 refine ewo_sp ?_
 refine ewl_store rfl rfl rfl ti40 rfl hb2 rfl rfl fun w12 hb4 hC1 => ?_
 replace hb1 := hb1.chg hC1 (by omega)
 replace hb3 := hb3.chg hC1 (by omega)
 replace hX := hX.chg hC1 (by omega)
 replace hkx1 := (hkx1.ext hA1).chg hC1 (by omega)
 replace hkx2 := (hkx2.ext hA2).chg hC1 (by omega)
 replace hnew := (hnew.ext hA3).chg hC1 (by omega)
 clear hA1
 clear hA2
 clear hA3
 replace hKp := hKp.chg hC1 (by simp only [List.mem_cons, List.not_mem_nil, or_false]; omega)
 have sz7 := hC1.size
 have hA4 := Ext.refl w12
 refine ewl_nil (onw_n hKp ?_)
 refine ewo_nil ?_
 refine thn_n ?_
 refine ewp_ret ?_
 refine blk_r ?_
 refine thn_r ?_
 refine fn_r (resv rfl (rv_cella rfl ti40 hb4 rfl)) ?_
 exact ⟨node t 10 e0.tx (nd1.cons nd2.one), by simp [formM, SP.need, node, h1, hn1, hnd1, hnd2], ⟨_, _, _, rfl, ((hnew.ext hA4)).mono (fun b hb => by omega)⟩, hX⟩
 refine ewo_rdo rfl rfl rfl h1 ?_
 refine ewo_rdo rfl rfl rfl h1 ?_
 refine ewo_rdo rfl rfl rfl h1 ?_
 refine ewo_sp ?_
 refine ewl_off rfl rfl rfl h1 ?_
 refine ewl_nil (onw_n hKp ?_)
 refine ewo_rd rfl (fun _ hS => rn_pickf rfl h1 rfl) ?_
 refine ewo_sp ?_
 refine ewl_retp rfl (en_call ent22 rfl rfl) (need_spec _ ⟨_, _, _, _, _⟩ _ _) ?_ (fun c wp hc => And.intro rfl (⟨(t.ln, t.co), by first | (simp [formM, SP.need, Fo.len, h1, hc.1]; done) | (exfalso; have hq := hc.1; simp [Fo.len] at hq <;> omega), hc.2.1, hX.trans hc.2.2⟩))
 rintro _ w13 ⟨hn2, rfl, hE12⟩
 cases hn2
theorem form_raise (n : Nat) (ihx : NSpec 31 (expM (n + 1)) n) (w : World) (hG : Gl w) (t : Tok) (kv : Value) (U : Nat → Prop) (ka : Option Addr) (kc : Nat) (e0 : Tok) (k0 : Fo) (hK : FoS U w ka 1 kc (.cons e0 k0 .nil)) (hp0 : okT n e0 k0) :
   RetP Tryz.prog 41 #[.agg #[.int .i64 t.k, .int .i64 t.ln, .int .i64 t.co, .int .i64 t.nm, S t.tx, kv], S [114, 97, 105, 115, 101], .slice ka 1 kc] w (fun v w' => ∃ nd, formM (n + 1) (expM (n + 1)) t [114, 97, 105, 115, 101] (Fo.cons e0 k0 Fo.nil) = .ok nd ∧ NV w w' v nd ∧ Ext w w') (fun c w' => ∃ e, formM (n + 1) (expM (n + 1)) t [114, 97, 105, 115, 101] (Fo.cons e0 k0 Fo.nil) = .error e ∧ c = trb 45 e ∧ Ext w w') := by
 obtain ⟨b, off, cells, T, a0, n0, c0, l1, hUb, rfl, hb, hd, hk0, hr1⟩ := hK.head
 have hblt := hb.lt
 have hX := Ext.refl w
 refine enterP Tryz.func41 rfl rfl rfl ?_
 refine ewp_seq ?_
 refine ewp_reg ?_
 refine ewl_box rfl rfl rfl fun b1 w1 hb1 hE1 hs1 hz1 => ?_
 replace hX := hX.trans hE1
 refine ewl_alloc rfl zr40 fun b2 w2 hb2 hE2 hs2 hz2 => ?_
 replace hb1 := hb1.ext hE2
 replace hX := hX.trans hE2
 refine ewl_nil ?_
 refine thn_n ?_
 refine ewp_seq ?_
 refine ewp_reg ?_
 refine ewl_run rfl (rn_move rfl) ?_
 refine ewl_run rfl (rn_len rfl sl47) ?_
 refine ewl_run rfl (rn_assign rfl) ?_
 refine ewl_nil ?_
 refine thn_n ?_
 refine ewp_seq ?_
 refine ewp_seq ?_
 refine ewp_reg ?_
 refine ewl_run rfl (rn_move rfl) ?_
 refine ewl_nil ?_
 refine thn_n ?_
 refine ewp_block ?_
 refine ewp_seq ?_
 refine ewp_reg ?_
 refine ewl_run rfl (rn_eqS rfl rfl) ?_
 refine ewl_run rfl (rn_assign rfl) ?_
 refine ewl_nil ?_
 refine thn_n ?_
 refine ewp_iff rfl rfl ?_
 refine ewp_seq ?_
 refine ewp_reg ?_
 refine ewl_run rfl (rn_eqS rfl rfl) ?_
 refine ewl_run rfl (rn_assign rfl) ?_
 refine ewl_nil ?_
 refine thn_n ?_
 refine ewp_iff rfl rfl ?_
 refine ewp_seq ?_
 refine ewp_reg ?_
 refine ewl_run rfl (rn_eqS rfl rfl) ?_
 refine ewl_run rfl (rn_assign rfl) ?_
 refine ewl_nil ?_
 refine thn_n ?_
 refine ewp_iff rfl rfl ?_
 refine ewp_seq ?_
 refine ewp_reg ?_
 refine ewl_run rfl (rn_eqS rfl rfl) ?_
 refine ewl_run rfl (rn_assign rfl) ?_
 refine ewl_nil ?_
 refine thn_n ?_
 refine ewp_iff rfl rfl ?_
 refine ewp_seq ?_
 refine ewp_reg ?_
 refine ewl_run rfl (rn_eqS rfl rfl) ?_
 refine ewl_run rfl (rn_assign rfl) ?_
 refine ewl_nil ?_
 refine thn_n ?_
 refine ewp_iff rfl rfl ?_
 refine ewp_seq ?_
 refine ewp_reg ?_
 refine ewl_run rfl (rn_eqS rfl rfl) ?_
 refine ewl_run rfl (rn_assign rfl) ?_
 refine ewl_nil ?_
 refine thn_n ?_
 refine ewp_iff rfl rfl ?_
 refine ewp_seq ?_
 refine ewp_seq ?_
 refine ewp_reg ?_
 refine ewl_run rfl (rn_eqS rfl rfl) ?_
 refine ewl_run rfl (rn_assign rfl) ?_
 refine ewl_nil ?_
 refine thn_n ?_
 refine ewp_iff rfl rfl ?_
 refine ewp_reg ?_
 refine ewl_run rfl (rn_eqS rfl rfl) ?_
 refine ewl_run rfl (rn_assign rfl) ?_
 refine ewl_nil ?_
 refine thn_n ?_
 refine ewp_iff rfl rfl ?_
 refine ewp_seq ?_
 refine ewp_seq ?_
 refine ewp_reg ?_
 refine ewl_run rfl (rn_eqS rfl rfl) ?_
 refine ewl_run rfl (rn_assign rfl) ?_
 refine ewl_nil ?_
 refine thn_n ?_
 refine ewp_ift rfl rfl ?_
 refine ewp_skip ?_
 refine thn_n ?_
 refine ewp_ift rfl rfl ?_
 refine ewp_seq ?_
 refine ewp_reg ?_
 refine ewl_run rfl (rn_loada rfl ti61 hb1 rfl) ?_
 refine ewl_run rfl (rn_move rfl) ?_
 refine ewl_run rfl (rn_eqI rfl rfl) ?_
 refine ewl_retp rfl (en_call ent22 rfl rfl) (need_spec _ ⟨_, _, _, _, _⟩ _ _) ?_ (fun c wp hc => And.intro rfl (⟨(t.ln, t.co), by first | (simp [formM, SP.need, Fo.len, hc.1]; done) | (exfalso; have hq := hc.1; simp [Fo.len] at hq <;> omega), hc.2.1, hX.trans hc.2.2⟩))
 rintro _ w3 ⟨hn1, rfl, hE3⟩
 replace hb1 := hb1.ext hE3
 replace hb2 := hb2.ext hE3
 replace hX := hX.trans hE3
 have sz1 := hE3.size
 refine ewl_nil ?_
 refine thn_n ?_
 refine ewp_seq ?_
 refine ewp_reg ?_
 refine ewl_run rfl (rn_assign rfl) ?_
 refine ewl_nil ?_
 refine thn_n ?_
 refine ewp_seq ?_
 refine ewp_seq ?_
 refine ewp_reg ?_
 refine ewl_run rfl (rn_move rfl) ?_
 refine ewl_run rfl (rn_eqS rfl rfl) ?_
 refine ewl_nil ?_
 refine thn_n ?_
 refine ewp_iff rfl rfl ?_
 refine ewp_skip ?_
 refine thn_n ?_
 refine ewp_seq ?_
 have hr1 := (hb.ext hX)
 have hr2 := hb1
 refine ewp_draw mixed (Keeps w3 [b, b1]) [(true, 0), (true, 1), (true, 2), (true, 3), (true, 4), (false, 5), (false, 6), (false, 7), (false, 8)] (by kernel_rfl) (by kernel_rfl) rfl rfl fun w4 hE4 hz3 => ?_
 have hKp : Keeps w3 [b, b1] w4 := Keeps.cons hr1 hE4 (Keeps.cons hr2 hE4 (Keeps.nil _ _))
 refine ⟨hKp, ?_⟩
 replace hb1 := hb1.ext hE4
 replace hb2 := hb2.ext hE4
 replace hX := hX.trans hE4
 refine ewo_rd rfl (fun _ hS => rn_loada rfl ti61 (hr2.keep hS (.tail _ (.head _))) rfl) ?_
 refine ewo_rd rfl (fun _ hS => rn_move rfl) ?_
 refine ewo_rd rfl (fun _ hS => rn_move rfl) ?_
 refine ewo_rd rfl (fun _ hS => rn_ixc (i := 0) rfl rfl sl47 (by omega)) ?_
 refine ewo_rd rfl (fun _ hS => rn_loadad 0 rfl ti61 (hr1.keep hS (.head _)) hd (by omega) rfl) ?_
 refine ewo_sp ?_
 refine ewl_retp rfl (en_call ent31 rfl rfl) (ihx _ (hG.ext hX) U e0 k0 a0 n0 c0 (hk0.ext hX) hp0) ?_ (fun c wp hc => And.intro rfl (let ⟨e, he, hc1, hc2⟩ := hc; ⟨e, by first | (simp [formM, SP.need, hn1, he]; done) | (simp [formM, SP.need, hn1, Fo.len, he]; done), hc1, hX.trans hc2⟩))
 rintro _ w5 ⟨nd1, hnd1, ⟨xa1, xn1, xc1, rfl, hkx1⟩, hE5⟩
 replace hb1 := hb1.ext hE5
 replace hb2 := hb2.ext hE5
 replace hX := hX.trans hE5
 replace hKp := hKp.ext hE5
 have sz2 := hE5.size
 have hA1 := Ext.refl w5
 refine ewl_nil (onw_n hKp ?_)
 refine ewo_sp ?_
 refine ewl_bs rfl rfl sl23 zr40 rfl rfl rfl rfl rfl fun b3 w6 hb3 hE6 hs3 hz4 => ?_
 replace hb1 := hb1.ext hE6
 replace hb2 := hb2.ext hE6
 replace hX := hX.trans hE6
 replace hA1 := hA1.trans hE6
 replace hKp := hKp.ext hE6
 have hnew : NdS (fun b => w2.heap.size ≤ b) w6 (some ⟨b3, 0, none⟩) 1 1 (nd1.one) := nds_one hb3 (by omega) ((hkx1.ext hA1).mono (fun b hb => by omega))
 have hA2 := Ext.refl w6
 refine ewl_nil (onw_n hKp ?_)
 refine ewo_sp ?_
 refine ewl_ret rfl (en_call ent27 rfl rfl) (node_spec _ ⟨_, _, _, _, _⟩ _ _ _ _ _ _) ?_
 rintro _ w7 ⟨rfl, hE7⟩
 replace hb1 := hb1.ext hE7
 replace hb2 := hb2.ext hE7
 replace hb3 := hb3.ext hE7
 replace hX := hX.trans hE7
 replace hA1 := hA1.trans hE7
 replace hA2 := hA2.trans hE7
 replace hKp := hKp.ext hE7
 have sz3 := hE7.size
 refine ewl_nil (onw_n hKp ?_)
 refine ewo_sp ?_
 refine ewl_store rfl rfl rfl ti40 rfl hb2 rfl rfl fun w8 hb4 hC1 => ?_
 replace hb1 := hb1.chg hC1 (by omega)
 replace hb3 := hb3.chg hC1 (by omega)
 replace hX := hX.chg hC1 (by omega)
 replace hkx1 := (hkx1.ext hA1).chg hC1 (by omega)
 replace hnew := (hnew.ext hA2).chg hC1 (by omega)
 clear hA1
 clear hA2
 replace hKp := hKp.chg hC1 (by simp only [List.mem_cons, List.not_mem_nil, or_false]; omega)
 have sz4 := hC1.size
 have hA3 := Ext.refl w8
 refine ewl_nil (onw_n hKp ?_)
 refine ewo_nil ?_
 refine thn_n ?_
 refine ewp_ret ?_
 refine blk_r ?_
 refine thn_r ?_
 refine fn_r (resv rfl (rv_cella rfl ti40 hb4 rfl)) ?_
 exact ⟨node t 16 [] (nd1.one), by simp [formM, SP.need, node, hn1, hnd1], ⟨_, _, _, rfl, ((hnew.ext hA3)).mono (fun b hb => by omega)⟩, hX⟩
theorem form_transact (n : Nat) (ihx : NSpec 31 (expM (n + 1)) n) (w : World) (hG : Gl w) (t : Tok) (kv : Value) (U : Nat → Prop) (ka : Option Addr) (kc : Nat) (e0 : Tok) (k0 : Fo) (hK : FoS U w ka 1 kc (.cons e0 k0 .nil)) (hp0 : okT n e0 k0) :
   RetP Tryz.prog 41 #[.agg #[.int .i64 t.k, .int .i64 t.ln, .int .i64 t.co, .int .i64 t.nm, S t.tx, kv], S [116, 114, 97, 110, 115, 97, 99, 116], .slice ka 1 kc] w (fun v w' => ∃ nd, formM (n + 1) (expM (n + 1)) t [116, 114, 97, 110, 115, 97, 99, 116] (Fo.cons e0 k0 Fo.nil) = .ok nd ∧ NV w w' v nd ∧ Ext w w') (fun c w' => ∃ e, formM (n + 1) (expM (n + 1)) t [116, 114, 97, 110, 115, 97, 99, 116] (Fo.cons e0 k0 Fo.nil) = .error e ∧ c = trb 45 e ∧ Ext w w') := by
 obtain ⟨b, off, cells, T, a0, n0, c0, l1, hUb, rfl, hb, hd, hk0, hr1⟩ := hK.head
 have hblt := hb.lt
 have hX := Ext.refl w
 refine enterP Tryz.func41 rfl rfl rfl ?_
 refine ewp_seq ?_
 refine ewp_reg ?_
 refine ewl_box rfl rfl rfl fun b1 w1 hb1 hE1 hs1 hz1 => ?_
 replace hX := hX.trans hE1
 refine ewl_alloc rfl zr40 fun b2 w2 hb2 hE2 hs2 hz2 => ?_
 replace hb1 := hb1.ext hE2
 replace hX := hX.trans hE2
 refine ewl_nil ?_
 refine thn_n ?_
 refine ewp_seq ?_
 refine ewp_reg ?_
 refine ewl_run rfl (rn_move rfl) ?_
 refine ewl_run rfl (rn_len rfl sl47) ?_
 refine ewl_run rfl (rn_assign rfl) ?_
 refine ewl_nil ?_
 refine thn_n ?_
 refine ewp_seq ?_
 refine ewp_seq ?_
 refine ewp_reg ?_
 refine ewl_run rfl (rn_move rfl) ?_
 refine ewl_nil ?_
 refine thn_n ?_
 refine ewp_block ?_
 refine ewp_seq ?_
 refine ewp_reg ?_
 refine ewl_run rfl (rn_eqS rfl rfl) ?_
 refine ewl_run rfl (rn_assign rfl) ?_
 refine ewl_nil ?_
 refine thn_n ?_
 refine ewp_iff rfl rfl ?_
 refine ewp_seq ?_
 refine ewp_reg ?_
 refine ewl_run rfl (rn_eqS rfl rfl) ?_
 refine ewl_run rfl (rn_assign rfl) ?_
 refine ewl_nil ?_
 refine thn_n ?_
 refine ewp_iff rfl rfl ?_
 refine ewp_seq ?_
 refine ewp_reg ?_
 refine ewl_run rfl (rn_eqS rfl rfl) ?_
 refine ewl_run rfl (rn_assign rfl) ?_
 refine ewl_nil ?_
 refine thn_n ?_
 refine ewp_iff rfl rfl ?_
 refine ewp_seq ?_
 refine ewp_reg ?_
 refine ewl_run rfl (rn_eqS rfl rfl) ?_
 refine ewl_run rfl (rn_assign rfl) ?_
 refine ewl_nil ?_
 refine thn_n ?_
 refine ewp_iff rfl rfl ?_
 refine ewp_seq ?_
 refine ewp_reg ?_
 refine ewl_run rfl (rn_eqS rfl rfl) ?_
 refine ewl_run rfl (rn_assign rfl) ?_
 refine ewl_nil ?_
 refine thn_n ?_
 refine ewp_iff rfl rfl ?_
 refine ewp_seq ?_
 refine ewp_reg ?_
 refine ewl_run rfl (rn_eqS rfl rfl) ?_
 refine ewl_run rfl (rn_assign rfl) ?_
 refine ewl_nil ?_
 refine thn_n ?_
 refine ewp_iff rfl rfl ?_
 refine ewp_seq ?_
 refine ewp_seq ?_
 refine ewp_reg ?_
 refine ewl_run rfl (rn_eqS rfl rfl) ?_
 refine ewl_run rfl (rn_assign rfl) ?_
 refine ewl_nil ?_
 refine thn_n ?_
 refine ewp_iff rfl rfl ?_
 refine ewp_reg ?_
 refine ewl_run rfl (rn_eqS rfl rfl) ?_
 refine ewl_run rfl (rn_assign rfl) ?_
 refine ewl_nil ?_
 refine thn_n ?_
 refine ewp_iff rfl rfl ?_
 refine ewp_seq ?_
 refine ewp_seq ?_
 refine ewp_reg ?_
 refine ewl_run rfl (rn_eqS rfl rfl) ?_
 refine ewl_run rfl (rn_assign rfl) ?_
 refine ewl_nil ?_
 refine thn_n ?_
 refine ewp_iff rfl rfl ?_
 refine ewp_reg ?_
 refine ewl_run rfl (rn_eqS rfl rfl) ?_
 refine ewl_run rfl (rn_assign rfl) ?_
 refine ewl_nil ?_
 refine thn_n ?_
 refine ewp_ift rfl rfl ?_
 refine ewp_seq ?_
 refine ewp_reg ?_
 refine ewl_run rfl (rn_loada rfl ti61 hb1 rfl) ?_
 refine ewl_run rfl (rn_move rfl) ?_
 refine ewl_run rfl (rn_eqI rfl rfl) ?_
 refine ewl_retp rfl (en_call ent22 rfl rfl) (need_spec _ ⟨_, _, _, _, _⟩ _ _) ?_ (fun c wp hc => And.intro rfl (⟨(t.ln, t.co), by first | (simp [formM, SP.need, Fo.len, hc.1]; done) | (exfalso; have hq := hc.1; simp [Fo.len] at hq <;> omega), hc.2.1, hX.trans hc.2.2⟩))
 rintro _ w3 ⟨hn1, rfl, hE3⟩
 replace hb1 := hb1.ext hE3
 replace hb2 := hb2.ext hE3
 replace hX := hX.trans hE3
 have sz1 := hE3.size
 refine ewl_nil ?_
 refine thn_n ?_
 refine ewp_seq ?_
 refine ewp_reg ?_
 refine ewl_run rfl (rn_assign rfl) ?_
 refine ewl_nil ?_
 refine thn_n ?_
 refine ewp_seq ?_
 refine ewp_seq ?_
 refine ewp_reg ?_
 refine ewl_run rfl (rn_move rfl) ?_
 refine ewl_run rfl (rn_eqS rfl rfl) ?_
 refine ewl_nil ?_
 refine thn_n ?_
 refine ewp_ift rfl rfl ?_
 refine ewp_reg ?_
 refine ewl_run rfl (rn_assign rfl) ?_
 refine ewl_nil ?_
 refine thn_n ?_
 refine ewp_seq ?_
 have hr1 := (hb.ext hX)
 have hr2 := hb1
 refine ewp_draw mixed (Keeps w3 [b, b1]) [(true, 0), (true, 1), (true, 2), (true, 3), (true, 4), (false, 5), (false, 6), (false, 7), (false, 8)] (by kernel_rfl) (by kernel_rfl) rfl rfl fun w4 hE4 hz3 => ?_
 have hKp : Keeps w3 [b, b1] w4 := Keeps.cons hr1 hE4 (Keeps.cons hr2 hE4 (Keeps.nil _ _))
 refine ⟨hKp, ?_⟩
 replace hb1 := hb1.ext hE4
 replace hb2 := hb2.ext hE4
 replace hX := hX.trans hE4
 refine ewo_rd rfl (fun _ hS => rn_loada rfl ti61 (hr2.keep hS (.tail _ (.head _))) rfl) ?_
 refine ewo_rd rfl (fun _ hS => rn_move rfl) ?_
 refine ewo_rd rfl (fun _ hS => rn_move rfl) ?_
 refine ewo_rd rfl (fun _ hS => rn_ixc (i := 0) rfl rfl sl47 (by omega)) ?_
 refine ewo_rd rfl (fun _ hS => rn_loadad 0 rfl ti61 (hr1.keep hS (.head _)) hd (by omega) rfl) ?_
 refine ewo_sp ?_
 refine ewl_retp rfl (en_call ent31 rfl rfl) (ihx _ (hG.ext hX) U e0 k0 a0 n0 c0 (hk0.ext hX) hp0) ?_ (fun c wp hc => And.intro rfl (let ⟨e, he, hc1, hc2⟩ := hc; ⟨e, by first | (simp [formM, SP.need, hn1, he]; done) | (simp [formM, SP.need, hn1, Fo.len, he]; done), hc1, hX.trans hc2⟩))
 rintro _ w5 ⟨nd1, hnd1, ⟨xa1, xn1, xc1, rfl, hkx1⟩, hE5⟩
 replace hb1 := hb1.ext hE5
 replace hb2 := hb2.ext hE5
 replace hX := hX.trans hE5
 replace hKp := hKp.ext hE5
 have sz2 := hE5.size
 have hA1 := Ext.refl w5
 refine ewl_nil (onw_n hKp ?_)
 refine ewo_sp ?_
 refine ewl_bs rfl rfl sl23 zr40 rfl rfl rfl rfl rfl fun b3 w6 hb3 hE6 hs3 hz4 => ?_
 replace hb1 := hb1.ext hE6
 replace hb2 := hb2.ext hE6
 replace hX := hX.trans hE6
 replace hA1 := hA1.trans hE6
 replace hKp := hKp.ext hE6
 have hnew : NdS (fun b => w2.heap.size ≤ b) w6 (some ⟨b3, 0, none⟩) 1 1 (nd1.one) := nds_one hb3 (by omega) ((hkx1.ext hA1).mono (fun b hb => by omega))
 have hA2 := Ext.refl w6
 refine ewl_nil (onw_n hKp ?_)
 refine ewo_sp ?_
 refine ewl_ret rfl (en_call ent27 rfl rfl) (node_spec _ ⟨_, _, _, _, _⟩ _ _ _ _ _ _) ?_
 rintro _ w7 ⟨rfl, hE7⟩
 replace hb1 := hb1.ext hE7
 replace hb2 := hb2.ext hE7
 replace hb3 := hb3.ext hE7
 replace hX := hX.trans hE7
 replace hA1 := hA1.trans hE7
 replace hA2 := hA2.trans hE7
 replace hKp := hKp.ext hE7
 have sz3 := hE7.size
 refine ewl_nil (onw_n hKp ?_)
 refine ewo_sp ?_
 refine ewl_store rfl rfl rfl ti40 rfl hb2 rfl rfl fun w8 hb4 hC1 => ?_
 replace hb1 := hb1.chg hC1 (by omega)
 replace hb3 := hb3.chg hC1 (by omega)
 replace hX := hX.chg hC1 (by omega)
 replace hkx1 := (hkx1.ext hA1).chg hC1 (by omega)
 replace hnew := (hnew.ext hA2).chg hC1 (by omega)
 clear hA1
 clear hA2
 replace hKp := hKp.chg hC1 (by simp only [List.mem_cons, List.not_mem_nil, or_false]; omega)
 have sz4 := hC1.size
 have hA3 := Ext.refl w8
 refine ewl_nil (onw_n hKp ?_)
 refine ewo_nil ?_
 refine thn_n ?_
 refine ewp_ret ?_
 refine blk_r ?_
 refine thn_r ?_
 refine fn_r (resv rfl (rv_cella rfl ti40 hb4 rfl)) ?_
 exact ⟨node t 17 [] (nd1.one), by simp [formM, SP.need, node, hn1, hnd1], ⟨_, _, _, rfl, ((hnew.ext hA3)).mono (fun b hb => by omega)⟩, hX⟩
theorem form_bad_fn (n : Nat) (ihx : NSpec 31 (expM (n + 1)) n) (w : World) (hG : Gl w) (t : Tok) (kv : Value) (U : Nat → Prop) (ka : Option Addr) (kc : Nat) (kn : Nat) (l : Fo) (hK : FoS U w ka kn kc l) (hne : ((kn : Int) == 2) = false) (hm : formM (n + 1) (expM (n + 1)) t [102, 110] l = .error (t.ln, t.co)) :
   RetP Tryz.prog 41 #[.agg #[.int .i64 t.k, .int .i64 t.ln, .int .i64 t.co, .int .i64 t.nm, S t.tx, kv], S [102, 110], .slice ka kn kc] w (fun v w' => ∃ nd, formM (n + 1) (expM (n + 1)) t [102, 110] l = .ok nd ∧ NV w w' v nd ∧ Ext w w') (fun c w' => ∃ e, formM (n + 1) (expM (n + 1)) t [102, 110] l = .error e ∧ c = trb 45 e ∧ Ext w w') := by
 have hX := Ext.refl w
 refine enterP Tryz.func41 rfl rfl rfl ?_
 refine ewp_seq ?_
 refine ewp_reg ?_
 refine ewl_box rfl rfl rfl fun b1 w1 hb1 hE1 hs1 hz1 => ?_
 replace hX := hX.trans hE1
 refine ewl_alloc rfl zr40 fun b2 w2 hb2 hE2 hs2 hz2 => ?_
 replace hb1 := hb1.ext hE2
 replace hX := hX.trans hE2
 refine ewl_nil ?_
 refine thn_n ?_
 refine ewp_seq ?_
 refine ewp_reg ?_
 refine ewl_run rfl (rn_move rfl) ?_
 refine ewl_run rfl (rn_len rfl sl47) ?_
 refine ewl_run rfl (rn_assign rfl) ?_
 refine ewl_nil ?_
 refine thn_n ?_
 refine ewp_seq ?_
 refine ewp_seq ?_
 refine ewp_reg ?_
 refine ewl_run rfl (rn_move rfl) ?_
 refine ewl_nil ?_
 refine thn_n ?_
 refine ewp_block ?_
 refine ewp_seq ?_
 refine ewp_reg ?_
 refine ewl_run rfl (rn_eqS rfl rfl) ?_
 refine ewl_run rfl (rn_assign rfl) ?_
 refine ewl_nil ?_
 refine thn_n ?_
 refine ewp_ift rfl rfl ?_
 refine ewp_seq ?_
 have hr1 := hb1
 have hr2 := hb2
 refine ewp_draw mixed (Keeps w2 [b1, b2]) [(true, 0), (true, 1), (true, 2), (true, 3), (true, 4), (true, 5), (true, 6), (false, 7), (true, 8), (true, 9), (true, 10), (true, 11), (true, 12), (true, 13), (true, 14), (false, 15), (true, 16), (true, 17), (true, 18), (true, 19), (true, 20), (true, 21), (false, 22), (true, 23), (false, 24)] (by kernel_rfl) (by kernel_rfl) rfl rfl fun w3 hE3 hz3 => ?_
 have hKp : Keeps w2 [b1, b2] w3 := Keeps.cons hr1 hE3 (Keeps.cons hr2 hE3 (Keeps.nil _ _))
 refine ⟨hKp, ?_⟩
 replace hb1 := hb1.ext hE3
 replace hb2 := hb2.ext hE3
 replace hX := hX.trans hE3
 refine ewo_rd rfl (fun _ hS => rn_loada rfl ti61 (hr1.keep hS (.head _)) rfl) ?_
 refine ewo_rd rfl (fun _ hS => rn_move rfl) ?_
 refine ewo_rd rfl (fun _ hS => rn_eqI rfl rfl) ?_
 refine ewo_rd rfl (fun _ hS => rn_move rfl) ?_
 refine ewo_split 18 rfl (fun h1 => ?_) (fun h1 => ?_)
 · exfalso
   rw [hne] at h1; contradiction
 refine ewo_rdo rfl rfl rfl h1 ?_
 refine ewo_rdo rfl rfl rfl h1 ?_
 refine ewo_rdo rfl rfl rfl h1 ?_
 refine ewo_sp ?_
 refine ewl_off rfl rfl rfl h1 ?_
 refine ewl_nil (onw_n hKp ?_)
 refine ewo_rd rfl (fun _ hS => rn_pickf rfl h1 rfl) ?_
 refine ewo_rd rfl (fun _ hS => rn_move rfl) ?_
 refine ewo_rdo rfl rfl rfl rfl ?_
 refine ewo_rdo rfl rfl rfl rfl ?_
 refine ewo_rdo rfl rfl rfl rfl ?_
 refine ewo_rdo rfl rfl rfl rfl ?_
 refine ewo_rdo rfl rfl rfl rfl ?_
 refine ewo_sp ?_
 refine ewl_off rfl rfl rfl rfl ?_
 refine ewl_nil (onw_n hKp ?_)
 refine ewo_rd rfl (fun _ hS => rn_pickf rfl rfl rfl) ?_
 refine ewo_rd rfl (fun _ hS => rn_move rfl) ?_
 refine ewo_rdo rfl rfl rfl rfl ?_
 refine ewo_rdo rfl rfl rfl rfl ?_
 refine ewo_rdo rfl rfl rfl rfl ?_
 refine ewo_rdo rfl rfl rfl rfl ?_
 refine ewo_sp ?_
 refine ewl_off rfl rfl rfl rfl ?_
 refine ewl_nil (onw_n hKp ?_)
 refine ewo_rd rfl (fun _ hS => rn_pickf rfl rfl rfl) ?_
 refine ewo_sp ?_
 refine ewl_retp rfl (en_call ent22 rfl rfl) (need_spec _ ⟨_, _, _, _, _⟩ _ _) ?_ (fun c wp hc => And.intro rfl (⟨(t.ln, t.co), by exact hm, hc.2.1, hX.trans hc.2.2⟩))
 rintro _ w4 ⟨hn1, rfl, hE4⟩
 cases hn1
theorem form_bad_let (n : Nat) (ihx : NSpec 31 (expM (n + 1)) n) (w : World) (hG : Gl w) (t : Tok) (kv : Value) (U : Nat → Prop) (ka : Option Addr) (kc : Nat) (kn : Nat) (l : Fo) (hK : FoS U w ka kn kc l) (hne : ((kn : Int) == 3) = false) (hm : formM (n + 1) (expM (n + 1)) t [108, 101, 116] l = .error (t.ln, t.co)) :
   RetP Tryz.prog 41 #[.agg #[.int .i64 t.k, .int .i64 t.ln, .int .i64 t.co, .int .i64 t.nm, S t.tx, kv], S [108, 101, 116], .slice ka kn kc] w (fun v w' => ∃ nd, formM (n + 1) (expM (n + 1)) t [108, 101, 116] l = .ok nd ∧ NV w w' v nd ∧ Ext w w') (fun c w' => ∃ e, formM (n + 1) (expM (n + 1)) t [108, 101, 116] l = .error e ∧ c = trb 45 e ∧ Ext w w') := by
 have hX := Ext.refl w
 refine enterP Tryz.func41 rfl rfl rfl ?_
 refine ewp_seq ?_
 refine ewp_reg ?_
 refine ewl_box rfl rfl rfl fun b1 w1 hb1 hE1 hs1 hz1 => ?_
 replace hX := hX.trans hE1
 refine ewl_alloc rfl zr40 fun b2 w2 hb2 hE2 hs2 hz2 => ?_
 replace hb1 := hb1.ext hE2
 replace hX := hX.trans hE2
 refine ewl_nil ?_
 refine thn_n ?_
 refine ewp_seq ?_
 refine ewp_reg ?_
 refine ewl_run rfl (rn_move rfl) ?_
 refine ewl_run rfl (rn_len rfl sl47) ?_
 refine ewl_run rfl (rn_assign rfl) ?_
 refine ewl_nil ?_
 refine thn_n ?_
 refine ewp_seq ?_
 refine ewp_seq ?_
 refine ewp_reg ?_
 refine ewl_run rfl (rn_move rfl) ?_
 refine ewl_nil ?_
 refine thn_n ?_
 refine ewp_block ?_
 refine ewp_seq ?_
 refine ewp_reg ?_
 refine ewl_run rfl (rn_eqS rfl rfl) ?_
 refine ewl_run rfl (rn_assign rfl) ?_
 refine ewl_nil ?_
 refine thn_n ?_
 refine ewp_iff rfl rfl ?_
 refine ewp_seq ?_
 refine ewp_reg ?_
 refine ewl_run rfl (rn_eqS rfl rfl) ?_
 refine ewl_run rfl (rn_assign rfl) ?_
 refine ewl_nil ?_
 refine thn_n ?_
 refine ewp_ift rfl rfl ?_
 refine ewp_seq ?_
 have hr1 := hb1
 have hr2 := hb2
 refine ewp_draw mixed (Keeps w2 [b1, b2]) [(true, 0), (true, 1), (true, 2), (true, 3), (true, 4), (true, 5), (true, 6), (false, 7), (true, 8), (false, 9)] (by kernel_rfl) (by kernel_rfl) rfl rfl fun w3 hE3 hz3 => ?_
 have hKp : Keeps w2 [b1, b2] w3 := Keeps.cons hr1 hE3 (Keeps.cons hr2 hE3 (Keeps.nil _ _))
 refine ⟨hKp, ?_⟩
 replace hb1 := hb1.ext hE3
 replace hb2 := hb2.ext hE3
 replace hX := hX.trans hE3
 refine ewo_rd rfl (fun _ hS => rn_loada rfl ti61 (hr1.keep hS (.head _)) rfl) ?_
 refine ewo_rd rfl (fun _ hS => rn_move rfl) ?_
 refine ewo_rd rfl (fun _ hS => rn_eqI rfl rfl) ?_
 refine ewo_rd rfl (fun _ hS => rn_move rfl) ?_
 refine ewo_split 58 rfl (fun h1 => ?_) (fun h1 => ?_)
 · exfalso
   rw [hne] at h1; contradiction
 refine ewo_rdo rfl rfl rfl h1 ?_
 refine ewo_rdo rfl rfl rfl h1 ?_
 refine ewo_rdo rfl rfl rfl h1 ?_
 refine ewo_sp ?_
 refine ewl_off rfl rfl rfl h1 ?_
 refine ewl_nil (onw_n hKp ?_)
 refine ewo_rd rfl (fun _ hS => rn_pickf rfl h1 rfl) ?_
 refine ewo_sp ?_
 refine ewl_retp rfl (en_call ent22 rfl rfl) (need_spec _ ⟨_, _, _, _, _⟩ _ _) ?_ (fun c wp hc => And.intro rfl (⟨(t.ln, t.co), by exact hm, hc.2.1, hX.trans hc.2.2⟩))
 rintro _ w4 ⟨hn1, rfl, hE4⟩
 cases hn1
theorem form_bad_rec (n : Nat) (ihx : NSpec 31 (expM (n + 1)) n) (w : World) (hG : Gl w) (t : Tok) (kv : Value) (U : Nat → Prop) (ka : Option Addr) (kc : Nat) (kn : Nat) (l : Fo) (hK : FoS U w ka kn kc l) (hne : ((kn : Int) == 3) = false) (hm : formM (n + 1) (expM (n + 1)) t [114, 101, 99] l = .error (t.ln, t.co)) :
   RetP Tryz.prog 41 #[.agg #[.int .i64 t.k, .int .i64 t.ln, .int .i64 t.co, .int .i64 t.nm, S t.tx, kv], S [114, 101, 99], .slice ka kn kc] w (fun v w' => ∃ nd, formM (n + 1) (expM (n + 1)) t [114, 101, 99] l = .ok nd ∧ NV w w' v nd ∧ Ext w w') (fun c w' => ∃ e, formM (n + 1) (expM (n + 1)) t [114, 101, 99] l = .error e ∧ c = trb 45 e ∧ Ext w w') := by
 have hX := Ext.refl w
 refine enterP Tryz.func41 rfl rfl rfl ?_
 refine ewp_seq ?_
 refine ewp_reg ?_
 refine ewl_box rfl rfl rfl fun b1 w1 hb1 hE1 hs1 hz1 => ?_
 replace hX := hX.trans hE1
 refine ewl_alloc rfl zr40 fun b2 w2 hb2 hE2 hs2 hz2 => ?_
 replace hb1 := hb1.ext hE2
 replace hX := hX.trans hE2
 refine ewl_nil ?_
 refine thn_n ?_
 refine ewp_seq ?_
 refine ewp_reg ?_
 refine ewl_run rfl (rn_move rfl) ?_
 refine ewl_run rfl (rn_len rfl sl47) ?_
 refine ewl_run rfl (rn_assign rfl) ?_
 refine ewl_nil ?_
 refine thn_n ?_
 refine ewp_seq ?_
 refine ewp_seq ?_
 refine ewp_reg ?_
 refine ewl_run rfl (rn_move rfl) ?_
 refine ewl_nil ?_
 refine thn_n ?_
 refine ewp_block ?_
 refine ewp_seq ?_
 refine ewp_reg ?_
 refine ewl_run rfl (rn_eqS rfl rfl) ?_
 refine ewl_run rfl (rn_assign rfl) ?_
 refine ewl_nil ?_
 refine thn_n ?_
 refine ewp_iff rfl rfl ?_
 refine ewp_seq ?_
 refine ewp_reg ?_
 refine ewl_run rfl (rn_eqS rfl rfl) ?_
 refine ewl_run rfl (rn_assign rfl) ?_
 refine ewl_nil ?_
 refine thn_n ?_
 refine ewp_iff rfl rfl ?_
 refine ewp_seq ?_
 refine ewp_reg ?_
 refine ewl_run rfl (rn_eqS rfl rfl) ?_
 refine ewl_run rfl (rn_assign rfl) ?_
 refine ewl_nil ?_
 refine thn_n ?_
 refine ewp_ift rfl rfl ?_
 refine ewp_seq ?_
 have hr1 := hb1
 have hr2 := hb2
 refine ewp_draw mixed (Keeps w2 [b1, b2]) [(true, 0), (true, 1), (true, 2), (true, 3), (true, 4), (true, 5), (true, 6), (false, 7), (true, 8), (true, 9), (true, 10), (true, 11), (true, 12), (false, 13), (true, 14), (false, 15)] (by kernel_rfl) (by kernel_rfl) rfl rfl fun w3 hE3 hz3 => ?_
 have hKp : Keeps w2 [b1, b2] w3 := Keeps.cons hr1 hE3 (Keeps.cons hr2 hE3 (Keeps.nil _ _))
 refine ⟨hKp, ?_⟩
 replace hb1 := hb1.ext hE3
 replace hb2 := hb2.ext hE3
 replace hX := hX.trans hE3
 refine ewo_rd rfl (fun _ hS => rn_loada rfl ti61 (hr1.keep hS (.head _)) rfl) ?_
 refine ewo_rd rfl (fun _ hS => rn_move rfl) ?_
 refine ewo_rd rfl (fun _ hS => rn_eqI rfl rfl) ?_
 refine ewo_rd rfl (fun _ hS => rn_move rfl) ?_
 refine ewo_split 86 rfl (fun h1 => ?_) (fun h1 => ?_)
 · exfalso
   rw [hne] at h1; contradiction
 refine ewo_rdo rfl rfl rfl h1 ?_
 refine ewo_rdo rfl rfl rfl h1 ?_
 refine ewo_rdo rfl rfl rfl h1 ?_
 refine ewo_sp ?_
 refine ewl_off rfl rfl rfl h1 ?_
 refine ewl_nil (onw_n hKp ?_)
 refine ewo_rd rfl (fun _ hS => rn_pickf rfl h1 rfl) ?_
 refine ewo_rd rfl (fun _ hS => rn_move rfl) ?_
 refine ewo_rdo rfl rfl rfl rfl ?_
 refine ewo_rdo rfl rfl rfl rfl ?_
 refine ewo_rdo rfl rfl rfl rfl ?_
 refine ewo_sp ?_
 refine ewl_off rfl rfl rfl rfl ?_
 refine ewl_nil (onw_n hKp ?_)
 refine ewo_rd rfl (fun _ hS => rn_pickf rfl rfl rfl) ?_
 refine ewo_sp ?_
 refine ewl_retp rfl (en_call ent22 rfl rfl) (need_spec _ ⟨_, _, _, _, _⟩ _ _) ?_ (fun c wp hc => And.intro rfl (⟨(t.ln, t.co), by exact hm, hc.2.1, hX.trans hc.2.2⟩))
 rintro _ w4 ⟨hn1, rfl, hE4⟩
 cases hn1
theorem form_bad_raise (n : Nat) (ihx : NSpec 31 (expM (n + 1)) n) (w : World) (hG : Gl w) (t : Tok) (kv : Value) (U : Nat → Prop) (ka : Option Addr) (kc : Nat) (kn : Nat) (l : Fo) (hK : FoS U w ka kn kc l) (hne : ((kn : Int) == 1) = false) (hm : formM (n + 1) (expM (n + 1)) t [114, 97, 105, 115, 101] l = .error (t.ln, t.co)) :
   RetP Tryz.prog 41 #[.agg #[.int .i64 t.k, .int .i64 t.ln, .int .i64 t.co, .int .i64 t.nm, S t.tx, kv], S [114, 97, 105, 115, 101], .slice ka kn kc] w (fun v w' => ∃ nd, formM (n + 1) (expM (n + 1)) t [114, 97, 105, 115, 101] l = .ok nd ∧ NV w w' v nd ∧ Ext w w') (fun c w' => ∃ e, formM (n + 1) (expM (n + 1)) t [114, 97, 105, 115, 101] l = .error e ∧ c = trb 45 e ∧ Ext w w') := by
 have hX := Ext.refl w
 refine enterP Tryz.func41 rfl rfl rfl ?_
 refine ewp_seq ?_
 refine ewp_reg ?_
 refine ewl_box rfl rfl rfl fun b1 w1 hb1 hE1 hs1 hz1 => ?_
 replace hX := hX.trans hE1
 refine ewl_alloc rfl zr40 fun b2 w2 hb2 hE2 hs2 hz2 => ?_
 replace hb1 := hb1.ext hE2
 replace hX := hX.trans hE2
 refine ewl_nil ?_
 refine thn_n ?_
 refine ewp_seq ?_
 refine ewp_reg ?_
 refine ewl_run rfl (rn_move rfl) ?_
 refine ewl_run rfl (rn_len rfl sl47) ?_
 refine ewl_run rfl (rn_assign rfl) ?_
 refine ewl_nil ?_
 refine thn_n ?_
 refine ewp_seq ?_
 refine ewp_seq ?_
 refine ewp_reg ?_
 refine ewl_run rfl (rn_move rfl) ?_
 refine ewl_nil ?_
 refine thn_n ?_
 refine ewp_block ?_
 refine ewp_seq ?_
 refine ewp_reg ?_
 refine ewl_run rfl (rn_eqS rfl rfl) ?_
 refine ewl_run rfl (rn_assign rfl) ?_
 refine ewl_nil ?_
 refine thn_n ?_
 refine ewp_iff rfl rfl ?_
 refine ewp_seq ?_
 refine ewp_reg ?_
 refine ewl_run rfl (rn_eqS rfl rfl) ?_
 refine ewl_run rfl (rn_assign rfl) ?_
 refine ewl_nil ?_
 refine thn_n ?_
 refine ewp_iff rfl rfl ?_
 refine ewp_seq ?_
 refine ewp_reg ?_
 refine ewl_run rfl (rn_eqS rfl rfl) ?_
 refine ewl_run rfl (rn_assign rfl) ?_
 refine ewl_nil ?_
 refine thn_n ?_
 refine ewp_iff rfl rfl ?_
 refine ewp_seq ?_
 refine ewp_reg ?_
 refine ewl_run rfl (rn_eqS rfl rfl) ?_
 refine ewl_run rfl (rn_assign rfl) ?_
 refine ewl_nil ?_
 refine thn_n ?_
 refine ewp_iff rfl rfl ?_
 refine ewp_seq ?_
 refine ewp_reg ?_
 refine ewl_run rfl (rn_eqS rfl rfl) ?_
 refine ewl_run rfl (rn_assign rfl) ?_
 refine ewl_nil ?_
 refine thn_n ?_
 refine ewp_iff rfl rfl ?_
 refine ewp_seq ?_
 refine ewp_reg ?_
 refine ewl_run rfl (rn_eqS rfl rfl) ?_
 refine ewl_run rfl (rn_assign rfl) ?_
 refine ewl_nil ?_
 refine thn_n ?_
 refine ewp_iff rfl rfl ?_
 refine ewp_seq ?_
 refine ewp_seq ?_
 refine ewp_reg ?_
 refine ewl_run rfl (rn_eqS rfl rfl) ?_
 refine ewl_run rfl (rn_assign rfl) ?_
 refine ewl_nil ?_
 refine thn_n ?_
 refine ewp_iff rfl rfl ?_
 refine ewp_reg ?_
 refine ewl_run rfl (rn_eqS rfl rfl) ?_
 refine ewl_run rfl (rn_assign rfl) ?_
 refine ewl_nil ?_
 refine thn_n ?_
 refine ewp_iff rfl rfl ?_
 refine ewp_seq ?_
 refine ewp_seq ?_
 refine ewp_reg ?_
 refine ewl_run rfl (rn_eqS rfl rfl) ?_
 refine ewl_run rfl (rn_assign rfl) ?_
 refine ewl_nil ?_
 refine thn_n ?_
 refine ewp_ift rfl rfl ?_
 refine ewp_skip ?_
 refine thn_n ?_
 refine ewp_ift rfl rfl ?_
 refine ewp_seq ?_
 refine ewp_reg ?_
 refine ewl_run rfl (rn_loada rfl ti61 hb1 rfl) ?_
 refine ewl_run rfl (rn_move rfl) ?_
 refine ewl_run rfl (rn_eqI rfl rfl) ?_
 refine ewl_retp rfl (en_call ent22 rfl rfl) (need_spec _ ⟨_, _, _, _, _⟩ _ _) ?_ (fun c wp hc => And.intro rfl (⟨(t.ln, t.co), by exact hm, hc.2.1, hX.trans hc.2.2⟩))
 rintro _ w3 ⟨hn1, rfl, hE3⟩
 exfalso
 rw [hne] at hn1; contradiction
theorem form_bad_transact (n : Nat) (ihx : NSpec 31 (expM (n + 1)) n) (w : World) (hG : Gl w) (t : Tok) (kv : Value) (U : Nat → Prop) (ka : Option Addr) (kc : Nat) (kn : Nat) (l : Fo) (hK : FoS U w ka kn kc l) (hne : ((kn : Int) == 1) = false) (hm : formM (n + 1) (expM (n + 1)) t [116, 114, 97, 110, 115, 97, 99, 116] l = .error (t.ln, t.co)) :
   RetP Tryz.prog 41 #[.agg #[.int .i64 t.k, .int .i64 t.ln, .int .i64 t.co, .int .i64 t.nm, S t.tx, kv], S [116, 114, 97, 110, 115, 97, 99, 116], .slice ka kn kc] w (fun v w' => ∃ nd, formM (n + 1) (expM (n + 1)) t [116, 114, 97, 110, 115, 97, 99, 116] l = .ok nd ∧ NV w w' v nd ∧ Ext w w') (fun c w' => ∃ e, formM (n + 1) (expM (n + 1)) t [116, 114, 97, 110, 115, 97, 99, 116] l = .error e ∧ c = trb 45 e ∧ Ext w w') := by
 have hX := Ext.refl w
 refine enterP Tryz.func41 rfl rfl rfl ?_
 refine ewp_seq ?_
 refine ewp_reg ?_
 refine ewl_box rfl rfl rfl fun b1 w1 hb1 hE1 hs1 hz1 => ?_
 replace hX := hX.trans hE1
 refine ewl_alloc rfl zr40 fun b2 w2 hb2 hE2 hs2 hz2 => ?_
 replace hb1 := hb1.ext hE2
 replace hX := hX.trans hE2
 refine ewl_nil ?_
 refine thn_n ?_
 refine ewp_seq ?_
 refine ewp_reg ?_
 refine ewl_run rfl (rn_move rfl) ?_
 refine ewl_run rfl (rn_len rfl sl47) ?_
 refine ewl_run rfl (rn_assign rfl) ?_
 refine ewl_nil ?_
 refine thn_n ?_
 refine ewp_seq ?_
 refine ewp_seq ?_
 refine ewp_reg ?_
 refine ewl_run rfl (rn_move rfl) ?_
 refine ewl_nil ?_
 refine thn_n ?_
 refine ewp_block ?_
 refine ewp_seq ?_
 refine ewp_reg ?_
 refine ewl_run rfl (rn_eqS rfl rfl) ?_
 refine ewl_run rfl (rn_assign rfl) ?_
 refine ewl_nil ?_
 refine thn_n ?_
 refine ewp_iff rfl rfl ?_
 refine ewp_seq ?_
 refine ewp_reg ?_
 refine ewl_run rfl (rn_eqS rfl rfl) ?_
 refine ewl_run rfl (rn_assign rfl) ?_
 refine ewl_nil ?_
 refine thn_n ?_
 refine ewp_iff rfl rfl ?_
 refine ewp_seq ?_
 refine ewp_reg ?_
 refine ewl_run rfl (rn_eqS rfl rfl) ?_
 refine ewl_run rfl (rn_assign rfl) ?_
 refine ewl_nil ?_
 refine thn_n ?_
 refine ewp_iff rfl rfl ?_
 refine ewp_seq ?_
 refine ewp_reg ?_
 refine ewl_run rfl (rn_eqS rfl rfl) ?_
 refine ewl_run rfl (rn_assign rfl) ?_
 refine ewl_nil ?_
 refine thn_n ?_
 refine ewp_iff rfl rfl ?_
 refine ewp_seq ?_
 refine ewp_reg ?_
 refine ewl_run rfl (rn_eqS rfl rfl) ?_
 refine ewl_run rfl (rn_assign rfl) ?_
 refine ewl_nil ?_
 refine thn_n ?_
 refine ewp_iff rfl rfl ?_
 refine ewp_seq ?_
 refine ewp_reg ?_
 refine ewl_run rfl (rn_eqS rfl rfl) ?_
 refine ewl_run rfl (rn_assign rfl) ?_
 refine ewl_nil ?_
 refine thn_n ?_
 refine ewp_iff rfl rfl ?_
 refine ewp_seq ?_
 refine ewp_seq ?_
 refine ewp_reg ?_
 refine ewl_run rfl (rn_eqS rfl rfl) ?_
 refine ewl_run rfl (rn_assign rfl) ?_
 refine ewl_nil ?_
 refine thn_n ?_
 refine ewp_iff rfl rfl ?_
 refine ewp_reg ?_
 refine ewl_run rfl (rn_eqS rfl rfl) ?_
 refine ewl_run rfl (rn_assign rfl) ?_
 refine ewl_nil ?_
 refine thn_n ?_
 refine ewp_iff rfl rfl ?_
 refine ewp_seq ?_
 refine ewp_seq ?_
 refine ewp_reg ?_
 refine ewl_run rfl (rn_eqS rfl rfl) ?_
 refine ewl_run rfl (rn_assign rfl) ?_
 refine ewl_nil ?_
 refine thn_n ?_
 refine ewp_iff rfl rfl ?_
 refine ewp_reg ?_
 refine ewl_run rfl (rn_eqS rfl rfl) ?_
 refine ewl_run rfl (rn_assign rfl) ?_
 refine ewl_nil ?_
 refine thn_n ?_
 refine ewp_ift rfl rfl ?_
 refine ewp_seq ?_
 refine ewp_reg ?_
 refine ewl_run rfl (rn_loada rfl ti61 hb1 rfl) ?_
 refine ewl_run rfl (rn_move rfl) ?_
 refine ewl_run rfl (rn_eqI rfl rfl) ?_
 refine ewl_retp rfl (en_call ent22 rfl rfl) (need_spec _ ⟨_, _, _, _, _⟩ _ _) ?_ (fun c wp hc => And.intro rfl (⟨(t.ln, t.co), by exact hm, hc.2.1, hX.trans hc.2.2⟩))
 rintro _ w3 ⟨hn1, rfl, hE3⟩
 exfalso
 rw [hne] at hn1; contradiction
theorem form_other (n : Nat) (ihx : NSpec 31 (expM (n + 1)) n) (w : World) (hG : Gl w) (t : Tok) (kv : Value) (U : Nat → Prop) (ka : Option Addr) (kc : Nat) (wd : List UInt8) (kn : Nat) (l : Fo) (w_fn : (wd == [102, 110]) = false) (w_let : (wd == [108, 101, 116]) = false) (w_rec : (wd == [114, 101, 99]) = false) (w_if : (wd == [105, 102]) = false) (w_seq : (wd == [115, 101, 113]) = false) (w_tuple : (wd == [116, 117, 112, 108, 101]) = false) (w_case : (wd == [99, 97, 115, 101]) = false) (w_try : (wd == [116, 114, 121]) = false) (w_raise : (wd == [114, 97, 105, 115, 101]) = false) (w_transact : (wd == [116, 114, 97, 110, 115, 97, 99, 116]) = false) :
   RetP Tryz.prog 41 #[.agg #[.int .i64 t.k, .int .i64 t.ln, .int .i64 t.co, .int .i64 t.nm, S t.tx, kv], S wd, .slice ka kn kc] w (fun v w' => ∃ nd, formM (n + 1) (expM (n + 1)) t wd l = .ok nd ∧ NV w w' v nd ∧ Ext w w') (fun c w' => ∃ e, formM (n + 1) (expM (n + 1)) t wd l = .error e ∧ c = trb 45 e ∧ Ext w w') := by
 have hX := Ext.refl w
 refine enterP Tryz.func41 rfl rfl rfl ?_
 refine ewp_seq ?_
 refine ewp_reg ?_
 refine ewl_box rfl rfl rfl fun b1 w1 hb1 hE1 hs1 hz1 => ?_
 replace hX := hX.trans hE1
 refine ewl_alloc rfl zr40 fun b2 w2 hb2 hE2 hs2 hz2 => ?_
 replace hb1 := hb1.ext hE2
 replace hX := hX.trans hE2
 refine ewl_nil ?_
 refine thn_n ?_
 refine ewp_seq ?_
 refine ewp_reg ?_
 refine ewl_run rfl (rn_move rfl) ?_
 refine ewl_run rfl (rn_len rfl sl47) ?_
 refine ewl_run rfl (rn_assign rfl) ?_
 refine ewl_nil ?_
 refine thn_n ?_
 refine ewp_seq ?_
 refine ewp_seq ?_
 refine ewp_reg ?_
 refine ewl_run rfl (rn_move rfl) ?_
 refine ewl_nil ?_
 refine thn_n ?_
 refine ewp_block ?_
 refine ewp_seq ?_
 refine ewp_reg ?_
 refine ewl_run rfl (rn_eqS rfl rfl) ?_
 refine ewl_run rfl (rn_assign rfl) ?_
 refine ewl_nil ?_
 refine thn_n ?_
 refine ewp_if rfl (fun h1 => ?_) (fun h1 => ?_)
 · exfalso
   rw [w_fn] at h1; contradiction
 refine ewp_seq ?_
 refine ewp_reg ?_
 refine ewl_run rfl (rn_eqS rfl rfl) ?_
 refine ewl_run rfl (rn_assign rfl) ?_
 refine ewl_nil ?_
 refine thn_n ?_
 refine ewp_if rfl (fun h2 => ?_) (fun h2 => ?_)
 · exfalso
   rw [w_let] at h2; contradiction
 refine ewp_seq ?_
 refine ewp_reg ?_
 refine ewl_run rfl (rn_eqS rfl rfl) ?_
 refine ewl_run rfl (rn_assign rfl) ?_
 refine ewl_nil ?_
 refine thn_n ?_
 refine ewp_if rfl (fun h3 => ?_) (fun h3 => ?_)
 · exfalso
   rw [w_rec] at h3; contradiction
 refine ewp_seq ?_
 refine ewp_reg ?_
 refine ewl_run rfl (rn_eqS rfl rfl) ?_
 refine ewl_run rfl (rn_assign rfl) ?_
 refine ewl_nil ?_
 refine thn_n ?_
 refine ewp_if rfl (fun h4 => ?_) (fun h4 => ?_)
 · exfalso
   rw [w_if] at h4; contradiction
 refine ewp_seq ?_
 refine ewp_reg ?_
 refine ewl_run rfl (rn_eqS rfl rfl) ?_
 refine ewl_run rfl (rn_assign rfl) ?_
 refine ewl_nil ?_
 refine thn_n ?_
 refine ewp_if rfl (fun h5 => ?_) (fun h5 => ?_)
 · exfalso
   rw [w_seq] at h5; contradiction
 refine ewp_seq ?_
 refine ewp_reg ?_
 refine ewl_run rfl (rn_eqS rfl rfl) ?_
 refine ewl_run rfl (rn_assign rfl) ?_
 refine ewl_nil ?_
 refine thn_n ?_
 refine ewp_if rfl (fun h6 => ?_) (fun h6 => ?_)
 · exfalso
   rw [w_tuple] at h6; contradiction
 refine ewp_seq ?_
 refine ewp_seq ?_
 refine ewp_reg ?_
 refine ewl_run rfl (rn_eqS rfl rfl) ?_
 refine ewl_run rfl (rn_assign rfl) ?_
 refine ewl_nil ?_
 refine thn_n ?_
 refine ewp_if rfl (fun h7 => ?_) (fun h7 => ?_)
 · exfalso
   rw [w_case] at h7; contradiction
 refine ewp_reg ?_
 refine ewl_run rfl (rn_eqS rfl rfl) ?_
 refine ewl_run rfl (rn_assign rfl) ?_
 refine ewl_nil ?_
 refine thn_n ?_
 refine ewp_if rfl (fun h8 => ?_) (fun h8 => ?_)
 · exfalso
   rw [w_try] at h8; contradiction
 refine ewp_seq ?_
 refine ewp_seq ?_
 refine ewp_reg ?_
 refine ewl_run rfl (rn_eqS rfl rfl) ?_
 refine ewl_run rfl (rn_assign rfl) ?_
 refine ewl_nil ?_
 refine thn_n ?_
 refine ewp_if rfl (fun h9 => ?_) (fun h9 => ?_)
 · exfalso
   rw [w_raise] at h9; contradiction
 refine ewp_reg ?_
 refine ewl_run rfl (rn_eqS rfl rfl) ?_
 refine ewl_run rfl (rn_assign rfl) ?_
 refine ewl_nil ?_
 refine thn_n ?_
 refine ewp_if rfl (fun h10 => ?_) (fun h10 => ?_)
 · exfalso
   rw [w_transact] at h10; contradiction
 refine ewp_skip ?_
 refine blk_n ?_
 refine thn_n ?_
 refine ewp_seq ?_
 refine ewp_reg ?_
 refine ewl_run rfl (rn_loada rfl ti61 hb1 rfl) ?_
 refine ewl_retp rfl (en_call ent33 rfl rfl) (fail_spec _ ⟨_, _, _, _, _⟩ _) (fun _ _ hf => hf.elim) (fun c wp hc => And.intro rfl (⟨(t.ln, t.co), by simp [formM, w_fn, w_let, w_rec, w_if, w_seq, w_tuple, w_case, w_try, w_raise, w_transact], hc.1, hX.trans hc.2⟩))
theorem form_fn (n : Nat) (ihx : NSpec 31 (expM (n + 1)) n) (w : World) (hG : Gl w) (t : Tok) (kv : Value) (U : Nat → Prop) (ka : Option Addr) (kc : Nat) (e0 e1 : Tok) (k0 k1 : Fo) (hK : FoS U w ka 2 kc (.cons e0 k0 (.cons e1 k1 .nil))) (hp0 : okT n e0 k0) (hp1 : okT n e1 k1) (hlen0 : k0.len ≤ 100000) :
   RetP Tryz.prog 41 #[.agg #[.int .i64 t.k, .int .i64 t.ln, .int .i64 t.co, .int .i64 t.nm, S t.tx, kv], S [102, 110], .slice ka 2 kc] w (fun v w' => ∃ nd, formM (n + 1) (expM (n + 1)) t [102, 110] (Fo.cons e0 k0 (Fo.cons e1 k1 Fo.nil)) = .ok nd ∧ NV w w' v nd ∧ Ext w w') (fun c w' => ∃ e, formM (n + 1) (expM (n + 1)) t [102, 110] (Fo.cons e0 k0 (Fo.cons e1 k1 Fo.nil)) = .error e ∧ c = trb 45 e ∧ Ext w w') := by
 obtain ⟨b, off, cells, T, a0, n0, c0, a1, n1, c1, l1, hUb, rfl, hb, hd, hk0, hk1, hr1⟩ := hK.two
 have hblt := hb.lt
 obtain rfl : n0 = k0.len := hk0.1
 have hX := Ext.refl w
 refine enterP Tryz.func41 rfl rfl rfl ?_
 refine ewp_seq ?_
 refine ewp_reg ?_
 refine ewl_box rfl rfl rfl fun b1 w1 hb1 hE1 hs1 hz1 => ?_
 replace hX := hX.trans hE1
 refine ewl_alloc rfl zr40 fun b2 w2 hb2 hE2 hs2 hz2 => ?_
 replace hb1 := hb1.ext hE2
 replace hX := hX.trans hE2
 refine ewl_nil ?_
 refine thn_n ?_
 refine ewp_seq ?_
 refine ewp_reg ?_
 refine ewl_run rfl (rn_move rfl) ?_
 refine ewl_run rfl (rn_len rfl sl47) ?_
 refine ewl_run rfl (rn_assign rfl) ?_
 refine ewl_nil ?_
 refine thn_n ?_
 refine ewp_seq ?_
 refine ewp_seq ?_
 refine ewp_reg ?_
 refine ewl_run rfl (rn_move rfl) ?_
 refine ewl_nil ?_
 refine thn_n ?_
 refine ewp_block ?_
 refine ewp_seq ?_
 refine ewp_reg ?_
 refine ewl_run rfl (rn_eqS rfl rfl) ?_
 refine ewl_run rfl (rn_assign rfl) ?_
 refine ewl_nil ?_
 refine thn_n ?_
 refine ewp_ift rfl rfl ?_
 refine ewp_seq ?_
 have hr1 := (hb.ext hX)
 have hr2 := hb1
 have hr3 := hb2
 refine ewp_draw mixed (Keeps w2 [b, b1, b2]) [(true, 0), (true, 1), (true, 2), (true, 3), (true, 4), (true, 5), (true, 6), (false, 7), (true, 8), (true, 9), (true, 10), (true, 11), (true, 12), (true, 13), (true, 14), (false, 15), (true, 16), (true, 17), (true, 18), (true, 19), (true, 20), (true, 21), (false, 22), (true, 23), (false, 24)] (by kernel_rfl) (by kernel_rfl) rfl rfl fun w3 hE3 hz3 => ?_
 have hKp : Keeps w2 [b, b1, b2] w3 := Keeps.cons hr1 hE3 (Keeps.cons hr2 hE3 (Keeps.cons hr3 hE3 (Keeps.nil _ _)))
 refine ⟨hKp, ?_⟩
 replace hb1 := hb1.ext hE3
 replace hb2 := hb2.ext hE3
 replace hX := hX.trans hE3
 refine ewo_rd rfl (fun _ hS => rn_loada rfl ti61 (hr2.keep hS (.tail _ (.head _))) rfl) ?_
 refine ewo_rd rfl (fun _ hS => rn_move rfl) ?_
 refine ewo_rd rfl (fun _ hS => rn_eqI rfl rfl) ?_
 refine ewo_rd rfl (fun _ hS => rn_move rfl) ?_
 refine ewo_rdg rfl rfl rfl rfl (fun _ hS => rn_move rfl) ?_
 refine ewo_rdg rfl rfl rfl rfl (fun _ hS => rn_ixc (i := 0) rfl rfl sl47 (by omega)) ?_
 refine ewo_rdg rfl rfl rfl rfl (fun _ hS => rn_loadad 0 rfl ti61 (hr1.keep hS (.head _)) hd (by omega) rfl) ?_
 refine ewo_sp ?_
 refine ewl_grd rfl rfl rfl ?_
 refine ewl_ret rfl (en_call ent23 rfl rfl) (isList_spec _ ⟨_, _, _, _, _⟩ _) ?_
 rintro _ w4 ⟨rfl, hE4⟩
 replace hb1 := hb1.ext hE4
 replace hb2 := hb2.ext hE4
 replace hX := hX.trans hE4
 replace hKp := hKp.ext hE4
 have sz1 := hE4.size
 refine ewl_nil (onw_n hKp ?_)
 refine ewo_rd rfl (fun _ hS => rn_pickt rfl rfl rfl) ?_
 refine ewo_rd rfl (fun _ hS => rn_move rfl) ?_
 refine ewo_split 24 rfl (fun h1 => ?_) (fun h1 => ?_)
 refine ewo_rdg rfl rfl rfl h1 (fun _ hS => rn_move rfl) ?_
 refine ewo_rdg rfl rfl rfl h1 (fun _ hS => rn_ixc (i := 0) rfl rfl sl47 (by omega)) ?_
 refine ewo_rdg rfl rfl rfl h1 (fun _ hS => rn_fa rfl fl61_1) ?_
 refine ewo_rdg rfl rfl rfl h1 (fun _ hS => rn_loadd 5 rfl ti47 (hr1.keep hS (.head _)) hd (by omega) rfl) ?_
 refine ewo_rdg rfl rfl rfl h1 (fun _ hS => rn_len rfl sl47) ?_
 refine ewo_sp ?_
 refine ewl_grd rfl rfl h1 ?_
 refine ewl_ret rfl (en_call ent40 rfl rfl) (within_spec _ _ _ _) ?_
 rintro _ w5 ⟨rfl, hE5⟩
 replace hb1 := hb1.ext hE5
 replace hb2 := hb2.ext hE5
 replace hX := hX.trans hE5
 replace hKp := hKp.ext hE5
 have sz2 := hE5.size
 refine ewl_nil (onw_n hKp ?_)
 refine ewo_rd rfl (fun _ hS => rn_pickt rfl h1 rfl) ?_
 refine ewo_rd rfl (fun _ hS => rn_move rfl) ?_
 refine ewo_split 32 rfl (fun h2 => ?_) (fun h2 => ?_)
 refine ewo_rdg rfl rfl rfl h2 (fun _ hS => rn_move rfl) ?_
 refine ewo_rdg rfl rfl rfl h2 (fun _ hS => rn_ixc (i := 0) rfl rfl sl47 (by omega)) ?_
 refine ewo_rdg rfl rfl rfl h2 (fun _ hS => rn_fa rfl fl61_1) ?_
 refine ewo_rdg rfl rfl rfl h2 (fun _ hS => rn_loadd 5 rfl ti47 (hr1.keep hS (.head _)) hd (by omega) rfl) ?_
 refine ewo_sp ?_
 refine ewl_grd rfl rfl h2 ?_
 refine ewl_ret rfl (en_call ent50 rfl rfl) (holes_spec _ (hG.ext hX) U _ _ _ k0 (hk0.ext hX) (Fo.ok.all hp0.2.1) hlen0) ?_
 rintro _ w6 ⟨rfl, hE6⟩
 replace hb1 := hb1.ext hE6
 replace hb2 := hb2.ext hE6
 replace hX := hX.trans hE6
 replace hKp := hKp.ext hE6
 have sz3 := hE6.size
 refine ewl_nil (onw_n hKp ?_)
 refine ewo_rd rfl (fun _ hS => rn_pickt rfl h2 rfl) ?_
 refine ewo_sp ?_
 refine ewl_retp rfl (en_call ent22 rfl rfl) (need_spec _ ⟨_, _, _, _, _⟩ _ _) ?_ (fun c wp hc => And.intro rfl (⟨(t.ln, t.co), by first | (simp [formM, SP.need, Fo.len, h1, h2, hc.1]; done) | (exfalso; have hq := hc.1; simp [Fo.len] at hq <;> omega), hc.2.1, hX.trans hc.2.2⟩))
 rintro _ w7 ⟨hn1, rfl, hE7⟩
 replace hb1 := hb1.ext hE7
 replace hb2 := hb2.ext hE7
 replace hX := hX.trans hE7
 replace hKp := hKp.ext hE7
 have sz4 := hE7.size
 refine ewl_nil (onw_n hKp ?_)
 refine ewo_nil ?_
 refine thn_n ?_
 refine ewp_seq ?_
 have hr4 := (hb.ext hX)
 have hr5 := hb1
 refine ewp_draw mixed (Keeps w7 [b, b1]) [(true, 0), (true, 1), (true, 2), (true, 3), (true, 4), (true, 6), (true, 7), (true, 8), (false, 5), (false, 9), (false, 10), (false, 11), (false, 12), (false, 13)] (by kernel_rfl) (by kernel_rfl) rfl rfl fun w8 hE8 hz4 => ?_
 have hKp : Keeps w7 [b, b1] w8 := Keeps.cons hr4 hE8 (Keeps.cons hr5 hE8 (Keeps.nil _ _))
 refine ⟨hKp, ?_⟩
 replace hb1 := hb1.ext hE8
 replace hb2 := hb2.ext hE8
 replace hX := hX.trans hE8
 refine ewo_rd rfl (fun _ hS => rn_loada rfl ti61 (hr5.keep hS (.tail _ (.head _))) rfl) ?_
 refine ewo_rd rfl (fun _ hS => rn_move rfl) ?_
 refine ewo_rd rfl (fun _ hS => rn_ixc (i := 0) rfl rfl sl47 (by omega)) ?_
 refine ewo_rd rfl (fun _ hS => rn_fa rfl fl61_1) ?_
 refine ewo_rd rfl (fun _ hS => rn_loadd 5 rfl ti47 (hr4.keep hS (.head _)) hd (by omega) rfl) ?_
 refine ewo_rd rfl (fun _ hS => rn_move rfl) ?_
 refine ewo_rd rfl (fun _ hS => rn_ixc (i := 1) rfl rfl sl47 (by omega)) ?_
 refine ewo_rd rfl (fun _ hS => rn_loadad 6 rfl ti61 (hr4.keep hS (.head _)) hd (by omega) rfl) ?_
 refine ewo_sp ?_
 refine ewl_retp rfl (en_call ent15 rfl rfl) (each_spec _ 51 ent51 holeM (fun _ _ => True) U _ _ _ k0 (hk0.ext hX) (Fo.all_true _) hlen0 (fun w1 hE1 t1 q1 a9 n9 c9 hk9 hp9 => (hole_spec w1 t1 q1 a9 n9 c9).retP)) ?_ (fun c wp hc => And.intro rfl (let ⟨e, he, hc1, hc2⟩ := hc; ⟨e, by first | (simp [formM, SP.need, h1, h2, hn1, he]; done) | (simp [formM, SP.need, h1, h2, hn1, Fo.len, he]; done), hc1, hX.trans hc2⟩))
 rintro _ w9 ⟨nds, ra_nds, rc_nds, hnds, rfl, hN, hE9⟩
 replace hb1 := hb1.ext hE9
 replace hb2 := hb2.ext hE9
 replace hX := hX.trans hE9
 replace hKp := hKp.ext hE9
 have sz5 := hE9.size
 have hA1 := Ext.refl w9
 refine ewl_nil (onw_n hKp ?_)
 refine ewo_sp ?_
 refine ewl_retp rfl (en_call ent31 rfl rfl) (ihx _ (hG.ext hX) U e1 k1 a1 n1 c1 (hk1.ext hX) hp1) ?_ (fun c wp hc => And.intro rfl (let ⟨e, he, hc1, hc2⟩ := hc; ⟨e, by first | (simp [formM, SP.need, h1, h2, hn1, hnds, he]; done) | (simp [formM, SP.need, h1, h2, hn1, hnds, Fo.len, he]; done), hc1, hX.trans hc2⟩))
 rintro _ w10 ⟨nd1, hnd1, ⟨xa1, xn1, xc1, rfl, hkx1⟩, hE10⟩
 replace hb1 := hb1.ext hE10
 replace hb2 := hb2.ext hE10
 replace hX := hX.trans hE10
 replace hA1 := hA1.trans hE10
 replace hKp := hKp.ext hE10
 have sz6 := hE10.size
 have hA2 := Ext.refl w10
 refine ewl_nil (onw_n hKp ?_)
 refine ewo_sp ?_
 refine ewl_bs rfl rfl sl23 zr40 rfl rfl rfl rfl rfl fun b3 w11 hb3 hE11 hs3 hz5 => ?_
 replace hb1 := hb1.ext hE11
 replace hb2 := hb2.ext hE11
 replace hX := hX.trans hE11
 replace hA1 := hA1.trans hE11
 replace hA2 := hA2.trans hE11
 replace hKp := hKp.ext hE11
 refine ewl_nil (onw_n hKp ?_)
 refine ewo_sp ?_
 have hN1 := (hN.ext hA1)
 have hk2 := (hkx1.ext hA2)
 obtain ⟨xs, hrow, hxs⟩ := hN1.ex
 have hasl := eachM_len hnds
 refine ewl_app1 rfl ap23 rfl rfl rfl rfl hrow hb3 rfl rfl (by omega) (by omega) fun ra2 rc2 w12 hr6 hG1 => ?_
 have hN2 := NRow.step hrow hxs rfl hN1.new hk2 (by omega) (by omega) (fun b hb => by have := (hN.ex.choose_spec.1).lt hb; omega) hr6 hG1
 replace hb1 := hb1.grow hG1 (fun e => by have := hN.new _ e.symm; omega)
 replace hb2 := hb2.grow hG1 (fun e => by have := hN.new _ e.symm; omega)
 replace hX := hX.grow hG1 (fun b hb => by have := hN.new b hb; omega)
 replace hKp := hKp.grow hG1 (by simp only [List.mem_cons, List.not_mem_nil, or_false]; intro c hc e; have := hN.new c e.symm; omega)
 have sz7 := hG1.size
 have hA3 := Ext.refl w12
 refine ewl_nil (onw_n hKp ?_)
 refine ewo_sp ?_
 refine ewl_ret rfl (en_call ent27 rfl rfl) (node_spec _ ⟨_, _, _, _, _⟩ _ _ _ _ _ _) ?_
 rintro _ w13 ⟨rfl, hE12⟩
 replace hb1 := hb1.ext hE12
 replace hb2 := hb2.ext hE12
 replace hX := hX.trans hE12
 replace hA3 := hA3.trans hE12
 replace hKp := hKp.ext hE12
 have sz8 := hE12.size
 refine ewl_nil (onw_n hKp ?_)
 refine ewo_sp ?_
 refine ewl_store rfl rfl rfl ti40 rfl hb2 rfl rfl fun w14 hb4 hC1 => ?_
 replace hb1 := hb1.chg hC1 (by omega)
 replace hX := hX.chg hC1 (by omega)
 replace hN2 := (hN2.ext hA3).chg hC1 (by omega)
 clear hA3
 replace hKp := hKp.chg hC1 (by simp only [List.mem_cons, List.not_mem_nil, or_false]; omega)
 have sz9 := hC1.size
 have hA4 := Ext.refl w14
 refine ewl_nil (onw_n hKp ?_)
 refine ewo_nil ?_
 refine thn_n ?_
 refine ewp_ret ?_
 refine blk_r ?_
 refine thn_r ?_
 refine fn_r (resv rfl (rv_cella rfl ti40 hb4 rfl)) ?_
 exact ⟨node t 7 [] (nds.app nd1.one), by simp [formM, SP.need, node, h1, h2, hn1, hnds, hnd1], ⟨_, _, _, rfl, ((hN2.ext hA4).nds).mono (fun b hb => by omega)⟩, hX⟩
 refine ewo_rdo rfl rfl rfl h2 ?_
 refine ewo_rdo rfl rfl rfl h2 ?_
 refine ewo_rdo rfl rfl rfl h2 ?_
 refine ewo_rdo rfl rfl rfl h2 ?_
 refine ewo_sp ?_
 refine ewl_off rfl rfl rfl h2 ?_
 refine ewl_nil (onw_n hKp ?_)
 refine ewo_rd rfl (fun _ hS => rn_pickf rfl h2 rfl) ?_
 refine ewo_sp ?_
 refine ewl_retp rfl (en_call ent22 rfl rfl) (need_spec _ ⟨_, _, _, _, _⟩ _ _) ?_ (fun c wp hc => And.intro rfl (⟨(t.ln, t.co), by first | (simp [formM, SP.need, Fo.len, h1, h2, hc.1]; done) | (exfalso; have hq := hc.1; simp [Fo.len] at hq <;> omega), hc.2.1, hX.trans hc.2.2⟩))
 rintro _ w15 ⟨hn2, rfl, hE13⟩
 cases hn2
 refine ewo_rdo rfl rfl rfl h1 ?_
 refine ewo_rdo rfl rfl rfl h1 ?_
 refine ewo_rdo rfl rfl rfl h1 ?_
 refine ewo_rdo rfl rfl rfl h1 ?_
 refine ewo_rdo rfl rfl rfl h1 ?_
 refine ewo_sp ?_
 refine ewl_off rfl rfl rfl h1 ?_
 refine ewl_nil (onw_n hKp ?_)
 refine ewo_rd rfl (fun _ hS => rn_pickf rfl h1 rfl) ?_
 refine ewo_rd rfl (fun _ hS => rn_move rfl) ?_
 refine ewo_rdo rfl rfl rfl rfl ?_
 refine ewo_rdo rfl rfl rfl rfl ?_
 refine ewo_rdo rfl rfl rfl rfl ?_
 refine ewo_rdo rfl rfl rfl rfl ?_
 refine ewo_sp ?_
 refine ewl_off rfl rfl rfl rfl ?_
 refine ewl_nil (onw_n hKp ?_)
 refine ewo_rd rfl (fun _ hS => rn_pickf rfl rfl rfl) ?_
 refine ewo_sp ?_
 refine ewl_retp rfl (en_call ent22 rfl rfl) (need_spec _ ⟨_, _, _, _, _⟩ _ _) ?_ (fun c wp hc => And.intro rfl (⟨(t.ln, t.co), by first | (simp [formM, SP.need, Fo.len, h1, hc.1]; done) | (exfalso; have hq := hc.1; simp [Fo.len] at hq <;> omega), hc.2.1, hX.trans hc.2.2⟩))
 rintro _ w16 ⟨hn3, rfl, hE14⟩
 cases hn3
theorem form_case (n : Nat) (ihx : NSpec 31 (expM (n + 1)) n) (w : World) (hG : Gl w) (t : Tok) (kv : Value) (U : Nat → Prop) (ka : Option Addr) (kc : Nat) (kn : Nat) (e0 : Tok) (k0 r : Fo) (hK : FoS U w ka kn kc (.cons e0 k0 r)) (hp0 : okT n e0 k0) (hall : r.all (okT n)) (hlen : r.len ≤ 99999) :
   RetP Tryz.prog 41 #[.agg #[.int .i64 t.k, .int .i64 t.ln, .int .i64 t.co, .int .i64 t.nm, S t.tx, kv], S [99, 97, 115, 101], .slice ka kn kc] w (fun v w' => ∃ nd, formM (n + 1) (expM (n + 1)) t [99, 97, 115, 101] (Fo.cons e0 k0 r) = .ok nd ∧ NV w w' v nd ∧ Ext w w') (fun c w' => ∃ e, formM (n + 1) (expM (n + 1)) t [99, 97, 115, 101] (Fo.cons e0 k0 r) = .error e ∧ c = trb 45 e ∧ Ext w w') := by
 obtain ⟨b, off, cells, T, a0, n0, c0, l1, hUb, rfl, hb, hd, hk0, hr1⟩ := hK.head
 have hblt := hb.lt
 obtain rfl : kn = r.len + 1 := hK.1
 have hX := Ext.refl w
 refine enterP Tryz.func41 rfl rfl rfl ?_
 refine ewp_seq ?_
 refine ewp_reg ?_
 refine ewl_box rfl rfl rfl fun b1 w1 hb1 hE1 hs1 hz1 => ?_
 replace hX := hX.trans hE1
 refine ewl_alloc rfl zr40 fun b2 w2 hb2 hE2 hs2 hz2 => ?_
 replace hb1 := hb1.ext hE2
 replace hX := hX.trans hE2
 refine ewl_nil ?_
 refine thn_n ?_
 refine ewp_seq ?_
 refine ewp_reg ?_
 refine ewl_run rfl (rn_move rfl) ?_
 refine ewl_run rfl (rn_len rfl sl47) ?_
 refine ewl_run rfl (rn_assign rfl) ?_
 refine ewl_nil ?_
 refine thn_n ?_
 refine ewp_seq ?_
 refine ewp_seq ?_
 refine ewp_reg ?_
 refine ewl_run rfl (rn_move rfl) ?_
 refine ewl_nil ?_
 refine thn_n ?_
 refine ewp_block ?_
 refine ewp_seq ?_
 refine ewp_reg ?_
 refine ewl_run rfl (rn_eqS rfl rfl) ?_
 refine ewl_run rfl (rn_assign rfl) ?_
 refine ewl_nil ?_
 refine thn_n ?_
 refine ewp_iff rfl rfl ?_
 refine ewp_seq ?_
 refine ewp_reg ?_
 refine ewl_run rfl (rn_eqS rfl rfl) ?_
 refine ewl_run rfl (rn_assign rfl) ?_
 refine ewl_nil ?_
 refine thn_n ?_
 refine ewp_iff rfl rfl ?_
 refine ewp_seq ?_
 refine ewp_reg ?_
 refine ewl_run rfl (rn_eqS rfl rfl) ?_
 refine ewl_run rfl (rn_assign rfl) ?_
 refine ewl_nil ?_
 refine thn_n ?_
 refine ewp_iff rfl rfl ?_
 refine ewp_seq ?_
 refine ewp_reg ?_
 refine ewl_run rfl (rn_eqS rfl rfl) ?_
 refine ewl_run rfl (rn_assign rfl) ?_
 refine ewl_nil ?_
 refine thn_n ?_
 refine ewp_iff rfl rfl ?_
 refine ewp_seq ?_
 refine ewp_reg ?_
 refine ewl_run rfl (rn_eqS rfl rfl) ?_
 refine ewl_run rfl (rn_assign rfl) ?_
 refine ewl_nil ?_
 refine thn_n ?_
 refine ewp_iff rfl rfl ?_
 refine ewp_seq ?_
 refine ewp_reg ?_
 refine ewl_run rfl (rn_eqS rfl rfl) ?_
 refine ewl_run rfl (rn_assign rfl) ?_
 refine ewl_nil ?_
 refine thn_n ?_
 refine ewp_iff rfl rfl ?_
 refine ewp_seq ?_
 refine ewp_seq ?_
 refine ewp_reg ?_
 refine ewl_run rfl (rn_eqS rfl rfl) ?_
 refine ewl_run rfl (rn_assign rfl) ?_
 refine ewl_nil ?_
 refine thn_n ?_
 refine ewp_ift rfl rfl ?_
 refine ewp_skip ?_
 refine thn_n ?_
 refine ewp_ift rfl rfl ?_
 refine ewp_seq ?_
 refine ewp_reg ?_
 refine ewl_run rfl (rn_loada rfl ti61 hb1 rfl) ?_
 refine ewl_run rfl (rn_move rfl) ?_
 refine ewl_run rfl (rn_geI rfl rfl) ?_
 refine ewl_retp rfl (en_call ent22 rfl rfl) (need_spec _ ⟨_, _, _, _, _⟩ _ _) ?_ (fun c wp hc => And.intro rfl (⟨(t.ln, t.co), by first | (have hq : decide ((2 : Int) ≤ ((Fo.cons e0 k0 r).len : Int)) = false := hc.1; simp [formM, SP.need, hq]; done) | (exfalso; have hq := hc.1; simp [Fo.len] at hq <;> omega), hc.2.1, hX.trans hc.2.2⟩))
 rintro _ w3 ⟨hn1, rfl, hE3⟩
 replace hb1 := hb1.ext hE3
 replace hb2 := hb2.ext hE3
 replace hX := hX.trans hE3
 have sz1 := hE3.size
 replace hn1 : decide ((2 : Int) ≤ ((Fo.cons e0 k0 r).len : Int)) = true := hn1
 refine ewl_nil ?_
 refine thn_n ?_
 refine ewp_seq ?_
 refine ewp_reg ?_
 refine ewl_run rfl (rn_assign rfl) ?_
 refine ewl_nil ?_
 refine thn_n ?_
 refine ewp_seq ?_
 refine ewp_seq ?_
 refine ewp_reg ?_
 refine ewl_run rfl (rn_move rfl) ?_
 refine ewl_run rfl (rn_eqS rfl rfl) ?_
 refine ewl_nil ?_
 refine thn_n ?_
 refine ewp_iff rfl rfl ?_
 refine ewp_skip ?_
 refine thn_n ?_
 refine ewp_seq ?_
 have hr1 := (hb.ext hX)
 have hr2 := hb1
 refine ewp_drawt mixed (Keeps w3 [b, b1]) (.rd 0 (.rd 1 (.rd 2 (.rd 3 (.rd 4 (.rd 7 (.rd 8 (.br 5 (.br 6 (.br 9 (.br 10 (.br 11 (.br 12 .fin .fin) .fin) .fin) .fin) (.br 9 (.br 6 (.br 10 (.br 11 (.br 12 .fin .fin) .fin) .fin) .fin) .fin)) .fin)))))))) (by kernel_rfl) (by kernel_rfl) (by kernel_rfl) fun w4 hE4 hz3 => ?_
 have hKp : Keeps w3 [b, b1] w4 := Keeps.cons hr1 hE4 (Keeps.cons hr2 hE4 (Keeps.nil _ _))
 refine ⟨hKp, ?_⟩
 replace hb1 := hb1.ext hE4
 replace hb2 := hb2.ext hE4
 replace hX := hX.trans hE4
 refine ewt_rd rfl rfl (fun _ hS => rn_loada rfl ti61 (hr2.keep hS (.tail _ (.head _))) rfl) ?_
 refine ewt_rd rfl rfl (fun _ hS => rn_move rfl) ?_
 refine ewt_rd rfl rfl (fun _ hS => rn_move rfl) ?_
 refine ewt_rd rfl rfl (fun _ hS => rn_ixc (i := 0) rfl rfl sl47 (by omega)) ?_
 refine ewt_rd rfl rfl (fun _ hS => rn_loadad 0 rfl ti61 (hr1.keep hS (.head _)) hd (by omega) rfl) ?_
 refine ewt_rd rfl rfl (fun _ hS => rn_move rfl) ?_
 refine ewt_rd rfl rfl (fun _ hS => rn_rest rfl rfl sl47) ?_
 refine ewt_br rfl ?_ ewt_none
 refine ewl_retp rfl (en_call ent31 rfl rfl) (ihx _ (hG.ext hX) U e0 k0 a0 n0 c0 (hk0.ext hX) hp0) ?_ (fun c wp hc => And.intro rfl (let ⟨e, he, hc1, hc2⟩ := hc; ⟨e, by first | (simp [formM, SP.need, hn1, he]; done) | (simp [formM, SP.need, hn1, Fo.len, he]; done), hc1, hX.trans hc2⟩))
 rintro _ w5 ⟨nd1, hnd1, ⟨xa1, xn1, xc1, rfl, hkx1⟩, hE5⟩
 replace hb1 := hb1.ext hE5
 replace hb2 := hb2.ext hE5
 replace hX := hX.trans hE5
 replace hKp := hKp.ext hE5
 have sz2 := hE5.size
 have hA1 := Ext.refl w5
 refine ewl_nil (onwt_n hKp ?_)
 refine ewt_br rfl ?_ ?_
 refine ewl_bs rfl rfl sl23 zr40 rfl rfl rfl rfl rfl fun b3 w6 hb3 hE6 hs3 hz4 => ?_
 replace hb1 := hb1.ext hE6
 replace hb2 := hb2.ext hE6
 replace hX := hX.trans hE6
 replace hA1 := hA1.trans hE6
 replace hKp := hKp.ext hE6
 have hL : NRow 40 w2 w6 (some ⟨b3, 0, none⟩) 1 1 nd1.one := NRow.lit hb3 (by omega) (NdS.imp hkx1 (fun b hb hlt => ⟨⟨by omega, by omega⟩, hA1.block b hlt⟩))
 have hA2 := Ext.refl w6
 refine ewl_nil (onwt_n hKp ?_)
 refine ewt_br rfl ?_ ewt_none
 refine ewl_retp rfl (en_call ent15 rfl rfl) (each_spec _ 53 ent53 (armM (n + 1) (expM (n + 1))) (okT n) U _ _ _ r (hK.rest.ext hX) hall (by omega) (fun w1 hE1 t1 q1 a9 n9 c9 hk9 hp9 => arm_spec n ihx w1 (hG.ext (hX.trans hE1)) U t1 q1 a9 n9 c9 hk9 hp9)) ?_ (fun c wp hc => And.intro rfl (let ⟨e, he, hc1, hc2⟩ := hc; ⟨e, by first | (simp [formM, SP.need, hn1, hnd1, he]; done) | (simp [formM, SP.need, hn1, hnd1, Fo.len, he]; done), hc1, hX.trans hc2⟩))
 rintro _ w7 ⟨nds, ra_nds, rc_nds, hnds, rfl, hN, hE7⟩
 replace hb1 := hb1.ext hE7
 replace hb2 := hb2.ext hE7
 replace hb3 := hb3.ext hE7
 replace hX := hX.trans hE7
 replace hA1 := hA1.trans hE7
 replace hA2 := hA2.trans hE7
 replace hKp := hKp.ext hE7
 have sz3 := hE7.size
 have hA3 := Ext.refl w7
 refine ewl_nil (onwt_n hKp ?_)
 refine ewt_br rfl ?_ ewt_none
 have hL1 := (hL.ext hA2)
 have hasl := eachM_len hnds
 have hge : 0 < nds.len := by have := of_decide_eq_true (show decide ((2 : Int) ≤ ((r.len + 1 : Nat) : Int)) = true from hn1); omega
 obtain ⟨xs, hrow, hxs⟩ := hL1.ex
 obtain ⟨b7, l7, ys, rfl, hb7, hy1, hy2, hy3⟩ := hN.rowBlk hge
 have hy4 := NdC.imp (U' := fun b => w6.heap.size ≤ b ∧ b < w7.heap.size) (fun b hb hlt => ⟨⟨hb.1, hlt⟩, hA3.block b hlt⟩) _ _ hy3
 refine ewl_app rfl ap23 rfl rfl rfl rfl hrow (hb7.ext hA3) hy1 hy2 (NdC.one _ _ hy3 hy2) hge (by omega) (fun ra2 rc2 w8 hr3 hG1 => ?_) (by omega)
 have hN2 := NRow.join hrow hxs rfl hL1.new hy4 (fun b hb => ⟨by omega, fun e => absurd (Option.some.inj e) (by show b ≠ b3; omega)⟩) (by omega) hr3 hG1
 replace hb1 := hb1.grow hG1 (fun e => by have := hL.new _ e.symm; omega)
 replace hb2 := hb2.grow hG1 (fun e => by have := hL.new _ e.symm; omega)
 replace hX := hX.grow hG1 (fun b hb => by have := hL.new b hb; omega)
 replace hKp := hKp.grow hG1 (by simp only [List.mem_cons, List.not_mem_nil, or_false]; intro c hc e; have := hL.new c e.symm; omega)
 have sz4 := hG1.size
 have hA4 := Ext.refl w8
 refine ewl_nil (onwt_n hKp ?_)
 refine ewt_br rfl ?_ ewt_none
 refine ewl_ret rfl (en_call ent27 rfl rfl) (node_spec _ ⟨_, _, _, _, _⟩ _ _ _ _ _ _) ?_
 rintro _ w9 ⟨rfl, hE8⟩
 replace hb1 := hb1.ext hE8
 replace hb2 := hb2.ext hE8
 replace hX := hX.trans hE8
 replace hA4 := hA4.trans hE8
 replace hKp := hKp.ext hE8
 have sz5 := hE8.size
 refine ewl_nil (onwt_n hKp ?_)
 refine ewt_br rfl ?_ ewt_none
 refine ewl_store rfl rfl rfl ti40 rfl hb2 rfl rfl fun w10 hb4 hC1 => ?_
 replace hb1 := hb1.chg hC1 (by omega)
 replace hX := hX.chg hC1 (by omega)
 replace hN2 := (hN2.ext hA4).chg hC1 (by omega)
 clear hA4
 replace hKp := hKp.chg hC1 (by simp only [List.mem_cons, List.not_mem_nil, or_false]; omega)
 have sz6 := hC1.size
 have hA5 := Ext.refl w10
 refine ewl_nil (onwt_n hKp ?_)
 refine ewt_fin ?_
 refine thn_n ?_
 refine ewp_ret ?_
 refine blk_r ?_
 refine thn_r ?_
 refine fn_r (resv rfl (rv_cella rfl ti40 hb4 rfl)) ?_
 exact ⟨node t 14 [] (nd1.cons nds), by simp [formM, SP.need, node, hn1, hnd1, hnds], ⟨_, _, _, rfl, ((hN2.ext hA5).nds).mono (fun b hb => by omega)⟩, hX⟩
 refine ewt_br rfl ?_ ?_
 refine ewl_retp rfl (en_call ent15 rfl rfl) (each_spec _ 53 ent53 (armM (n + 1) (expM (n + 1))) (okT n) U _ _ _ r (hK.rest.ext hX) hall (by omega) (fun w1 hE1 t1 q1 a9 n9 c9 hk9 hp9 => arm_spec n ihx w1 (hG.ext (hX.trans hE1)) U t1 q1 a9 n9 c9 hk9 hp9)) ?_ (fun c wp hc => And.intro rfl (let ⟨e, he, hc1, hc2⟩ := hc; ⟨e, by first | (simp [formM, SP.need, hn1, hnd1, he]; done) | (simp [formM, SP.need, hn1, hnd1, Fo.len, he]; done), hc1, hX.trans hc2⟩))
 rintro _ w11 ⟨nds, ra_nds, rc_nds, hnds, rfl, hN, hE9⟩
 replace hb1 := hb1.ext hE9
 replace hb2 := hb2.ext hE9
 replace hX := hX.trans hE9
 replace hA1 := hA1.trans hE9
 replace hKp := hKp.ext hE9
 have sz7 := hE9.size
 have hA6 := Ext.refl w11
 refine ewl_nil (onwt_n hKp ?_)
 refine ewt_br rfl ?_ ewt_none
 refine ewl_bs rfl rfl sl23 zr40 rfl rfl rfl rfl rfl fun b4 w12 hb5 hE10 hs4 hz5 => ?_
 replace hb1 := hb1.ext hE10
 replace hb2 := hb2.ext hE10
 replace hX := hX.trans hE10
 replace hA1 := hA1.trans hE10
 replace hA6 := hA6.trans hE10
 replace hKp := hKp.ext hE10
 have hL : NRow 40 w2 w12 (some ⟨b4, 0, none⟩) 1 1 nd1.one := NRow.lit hb5 (by omega) (NdS.imp hkx1 (fun b hb hlt => ⟨⟨by omega, by omega⟩, hA1.block b hlt⟩))
 have hA7 := Ext.refl w12
 refine ewl_nil (onwt_n hKp ?_)
 refine ewt_br rfl ?_ ewt_none
 have hL1 := (hL.ext hA7)
 have hasl := eachM_len hnds
 have hge : 0 < nds.len := by have := of_decide_eq_true (show decide ((2 : Int) ≤ ((r.len + 1 : Nat) : Int)) = true from hn1); omega
 obtain ⟨xs, hrow, hxs⟩ := hL1.ex
 obtain ⟨b7, l7, ys, rfl, hb7, hy1, hy2, hy3⟩ := hN.rowBlk hge
 have hy4 := NdC.imp (U' := fun b => w5.heap.size ≤ b ∧ b < w11.heap.size) (fun b hb hlt => ⟨⟨hb.1, hlt⟩, hA6.block b hlt⟩) _ _ hy3
 refine ewl_app rfl ap23 rfl rfl rfl rfl hrow (hb7.ext hA6) hy1 hy2 (NdC.one _ _ hy3 hy2) hge (by omega) (fun ra2 rc2 w13 hr4 hG2 => ?_) (by omega)
 have hN2 := NRow.join hrow hxs rfl hL1.new hy4 (fun b hb => ⟨by omega, fun e => absurd (Option.some.inj e) (by show b ≠ b4; omega)⟩) (by omega) hr4 hG2
 replace hb1 := hb1.grow hG2 (fun e => by have := hL.new _ e.symm; omega)
 replace hb2 := hb2.grow hG2 (fun e => by have := hL.new _ e.symm; omega)
 replace hX := hX.grow hG2 (fun b hb => by have := hL.new b hb; omega)
 replace hKp := hKp.grow hG2 (by simp only [List.mem_cons, List.not_mem_nil, or_false]; intro c hc e; have := hL.new c e.symm; omega)
 have sz8 := hG2.size
 have hA8 := Ext.refl w13
 refine ewl_nil (onwt_n hKp ?_)
 refine ewt_br rfl ?_ ewt_none
 refine ewl_ret rfl (en_call ent27 rfl rfl) (node_spec _ ⟨_, _, _, _, _⟩ _ _ _ _ _ _) ?_
 rintro _ w14 ⟨rfl, hE11⟩
 replace hb1 := hb1.ext hE11
 replace hb2 := hb2.ext hE11
 replace hX := hX.trans hE11
 replace hA8 := hA8.trans hE11
 replace hKp := hKp.ext hE11
 have sz9 := hE11.size
 refine ewl_nil (onwt_n hKp ?_)
 refine ewt_br rfl ?_ ewt_none
 refine ewl_store rfl rfl rfl ti40 rfl hb2 rfl rfl fun w15 hb6 hC2 => ?_
 replace hb1 := hb1.chg hC2 (by omega)
 replace hX := hX.chg hC2 (by omega)
 replace hN2 := (hN2.ext hA8).chg hC2 (by omega)
 clear hA8
 replace hKp := hKp.chg hC2 (by simp only [List.mem_cons, List.not_mem_nil, or_false]; omega)
 have sz10 := hC2.size
 have hA9 := Ext.refl w15
 refine ewl_nil (onwt_n hKp ?_)
 refine ewt_fin ?_
 refine thn_n ?_
 refine ewp_ret ?_
 refine blk_r ?_
 refine thn_r ?_
 refine fn_r (resv rfl (rv_cella rfl ti40 hb6 rfl)) ?_
 exact ⟨node t 14 [] (nd1.cons nds), by simp [formM, SP.need, node, hn1, hnd1, hnds], ⟨_, _, _, rfl, ((hN2.ext hA9).nds).mono (fun b hb => by omega)⟩, hX⟩
 exact ewt_none
theorem form_try (n : Nat) (ihx : NSpec 31 (expM (n + 1)) n) (w : World) (hG : Gl w) (t : Tok) (kv : Value) (U : Nat → Prop) (ka : Option Addr) (kc : Nat) (kn : Nat) (e0 : Tok) (k0 r : Fo) (hK : FoS U w ka kn kc (.cons e0 k0 r)) (hp0 : okT n e0 k0) (hall : r.all (okT n)) (hlen : r.len ≤ 99999) :
   RetP Tryz.prog 41 #[.agg #[.int .i64 t.k, .int .i64 t.ln, .int .i64 t.co, .int .i64 t.nm, S t.tx, kv], S [116, 114, 121], .slice ka kn kc] w (fun v w' => ∃ nd, formM (n + 1) (expM (n + 1)) t [116, 114, 121] (Fo.cons e0 k0 r) = .ok nd ∧ NV w w' v nd ∧ Ext w w') (fun c w' => ∃ e, formM (n + 1) (expM (n + 1)) t [116, 114, 121] (Fo.cons e0 k0 r) = .error e ∧ c = trb 45 e ∧ Ext w w') := by
 obtain ⟨b, off, cells, T, a0, n0, c0, l1, hUb, rfl, hb, hd, hk0, hr1⟩ := hK.head
 have hblt := hb.lt
 obtain rfl : kn = r.len + 1 := hK.1
 have hX := Ext.refl w
 refine enterP Tryz.func41 rfl rfl rfl ?_
 refine ewp_seq ?_
 refine ewp_reg ?_
 refine ewl_box rfl rfl rfl fun b1 w1 hb1 hE1 hs1 hz1 => ?_
 replace hX := hX.trans hE1
 refine ewl_alloc rfl zr40 fun b2 w2 hb2 hE2 hs2 hz2 => ?_
 replace hb1 := hb1.ext hE2
 replace hX := hX.trans hE2
 refine ewl_nil ?_
 refine thn_n ?_
 refine ewp_seq ?_
 refine ewp_reg ?_
 refine ewl_run rfl (rn_move rfl) ?_
 refine ewl_run rfl (rn_len rfl sl47) ?_
 refine ewl_run rfl (rn_assign rfl) ?_
 refine ewl_nil ?_
 refine thn_n ?_
 refine ewp_seq ?_
 refine ewp_seq ?_
 refine ewp_reg ?_
 refine ewl_run rfl (rn_move rfl) ?_
 refine ewl_nil ?_
 refine thn_n ?_
 refine ewp_block ?_
 refine ewp_seq ?_
 refine ewp_reg ?_
 refine ewl_run rfl (rn_eqS rfl rfl) ?_
 refine ewl_run rfl (rn_assign rfl) ?_
 refine ewl_nil ?_
 refine thn_n ?_
 refine ewp_iff rfl rfl ?_
 refine ewp_seq ?_
 refine ewp_reg ?_
 refine ewl_run rfl (rn_eqS rfl rfl) ?_
 refine ewl_run rfl (rn_assign rfl) ?_
 refine ewl_nil ?_
 refine thn_n ?_
 refine ewp_iff rfl rfl ?_
 refine ewp_seq ?_
 refine ewp_reg ?_
 refine ewl_run rfl (rn_eqS rfl rfl) ?_
 refine ewl_run rfl (rn_assign rfl) ?_
 refine ewl_nil ?_
 refine thn_n ?_
 refine ewp_iff rfl rfl ?_
 refine ewp_seq ?_
 refine ewp_reg ?_
 refine ewl_run rfl (rn_eqS rfl rfl) ?_
 refine ewl_run rfl (rn_assign rfl) ?_
 refine ewl_nil ?_
 refine thn_n ?_
 refine ewp_iff rfl rfl ?_
 refine ewp_seq ?_
 refine ewp_reg ?_
 refine ewl_run rfl (rn_eqS rfl rfl) ?_
 refine ewl_run rfl (rn_assign rfl) ?_
 refine ewl_nil ?_
 refine thn_n ?_
 refine ewp_iff rfl rfl ?_
 refine ewp_seq ?_
 refine ewp_reg ?_
 refine ewl_run rfl (rn_eqS rfl rfl) ?_
 refine ewl_run rfl (rn_assign rfl) ?_
 refine ewl_nil ?_
 refine thn_n ?_
 refine ewp_iff rfl rfl ?_
 refine ewp_seq ?_
 refine ewp_seq ?_
 refine ewp_reg ?_
 refine ewl_run rfl (rn_eqS rfl rfl) ?_
 refine ewl_run rfl (rn_assign rfl) ?_
 refine ewl_nil ?_
 refine thn_n ?_
 refine ewp_iff rfl rfl ?_
 refine ewp_reg ?_
 refine ewl_run rfl (rn_eqS rfl rfl) ?_
 refine ewl_run rfl (rn_assign rfl) ?_
 refine ewl_nil ?_
 refine thn_n ?_
 refine ewp_ift rfl rfl ?_
 refine ewp_seq ?_
 refine ewp_reg ?_
 refine ewl_run rfl (rn_loada rfl ti61 hb1 rfl) ?_
 refine ewl_run rfl (rn_move rfl) ?_
 refine ewl_run rfl (rn_geI rfl rfl) ?_
 refine ewl_retp rfl (en_call ent22 rfl rfl) (need_spec _ ⟨_, _, _, _, _⟩ _ _) ?_ (fun c wp hc => And.intro rfl (⟨(t.ln, t.co), by first | (have hq : decide ((2 : Int) ≤ ((Fo.cons e0 k0 r).len : Int)) = false := hc.1; simp [formM, SP.need, hq]; done) | (exfalso; have hq := hc.1; simp [Fo.len] at hq <;> omega), hc.2.1, hX.trans hc.2.2⟩))
 rintro _ w3 ⟨hn1, rfl, hE3⟩
 replace hb1 := hb1.ext hE3
 replace hb2 := hb2.ext hE3
 replace hX := hX.trans hE3
 have sz1 := hE3.size
 replace hn1 : decide ((2 : Int) ≤ ((Fo.cons e0 k0 r).len : Int)) = true := hn1
 refine ewl_nil ?_
 refine thn_n ?_
 refine ewp_seq ?_
 refine ewp_reg ?_
 refine ewl_run rfl (rn_assign rfl) ?_
 refine ewl_nil ?_
 refine thn_n ?_
 refine ewp_seq ?_
 refine ewp_seq ?_
 refine ewp_reg ?_
 refine ewl_run rfl (rn_move rfl) ?_
 refine ewl_run rfl (rn_eqS rfl rfl) ?_
 refine ewl_nil ?_
 refine thn_n ?_
 refine ewp_ift rfl rfl ?_
 refine ewp_reg ?_
 refine ewl_run rfl (rn_assign rfl) ?_
 refine ewl_nil ?_
 refine thn_n ?_
 refine ewp_seq ?_
 have hr1 := (hb.ext hX)
 have hr2 := hb1
 refine ewp_drawt mixed (Keeps w3 [b, b1]) (.rd 0 (.rd 1 (.rd 2 (.rd 3 (.rd 4 (.rd 7 (.rd 8 (.br 5 (.br 6 (.br 9 (.br 10 (.br 11 (.br 12 .fin .fin) .fin) .fin) .fin) (.br 9 (.br 6 (.br 10 (.br 11 (.br 12 .fin .fin) .fin) .fin) .fin) .fin)) .fin)))))))) (by kernel_rfl) (by kernel_rfl) (by kernel_rfl) fun w4 hE4 hz3 => ?_
 have hKp : Keeps w3 [b, b1] w4 := Keeps.cons hr1 hE4 (Keeps.cons hr2 hE4 (Keeps.nil _ _))
 refine ⟨hKp, ?_⟩
 replace hb1 := hb1.ext hE4
 replace hb2 := hb2.ext hE4
 replace hX := hX.trans hE4
 refine ewt_rd rfl rfl (fun _ hS => rn_loada rfl ti61 (hr2.keep hS (.tail _ (.head _))) rfl) ?_
 refine ewt_rd rfl rfl (fun _ hS => rn_move rfl) ?_
 refine ewt_rd rfl rfl (fun _ hS => rn_move rfl) ?_
 refine ewt_rd rfl rfl (fun _ hS => rn_ixc (i := 0) rfl rfl sl47 (by omega)) ?_
 refine ewt_rd rfl rfl (fun _ hS => rn_loadad 0 rfl ti61 (hr1.keep hS (.head _)) hd (by omega) rfl) ?_
 refine ewt_rd rfl rfl (fun _ hS => rn_move rfl) ?_
 refine ewt_rd rfl rfl (fun _ hS => rn_rest rfl rfl sl47) ?_
 refine ewt_br rfl ?_ ewt_none
 refine ewl_retp rfl (en_call ent31 rfl rfl) (ihx _ (hG.ext hX) U e0 k0 a0 n0 c0 (hk0.ext hX) hp0) ?_ (fun c wp hc => And.intro rfl (let ⟨e, he, hc1, hc2⟩ := hc; ⟨e, by first | (simp [formM, SP.need, hn1, he]; done) | (simp [formM, SP.need, hn1, Fo.len, he]; done), hc1, hX.trans hc2⟩))
 rintro _ w5 ⟨nd1, hnd1, ⟨xa1, xn1, xc1, rfl, hkx1⟩, hE5⟩
 replace hb1 := hb1.ext hE5
 replace hb2 := hb2.ext hE5
 replace hX := hX.trans hE5
 replace hKp := hKp.ext hE5
 have sz2 := hE5.size
 have hA1 := Ext.refl w5
 refine ewl_nil (onwt_n hKp ?_)
 refine ewt_br rfl ?_ ?_
 refine ewl_bs rfl rfl sl23 zr40 rfl rfl rfl rfl rfl fun b3 w6 hb3 hE6 hs3 hz4 => ?_
 replace hb1 := hb1.ext hE6
 replace hb2 := hb2.ext hE6
 replace hX := hX.trans hE6
 replace hA1 := hA1.trans hE6
 replace hKp := hKp.ext hE6
 have hL : NRow 40 w2 w6 (some ⟨b3, 0, none⟩) 1 1 nd1.one := NRow.lit hb3 (by omega) (NdS.imp hkx1 (fun b hb hlt => ⟨⟨by omega, by omega⟩, hA1.block b hlt⟩))
 have hA2 := Ext.refl w6
 refine ewl_nil (onwt_n hKp ?_)
 refine ewt_br rfl ?_ ewt_none
 refine ewl_retp rfl (en_call ent15 rfl rfl) (each_spec _ 53 ent53 (armM (n + 1) (expM (n + 1))) (okT n) U _ _ _ r (hK.rest.ext hX) hall (by omega) (fun w1 hE1 t1 q1 a9 n9 c9 hk9 hp9 => arm_spec n ihx w1 (hG.ext (hX.trans hE1)) U t1 q1 a9 n9 c9 hk9 hp9)) ?_ (fun c wp hc => And.intro rfl (let ⟨e, he, hc1, hc2⟩ := hc; ⟨e, by first | (simp [formM, SP.need, hn1, hnd1, he]; done) | (simp [formM, SP.need, hn1, hnd1, Fo.len, he]; done), hc1, hX.trans hc2⟩))
 rintro _ w7 ⟨nds, ra_nds, rc_nds, hnds, rfl, hN, hE7⟩
 replace hb1 := hb1.ext hE7
 replace hb2 := hb2.ext hE7
 replace hb3 := hb3.ext hE7
 replace hX := hX.trans hE7
 replace hA1 := hA1.trans hE7
 replace hA2 := hA2.trans hE7
 replace hKp := hKp.ext hE7
 have sz3 := hE7.size
 have hA3 := Ext.refl w7
 refine ewl_nil (onwt_n hKp ?_)
 refine ewt_br rfl ?_ ewt_none
 have hL1 := (hL.ext hA2)
 have hasl := eachM_len hnds
 have hge : 0 < nds.len := by have := of_decide_eq_true (show decide ((2 : Int) ≤ ((r.len + 1 : Nat) : Int)) = true from hn1); omega
 obtain ⟨xs, hrow, hxs⟩ := hL1.ex
 obtain ⟨b7, l7, ys, rfl, hb7, hy1, hy2, hy3⟩ := hN.rowBlk hge
 have hy4 := NdC.imp (U' := fun b => w6.heap.size ≤ b ∧ b < w7.heap.size) (fun b hb hlt => ⟨⟨hb.1, hlt⟩, hA3.block b hlt⟩) _ _ hy3
 refine ewl_app rfl ap23 rfl rfl rfl rfl hrow (hb7.ext hA3) hy1 hy2 (NdC.one _ _ hy3 hy2) hge (by omega) (fun ra2 rc2 w8 hr3 hG1 => ?_) (by omega)
 have hN2 := NRow.join hrow hxs rfl hL1.new hy4 (fun b hb => ⟨by omega, fun e => absurd (Option.some.inj e) (by show b ≠ b3; omega)⟩) (by omega) hr3 hG1
 replace hb1 := hb1.grow hG1 (fun e => by have := hL.new _ e.symm; omega)
 replace hb2 := hb2.grow hG1 (fun e => by have := hL.new _ e.symm; omega)
 replace hX := hX.grow hG1 (fun b hb => by have := hL.new b hb; omega)
 replace hKp := hKp.grow hG1 (by simp only [List.mem_cons, List.not_mem_nil, or_false]; intro c hc e; have := hL.new c e.symm; omega)
 have sz4 := hG1.size
 have hA4 := Ext.refl w8
 refine ewl_nil (onwt_n hKp ?_)
 refine ewt_br rfl ?_ ewt_none
 refine ewl_ret rfl (en_call ent27 rfl rfl) (node_spec _ ⟨_, _, _, _, _⟩ _ _ _ _ _ _) ?_
 rintro _ w9 ⟨rfl, hE8⟩
 replace hb1 := hb1.ext hE8
 replace hb2 := hb2.ext hE8
 replace hX := hX.trans hE8
 replace hA4 := hA4.trans hE8
 replace hKp := hKp.ext hE8
 have sz5 := hE8.size
 refine ewl_nil (onwt_n hKp ?_)
 refine ewt_br rfl ?_ ewt_none
 refine ewl_store rfl rfl rfl ti40 rfl hb2 rfl rfl fun w10 hb4 hC1 => ?_
 replace hb1 := hb1.chg hC1 (by omega)
 replace hX := hX.chg hC1 (by omega)
 replace hN2 := (hN2.ext hA4).chg hC1 (by omega)
 clear hA4
 replace hKp := hKp.chg hC1 (by simp only [List.mem_cons, List.not_mem_nil, or_false]; omega)
 have sz6 := hC1.size
 have hA5 := Ext.refl w10
 refine ewl_nil (onwt_n hKp ?_)
 refine ewt_fin ?_
 refine thn_n ?_
 refine ewp_ret ?_
 refine blk_r ?_
 refine thn_r ?_
 refine fn_r (resv rfl (rv_cella rfl ti40 hb4 rfl)) ?_
 exact ⟨node t 15 [] (nd1.cons nds), by simp [formM, SP.need, node, hn1, hnd1, hnds], ⟨_, _, _, rfl, ((hN2.ext hA5).nds).mono (fun b hb => by omega)⟩, hX⟩
 refine ewt_br rfl ?_ ?_
 refine ewl_retp rfl (en_call ent15 rfl rfl) (each_spec _ 53 ent53 (armM (n + 1) (expM (n + 1))) (okT n) U _ _ _ r (hK.rest.ext hX) hall (by omega) (fun w1 hE1 t1 q1 a9 n9 c9 hk9 hp9 => arm_spec n ihx w1 (hG.ext (hX.trans hE1)) U t1 q1 a9 n9 c9 hk9 hp9)) ?_ (fun c wp hc => And.intro rfl (let ⟨e, he, hc1, hc2⟩ := hc; ⟨e, by first | (simp [formM, SP.need, hn1, hnd1, he]; done) | (simp [formM, SP.need, hn1, hnd1, Fo.len, he]; done), hc1, hX.trans hc2⟩))
 rintro _ w11 ⟨nds, ra_nds, rc_nds, hnds, rfl, hN, hE9⟩
 replace hb1 := hb1.ext hE9
 replace hb2 := hb2.ext hE9
 replace hX := hX.trans hE9
 replace hA1 := hA1.trans hE9
 replace hKp := hKp.ext hE9
 have sz7 := hE9.size
 have hA6 := Ext.refl w11
 refine ewl_nil (onwt_n hKp ?_)
 refine ewt_br rfl ?_ ewt_none
 refine ewl_bs rfl rfl sl23 zr40 rfl rfl rfl rfl rfl fun b4 w12 hb5 hE10 hs4 hz5 => ?_
 replace hb1 := hb1.ext hE10
 replace hb2 := hb2.ext hE10
 replace hX := hX.trans hE10
 replace hA1 := hA1.trans hE10
 replace hA6 := hA6.trans hE10
 replace hKp := hKp.ext hE10
 have hL : NRow 40 w2 w12 (some ⟨b4, 0, none⟩) 1 1 nd1.one := NRow.lit hb5 (by omega) (NdS.imp hkx1 (fun b hb hlt => ⟨⟨by omega, by omega⟩, hA1.block b hlt⟩))
 have hA7 := Ext.refl w12
 refine ewl_nil (onwt_n hKp ?_)
 refine ewt_br rfl ?_ ewt_none
 have hL1 := (hL.ext hA7)
 have hasl := eachM_len hnds
 have hge : 0 < nds.len := by have := of_decide_eq_true (show decide ((2 : Int) ≤ ((r.len + 1 : Nat) : Int)) = true from hn1); omega
 obtain ⟨xs, hrow, hxs⟩ := hL1.ex
 obtain ⟨b7, l7, ys, rfl, hb7, hy1, hy2, hy3⟩ := hN.rowBlk hge
 have hy4 := NdC.imp (U' := fun b => w5.heap.size ≤ b ∧ b < w11.heap.size) (fun b hb hlt => ⟨⟨hb.1, hlt⟩, hA6.block b hlt⟩) _ _ hy3
 refine ewl_app rfl ap23 rfl rfl rfl rfl hrow (hb7.ext hA6) hy1 hy2 (NdC.one _ _ hy3 hy2) hge (by omega) (fun ra2 rc2 w13 hr4 hG2 => ?_) (by omega)
 have hN2 := NRow.join hrow hxs rfl hL1.new hy4 (fun b hb => ⟨by omega, fun e => absurd (Option.some.inj e) (by show b ≠ b4; omega)⟩) (by omega) hr4 hG2
 replace hb1 := hb1.grow hG2 (fun e => by have := hL.new _ e.symm; omega)
 replace hb2 := hb2.grow hG2 (fun e => by have := hL.new _ e.symm; omega)
 replace hX := hX.grow hG2 (fun b hb => by have := hL.new b hb; omega)
 replace hKp := hKp.grow hG2 (by simp only [List.mem_cons, List.not_mem_nil, or_false]; intro c hc e; have := hL.new c e.symm; omega)
 have sz8 := hG2.size
 have hA8 := Ext.refl w13
 refine ewl_nil (onwt_n hKp ?_)
 refine ewt_br rfl ?_ ewt_none
 refine ewl_ret rfl (en_call ent27 rfl rfl) (node_spec _ ⟨_, _, _, _, _⟩ _ _ _ _ _ _) ?_
 rintro _ w14 ⟨rfl, hE11⟩
 replace hb1 := hb1.ext hE11
 replace hb2 := hb2.ext hE11
 replace hX := hX.trans hE11
 replace hA8 := hA8.trans hE11
 replace hKp := hKp.ext hE11
 have sz9 := hE11.size
 refine ewl_nil (onwt_n hKp ?_)
 refine ewt_br rfl ?_ ewt_none
 refine ewl_store rfl rfl rfl ti40 rfl hb2 rfl rfl fun w15 hb6 hC2 => ?_
 replace hb1 := hb1.chg hC2 (by omega)
 replace hX := hX.chg hC2 (by omega)
 replace hN2 := (hN2.ext hA8).chg hC2 (by omega)
 clear hA8
 replace hKp := hKp.chg hC2 (by simp only [List.mem_cons, List.not_mem_nil, or_false]; omega)
 have sz10 := hC2.size
 have hA9 := Ext.refl w15
 refine ewl_nil (onwt_n hKp ?_)
 refine ewt_fin ?_
 refine thn_n ?_
 refine ewp_ret ?_
 refine blk_r ?_
 refine thn_r ?_
 refine fn_r (resv rfl (rv_cella rfl ti40 hb6 rfl)) ?_
 exact ⟨node t 15 [] (nd1.cons nds), by simp [formM, SP.need, node, hn1, hnd1, hnds], ⟨_, _, _, rfl, ((hN2.ext hA9).nds).mono (fun b hb => by omega)⟩, hX⟩
 exact ewt_none
theorem form_case_nil (n : Nat) (ihx : NSpec 31 (expM (n + 1)) n) (w : World) (hG : Gl w) (t : Tok) (kv : Value) (U : Nat → Prop) (ka : Option Addr) (kc : Nat) :
   RetP Tryz.prog 41 #[.agg #[.int .i64 t.k, .int .i64 t.ln, .int .i64 t.co, .int .i64 t.nm, S t.tx, kv], S [99, 97, 115, 101], .slice ka 0 kc] w (fun v w' => ∃ nd, formM (n + 1) (expM (n + 1)) t [99, 97, 115, 101] Fo.nil = .ok nd ∧ NV w w' v nd ∧ Ext w w') (fun c w' => ∃ e, formM (n + 1) (expM (n + 1)) t [99, 97, 115, 101] Fo.nil = .error e ∧ c = trb 45 e ∧ Ext w w') := by
 have hX := Ext.refl w
 refine enterP Tryz.func41 rfl rfl rfl ?_
 refine ewp_seq ?_
 refine ewp_reg ?_
 refine ewl_box rfl rfl rfl fun b1 w1 hb1 hE1 hs1 hz1 => ?_
 replace hX := hX.trans hE1
 refine ewl_alloc rfl zr40 fun b2 w2 hb2 hE2 hs2 hz2 => ?_
 replace hb1 := hb1.ext hE2
 replace hX := hX.trans hE2
 refine ewl_nil ?_
 refine thn_n ?_
 refine ewp_seq ?_
 refine ewp_reg ?_
 refine ewl_run rfl (rn_move rfl) ?_
 refine ewl_run rfl (rn_len rfl sl47) ?_
 refine ewl_run rfl (rn_assign rfl) ?_
 refine ewl_nil ?_
 refine thn_n ?_
 refine ewp_seq ?_
 refine ewp_seq ?_
 refine ewp_reg ?_
 refine ewl_run rfl (rn_move rfl) ?_
 refine ewl_nil ?_
 refine thn_n ?_
 refine ewp_block ?_
 refine ewp_seq ?_
 refine ewp_reg ?_
 refine ewl_run rfl (rn_eqS rfl rfl) ?_
 refine ewl_run rfl (rn_assign rfl) ?_
 refine ewl_nil ?_
 refine thn_n ?_
 refine ewp_iff rfl rfl ?_
 refine ewp_seq ?_
 refine ewp_reg ?_
 refine ewl_run rfl (rn_eqS rfl rfl) ?_
 refine ewl_run rfl (rn_assign rfl) ?_
 refine ewl_nil ?_
 refine thn_n ?_
 refine ewp_iff rfl rfl ?_
 refine ewp_seq ?_
 refine ewp_reg ?_
 refine ewl_run rfl (rn_eqS rfl rfl) ?_
 refine ewl_run rfl (rn_assign rfl) ?_
 refine ewl_nil ?_
 refine thn_n ?_
 refine ewp_iff rfl rfl ?_
 refine ewp_seq ?_
 refine ewp_reg ?_
 refine ewl_run rfl (rn_eqS rfl rfl) ?_
 refine ewl_run rfl (rn_assign rfl) ?_
 refine ewl_nil ?_
 refine thn_n ?_
 refine ewp_iff rfl rfl ?_
 refine ewp_seq ?_
 refine ewp_reg ?_
 refine ewl_run rfl (rn_eqS rfl rfl) ?_
 refine ewl_run rfl (rn_assign rfl) ?_
 refine ewl_nil ?_
 refine thn_n ?_
 refine ewp_iff rfl rfl ?_
 refine ewp_seq ?_
 refine ewp_reg ?_
 refine ewl_run rfl (rn_eqS rfl rfl) ?_
 refine ewl_run rfl (rn_assign rfl) ?_
 refine ewl_nil ?_
 refine thn_n ?_
 refine ewp_iff rfl rfl ?_
 refine ewp_seq ?_
 refine ewp_seq ?_
 refine ewp_reg ?_
 refine ewl_run rfl (rn_eqS rfl rfl) ?_
 refine ewl_run rfl (rn_assign rfl) ?_
 refine ewl_nil ?_
 refine thn_n ?_
 refine ewp_ift rfl rfl ?_
 refine ewp_skip ?_
 refine thn_n ?_
 refine ewp_ift rfl rfl ?_
 refine ewp_seq ?_
 refine ewp_reg ?_
 refine ewl_run rfl (rn_loada rfl ti61 hb1 rfl) ?_
 refine ewl_run rfl (rn_move rfl) ?_
 refine ewl_run rfl (rn_geI rfl rfl) ?_
 refine ewl_retp rfl (en_call ent22 rfl rfl) (need_spec _ ⟨_, _, _, _, _⟩ _ _) ?_ (fun c wp hc => And.intro rfl (⟨(t.ln, t.co), by first | (simp [formM, SP.need, Fo.len, hc.1]; done) | (exfalso; have hq := hc.1; simp [Fo.len] at hq <;> omega), hc.2.1, hX.trans hc.2.2⟩))
 rintro _ w3 ⟨hn1, rfl, hE3⟩
 cases hn1
theorem form_try_nil (n : Nat) (ihx : NSpec 31 (expM (n + 1)) n) (w : World) (hG : Gl w) (t : Tok) (kv : Value) (U : Nat → Prop) (ka : Option Addr) (kc : Nat) :
   RetP Tryz.prog 41 #[.agg #[.int .i64 t.k, .int .i64 t.ln, .int .i64 t.co, .int .i64 t.nm, S t.tx, kv], S [116, 114, 121], .slice ka 0 kc] w (fun v w' => ∃ nd, formM (n + 1) (expM (n + 1)) t [116, 114, 121] Fo.nil = .ok nd ∧ NV w w' v nd ∧ Ext w w') (fun c w' => ∃ e, formM (n + 1) (expM (n + 1)) t [116, 114, 121] Fo.nil = .error e ∧ c = trb 45 e ∧ Ext w w') := by
 have hX := Ext.refl w
 refine enterP Tryz.func41 rfl rfl rfl ?_
 refine ewp_seq ?_
 refine ewp_reg ?_
 refine ewl_box rfl rfl rfl fun b1 w1 hb1 hE1 hs1 hz1 => ?_
 replace hX := hX.trans hE1
 refine ewl_alloc rfl zr40 fun b2 w2 hb2 hE2 hs2 hz2 => ?_
 replace hb1 := hb1.ext hE2
 replace hX := hX.trans hE2
 refine ewl_nil ?_
 refine thn_n ?_
 refine ewp_seq ?_
 refine ewp_reg ?_
 refine ewl_run rfl (rn_move rfl) ?_
 refine ewl_run rfl (rn_len rfl sl47) ?_
 refine ewl_run rfl (rn_assign rfl) ?_
 refine ewl_nil ?_
 refine thn_n ?_
 refine ewp_seq ?_
 refine ewp_seq ?_
 refine ewp_reg ?_
 refine ewl_run rfl (rn_move rfl) ?_
 refine ewl_nil ?_
 refine thn_n ?_
 refine ewp_block ?_
 refine ewp_seq ?_
 refine ewp_reg ?_
 refine ewl_run rfl (rn_eqS rfl rfl) ?_
 refine ewl_run rfl (rn_assign rfl) ?_
 refine ewl_nil ?_
 refine thn_n ?_
 refine ewp_iff rfl rfl ?_
 refine ewp_seq ?_
 refine ewp_reg ?_
 refine ewl_run rfl (rn_eqS rfl rfl) ?_
 refine ewl_run rfl (rn_assign rfl) ?_
 refine ewl_nil ?_
 refine thn_n ?_
 refine ewp_iff rfl rfl ?_
 refine ewp_seq ?_
 refine ewp_reg ?_
 refine ewl_run rfl (rn_eqS rfl rfl) ?_
 refine ewl_run rfl (rn_assign rfl) ?_
 refine ewl_nil ?_
 refine thn_n ?_
 refine ewp_iff rfl rfl ?_
 refine ewp_seq ?_
 refine ewp_reg ?_
 refine ewl_run rfl (rn_eqS rfl rfl) ?_
 refine ewl_run rfl (rn_assign rfl) ?_
 refine ewl_nil ?_
 refine thn_n ?_
 refine ewp_iff rfl rfl ?_
 refine ewp_seq ?_
 refine ewp_reg ?_
 refine ewl_run rfl (rn_eqS rfl rfl) ?_
 refine ewl_run rfl (rn_assign rfl) ?_
 refine ewl_nil ?_
 refine thn_n ?_
 refine ewp_iff rfl rfl ?_
 refine ewp_seq ?_
 refine ewp_reg ?_
 refine ewl_run rfl (rn_eqS rfl rfl) ?_
 refine ewl_run rfl (rn_assign rfl) ?_
 refine ewl_nil ?_
 refine thn_n ?_
 refine ewp_iff rfl rfl ?_
 refine ewp_seq ?_
 refine ewp_seq ?_
 refine ewp_reg ?_
 refine ewl_run rfl (rn_eqS rfl rfl) ?_
 refine ewl_run rfl (rn_assign rfl) ?_
 refine ewl_nil ?_
 refine thn_n ?_
 refine ewp_iff rfl rfl ?_
 refine ewp_reg ?_
 refine ewl_run rfl (rn_eqS rfl rfl) ?_
 refine ewl_run rfl (rn_assign rfl) ?_
 refine ewl_nil ?_
 refine thn_n ?_
 refine ewp_ift rfl rfl ?_
 refine ewp_seq ?_
 refine ewp_reg ?_
 refine ewl_run rfl (rn_loada rfl ti61 hb1 rfl) ?_
 refine ewl_run rfl (rn_move rfl) ?_
 refine ewl_run rfl (rn_geI rfl rfl) ?_
 refine ewl_retp rfl (en_call ent22 rfl rfl) (need_spec _ ⟨_, _, _, _, _⟩ _ _) ?_ (fun c wp hc => And.intro rfl (⟨(t.ln, t.co), by first | (simp [formM, SP.need, Fo.len, hc.1]; done) | (exfalso; have hq := hc.1; simp [Fo.len] at hq <;> omega), hc.2.1, hX.trans hc.2.2⟩))
 rintro _ w3 ⟨hn1, rfl, hE3⟩
 cases hn1
end Go.Proofs.YthjdnhnbgjgbkaaGreatDoor
namespace Go.Proofs.YthjdnhnbgjgbkaaGreatDoor
open Go.SW Go.SP Go.RowKit
theorem form_spec (n : Nat) (ihx : NSpec 31 (expM (n + 1)) n) (w : World) (hG : Gl w) (t : Tok) (kv : Value) (U : Nat → Prop) (wd : List UInt8) (ka : Option Addr) (kn kc : Nat) (l : Fo) (hK : FoS U w ka kn kc l) (hall : l.all (okT n)) (hlen : l.len ≤ 100000) :
   RetP Tryz.prog 41 #[.agg #[.int .i64 t.k, .int .i64 t.ln, .int .i64 t.co, .int .i64 t.nm, S t.tx, kv], S wd, .slice ka kn kc] w (fun v w' => ∃ nd, formM (n + 1) (expM (n + 1)) t wd l = .ok nd ∧ NV w w' v nd ∧ Ext w w') (fun c w' => ∃ e, formM (n + 1) (expM (n + 1)) t wd l = .error e ∧ c = trb 45 e ∧ Ext w w') := by
 by_cases w_fn : (wd == [102, 110]) = true
 · obtain rfl : wd = [102, 110] := by simpa using w_fn
   match l, hK, hall, hlen with
   | .nil, hK, hall, hlen => exact form_bad_fn n ihx w hG t kv U _ _ _ _ hK (by simp [Fo.len, hK.1] <;> omega) (by simp [formM])
   | .cons e0 k0 .nil, hK, hall, hlen => exact form_bad_fn n ihx w hG t kv U _ _ _ _ hK (by simp [Fo.len, hK.1] <;> omega) (by simp [formM])
   | .cons e0 k0 (.cons e1 k1 .nil), hK, hall, hlen => exact by obtain rfl : kn = 2 := hK.1; exact form_fn n ihx w hG t kv U _ _ e0 e1 k0 k1 hK hall.1 hall.2.1 hall.1.2.2.1
   | .cons e0 k0 (.cons e1 k1 (.cons e2 k2 r)), hK, hall, hlen => exact form_bad_fn n ihx w hG t kv U _ _ _ _ hK (by simp [Fo.len, hK.1] <;> omega) (by simp [formM])
 replace w_fn : (wd == [102, 110]) = false := by simpa using w_fn
 by_cases w_let : (wd == [108, 101, 116]) = true
 · obtain rfl : wd = [108, 101, 116] := by simpa using w_let
   match l, hK, hall, hlen with
   | .nil, hK, hall, hlen => exact form_bad_let n ihx w hG t kv U _ _ _ _ hK (by simp [Fo.len, hK.1] <;> omega) (by simp [formM])
   | .cons e0 k0 .nil, hK, hall, hlen => exact form_bad_let n ihx w hG t kv U _ _ _ _ hK (by simp [Fo.len, hK.1] <;> omega) (by simp [formM])
   | .cons e0 k0 (.cons e1 k1 .nil), hK, hall, hlen => exact form_bad_let n ihx w hG t kv U _ _ _ _ hK (by simp [Fo.len, hK.1] <;> omega) (by simp [formM])
   | .cons e0 k0 (.cons e1 k1 (.cons e2 k2 .nil)), hK, hall, hlen => exact by obtain rfl : kn = 3 := hK.1; exact form_let n ihx w hG t kv U _ _ e0 e1 e2 k0 k1 k2 hK hall.1 hall.2.1 hall.2.2.1
   | .cons e0 k0 (.cons e1 k1 (.cons e2 k2 (.cons e3 k3 r))), hK, hall, hlen => exact form_bad_let n ihx w hG t kv U _ _ _ _ hK (by simp [Fo.len, hK.1] <;> omega) (by simp [formM])
 replace w_let : (wd == [108, 101, 116]) = false := by simpa using w_let
 by_cases w_rec : (wd == [114, 101, 99]) = true
 · obtain rfl : wd = [114, 101, 99] := by simpa using w_rec
   match l, hK, hall, hlen with
   | .nil, hK, hall, hlen => exact form_bad_rec n ihx w hG t kv U _ _ _ _ hK (by simp [Fo.len, hK.1] <;> omega) (by simp [formM])
   | .cons e0 k0 .nil, hK, hall, hlen => exact form_bad_rec n ihx w hG t kv U _ _ _ _ hK (by simp [Fo.len, hK.1] <;> omega) (by simp [formM])
   | .cons e0 k0 (.cons e1 k1 .nil), hK, hall, hlen => exact form_bad_rec n ihx w hG t kv U _ _ _ _ hK (by simp [Fo.len, hK.1] <;> omega) (by simp [formM])
   | .cons e0 k0 (.cons e1 k1 (.cons e2 k2 .nil)), hK, hall, hlen => exact by obtain rfl : kn = 3 := hK.1; exact form_rec n ihx w hG t kv U _ _ e0 e1 e2 k0 k1 k2 hK hall.1 hall.2.1 hall.2.2.1
   | .cons e0 k0 (.cons e1 k1 (.cons e2 k2 (.cons e3 k3 r))), hK, hall, hlen => exact form_bad_rec n ihx w hG t kv U _ _ _ _ hK (by simp [Fo.len, hK.1] <;> omega) (by simp [formM])
 replace w_rec : (wd == [114, 101, 99]) = false := by simpa using w_rec
 by_cases w_if : (wd == [105, 102]) = true
 · obtain rfl : wd = [105, 102] := by simpa using w_if
   exact form_if n ihx w hG t kv U ka kc kn l hK hall hlen
 replace w_if : (wd == [105, 102]) = false := by simpa using w_if
 by_cases w_seq : (wd == [115, 101, 113]) = true
 · obtain rfl : wd = [115, 101, 113] := by simpa using w_seq
   exact form_seq n ihx w hG t kv U ka kc kn l hK hall hlen
 replace w_seq : (wd == [115, 101, 113]) = false := by simpa using w_seq
 by_cases w_tuple : (wd == [116, 117, 112, 108, 101]) = true
 · obtain rfl : wd = [116, 117, 112, 108, 101] := by simpa using w_tuple
   exact form_tuple n ihx w hG t kv U ka kc kn l hK hall hlen
 replace w_tuple : (wd == [116, 117, 112, 108, 101]) = false := by simpa using w_tuple
 by_cases w_case : (wd == [99, 97, 115, 101]) = true
 · obtain rfl : wd = [99, 97, 115, 101] := by simpa using w_case
   match l, hK, hall, hlen with
   | .nil, hK, hall, hlen => obtain rfl : kn = 0 := hK.1; exact form_case_nil n ihx w hG t kv U ka kc
   | .cons e0 k0 r, hK, hall, hlen => exact form_case n ihx w hG t kv U ka kc kn e0 k0 r hK hall.1 hall.2 (by simp only [Fo.len] at hlen; omega)
 replace w_case : (wd == [99, 97, 115, 101]) = false := by simpa using w_case
 by_cases w_try : (wd == [116, 114, 121]) = true
 · obtain rfl : wd = [116, 114, 121] := by simpa using w_try
   match l, hK, hall, hlen with
   | .nil, hK, hall, hlen => obtain rfl : kn = 0 := hK.1; exact form_try_nil n ihx w hG t kv U ka kc
   | .cons e0 k0 r, hK, hall, hlen => exact form_try n ihx w hG t kv U ka kc kn e0 k0 r hK hall.1 hall.2 (by simp only [Fo.len] at hlen; omega)
 replace w_try : (wd == [116, 114, 121]) = false := by simpa using w_try
 by_cases w_raise : (wd == [114, 97, 105, 115, 101]) = true
 · obtain rfl : wd = [114, 97, 105, 115, 101] := by simpa using w_raise
   match l, hK, hall, hlen with
   | .nil, hK, hall, hlen => exact form_bad_raise n ihx w hG t kv U _ _ _ _ hK (by simp [Fo.len, hK.1] <;> omega) (by simp [formM])
   | .cons e0 k0 .nil, hK, hall, hlen => exact by obtain rfl : kn = 1 := hK.1; exact form_raise n ihx w hG t kv U _ _ e0 k0 hK hall.1
   | .cons e0 k0 (.cons e1 k1 r), hK, hall, hlen => exact form_bad_raise n ihx w hG t kv U _ _ _ _ hK (by simp [Fo.len, hK.1] <;> omega) (by simp [formM])
 replace w_raise : (wd == [114, 97, 105, 115, 101]) = false := by simpa using w_raise
 by_cases w_transact : (wd == [116, 114, 97, 110, 115, 97, 99, 116]) = true
 · obtain rfl : wd = [116, 114, 97, 110, 115, 97, 99, 116] := by simpa using w_transact
   match l, hK, hall, hlen with
   | .nil, hK, hall, hlen => exact form_bad_transact n ihx w hG t kv U _ _ _ _ hK (by simp [Fo.len, hK.1] <;> omega) (by simp [formM])
   | .cons e0 k0 .nil, hK, hall, hlen => exact by obtain rfl : kn = 1 := hK.1; exact form_transact n ihx w hG t kv U _ _ e0 k0 hK hall.1
   | .cons e0 k0 (.cons e1 k1 r), hK, hall, hlen => exact form_bad_transact n ihx w hG t kv U _ _ _ _ hK (by simp [Fo.len, hK.1] <;> omega) (by simp [formM])
 replace w_transact : (wd == [116, 114, 97, 110, 115, 97, 99, 116]) = false := by simpa using w_transact
 exact form_other n ihx w hG t kv U ka kc wd kn l w_fn w_let w_rec w_if w_seq w_tuple w_case w_try w_raise w_transact
theorem kept_spec (w : World) (hG : Gl w) (tx : List UInt8) : Ret Tryz.prog 38 #[S keptB, S ([32] ++ tx ++ [32])] w fun v w' => v = .bool (keptM tx) ∧ Ext w w' := contains_spec w hG _ _ (by decide)
theorem exp_nil (w : World) (hG : Gl w) (t : Tok) (ka : Option Addr) (kc n : Nat) (hok : okT 0 t .nil) :
   RetP Tryz.prog 31 #[.agg #[.int .i64 t.k, .int .i64 t.ln, .int .i64 t.co, .int .i64 t.nm, S t.tx, .slice ka 0 kc]] w (fun v w' => ∃ nd, (expM (n + 1)) t Fo.nil = .ok nd ∧ NV w w' v nd ∧ Ext w w') (fun c w' => ∃ e, (expM (n + 1)) t Fo.nil = .error e ∧ c = trb 45 e ∧ Ext w w') := by
 have hX := Ext.refl w
 refine enterP Tryz.func31 rfl rfl rfl ?_
 refine ewp_seq ?_
 refine ewp_reg ?_
 refine ewl_box rfl rfl rfl fun b1 w1 hb1 hE1 hs1 hz1 => ?_
 replace hX := hX.trans hE1
 refine ewl_alloc rfl zr40 fun b2 w2 hb2 hE2 hs2 hz2 => ?_
 replace hb1 := hb1.ext hE2
 replace hX := hX.trans hE2
 refine ewl_nil ?_
 refine thn_n ?_
 refine ewp_seq ?_
 refine ewp_seq ?_
 refine ewp_reg ?_
 refine ewl_run rfl (rn_fa rfl fl61_0) ?_
 refine ewl_run rfl (rn_fa rfl fl59_0) ?_
 refine ewl_run rfl (rn_load rfl ti3 hb1 rfl) ?_
 refine ewl_nil ?_
 refine thn_n ?_
 refine ewp_block ?_
 refine ewp_seq ?_
 refine ewp_reg ?_
 refine ewl_run rfl (rn_eqI rfl rfl) ?_
 refine ewl_run rfl (rn_assign rfl) ?_
 refine ewl_nil ?_
 refine thn_n ?_
 refine ewp_if rfl (fun h1 => ?_) (fun h1 => ?_)
 refine ewp_seq ?_
 refine ewp_reg ?_
 refine ewl_run rfl (rn_fa rfl fl61_0) ?_
 refine ewl_run rfl (rn_fa rfl fl59_1) ?_
 refine ewl_run rfl (rn_loada rfl ti25 hb1 rfl) ?_
 refine ewl_run rfl (rn_fa rfl fl61_0) ?_
 refine ewl_run rfl (rn_fa rfl fl59_2) ?_
 refine ewl_run rfl (rn_load rfl ti3 hb1 rfl) ?_
 refine ewl_run rfl (rn_build rfl pl40 zr40 rfl) ?_
 refine ewl_store rfl rfl rfl ti40 rfl hb2 rfl rfl fun w3 hb3 hC1 => ?_
 replace hb1 := hb1.chg hC1 (by omega)
 replace hX := hX.chg hC1 (by omega)
 have sz1 := hC1.size
 refine ewl_nil ?_
 refine thn_n ?_
 refine ewp_ret ?_
 refine blk_r ?_
 refine thn_r ?_
 refine fn_r (resv rfl (rv_cella rfl ti40 hb3 rfl)) ?_
 first | exact ⟨⟨1, t.ln, t.co, [], t.nm, .nil⟩, by rw [expM]; simp [SP.need, node, h1]; done, ⟨_, _, _, rfl, NdS.nil _ _ _ _⟩, hX⟩ | exact ⟨node t 2 t.tx .nil, by rw [expM]; simp [SP.need, node, h1]; done, ⟨_, _, _, rfl, NdS.nil _ _ _ _⟩, hX⟩ | exact ⟨node t 3 t.tx .nil, by rw [expM]; simp [SP.need, node, h1]; done, ⟨_, _, _, rfl, NdS.nil _ _ _ _⟩, hX⟩ | exact ⟨node t 6 t.tx .nil, by rw [expM]; simp [SP.need, node, h1]; done, ⟨_, _, _, rfl, NdS.nil _ _ _ _⟩, hX⟩ | exact ⟨node t 5 t.tx .nil, by rw [expM]; simp [SP.need, node, h1]; done, ⟨_, _, _, rfl, NdS.nil _ _ _ _⟩, hX⟩ | exact ⟨node t 4 [] .nil, by rw [expM]; simp [SP.need, node, h1]; done, ⟨_, _, _, rfl, NdS.nil _ _ _ _⟩, hX⟩
 refine ewp_seq ?_
 refine ewp_reg ?_
 refine ewl_run rfl (rn_eqI rfl rfl) ?_
 refine ewl_run rfl (rn_assign rfl) ?_
 refine ewl_nil ?_
 refine thn_n ?_
 refine ewp_if rfl (fun h2 => ?_) (fun h2 => ?_)
 refine ewp_seq ?_
 refine ewp_reg ?_
 refine ewl_run rfl (rn_loada rfl ti61 hb1 rfl) ?_
 refine ewl_run rfl (rn_fa rfl fl61_0) ?_
 refine ewl_run rfl (rn_fa rfl fl59_3) ?_
 refine ewl_run rfl (rn_load rfl ti9 hb1 rfl) ?_
 refine ewl_ret rfl (en_call ent27 rfl rfl) (node_spec _ ⟨_, _, _, _, _⟩ _ _ _ _ _ _) ?_
 rintro _ w4 ⟨rfl, hE3⟩
 replace hb1 := hb1.ext hE3
 replace hb2 := hb2.ext hE3
 replace hX := hX.trans hE3
 have sz2 := hE3.size
 refine ewl_store rfl rfl rfl ti40 rfl hb2 rfl rfl fun w5 hb4 hC2 => ?_
 replace hb1 := hb1.chg hC2 (by omega)
 replace hX := hX.chg hC2 (by omega)
 have sz3 := hC2.size
 refine ewl_nil ?_
 refine thn_n ?_
 refine ewp_ret ?_
 refine blk_r ?_
 refine thn_r ?_
 refine fn_r (resv rfl (rv_cella rfl ti40 hb4 rfl)) ?_
 first | exact ⟨⟨1, t.ln, t.co, [], t.nm, .nil⟩, by rw [expM]; simp [SP.need, node, h1, h2]; done, ⟨_, _, _, rfl, NdS.nil _ _ _ _⟩, hX⟩ | exact ⟨node t 2 t.tx .nil, by rw [expM]; simp [SP.need, node, h1, h2]; done, ⟨_, _, _, rfl, NdS.nil _ _ _ _⟩, hX⟩ | exact ⟨node t 3 t.tx .nil, by rw [expM]; simp [SP.need, node, h1, h2]; done, ⟨_, _, _, rfl, NdS.nil _ _ _ _⟩, hX⟩ | exact ⟨node t 6 t.tx .nil, by rw [expM]; simp [SP.need, node, h1, h2]; done, ⟨_, _, _, rfl, NdS.nil _ _ _ _⟩, hX⟩ | exact ⟨node t 5 t.tx .nil, by rw [expM]; simp [SP.need, node, h1, h2]; done, ⟨_, _, _, rfl, NdS.nil _ _ _ _⟩, hX⟩ | exact ⟨node t 4 [] .nil, by rw [expM]; simp [SP.need, node, h1, h2]; done, ⟨_, _, _, rfl, NdS.nil _ _ _ _⟩, hX⟩
 refine ewp_seq ?_
 refine ewp_reg ?_
 refine ewl_run rfl (rn_eqI rfl rfl) ?_
 refine ewl_run rfl (rn_assign rfl) ?_
 refine ewl_nil ?_
 refine thn_n ?_
 refine ewp_if rfl (fun h3 => ?_) (fun h3 => ?_)
 refine ewp_seq ?_
 refine ewp_reg ?_
 refine ewl_run rfl (rn_loada rfl ti61 hb1 rfl) ?_
 refine ewl_run rfl (rn_fa rfl fl61_0) ?_
 refine ewl_run rfl (rn_fa rfl fl59_3) ?_
 refine ewl_run rfl (rn_load rfl ti9 hb1 rfl) ?_
 refine ewl_ret rfl (en_call ent27 rfl rfl) (node_spec _ ⟨_, _, _, _, _⟩ _ _ _ _ _ _) ?_
 rintro _ w6 ⟨rfl, hE4⟩
 replace hb1 := hb1.ext hE4
 replace hb2 := hb2.ext hE4
 replace hX := hX.trans hE4
 have sz4 := hE4.size
 refine ewl_store rfl rfl rfl ti40 rfl hb2 rfl rfl fun w7 hb5 hC3 => ?_
 replace hb1 := hb1.chg hC3 (by omega)
 replace hX := hX.chg hC3 (by omega)
 have sz5 := hC3.size
 refine ewl_nil ?_
 refine thn_n ?_
 refine ewp_ret ?_
 refine blk_r ?_
 refine thn_r ?_
 refine fn_r (resv rfl (rv_cella rfl ti40 hb5 rfl)) ?_
 first | exact ⟨⟨1, t.ln, t.co, [], t.nm, .nil⟩, by rw [expM]; simp [SP.need, node, h1, h2, h3]; done, ⟨_, _, _, rfl, NdS.nil _ _ _ _⟩, hX⟩ | exact ⟨node t 2 t.tx .nil, by rw [expM]; simp [SP.need, node, h1, h2, h3]; done, ⟨_, _, _, rfl, NdS.nil _ _ _ _⟩, hX⟩ | exact ⟨node t 3 t.tx .nil, by rw [expM]; simp [SP.need, node, h1, h2, h3]; done, ⟨_, _, _, rfl, NdS.nil _ _ _ _⟩, hX⟩ | exact ⟨node t 6 t.tx .nil, by rw [expM]; simp [SP.need, node, h1, h2, h3]; done, ⟨_, _, _, rfl, NdS.nil _ _ _ _⟩, hX⟩ | exact ⟨node t 5 t.tx .nil, by rw [expM]; simp [SP.need, node, h1, h2, h3]; done, ⟨_, _, _, rfl, NdS.nil _ _ _ _⟩, hX⟩ | exact ⟨node t 4 [] .nil, by rw [expM]; simp [SP.need, node, h1, h2, h3]; done, ⟨_, _, _, rfl, NdS.nil _ _ _ _⟩, hX⟩
 refine ewp_seq ?_
 refine ewp_reg ?_
 refine ewl_run rfl (rn_eqI rfl rfl) ?_
 refine ewl_run rfl (rn_assign rfl) ?_
 refine ewl_nil ?_
 refine thn_n ?_
 refine ewp_if rfl (fun h4 => ?_) (fun h4 => ?_)
 refine ewp_seq ?_
 refine ewp_reg ?_
 refine ewl_run rfl (rn_loada rfl ti61 hb1 rfl) ?_
 refine ewl_run rfl (rn_fa rfl fl61_0) ?_
 refine ewl_run rfl (rn_fa rfl fl59_3) ?_
 refine ewl_run rfl (rn_load rfl ti9 hb1 rfl) ?_
 refine ewl_ret rfl (en_call ent27 rfl rfl) (node_spec _ ⟨_, _, _, _, _⟩ _ _ _ _ _ _) ?_
 rintro _ w8 ⟨rfl, hE5⟩
 replace hb1 := hb1.ext hE5
 replace hb2 := hb2.ext hE5
 replace hX := hX.trans hE5
 have sz6 := hE5.size
 refine ewl_store rfl rfl rfl ti40 rfl hb2 rfl rfl fun w9 hb6 hC4 => ?_
 replace hb1 := hb1.chg hC4 (by omega)
 replace hX := hX.chg hC4 (by omega)
 have sz7 := hC4.size
 refine ewl_nil ?_
 refine thn_n ?_
 refine ewp_ret ?_
 refine blk_r ?_
 refine thn_r ?_
 refine fn_r (resv rfl (rv_cella rfl ti40 hb6 rfl)) ?_
 first | exact ⟨⟨1, t.ln, t.co, [], t.nm, .nil⟩, by rw [expM]; simp [SP.need, node, h1, h2, h3, h4]; done, ⟨_, _, _, rfl, NdS.nil _ _ _ _⟩, hX⟩ | exact ⟨node t 2 t.tx .nil, by rw [expM]; simp [SP.need, node, h1, h2, h3, h4]; done, ⟨_, _, _, rfl, NdS.nil _ _ _ _⟩, hX⟩ | exact ⟨node t 3 t.tx .nil, by rw [expM]; simp [SP.need, node, h1, h2, h3, h4]; done, ⟨_, _, _, rfl, NdS.nil _ _ _ _⟩, hX⟩ | exact ⟨node t 6 t.tx .nil, by rw [expM]; simp [SP.need, node, h1, h2, h3, h4]; done, ⟨_, _, _, rfl, NdS.nil _ _ _ _⟩, hX⟩ | exact ⟨node t 5 t.tx .nil, by rw [expM]; simp [SP.need, node, h1, h2, h3, h4]; done, ⟨_, _, _, rfl, NdS.nil _ _ _ _⟩, hX⟩ | exact ⟨node t 4 [] .nil, by rw [expM]; simp [SP.need, node, h1, h2, h3, h4]; done, ⟨_, _, _, rfl, NdS.nil _ _ _ _⟩, hX⟩
 refine ewp_seq ?_
 refine ewp_reg ?_
 refine ewl_run rfl (rn_eqI rfl rfl) ?_
 refine ewl_run rfl (rn_assign rfl) ?_
 refine ewl_nil ?_
 refine thn_n ?_
 refine ewp_if rfl (fun h5 => ?_) (fun h5 => ?_)
 refine ewp_seq ?_
 have hr1 := hb1
 have hr2 := hb2
 refine ewp_draw mixed (Keeps w2 [b1, b2]) [(true, 0), (true, 1), (false, 2), (false, 3)] (by kernel_rfl) (by kernel_rfl) rfl rfl fun w10 hE6 hz3 => ?_
 have hKp : Keeps w2 [b1, b2] w10 := Keeps.cons hr1 hE6 (Keeps.cons hr2 hE6 (Keeps.nil _ _))
 refine ⟨hKp, ?_⟩
 replace hb1 := hb1.ext hE6
 replace hb2 := hb2.ext hE6
 replace hX := hX.trans hE6
 refine ewo_rd rfl (fun _ hS => rn_loada rfl ti61 (hr1.keep hS (.head _)) rfl) ?_
 refine ewo_rd rfl (fun _ hS => rn_loada rfl ti61 (hr1.keep hS (.head _)) rfl) ?_
 refine ewo_sp ?_
 refine ewl_ret rfl (en_call ent29 rfl rfl) (isVar_spec _ (hG.ext hX) ⟨_, _, _, _, _⟩ _ hok.1.1 hok.1.2) ?_
 rintro _ w11 ⟨rfl, hE7⟩
 replace hb1 := hb1.ext hE7
 replace hb2 := hb2.ext hE7
 replace hX := hX.trans hE7
 replace hKp := hKp.ext hE7
 have sz8 := hE7.size
 refine ewl_nil (onw_n hKp ?_)
 refine ewo_sp ?_
 refine ewl_retp rfl (en_call ent22 rfl rfl) (need_spec _ ⟨_, _, _, _, _⟩ _ _) ?_ (fun c wp hc => And.intro rfl (⟨(t.ln, t.co), by first | (rw [expM]; simp [SP.need, h1, h2, h3, h4, h5, hc.1]; done) | (exfalso; have hq := hc.1; simp at hq <;> omega), hc.2.1, hX.trans hc.2.2⟩))
 rintro _ w12 ⟨hn1, rfl, hE8⟩
 replace hb1 := hb1.ext hE8
 replace hb2 := hb2.ext hE8
 replace hX := hX.trans hE8
 replace hKp := hKp.ext hE8
 have sz9 := hE8.size
 refine ewl_nil (onw_n hKp ?_)
 refine ewo_nil ?_
 refine thn_n ?_
 refine ewp_seq ?_
 refine ewp_reg ?_
 refine ewl_run rfl (rn_loada rfl ti61 hb1 rfl) ?_
 refine ewl_run rfl (rn_fa rfl fl61_0) ?_
 refine ewl_run rfl (rn_fa rfl fl59_3) ?_
 refine ewl_run rfl (rn_load rfl ti9 hb1 rfl) ?_
 refine ewl_ret rfl (en_call ent27 rfl rfl) (node_spec _ ⟨_, _, _, _, _⟩ _ _ _ _ _ _) ?_
 rintro _ w13 ⟨rfl, hE9⟩
 replace hb1 := hb1.ext hE9
 replace hb2 := hb2.ext hE9
 replace hX := hX.trans hE9
 have sz10 := hE9.size
 refine ewl_store rfl rfl rfl ti40 rfl hb2 rfl rfl fun w14 hb7 hC5 => ?_
 replace hb1 := hb1.chg hC5 (by omega)
 replace hX := hX.chg hC5 (by omega)
 have sz11 := hC5.size
 refine ewl_nil ?_
 refine thn_n ?_
 refine ewp_ret ?_
 refine blk_r ?_
 refine thn_r ?_
 refine fn_r (resv rfl (rv_cella rfl ti40 hb7 rfl)) ?_
 first | exact ⟨⟨1, t.ln, t.co, [], t.nm, .nil⟩, by rw [expM]; simp [SP.need, node, h1, h2, h3, h4, h5, hn1]; done, ⟨_, _, _, rfl, NdS.nil _ _ _ _⟩, hX⟩ | exact ⟨node t 2 t.tx .nil, by rw [expM]; simp [SP.need, node, h1, h2, h3, h4, h5, hn1]; done, ⟨_, _, _, rfl, NdS.nil _ _ _ _⟩, hX⟩ | exact ⟨node t 3 t.tx .nil, by rw [expM]; simp [SP.need, node, h1, h2, h3, h4, h5, hn1]; done, ⟨_, _, _, rfl, NdS.nil _ _ _ _⟩, hX⟩ | exact ⟨node t 6 t.tx .nil, by rw [expM]; simp [SP.need, node, h1, h2, h3, h4, h5, hn1]; done, ⟨_, _, _, rfl, NdS.nil _ _ _ _⟩, hX⟩ | exact ⟨node t 5 t.tx .nil, by rw [expM]; simp [SP.need, node, h1, h2, h3, h4, h5, hn1]; done, ⟨_, _, _, rfl, NdS.nil _ _ _ _⟩, hX⟩ | exact ⟨node t 4 [] .nil, by rw [expM]; simp [SP.need, node, h1, h2, h3, h4, h5, hn1]; done, ⟨_, _, _, rfl, NdS.nil _ _ _ _⟩, hX⟩
 refine ewp_skip ?_
 refine blk_n ?_
 refine thn_n ?_
 refine ewp_seq ?_
 refine ewp_seq ?_
 refine ewp_reg ?_
 refine ewl_run rfl (rn_fa rfl fl61_1) ?_
 refine ewl_run rfl (rn_load rfl ti47 hb1 rfl) ?_
 refine ewl_run rfl (rn_len rfl sl47) ?_
 refine ewl_run rfl (rn_eqI rfl rfl) ?_
 refine ewl_nil ?_
 refine thn_n ?_
 refine ewp_ift rfl rfl ?_
 refine ewp_seq ?_
 refine ewp_reg ?_
 refine ewl_run rfl (rn_loada rfl ti61 hb1 rfl) ?_
 refine ewl_ret rfl (en_call ent27 rfl rfl) (node_spec _ ⟨_, _, _, _, _⟩ _ _ _ _ _ _) ?_
 rintro _ w15 ⟨rfl, hE10⟩
 replace hb1 := hb1.ext hE10
 replace hb2 := hb2.ext hE10
 replace hX := hX.trans hE10
 have sz12 := hE10.size
 refine ewl_store rfl rfl rfl ti40 rfl hb2 rfl rfl fun w16 hb8 hC6 => ?_
 replace hb1 := hb1.chg hC6 (by omega)
 replace hX := hX.chg hC6 (by omega)
 have sz13 := hC6.size
 refine ewl_nil ?_
 refine thn_n ?_
 refine ewp_ret ?_
 refine thn_r ?_
 refine fn_r (resv rfl (rv_cella rfl ti40 hb8 rfl)) ?_
 first | exact ⟨⟨1, t.ln, t.co, [], t.nm, .nil⟩, by rw [expM]; simp [SP.need, node, h1, h2, h3, h4, h5]; done, ⟨_, _, _, rfl, NdS.nil _ _ _ _⟩, hX⟩ | exact ⟨node t 2 t.tx .nil, by rw [expM]; simp [SP.need, node, h1, h2, h3, h4, h5]; done, ⟨_, _, _, rfl, NdS.nil _ _ _ _⟩, hX⟩ | exact ⟨node t 3 t.tx .nil, by rw [expM]; simp [SP.need, node, h1, h2, h3, h4, h5]; done, ⟨_, _, _, rfl, NdS.nil _ _ _ _⟩, hX⟩ | exact ⟨node t 6 t.tx .nil, by rw [expM]; simp [SP.need, node, h1, h2, h3, h4, h5]; done, ⟨_, _, _, rfl, NdS.nil _ _ _ _⟩, hX⟩ | exact ⟨node t 5 t.tx .nil, by rw [expM]; simp [SP.need, node, h1, h2, h3, h4, h5]; done, ⟨_, _, _, rfl, NdS.nil _ _ _ _⟩, hX⟩ | exact ⟨node t 4 [] .nil, by rw [expM]; simp [SP.need, node, h1, h2, h3, h4, h5]; done, ⟨_, _, _, rfl, NdS.nil _ _ _ _⟩, hX⟩
theorem exp_cons (w : World) (hG : Gl w) (t : Tok) (ka : Option Addr) (kn kc n : Nat) (U : Nat → Prop) (h : Tok) (k r : Fo) (hK : FoS U w ka kn kc (.cons h k r)) (hok : okT (n + 1) t (.cons h k r)) (ih : NSpec 31 (expM (n + 1)) n) :
   RetP Tryz.prog 31 #[.agg #[.int .i64 t.k, .int .i64 t.ln, .int .i64 t.co, .int .i64 t.nm, S t.tx, .slice ka kn kc]] w (fun v w' => ∃ nd, (expM (n + 2)) t (Fo.cons h k r) = .ok nd ∧ NV w w' v nd ∧ Ext w w') (fun c w' => ∃ e, (expM (n + 2)) t (Fo.cons h k r) = .error e ∧ c = trb 45 e ∧ Ext w w') := by
 obtain ⟨b, off, cells, T, ka1, kn1, kc1, l1, hUb, rfl, hb, hd, hk1, hr1⟩ := hK.head
 obtain rfl : kn = r.len + 1 := hK.1
 have hblt := hb.lt
 have hrl : r.len ≤ 99999 := by have := hok.2.2.1; simp only [Fo.len] at this; omega
 have htl := hok.2.1.1.2
 have hX := Ext.refl w
 refine enterP Tryz.func31 rfl rfl rfl ?_
 refine ewp_seq ?_
 refine ewp_reg ?_
 refine ewl_box rfl rfl rfl fun b1 w1 hb1 hE1 hs1 hz1 => ?_
 replace hX := hX.trans hE1
 refine ewl_alloc rfl zr40 fun b2 w2 hb2 hE2 hs2 hz2 => ?_
 replace hb1 := hb1.ext hE2
 replace hX := hX.trans hE2
 refine ewl_nil ?_
 refine thn_n ?_
 refine ewp_seq ?_
 refine ewp_seq ?_
 refine ewp_reg ?_
 refine ewl_run rfl (rn_fa rfl fl61_0) ?_
 refine ewl_run rfl (rn_fa rfl fl59_0) ?_
 refine ewl_run rfl (rn_load rfl ti3 hb1 rfl) ?_
 refine ewl_nil ?_
 refine thn_n ?_
 refine ewp_block ?_
 refine ewp_seq ?_
 refine ewp_reg ?_
 refine ewl_run rfl (rn_eqI rfl rfl) ?_
 refine ewl_run rfl (rn_assign rfl) ?_
 refine ewl_nil ?_
 refine thn_n ?_
 refine ewp_if rfl (fun h1 => ?_) (fun h1 => ?_)
 refine ewp_seq ?_
 refine ewp_reg ?_
 refine ewl_run rfl (rn_fa rfl fl61_0) ?_
 refine ewl_run rfl (rn_fa rfl fl59_1) ?_
 refine ewl_run rfl (rn_loada rfl ti25 hb1 rfl) ?_
 refine ewl_run rfl (rn_fa rfl fl61_0) ?_
 refine ewl_run rfl (rn_fa rfl fl59_2) ?_
 refine ewl_run rfl (rn_load rfl ti3 hb1 rfl) ?_
 refine ewl_run rfl (rn_build rfl pl40 zr40 rfl) ?_
 refine ewl_store rfl rfl rfl ti40 rfl hb2 rfl rfl fun w3 hb3 hC1 => ?_
 replace hb1 := hb1.chg hC1 (by omega)
 replace hX := hX.chg hC1 (by omega)
 have sz1 := hC1.size
 refine ewl_nil ?_
 refine thn_n ?_
 refine ewp_ret ?_
 refine blk_r ?_
 refine thn_r ?_
 refine fn_r (resv rfl (rv_cella rfl ti40 hb3 rfl)) ?_
 first | exact ⟨⟨1, t.ln, t.co, [], t.nm, .nil⟩, by rw [expM]; simp [SP.need, node, h1]; done, ⟨_, _, _, rfl, NdS.nil _ _ _ _⟩, hX⟩ | exact ⟨node t 2 t.tx .nil, by rw [expM]; simp [SP.need, node, h1]; done, ⟨_, _, _, rfl, NdS.nil _ _ _ _⟩, hX⟩ | exact ⟨node t 3 t.tx .nil, by rw [expM]; simp [SP.need, node, h1]; done, ⟨_, _, _, rfl, NdS.nil _ _ _ _⟩, hX⟩ | exact ⟨node t 6 t.tx .nil, by rw [expM]; simp [SP.need, node, h1]; done, ⟨_, _, _, rfl, NdS.nil _ _ _ _⟩, hX⟩ | exact ⟨node t 5 t.tx .nil, by rw [expM]; simp [SP.need, node, h1]; done, ⟨_, _, _, rfl, NdS.nil _ _ _ _⟩, hX⟩ | exact ⟨node t 4 [] .nil, by rw [expM]; simp [SP.need, node, h1]; done, ⟨_, _, _, rfl, NdS.nil _ _ _ _⟩, hX⟩
 refine ewp_seq ?_
 refine ewp_reg ?_
 refine ewl_run rfl (rn_eqI rfl rfl) ?_
 refine ewl_run rfl (rn_assign rfl) ?_
 refine ewl_nil ?_
 refine thn_n ?_
 refine ewp_if rfl (fun h2 => ?_) (fun h2 => ?_)
 refine ewp_seq ?_
 refine ewp_reg ?_
 refine ewl_run rfl (rn_loada rfl ti61 hb1 rfl) ?_
 refine ewl_run rfl (rn_fa rfl fl61_0) ?_
 refine ewl_run rfl (rn_fa rfl fl59_3) ?_
 refine ewl_run rfl (rn_load rfl ti9 hb1 rfl) ?_
 refine ewl_ret rfl (en_call ent27 rfl rfl) (node_spec _ ⟨_, _, _, _, _⟩ _ _ _ _ _ _) ?_
 rintro _ w4 ⟨rfl, hE3⟩
 replace hb1 := hb1.ext hE3
 replace hb2 := hb2.ext hE3
 replace hX := hX.trans hE3
 have sz2 := hE3.size
 refine ewl_store rfl rfl rfl ti40 rfl hb2 rfl rfl fun w5 hb4 hC2 => ?_
 replace hb1 := hb1.chg hC2 (by omega)
 replace hX := hX.chg hC2 (by omega)
 have sz3 := hC2.size
 refine ewl_nil ?_
 refine thn_n ?_
 refine ewp_ret ?_
 refine blk_r ?_
 refine thn_r ?_
 refine fn_r (resv rfl (rv_cella rfl ti40 hb4 rfl)) ?_
 first | exact ⟨⟨1, t.ln, t.co, [], t.nm, .nil⟩, by rw [expM]; simp [SP.need, node, h1, h2]; done, ⟨_, _, _, rfl, NdS.nil _ _ _ _⟩, hX⟩ | exact ⟨node t 2 t.tx .nil, by rw [expM]; simp [SP.need, node, h1, h2]; done, ⟨_, _, _, rfl, NdS.nil _ _ _ _⟩, hX⟩ | exact ⟨node t 3 t.tx .nil, by rw [expM]; simp [SP.need, node, h1, h2]; done, ⟨_, _, _, rfl, NdS.nil _ _ _ _⟩, hX⟩ | exact ⟨node t 6 t.tx .nil, by rw [expM]; simp [SP.need, node, h1, h2]; done, ⟨_, _, _, rfl, NdS.nil _ _ _ _⟩, hX⟩ | exact ⟨node t 5 t.tx .nil, by rw [expM]; simp [SP.need, node, h1, h2]; done, ⟨_, _, _, rfl, NdS.nil _ _ _ _⟩, hX⟩ | exact ⟨node t 4 [] .nil, by rw [expM]; simp [SP.need, node, h1, h2]; done, ⟨_, _, _, rfl, NdS.nil _ _ _ _⟩, hX⟩
 refine ewp_seq ?_
 refine ewp_reg ?_
 refine ewl_run rfl (rn_eqI rfl rfl) ?_
 refine ewl_run rfl (rn_assign rfl) ?_
 refine ewl_nil ?_
 refine thn_n ?_
 refine ewp_if rfl (fun h3 => ?_) (fun h3 => ?_)
 refine ewp_seq ?_
 refine ewp_reg ?_
 refine ewl_run rfl (rn_loada rfl ti61 hb1 rfl) ?_
 refine ewl_run rfl (rn_fa rfl fl61_0) ?_
 refine ewl_run rfl (rn_fa rfl fl59_3) ?_
 refine ewl_run rfl (rn_load rfl ti9 hb1 rfl) ?_
 refine ewl_ret rfl (en_call ent27 rfl rfl) (node_spec _ ⟨_, _, _, _, _⟩ _ _ _ _ _ _) ?_
 rintro _ w6 ⟨rfl, hE4⟩
 replace hb1 := hb1.ext hE4
 replace hb2 := hb2.ext hE4
 replace hX := hX.trans hE4
 have sz4 := hE4.size
 refine ewl_store rfl rfl rfl ti40 rfl hb2 rfl rfl fun w7 hb5 hC3 => ?_
 replace hb1 := hb1.chg hC3 (by omega)
 replace hX := hX.chg hC3 (by omega)
 have sz5 := hC3.size
 refine ewl_nil ?_
 refine thn_n ?_
 refine ewp_ret ?_
 refine blk_r ?_
 refine thn_r ?_
 refine fn_r (resv rfl (rv_cella rfl ti40 hb5 rfl)) ?_
 first | exact ⟨⟨1, t.ln, t.co, [], t.nm, .nil⟩, by rw [expM]; simp [SP.need, node, h1, h2, h3]; done, ⟨_, _, _, rfl, NdS.nil _ _ _ _⟩, hX⟩ | exact ⟨node t 2 t.tx .nil, by rw [expM]; simp [SP.need, node, h1, h2, h3]; done, ⟨_, _, _, rfl, NdS.nil _ _ _ _⟩, hX⟩ | exact ⟨node t 3 t.tx .nil, by rw [expM]; simp [SP.need, node, h1, h2, h3]; done, ⟨_, _, _, rfl, NdS.nil _ _ _ _⟩, hX⟩ | exact ⟨node t 6 t.tx .nil, by rw [expM]; simp [SP.need, node, h1, h2, h3]; done, ⟨_, _, _, rfl, NdS.nil _ _ _ _⟩, hX⟩ | exact ⟨node t 5 t.tx .nil, by rw [expM]; simp [SP.need, node, h1, h2, h3]; done, ⟨_, _, _, rfl, NdS.nil _ _ _ _⟩, hX⟩ | exact ⟨node t 4 [] .nil, by rw [expM]; simp [SP.need, node, h1, h2, h3]; done, ⟨_, _, _, rfl, NdS.nil _ _ _ _⟩, hX⟩
 refine ewp_seq ?_
 refine ewp_reg ?_
 refine ewl_run rfl (rn_eqI rfl rfl) ?_
 refine ewl_run rfl (rn_assign rfl) ?_
 refine ewl_nil ?_
 refine thn_n ?_
 refine ewp_if rfl (fun h4 => ?_) (fun h4 => ?_)
 refine ewp_seq ?_
 refine ewp_reg ?_
 refine ewl_run rfl (rn_loada rfl ti61 hb1 rfl) ?_
 refine ewl_run rfl (rn_fa rfl fl61_0) ?_
 refine ewl_run rfl (rn_fa rfl fl59_3) ?_
 refine ewl_run rfl (rn_load rfl ti9 hb1 rfl) ?_
 refine ewl_ret rfl (en_call ent27 rfl rfl) (node_spec _ ⟨_, _, _, _, _⟩ _ _ _ _ _ _) ?_
 rintro _ w8 ⟨rfl, hE5⟩
 replace hb1 := hb1.ext hE5
 replace hb2 := hb2.ext hE5
 replace hX := hX.trans hE5
 have sz6 := hE5.size
 refine ewl_store rfl rfl rfl ti40 rfl hb2 rfl rfl fun w9 hb6 hC4 => ?_
 replace hb1 := hb1.chg hC4 (by omega)
 replace hX := hX.chg hC4 (by omega)
 have sz7 := hC4.size
 refine ewl_nil ?_
 refine thn_n ?_
 refine ewp_ret ?_
 refine blk_r ?_
 refine thn_r ?_
 refine fn_r (resv rfl (rv_cella rfl ti40 hb6 rfl)) ?_
 first | exact ⟨⟨1, t.ln, t.co, [], t.nm, .nil⟩, by rw [expM]; simp [SP.need, node, h1, h2, h3, h4]; done, ⟨_, _, _, rfl, NdS.nil _ _ _ _⟩, hX⟩ | exact ⟨node t 2 t.tx .nil, by rw [expM]; simp [SP.need, node, h1, h2, h3, h4]; done, ⟨_, _, _, rfl, NdS.nil _ _ _ _⟩, hX⟩ | exact ⟨node t 3 t.tx .nil, by rw [expM]; simp [SP.need, node, h1, h2, h3, h4]; done, ⟨_, _, _, rfl, NdS.nil _ _ _ _⟩, hX⟩ | exact ⟨node t 6 t.tx .nil, by rw [expM]; simp [SP.need, node, h1, h2, h3, h4]; done, ⟨_, _, _, rfl, NdS.nil _ _ _ _⟩, hX⟩ | exact ⟨node t 5 t.tx .nil, by rw [expM]; simp [SP.need, node, h1, h2, h3, h4]; done, ⟨_, _, _, rfl, NdS.nil _ _ _ _⟩, hX⟩ | exact ⟨node t 4 [] .nil, by rw [expM]; simp [SP.need, node, h1, h2, h3, h4]; done, ⟨_, _, _, rfl, NdS.nil _ _ _ _⟩, hX⟩
 refine ewp_seq ?_
 refine ewp_reg ?_
 refine ewl_run rfl (rn_eqI rfl rfl) ?_
 refine ewl_run rfl (rn_assign rfl) ?_
 refine ewl_nil ?_
 refine thn_n ?_
 refine ewp_if rfl (fun h5 => ?_) (fun h5 => ?_)
 refine ewp_seq ?_
 have hr1 := (hb.ext hX)
 have hr2 := hb1
 have hr3 := hb2
 refine ewp_draw mixed (Keeps w2 [b, b1, b2]) [(true, 0), (true, 1), (false, 2), (false, 3)] (by kernel_rfl) (by kernel_rfl) rfl rfl fun w10 hE6 hz3 => ?_
 have hKp : Keeps w2 [b, b1, b2] w10 := Keeps.cons hr1 hE6 (Keeps.cons hr2 hE6 (Keeps.cons hr3 hE6 (Keeps.nil _ _)))
 refine ⟨hKp, ?_⟩
 replace hb1 := hb1.ext hE6
 replace hb2 := hb2.ext hE6
 replace hX := hX.trans hE6
 refine ewo_rd rfl (fun _ hS => rn_loada rfl ti61 (hr2.keep hS (.tail _ (.head _))) rfl) ?_
 refine ewo_rd rfl (fun _ hS => rn_loada rfl ti61 (hr2.keep hS (.tail _ (.head _))) rfl) ?_
 refine ewo_sp ?_
 refine ewl_ret rfl (en_call ent29 rfl rfl) (isVar_spec _ (hG.ext hX) ⟨_, _, _, _, _⟩ _ hok.1.1 hok.1.2) ?_
 rintro _ w11 ⟨rfl, hE7⟩
 replace hb1 := hb1.ext hE7
 replace hb2 := hb2.ext hE7
 replace hX := hX.trans hE7
 replace hKp := hKp.ext hE7
 have sz8 := hE7.size
 refine ewl_nil (onw_n hKp ?_)
 refine ewo_sp ?_
 refine ewl_retp rfl (en_call ent22 rfl rfl) (need_spec _ ⟨_, _, _, _, _⟩ _ _) ?_ (fun c wp hc => And.intro rfl (⟨(t.ln, t.co), by first | (rw [expM]; simp [SP.need, h1, h2, h3, h4, h5, hc.1]; done) | (exfalso; have hq := hc.1; simp at hq <;> omega), hc.2.1, hX.trans hc.2.2⟩))
 rintro _ w12 ⟨hn1, rfl, hE8⟩
 replace hb1 := hb1.ext hE8
 replace hb2 := hb2.ext hE8
 replace hX := hX.trans hE8
 replace hKp := hKp.ext hE8
 have sz9 := hE8.size
 refine ewl_nil (onw_n hKp ?_)
 refine ewo_nil ?_
 refine thn_n ?_
 refine ewp_seq ?_
 refine ewp_reg ?_
 refine ewl_run rfl (rn_loada rfl ti61 hb1 rfl) ?_
 refine ewl_run rfl (rn_fa rfl fl61_0) ?_
 refine ewl_run rfl (rn_fa rfl fl59_3) ?_
 refine ewl_run rfl (rn_load rfl ti9 hb1 rfl) ?_
 refine ewl_ret rfl (en_call ent27 rfl rfl) (node_spec _ ⟨_, _, _, _, _⟩ _ _ _ _ _ _) ?_
 rintro _ w13 ⟨rfl, hE9⟩
 replace hb1 := hb1.ext hE9
 replace hb2 := hb2.ext hE9
 replace hX := hX.trans hE9
 have sz10 := hE9.size
 refine ewl_store rfl rfl rfl ti40 rfl hb2 rfl rfl fun w14 hb7 hC5 => ?_
 replace hb1 := hb1.chg hC5 (by omega)
 replace hX := hX.chg hC5 (by omega)
 have sz11 := hC5.size
 refine ewl_nil ?_
 refine thn_n ?_
 refine ewp_ret ?_
 refine blk_r ?_
 refine thn_r ?_
 refine fn_r (resv rfl (rv_cella rfl ti40 hb7 rfl)) ?_
 first | exact ⟨⟨1, t.ln, t.co, [], t.nm, .nil⟩, by rw [expM]; simp [SP.need, node, h1, h2, h3, h4, h5, hn1]; done, ⟨_, _, _, rfl, NdS.nil _ _ _ _⟩, hX⟩ | exact ⟨node t 2 t.tx .nil, by rw [expM]; simp [SP.need, node, h1, h2, h3, h4, h5, hn1]; done, ⟨_, _, _, rfl, NdS.nil _ _ _ _⟩, hX⟩ | exact ⟨node t 3 t.tx .nil, by rw [expM]; simp [SP.need, node, h1, h2, h3, h4, h5, hn1]; done, ⟨_, _, _, rfl, NdS.nil _ _ _ _⟩, hX⟩ | exact ⟨node t 6 t.tx .nil, by rw [expM]; simp [SP.need, node, h1, h2, h3, h4, h5, hn1]; done, ⟨_, _, _, rfl, NdS.nil _ _ _ _⟩, hX⟩ | exact ⟨node t 5 t.tx .nil, by rw [expM]; simp [SP.need, node, h1, h2, h3, h4, h5, hn1]; done, ⟨_, _, _, rfl, NdS.nil _ _ _ _⟩, hX⟩ | exact ⟨node t 4 [] .nil, by rw [expM]; simp [SP.need, node, h1, h2, h3, h4, h5, hn1]; done, ⟨_, _, _, rfl, NdS.nil _ _ _ _⟩, hX⟩
 refine ewp_skip ?_
 refine blk_n ?_
 refine thn_n ?_
 refine ewp_seq ?_
 refine ewp_seq ?_
 refine ewp_reg ?_
 refine ewl_run rfl (rn_fa rfl fl61_1) ?_
 refine ewl_run rfl (rn_load rfl ti47 hb1 rfl) ?_
 refine ewl_run rfl (rn_len rfl sl47) ?_
 refine ewl_run rfl (rn_eqI rfl rfl) ?_
 refine ewl_nil ?_
 refine thn_n ?_
 refine ewp_if rfl (fun h6 => ?_) (fun h6 => ?_)
 · exfalso
   simp at h6 <;> omega
 refine ewp_skip ?_
 refine thn_n ?_
 refine ewp_seq ?_
 have hr4 := (hb.ext hX)
 have hr5 := hb1
 have hr6 := hb2
 refine ewp_draw mixed (Keeps w2 [b, b1, b2]) [(true, 0), (true, 1), (true, 2), (true, 3), (true, 4), (true, 5), (true, 6), (false, 7), (false, 8), (true, 9)] (by kernel_rfl) (by kernel_rfl) rfl rfl fun w15 hE10 hz4 => ?_
 have hKp : Keeps w2 [b, b1, b2] w15 := Keeps.cons hr4 hE10 (Keeps.cons hr5 hE10 (Keeps.cons hr6 hE10 (Keeps.nil _ _)))
 refine ⟨hKp, ?_⟩
 replace hb1 := hb1.ext hE10
 replace hb2 := hb2.ext hE10
 replace hX := hX.trans hE10
 refine ewo_rd rfl (fun _ hS => rn_fa rfl fl61_1) ?_
 refine ewo_rd rfl (fun _ hS => rn_load rfl ti47 (hr5.keep hS (.tail _ (.head _))) rfl) ?_
 refine ewo_rd rfl (fun _ hS => rn_ixc (i := 0) rfl rfl sl47 (by omega)) ?_
 refine ewo_rd rfl (fun _ hS => rn_loadad 0 rfl ti61 (hr4.keep hS (.head _)) hd (by omega) rfl) ?_
 refine ewo_rd rfl (fun _ hS => rn_fa rfl fl61_1) ?_
 refine ewo_rd rfl (fun _ hS => rn_load rfl ti47 (hr5.keep hS (.tail _ (.head _))) rfl) ?_
 refine ewo_rd rfl (fun _ hS => rn_rest rfl rfl sl47) ?_
 refine ewo_sp ?_
 refine ewl_alloc rfl zr61 fun b3 w16 hb8 hE11 hs3 hz5 => ?_
 replace hb1 := hb1.ext hE11
 replace hb2 := hb2.ext hE11
 replace hX := hX.trans hE11
 replace hKp := hKp.ext hE11
 refine ewl_nil (onw_n hKp ?_)
 refine ewo_sp ?_
 refine ewl_store rfl rfl rfl ti61 rfl hb8 rfl rfl fun w17 hb9 hC6 => ?_
 replace hb1 := hb1.chg hC6 (by omega)
 replace hb2 := hb2.chg hC6 (by omega)
 replace hX := hX.chg hC6 (by omega)
 replace hKp := hKp.chg hC6 (by simp only [List.mem_cons, List.not_mem_nil, or_false]; omega)
 have sz12 := hC6.size
 refine ewl_nil (onw_n hKp ?_)
 refine ewo_rd rfl (fun _ hS => rn_assign rfl) ?_
 refine ewo_nil ?_
 refine thn_n ?_
 refine ewp_seq ?_
 refine ewp_block ?_
 refine ewp_seq ?_
 refine ewp_reg ?_
 refine ewl_run rfl (rn_fa rfl fl61_0) ?_
 refine ewl_run rfl (rn_fa rfl fl59_0) ?_
 refine ewl_run rfl (rn_load rfl ti3 hb9 rfl) ?_
 refine ewl_run rfl (rn_eqI rfl rfl) ?_
 refine ewl_run rfl (rn_assign rfl) ?_
 refine ewl_nil ?_
 refine thn_n ?_
 refine ewp_if rfl (fun h7 => ?_) (fun h7 => ?_)
 refine ewp_seq ?_
 have hr7 := (hb.ext hX)
 have hr8 := hb1
 have hr9 := hb2
 have hr10 := hb9
 refine ewp_draw mixed (Keeps w17 [b, b1, b2, b3]) [(true, 0), (true, 1), (true, 2), (false, 3), (false, 4)] (by kernel_rfl) (by kernel_rfl) rfl rfl fun w18 hE12 hz6 => ?_
 have hKp : Keeps w17 [b, b1, b2, b3] w18 := Keeps.cons hr7 hE12 (Keeps.cons hr8 hE12 (Keeps.cons hr9 hE12 (Keeps.cons hr10 hE12 (Keeps.nil _ _))))
 refine ⟨hKp, ?_⟩
 replace hb1 := hb1.ext hE12
 replace hb2 := hb2.ext hE12
 replace hb9 := hb9.ext hE12
 replace hX := hX.trans hE12
 refine ewo_rd rfl (fun _ hS => rn_loada rfl ti61 (hr8.keep hS (.tail _ (.head _))) rfl) ?_
 refine ewo_rd rfl (fun _ hS => rn_move rfl) ?_
 refine ewo_rd rfl (fun _ hS => rn_len rfl sl47) ?_
 refine ewo_sp ?_
 refine ewl_ret rfl (en_call ent40 rfl rfl) (within_spec _ _ _ _) ?_
 rintro _ w19 ⟨rfl, hE13⟩
 replace hb1 := hb1.ext hE13
 replace hb2 := hb2.ext hE13
 replace hb9 := hb9.ext hE13
 replace hX := hX.trans hE13
 replace hKp := hKp.ext hE13
 have sz13 := hE13.size
 refine ewl_nil (onw_n hKp ?_)
 refine ewo_sp ?_
 refine ewl_retp rfl (en_call ent22 rfl rfl) (need_spec _ ⟨_, _, _, _, _⟩ _ _) ?_ (fun c wp hc => And.intro rfl (⟨(t.ln, t.co), by first | (rw [expM]; simp [SP.need, h1, h2, h3, h4, h5, h6, h7, hc.1]; done) | (exfalso; have hq := hc.1; simp at hq <;> omega), hc.2.1, hX.trans hc.2.2⟩))
 rintro _ w20 ⟨hn2, rfl, hE14⟩
 replace hb1 := hb1.ext hE14
 replace hb2 := hb2.ext hE14
 replace hb9 := hb9.ext hE14
 replace hX := hX.trans hE14
 replace hKp := hKp.ext hE14
 have sz14 := hE14.size
 refine ewl_nil (onw_n hKp ?_)
 refine ewo_nil ?_
 refine thn_n ?_
 refine ewp_seq ?_
 have hr11 := (hb.ext hX)
 have hr12 := hb1
 have hr13 := hb9
 refine ewp_draw mixed (Keeps w20 [b, b1, b3]) [(true, 0), (true, 1), (true, 2), (true, 3), (true, 4), (false, 5), (false, 6), (false, 7)] (by kernel_rfl) (by kernel_rfl) rfl rfl fun w21 hE15 hz7 => ?_
 have hKp : Keeps w20 [b, b1, b3] w21 := Keeps.cons hr11 hE15 (Keeps.cons hr12 hE15 (Keeps.cons hr13 hE15 (Keeps.nil _ _)))
 refine ⟨hKp, ?_⟩
 replace hb1 := hb1.ext hE15
 replace hb2 := hb2.ext hE15
 replace hb9 := hb9.ext hE15
 replace hX := hX.trans hE15
 refine ewo_rd rfl (fun _ hS => rn_loada rfl ti61 (hr12.keep hS (.tail _ (.head _))) rfl) ?_
 refine ewo_rd rfl (fun _ hS => rn_fa rfl fl61_0) ?_
 refine ewo_rd rfl (fun _ hS => rn_fa rfl fl59_3) ?_
 refine ewo_rd rfl (fun _ hS => rn_load rfl ti9 (hr13.keep hS (.tail _ (.tail _ (.head _)))) rfl) ?_
 refine ewo_rd rfl (fun _ hS => rn_move rfl) ?_
 refine ewo_sp ?_
 refine ewl_retp rfl (en_call ent15 rfl rfl) (each_spec _ 31 ent31 (expM (n + 1)) (okT n) U _ _ _ r (hK.rest.ext hX) (okT_kids hok).2 (by omega) (fun w1 hE1 t1 k1 a1 n1 c1 hk1 hp1 => ih w1 (hG.ext (hX.trans hE1)) U t1 k1 a1 n1 c1 hk1 hp1)) ?_ (fun c wp hc => And.intro rfl (let ⟨e, he, hc1, hc2⟩ := hc; ⟨e, by rw [expM]; simp [SP.need, h1, h2, h3, h4, h5, h6, h7, hn2, he], hc1, hX.trans hc2⟩))
 rintro _ w22 ⟨nds, ra_nds, rc_nds, hnds, rfl, hN, hE16⟩
 replace hb1 := hb1.ext hE16
 replace hb2 := hb2.ext hE16
 replace hb9 := hb9.ext hE16
 replace hX := hX.trans hE16
 replace hKp := hKp.ext hE16
 have sz15 := hE16.size
 have hA1 := Ext.refl w22
 refine ewl_nil (onw_n hKp ?_)
 refine ewo_sp ?_
 refine ewl_ret rfl (en_call ent27 rfl rfl) (node_spec _ ⟨_, _, _, _, _⟩ _ _ _ _ _ _) ?_
 rintro _ w23 ⟨rfl, hE17⟩
 replace hb1 := hb1.ext hE17
 replace hb2 := hb2.ext hE17
 replace hb9 := hb9.ext hE17
 replace hX := hX.trans hE17
 replace hA1 := hA1.trans hE17
 replace hKp := hKp.ext hE17
 have sz16 := hE17.size
 refine ewl_nil (onw_n hKp ?_)
 refine ewo_sp ?_
 refine ewl_store rfl rfl rfl ti40 rfl hb2 rfl rfl fun w24 hb10 hC7 => ?_
 replace hb1 := hb1.chg hC7 (by omega)
 replace hb9 := hb9.chg hC7 (by omega)
 replace hX := hX.chg hC7 (by omega)
 replace hN := (hN.ext hA1).chg hC7 (by omega)
 clear hA1
 replace hKp := hKp.chg hC7 (by simp only [List.mem_cons, List.not_mem_nil, or_false]; omega)
 have sz17 := hC7.size
 have hA2 := Ext.refl w24
 refine ewl_nil (onw_n hKp ?_)
 refine ewo_nil ?_
 refine thn_n ?_
 refine ewp_ret ?_
 refine blk_r ?_
 refine thn_r ?_
 refine fn_r (resv rfl (rv_cella rfl ti40 hb10 rfl)) ?_
 first | exact ⟨node t 6 h.tx nds, by rw [expM]; simp [SP.need, node, h1, h2, h3, h4, h5, h6, h7, hn2, hnds], ⟨_, _, _, rfl, ((hN.ext hA2).nds).mono (fun b hb => by omega)⟩, hX⟩ | exact ⟨node t 8 [] nds, by rw [expM]; simp [SP.need, node, h1, h2, h3, h4, h5, h6, h7, hn2, hnds], ⟨_, _, _, rfl, ((hN.ext hA2).nds).mono (fun b hb => by omega)⟩, hX⟩
 refine ewp_seq ?_
 refine ewp_reg ?_
 refine ewl_run rfl (rn_loada rfl ti61 hb9 rfl) ?_
 refine ewl_ret rfl (en_call ent24 rfl rfl) (isName_spec _ ⟨_, _, _, _, _⟩ _) ?_
 rintro _ w25 ⟨rfl, hE18⟩
 replace hb1 := hb1.ext hE18
 replace hb2 := hb2.ext hE18
 replace hb9 := hb9.ext hE18
 replace hX := hX.trans hE18
 have sz18 := hE18.size
 refine ewl_run rfl (rn_move rfl) ?_
 refine ewl_split 82 rfl (fun h8 => ?_) (fun h8 => ?_)
 refine ewl_grd rfl rfl h8 ?_
 refine ewl_run rfl (rn_fa rfl fl61_0) ?_
 refine ewl_grd rfl rfl h8 ?_
 refine ewl_run rfl (rn_fa rfl fl59_3) ?_
 refine ewl_grd rfl rfl h8 ?_
 refine ewl_run rfl (rn_load rfl ti9 hb9 rfl) ?_
 refine ewl_grd rfl rfl h8 ?_
 refine ewl_run rfl (rn_addS rfl rfl (by simp; omega)) ?_
 refine ewl_grd rfl rfl h8 ?_
 refine ewl_run rfl (rn_addS rfl rfl (by simp; omega)) ?_
 refine ewl_grd rfl rfl h8 ?_
 refine ewl_ret rfl (en_call ent38 rfl rfl) (kept_spec _ (hG.ext hX) h.tx) ?_
 rintro _ w26 ⟨rfl, hE19⟩
 replace hb1 := hb1.ext hE19
 replace hb2 := hb2.ext hE19
 replace hb9 := hb9.ext hE19
 replace hX := hX.trans hE19
 have sz19 := hE19.size
 refine ewl_run rfl (rn_pickt rfl h8 rfl) ?_
 refine ewl_run rfl (rn_assign rfl) ?_
 refine ewl_nil ?_
 refine thn_n ?_
 refine ewp_if rfl (fun h9 => ?_) (fun h9 => ?_)
 refine ewp_seq ?_
 refine ewp_reg ?_
 refine ewl_run rfl (rn_loada rfl ti61 hb1 rfl) ?_
 refine ewl_run rfl (rn_fa rfl fl61_0) ?_
 refine ewl_run rfl (rn_fa rfl fl59_3) ?_
 refine ewl_run rfl (rn_load rfl ti9 hb9 rfl) ?_
 refine ewl_run rfl (rn_move rfl) ?_
 refine ewl_retp rfl (en_call ent41 rfl rfl) (form_spec n ih _ (hG.ext hX) t _ U h.tx _ _ _ r (hK.rest.ext hX) (okT_kids hok).2 (by omega)) ?_ (fun c wp hc => And.intro rfl (let ⟨e, he, hc1, hc2⟩ := hc; ⟨e, by rw [expM]; simp [SP.need, h1, h2, h3, h4, h5, h6, h7, h8, h9, he], hc1, hX.trans hc2⟩))
 rintro _ w27 ⟨nd1, hnd1, ⟨xa1, xn1, xc1, rfl, hkx1⟩, hE20⟩
 replace hb1 := hb1.ext hE20
 replace hb2 := hb2.ext hE20
 replace hb9 := hb9.ext hE20
 replace hX := hX.trans hE20
 have sz20 := hE20.size
 have hA3 := Ext.refl w27
 refine ewl_store rfl rfl rfl ti40 rfl hb2 rfl rfl fun w28 hb11 hC8 => ?_
 replace hb1 := hb1.chg hC8 (by omega)
 replace hb9 := hb9.chg hC8 (by omega)
 replace hX := hX.chg hC8 (by omega)
 replace hkx1 := (hkx1.ext hA3).chg hC8 (by omega)
 clear hA3
 have sz21 := hC8.size
 have hA4 := Ext.refl w28
 refine ewl_nil ?_
 refine thn_n ?_
 refine ewp_ret ?_
 refine blk_r ?_
 refine thn_r ?_
 refine fn_r (resv rfl (rv_cella rfl ti40 hb11 rfl)) ?_
 exact ⟨nd1, by rw [expM]; simp [SP.need, h1, h2, h3, h4, h5, h6, h7, h8, h9, hnd1], ⟨_, _, _, rfl, ((hkx1.ext hA4)).mono (fun b hb => by omega)⟩, hX⟩
 refine ewp_skip ?_
 refine blk_n ?_
 refine thn_n ?_
 refine ewp_seq ?_
 have hr14 := (hb.ext hX)
 have hr15 := hb1
 have hr16 := hb2
 have hr17 := hb9
 refine ewp_draw mixed (Keeps w26 [b, b1, b2, b3]) [(true, 0), (true, 1), (true, 2), (false, 3), (false, 4)] (by kernel_rfl) (by kernel_rfl) rfl rfl fun w29 hE21 hz8 => ?_
 have hKp : Keeps w26 [b, b1, b2, b3] w29 := Keeps.cons hr14 hE21 (Keeps.cons hr15 hE21 (Keeps.cons hr16 hE21 (Keeps.cons hr17 hE21 (Keeps.nil _ _))))
 refine ⟨hKp, ?_⟩
 replace hb1 := hb1.ext hE21
 replace hb2 := hb2.ext hE21
 replace hb9 := hb9.ext hE21
 replace hX := hX.trans hE21
 refine ewo_rd rfl (fun _ hS => rn_loada rfl ti61 (hr15.keep hS (.tail _ (.head _))) rfl) ?_
 refine ewo_rd rfl (fun _ hS => rn_move rfl) ?_
 refine ewo_rd rfl (fun _ hS => rn_len rfl sl47) ?_
 refine ewo_sp ?_
 refine ewl_ret rfl (en_call ent40 rfl rfl) (within_spec _ _ _ _) ?_
 rintro _ w30 ⟨rfl, hE22⟩
 replace hb1 := hb1.ext hE22
 replace hb2 := hb2.ext hE22
 replace hb9 := hb9.ext hE22
 replace hX := hX.trans hE22
 replace hKp := hKp.ext hE22
 have sz22 := hE22.size
 refine ewl_nil (onw_n hKp ?_)
 refine ewo_sp ?_
 refine ewl_retp rfl (en_call ent22 rfl rfl) (need_spec _ ⟨_, _, _, _, _⟩ _ _) ?_ (fun c wp hc => And.intro rfl (⟨(t.ln, t.co), by first | (rw [expM]; simp [SP.need, h1, h2, h3, h4, h5, h6, h7, h8, h9, hc.1]; done) | (exfalso; have hq := hc.1; simp at hq <;> omega), hc.2.1, hX.trans hc.2.2⟩))
 rintro _ w31 ⟨hn3, rfl, hE23⟩
 replace hb1 := hb1.ext hE23
 replace hb2 := hb2.ext hE23
 replace hb9 := hb9.ext hE23
 replace hX := hX.trans hE23
 replace hKp := hKp.ext hE23
 have sz23 := hE23.size
 refine ewl_nil (onw_n hKp ?_)
 refine ewo_nil ?_
 refine thn_n ?_
 refine ewp_seq ?_
 have hr18 := (hb.ext hX)
 have hr19 := hb1
 have hr20 := hb9
 refine ewp_draw mixed (Keeps w31 [b, b1, b3]) [(true, 0), (true, 1), (true, 2), (false, 3), (false, 4), (false, 5)] (by kernel_rfl) (by kernel_rfl) rfl rfl fun w32 hE24 hz9 => ?_
 have hKp : Keeps w31 [b, b1, b3] w32 := Keeps.cons hr18 hE24 (Keeps.cons hr19 hE24 (Keeps.cons hr20 hE24 (Keeps.nil _ _)))
 refine ⟨hKp, ?_⟩
 replace hb1 := hb1.ext hE24
 replace hb2 := hb2.ext hE24
 replace hb9 := hb9.ext hE24
 replace hX := hX.trans hE24
 refine ewo_rd rfl (fun _ hS => rn_loada rfl ti61 (hr19.keep hS (.tail _ (.head _))) rfl) ?_
 refine ewo_rd rfl (fun _ hS => rn_fa rfl fl61_1) ?_
 refine ewo_rd rfl (fun _ hS => rn_load rfl ti47 (hr19.keep hS (.tail _ (.head _))) rfl) ?_
 refine ewo_sp ?_
 refine ewl_retp rfl (en_call ent15 rfl rfl) (each_spec _ 31 ent31 (expM (n + 1)) (okT n) U _ _ _ (.cons h k r) (hK.ext hX) (okT_kids hok) (hok.2.2.1) (fun w1 hE1 t1 k1 a1 n1 c1 hk1 hp1 => ih w1 (hG.ext (hX.trans hE1)) U t1 k1 a1 n1 c1 hk1 hp1)) ?_ (fun c wp hc => And.intro rfl (let ⟨e, he, hc1, hc2⟩ := hc; ⟨e, by rw [expM]; simp [SP.need, h1, h2, h3, h4, h5, h6, h7, h8, h9, hn3, he], hc1, hX.trans hc2⟩))
 rintro _ w33 ⟨nds, ra_nds, rc_nds, hnds, rfl, hN, hE25⟩
 replace hb1 := hb1.ext hE25
 replace hb2 := hb2.ext hE25
 replace hb9 := hb9.ext hE25
 replace hX := hX.trans hE25
 replace hKp := hKp.ext hE25
 have sz24 := hE25.size
 have hA5 := Ext.refl w33
 refine ewl_nil (onw_n hKp ?_)
 refine ewo_sp ?_
 refine ewl_ret rfl (en_call ent27 rfl rfl) (node_spec _ ⟨_, _, _, _, _⟩ _ _ _ _ _ _) ?_
 rintro _ w34 ⟨rfl, hE26⟩
 replace hb1 := hb1.ext hE26
 replace hb2 := hb2.ext hE26
 replace hb9 := hb9.ext hE26
 replace hX := hX.trans hE26
 replace hA5 := hA5.trans hE26
 replace hKp := hKp.ext hE26
 have sz25 := hE26.size
 refine ewl_nil (onw_n hKp ?_)
 refine ewo_sp ?_
 refine ewl_store rfl rfl rfl ti40 rfl hb2 rfl rfl fun w35 hb12 hC9 => ?_
 replace hb1 := hb1.chg hC9 (by omega)
 replace hb9 := hb9.chg hC9 (by omega)
 replace hX := hX.chg hC9 (by omega)
 replace hN := (hN.ext hA5).chg hC9 (by omega)
 clear hA5
 replace hKp := hKp.chg hC9 (by simp only [List.mem_cons, List.not_mem_nil, or_false]; omega)
 have sz26 := hC9.size
 have hA6 := Ext.refl w35
 refine ewl_nil (onw_n hKp ?_)
 refine ewo_nil ?_
 refine thn_n ?_
 refine ewp_ret ?_
 refine fn_r (resv rfl (rv_cella rfl ti40 hb12 rfl)) ?_
 first | exact ⟨node t 6 h.tx nds, by rw [expM]; simp [SP.need, node, h1, h2, h3, h4, h5, h6, h7, h8, h9, hn3, hnds], ⟨_, _, _, rfl, ((hN.ext hA6).nds).mono (fun b hb => by omega)⟩, hX⟩ | exact ⟨node t 8 [] nds, by rw [expM]; simp [SP.need, node, h1, h2, h3, h4, h5, h6, h7, h8, h9, hn3, hnds], ⟨_, _, _, rfl, ((hN.ext hA6).nds).mono (fun b hb => by omega)⟩, hX⟩
 refine ewl_off rfl rfl rfl h8 ?_
 refine ewl_off rfl rfl rfl h8 ?_
 refine ewl_off rfl rfl rfl h8 ?_
 refine ewl_off rfl rfl rfl h8 ?_
 refine ewl_off rfl rfl rfl h8 ?_
 refine ewl_off rfl rfl rfl h8 ?_
 refine ewl_run rfl (rn_pickf rfl h8 rfl) ?_
 refine ewl_run rfl (rn_assign rfl) ?_
 refine ewl_nil ?_
 refine thn_n ?_
 refine ewp_iff rfl rfl ?_
 refine ewp_skip ?_
 refine blk_n ?_
 refine thn_n ?_
 refine ewp_seq ?_
 have hr21 := (hb.ext hX)
 have hr22 := hb1
 have hr23 := hb2
 have hr24 := hb9
 refine ewp_draw mixed (Keeps w25 [b, b1, b2, b3]) [(true, 0), (true, 1), (true, 2), (false, 3), (false, 4)] (by kernel_rfl) (by kernel_rfl) rfl rfl fun w36 hE27 hz10 => ?_
 have hKp : Keeps w25 [b, b1, b2, b3] w36 := Keeps.cons hr21 hE27 (Keeps.cons hr22 hE27 (Keeps.cons hr23 hE27 (Keeps.cons hr24 hE27 (Keeps.nil _ _))))
 refine ⟨hKp, ?_⟩
 replace hb1 := hb1.ext hE27
 replace hb2 := hb2.ext hE27
 replace hb9 := hb9.ext hE27
 replace hX := hX.trans hE27
 refine ewo_rd rfl (fun _ hS => rn_loada rfl ti61 (hr22.keep hS (.tail _ (.head _))) rfl) ?_
 refine ewo_rd rfl (fun _ hS => rn_move rfl) ?_
 refine ewo_rd rfl (fun _ hS => rn_len rfl sl47) ?_
 refine ewo_sp ?_
 refine ewl_ret rfl (en_call ent40 rfl rfl) (within_spec _ _ _ _) ?_
 rintro _ w37 ⟨rfl, hE28⟩
 replace hb1 := hb1.ext hE28
 replace hb2 := hb2.ext hE28
 replace hb9 := hb9.ext hE28
 replace hX := hX.trans hE28
 replace hKp := hKp.ext hE28
 have sz27 := hE28.size
 refine ewl_nil (onw_n hKp ?_)
 refine ewo_sp ?_
 refine ewl_retp rfl (en_call ent22 rfl rfl) (need_spec _ ⟨_, _, _, _, _⟩ _ _) ?_ (fun c wp hc => And.intro rfl (⟨(t.ln, t.co), by first | (rw [expM]; simp [SP.need, h1, h2, h3, h4, h5, h6, h7, h8, hc.1]; done) | (exfalso; have hq := hc.1; simp at hq <;> omega), hc.2.1, hX.trans hc.2.2⟩))
 rintro _ w38 ⟨hn4, rfl, hE29⟩
 replace hb1 := hb1.ext hE29
 replace hb2 := hb2.ext hE29
 replace hb9 := hb9.ext hE29
 replace hX := hX.trans hE29
 replace hKp := hKp.ext hE29
 have sz28 := hE29.size
 refine ewl_nil (onw_n hKp ?_)
 refine ewo_nil ?_
 refine thn_n ?_
 refine ewp_seq ?_
 have hr25 := (hb.ext hX)
 have hr26 := hb1
 have hr27 := hb9
 refine ewp_draw mixed (Keeps w38 [b, b1, b3]) [(true, 0), (true, 1), (true, 2), (false, 3), (false, 4), (false, 5)] (by kernel_rfl) (by kernel_rfl) rfl rfl fun w39 hE30 hz11 => ?_
 have hKp : Keeps w38 [b, b1, b3] w39 := Keeps.cons hr25 hE30 (Keeps.cons hr26 hE30 (Keeps.cons hr27 hE30 (Keeps.nil _ _)))
 refine ⟨hKp, ?_⟩
 replace hb1 := hb1.ext hE30
 replace hb2 := hb2.ext hE30
 replace hb9 := hb9.ext hE30
 replace hX := hX.trans hE30
 refine ewo_rd rfl (fun _ hS => rn_loada rfl ti61 (hr26.keep hS (.tail _ (.head _))) rfl) ?_
 refine ewo_rd rfl (fun _ hS => rn_fa rfl fl61_1) ?_
 refine ewo_rd rfl (fun _ hS => rn_load rfl ti47 (hr26.keep hS (.tail _ (.head _))) rfl) ?_
 refine ewo_sp ?_
 refine ewl_retp rfl (en_call ent15 rfl rfl) (each_spec _ 31 ent31 (expM (n + 1)) (okT n) U _ _ _ (.cons h k r) (hK.ext hX) (okT_kids hok) (hok.2.2.1) (fun w1 hE1 t1 k1 a1 n1 c1 hk1 hp1 => ih w1 (hG.ext (hX.trans hE1)) U t1 k1 a1 n1 c1 hk1 hp1)) ?_ (fun c wp hc => And.intro rfl (let ⟨e, he, hc1, hc2⟩ := hc; ⟨e, by rw [expM]; simp [SP.need, h1, h2, h3, h4, h5, h6, h7, h8, hn4, he], hc1, hX.trans hc2⟩))
 rintro _ w40 ⟨nds, ra_nds, rc_nds, hnds, rfl, hN, hE31⟩
 replace hb1 := hb1.ext hE31
 replace hb2 := hb2.ext hE31
 replace hb9 := hb9.ext hE31
 replace hX := hX.trans hE31
 replace hKp := hKp.ext hE31
 have sz29 := hE31.size
 have hA7 := Ext.refl w40
 refine ewl_nil (onw_n hKp ?_)
 refine ewo_sp ?_
 refine ewl_ret rfl (en_call ent27 rfl rfl) (node_spec _ ⟨_, _, _, _, _⟩ _ _ _ _ _ _) ?_
 rintro _ w41 ⟨rfl, hE32⟩
 replace hb1 := hb1.ext hE32
 replace hb2 := hb2.ext hE32
 replace hb9 := hb9.ext hE32
 replace hX := hX.trans hE32
 replace hA7 := hA7.trans hE32
 replace hKp := hKp.ext hE32
 have sz30 := hE32.size
 refine ewl_nil (onw_n hKp ?_)
 refine ewo_sp ?_
 refine ewl_store rfl rfl rfl ti40 rfl hb2 rfl rfl fun w42 hb13 hC10 => ?_
 replace hb1 := hb1.chg hC10 (by omega)
 replace hb9 := hb9.chg hC10 (by omega)
 replace hX := hX.chg hC10 (by omega)
 replace hN := (hN.ext hA7).chg hC10 (by omega)
 clear hA7
 replace hKp := hKp.chg hC10 (by simp only [List.mem_cons, List.not_mem_nil, or_false]; omega)
 have sz31 := hC10.size
 have hA8 := Ext.refl w42
 refine ewl_nil (onw_n hKp ?_)
 refine ewo_nil ?_
 refine thn_n ?_
 refine ewp_ret ?_
 refine fn_r (resv rfl (rv_cella rfl ti40 hb13 rfl)) ?_
 first | exact ⟨node t 6 h.tx nds, by rw [expM]; simp [SP.need, node, h1, h2, h3, h4, h5, h6, h7, h8, hn4, hnds], ⟨_, _, _, rfl, ((hN.ext hA8).nds).mono (fun b hb => by omega)⟩, hX⟩ | exact ⟨node t 8 [] nds, by rw [expM]; simp [SP.need, node, h1, h2, h3, h4, h5, h6, h7, h8, hn4, hnds], ⟨_, _, _, rfl, ((hN.ext hA8).nds).mono (fun b hb => by omega)⟩, hX⟩
theorem exp_spec : ∀ n, NSpec 31 (expM (n + 1)) n
 | 0 => fun w hG U t k ka kn kc hK hok => by
   cases k with
   | nil => obtain rfl : kn = 0 := hK.1; exact exp_nil w hG t ka kc 0 hok
   | cons h k r => exact absurd hok.2.2.2 (by simp [Fo.deep])
 | n + 1 => fun w hG U t k ka kn kc hK hok => by
   cases k with
   | nil => obtain rfl : kn = 0 := hK.1; exact exp_nil w hG t ka kc (n + 1) ⟨hok.1, hok.2.1, hok.2.2.1, rfl⟩
   | cons h k r => exact exp_cons w hG t ka kn kc n U h k r hK hok (exp_spec n)
end Go.Proofs.YthjdnhnbgjgbkaaGreatDoor
