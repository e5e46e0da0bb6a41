/- What the laws on parse rest on: contracts of the functions of parse and lex, for every world in which the listed package variables hold what the text lays. Part 4. -/
import Derived.Test.YthjdnhnbgjgbkaaGreatDoorGa3
set_option linter.unusedVariables false
set_option linter.unusedSimpArgs false
namespace Go.Proofs.YthjdnhnbgjgbkaaGreatDoor
open Go.SW Go.SP Go.RowKit
theorem dcon_nil (w : World) (hG : Gl w) (t : Tok) (ka : Option Addr) (kc n : Nat) :
   RetP Tryz.prog 28 #[.agg #[.int .i64 t.k, .int .i64 t.ln, .int .i64 t.co, .int .i64 t.nm, S t.tx, .slice ka 0 kc]] w (fun v w' => ∃ nd, (dconM (n + 1)) t Fo.nil = .ok nd ∧ NV w w' v nd ∧ Ext w w') (fun c w' => ∃ e, (dconM (n + 1)) t Fo.nil = .error e ∧ c = trb 45 e ∧ Ext w w') := by
 have hX := Ext.refl w
 refine enterP Tryz.func28 rfl rfl rfl ?_
 refine ewp_seq ?_
 refine ewp_reg ?_
 refine ewl_box rfl rfl rfl fun b1 w1 hb1 hE1 hs1 hz1 => ?_
 replace hX := hX.trans hE1
 refine ewl_alloc rfl zr40 fun b2 w2 hb2 hE2 hs2 hz2 => ?_
 replace hb1 := hb1.ext hE2
 replace hX := hX.trans hE2
 refine ewl_nil ?_
 refine thn_n ?_
 refine ewp_seq ?_
 have hr1 := hb1
 have hr2 := hb2
 refine ewp_draw mixed (Keeps w2 [b1, b2]) [(true, 0), (true, 1), (false, 2), (true, 3), (true, 4), (true, 5), (true, 6), (true, 7), (true, 8), (true, 9), (true, 10), (true, 11), (true, 12), (true, 13), (true, 14), (true, 15), (true, 16), (true, 17), (true, 18), (true, 19), (true, 20), (true, 21), (true, 22), (true, 23), (false, 24)] (by kernel_rfl) (by kernel_rfl) rfl rfl fun w3 hE3 hz3 => ?_
 have hKp : Keeps w2 [b1, b2] w3 := Keeps.cons hr1 hE3 (Keeps.cons hr2 hE3 (Keeps.nil _ _))
 refine ⟨hKp, ?_⟩
 replace hb1 := hb1.ext hE3
 replace hb2 := hb2.ext hE3
 replace hX := hX.trans hE3
 refine ewo_rd rfl (fun _ hS => rn_loada rfl ti61 (hr1.keep hS (.head _)) rfl) ?_
 refine ewo_rd rfl (fun _ hS => rn_loada rfl ti61 (hr1.keep hS (.head _)) rfl) ?_
 refine ewo_sp ?_
 refine ewl_ret rfl (en_call ent23 rfl rfl) (isList_spec _ ⟨_, _, _, _, _⟩ _) ?_
 rintro _ w4 ⟨rfl, hE4⟩
 replace hb1 := hb1.ext hE4
 replace hb2 := hb2.ext hE4
 replace hX := hX.trans hE4
 replace hKp := hKp.ext hE4
 have sz1 := hE4.size
 refine ewl_nil (onw_n hKp ?_)
 refine ewo_rd rfl (fun _ hS => rn_move rfl) ?_
 refine ewo_split 6 rfl (fun h1 => ?_) (fun h1 => ?_)
 refine ewo_rdg rfl rfl rfl h1 (fun _ hS => rn_fa rfl fl61_1) ?_
 refine ewo_rdg rfl rfl rfl h1 (fun _ hS => rn_load rfl ti47 (hr1.keep hS (.head _)) rfl) ?_
 refine ewo_rdg rfl rfl rfl h1 (fun _ hS => rn_len rfl sl47) ?_
 refine ewo_rdg rfl rfl rfl h1 (fun _ hS => rn_gtI rfl rfl) ?_
 refine ewo_rd rfl (fun _ hS => rn_pickt rfl h1 rfl) ?_
 refine ewo_rd rfl (fun _ hS => rn_move rfl) ?_
 refine ewo_rdo rfl rfl rfl rfl ?_
 refine ewo_rdo rfl rfl rfl rfl ?_
 refine ewo_rdo rfl rfl rfl rfl ?_
 refine ewo_rdo rfl rfl rfl rfl ?_
 refine ewo_rdo rfl rfl rfl rfl ?_
 refine ewo_rdo rfl rfl rfl rfl ?_
 refine ewo_rdo rfl rfl rfl rfl ?_
 refine ewo_rd rfl (fun _ hS => rn_pickf rfl rfl rfl) ?_
 refine ewo_rd rfl (fun _ hS => rn_move rfl) ?_
 refine ewo_rdo rfl rfl rfl rfl ?_
 refine ewo_rdo rfl rfl rfl rfl ?_
 refine ewo_rdo rfl rfl rfl rfl ?_
 refine ewo_rdo rfl rfl rfl rfl ?_
 refine ewo_rd rfl (fun _ hS => rn_pickf rfl rfl rfl) ?_
 refine ewo_sp ?_
 refine ewl_retp rfl (en_call ent22 rfl rfl) (need_spec _ ⟨_, _, _, _, _⟩ _ _) ?_ (fun c wp hc => And.intro rfl (⟨(t.ln, t.co), by first | (simp [dconM, SP.need, h1, hc.1]; done) | (have hq : decide (((Fo.cons h k r).len : Int) ≤ 9) = false := hc.1; simp [dconM, SP.need, h1, hq]; done) | (exfalso; have hq := hc.1; simp at hq <;> omega), hc.2.1, hX.trans hc.2.2⟩))
 rintro _ w5 ⟨hn1, rfl, hE5⟩
 cases hn1
 refine ewo_rdo rfl rfl rfl h1 ?_
 refine ewo_rdo rfl rfl rfl h1 ?_
 refine ewo_rdo rfl rfl rfl h1 ?_
 refine ewo_rdo rfl rfl rfl h1 ?_
 refine ewo_rd rfl (fun _ hS => rn_pickf rfl h1 rfl) ?_
 refine ewo_rd rfl (fun _ hS => rn_move rfl) ?_
 refine ewo_rdo rfl rfl rfl rfl ?_
 refine ewo_rdo rfl rfl rfl rfl ?_
 refine ewo_rdo rfl rfl rfl rfl ?_
 refine ewo_rdo rfl rfl rfl rfl ?_
 refine ewo_rdo rfl rfl rfl rfl ?_
 refine ewo_rdo rfl rfl rfl rfl ?_
 refine ewo_rdo rfl rfl rfl rfl ?_
 refine ewo_rd rfl (fun _ hS => rn_pickf rfl rfl rfl) ?_
 refine ewo_rd rfl (fun _ hS => rn_move rfl) ?_
 refine ewo_rdo rfl rfl rfl rfl ?_
 refine ewo_rdo rfl rfl rfl rfl ?_
 refine ewo_rdo rfl rfl rfl rfl ?_
 refine ewo_rdo rfl rfl rfl rfl ?_
 refine ewo_rd rfl (fun _ hS => rn_pickf rfl rfl rfl) ?_
 refine ewo_sp ?_
 refine ewl_retp rfl (en_call ent22 rfl rfl) (need_spec _ ⟨_, _, _, _, _⟩ _ _) ?_ (fun c wp hc => And.intro rfl (⟨(t.ln, t.co), by first | (simp [dconM, SP.need, h1, hc.1]; done) | (have hq : decide (((Fo.cons h k r).len : Int) ≤ 9) = false := hc.1; simp [dconM, SP.need, h1, hq]; done) | (exfalso; have hq := hc.1; simp at hq <;> omega), hc.2.1, hX.trans hc.2.2⟩))
 rintro _ w6 ⟨hn2, rfl, hE6⟩
 cases hn2
theorem dcon_cons (w : World) (hG : Gl w) (t : Tok) (ka : Option Addr) (kn kc n : Nat) (U : Nat → Prop) (h : Tok) (k r : Fo) (hK : FoS U w ka kn kc (.cons h k r)) (hok : okT (n + 1) t (.cons h k r)) :
   RetP Tryz.prog 28 #[.agg #[.int .i64 t.k, .int .i64 t.ln, .int .i64 t.co, .int .i64 t.nm, S t.tx, .slice ka kn kc]] w (fun v w' => ∃ nd, (dconM (n + 1)) t (Fo.cons h k r) = .ok nd ∧ NV w w' v nd ∧ Ext w w') (fun c w' => ∃ e, (dconM (n + 1)) t (Fo.cons h k r) = .error e ∧ c = trb 45 e ∧ Ext w w') := by
 obtain ⟨b, off, cells, T, ka1, kn1, kc1, l1, hUb, rfl, hb, hd, hk1, hr1⟩ := hK.head
 obtain rfl : kn = r.len + 1 := hK.1
 have hblt := hb.lt
 have hrl : r.len ≤ 99999 := by have := hok.2.2.1; simp only [Fo.len] at this; omega
 have hX := Ext.refl w
 refine enterP Tryz.func28 rfl rfl rfl ?_
 refine ewp_seq ?_
 refine ewp_reg ?_
 refine ewl_box rfl rfl rfl fun b1 w1 hb1 hE1 hs1 hz1 => ?_
 replace hX := hX.trans hE1
 refine ewl_alloc rfl zr40 fun b2 w2 hb2 hE2 hs2 hz2 => ?_
 replace hb1 := hb1.ext hE2
 replace hX := hX.trans hE2
 refine ewl_nil ?_
 refine thn_n ?_
 refine ewp_seq ?_
 have hr1 := (hb.ext hX)
 have hr2 := hb1
 have hr3 := hb2
 refine ewp_draw mixed (Keeps w2 [b, b1, b2]) [(true, 0), (true, 1), (false, 2), (true, 3), (true, 4), (true, 5), (true, 6), (true, 7), (true, 8), (true, 9), (true, 10), (true, 11), (true, 12), (true, 13), (true, 14), (true, 15), (true, 16), (true, 17), (true, 18), (true, 19), (true, 20), (true, 21), (true, 22), (true, 23), (false, 24)] (by kernel_rfl) (by kernel_rfl) rfl rfl fun w3 hE3 hz3 => ?_
 have hKp : Keeps w2 [b, b1, b2] w3 := Keeps.cons hr1 hE3 (Keeps.cons hr2 hE3 (Keeps.cons hr3 hE3 (Keeps.nil _ _)))
 refine ⟨hKp, ?_⟩
 replace hb1 := hb1.ext hE3
 replace hb2 := hb2.ext hE3
 replace hX := hX.trans hE3
 refine ewo_rd rfl (fun _ hS => rn_loada rfl ti61 (hr2.keep hS (.tail _ (.head _))) rfl) ?_
 refine ewo_rd rfl (fun _ hS => rn_loada rfl ti61 (hr2.keep hS (.tail _ (.head _))) rfl) ?_
 refine ewo_sp ?_
 refine ewl_ret rfl (en_call ent23 rfl rfl) (isList_spec _ ⟨_, _, _, _, _⟩ _) ?_
 rintro _ w4 ⟨rfl, hE4⟩
 replace hb1 := hb1.ext hE4
 replace hb2 := hb2.ext hE4
 replace hX := hX.trans hE4
 replace hKp := hKp.ext hE4
 have sz1 := hE4.size
 refine ewl_nil (onw_n hKp ?_)
 refine ewo_rd rfl (fun _ hS => rn_move rfl) ?_
 refine ewo_split 6 rfl (fun h1 => ?_) (fun h1 => ?_)
 refine ewo_rdg rfl rfl rfl h1 (fun _ hS => rn_fa rfl fl61_1) ?_
 refine ewo_rdg rfl rfl rfl h1 (fun _ hS => rn_load rfl ti47 (hr2.keep hS (.tail _ (.head _))) rfl) ?_
 refine ewo_rdg rfl rfl rfl h1 (fun _ hS => rn_len rfl sl47) ?_
 refine ewo_rdg rfl rfl rfl h1 (fun _ hS => rn_gtI rfl rfl) ?_
 refine ewo_rd rfl (fun _ hS => rn_pickt rfl h1 rfl) ?_
 refine ewo_rd rfl (fun _ hS => rn_move rfl) ?_
 refine ewo_split 12 rfl (fun h2 => ?_) (fun h2 => ?_)
 refine ewo_rdg rfl rfl rfl h2 (fun _ hS => rn_fa rfl fl61_1) ?_
 refine ewo_rdg rfl rfl rfl h2 (fun _ hS => rn_load rfl ti47 (hr2.keep hS (.tail _ (.head _))) rfl) ?_
 refine ewo_rdg rfl rfl rfl h2 (fun _ hS => rn_ixc (i := 0) rfl rfl sl47 (by omega)) ?_
 refine ewo_rdg rfl rfl rfl h2 (fun _ hS => rn_fa rfl fl61_0) ?_
 refine ewo_rdg rfl rfl rfl h2 (fun _ hS => rn_fa rfl fl59_0) ?_
 refine ewo_rdg rfl rfl rfl h2 (fun _ hS => rn_loadd 0 rfl ti3 (hr1.keep hS (.head _)) hd (by omega) rfl) ?_
 refine ewo_rdg rfl rfl rfl h2 (fun _ hS => rn_eqI rfl rfl) ?_
 refine ewo_rd rfl (fun _ hS => rn_pickt rfl h2 rfl) ?_
 refine ewo_rd rfl (fun _ hS => rn_move rfl) ?_
 refine ewo_split 21 rfl (fun h3 => ?_) (fun h3 => ?_)
 refine ewo_rdg rfl rfl rfl h3 (fun _ hS => rn_fa rfl fl61_1) ?_
 refine ewo_rdg rfl rfl rfl h3 (fun _ hS => rn_load rfl ti47 (hr2.keep hS (.tail _ (.head _))) rfl) ?_
 refine ewo_rdg rfl rfl rfl h3 (fun _ hS => rn_len rfl sl47) ?_
 refine ewo_rdg rfl rfl rfl h3 (fun _ hS => rn_leI rfl rfl) ?_
 refine ewo_rd rfl (fun _ hS => rn_pickt rfl h3 rfl) ?_
 refine ewo_sp ?_
 refine ewl_retp rfl (en_call ent22 rfl rfl) (need_spec _ ⟨_, _, _, _, _⟩ _ _) ?_ (fun c wp hc => And.intro rfl (⟨(t.ln, t.co), by first | (simp [dconM, SP.need, h1, h2, h3, hc.1]; done) | (have hq : decide (((Fo.cons h k r).len : Int) ≤ 9) = false := hc.1; simp [dconM, SP.need, h1, h2, h3, hq]; done) | (exfalso; have hq := hc.1; simp at hq <;> omega), hc.2.1, hX.trans hc.2.2⟩))
 rintro _ w5 ⟨hn1, rfl, hE5⟩
 replace hb1 := hb1.ext hE5
 replace hb2 := hb2.ext hE5
 replace hX := hX.trans hE5
 replace hKp := hKp.ext hE5
 have sz2 := hE5.size
 replace hn1 : decide (((Fo.cons h k r).len : Int) ≤ 9) = true := hn1
 refine ewl_nil (onw_n hKp ?_)
 refine ewo_nil ?_
 refine thn_n ?_
 refine ewp_seq ?_
 have hr4 := (hb.ext hX)
 have hr5 := hb1
 refine ewp_draw mixed (Keeps w5 [b, b1]) [(true, 0), (true, 1), (true, 2), (true, 3), (true, 4), (true, 5), (true, 6), (true, 7), (true, 8), (true, 9), (false, 10), (false, 11), (false, 12)] (by kernel_rfl) (by kernel_rfl) rfl rfl fun w6 hE6 hz4 => ?_
 have hKp : Keeps w5 [b, b1] w6 := Keeps.cons hr4 hE6 (Keeps.cons hr5 hE6 (Keeps.nil _ _))
 refine ⟨hKp, ?_⟩
 replace hb1 := hb1.ext hE6
 replace hb2 := hb2.ext hE6
 replace hX := hX.trans hE6
 refine ewo_rd rfl (fun _ hS => rn_loada rfl ti61 (hr5.keep hS (.tail _ (.head _))) rfl) ?_
 refine ewo_rd rfl (fun _ hS => rn_fa rfl fl61_1) ?_
 refine ewo_rd rfl (fun _ hS => rn_load rfl ti47 (hr5.keep hS (.tail _ (.head _))) rfl) ?_
 refine ewo_rd rfl (fun _ hS => rn_ixc (i := 0) rfl rfl sl47 (by omega)) ?_
 refine ewo_rd rfl (fun _ hS => rn_fa rfl fl61_0) ?_
 refine ewo_rd rfl (fun _ hS => rn_fa rfl fl59_3) ?_
 refine ewo_rd rfl (fun _ hS => rn_loadd 4 rfl ti9 (hr4.keep hS (.head _)) hd (by omega) rfl) ?_
 refine ewo_rd rfl (fun _ hS => rn_fa rfl fl61_1) ?_
 refine ewo_rd rfl (fun _ hS => rn_load rfl ti47 (hr5.keep hS (.tail _ (.head _))) rfl) ?_
 refine ewo_rd rfl (fun _ hS => rn_rest rfl rfl sl47) ?_
 refine ewo_sp ?_
 refine ewl_retp rfl (en_call ent15 rfl rfl) (each_spec _ 30 ent30 (typM (n + 1)) (okT n) U _ _ _ r (hK.rest.ext hX) (okT_kids hok).2 (by omega) (fun w1 hE1 t1 k1 a1 n1 c1 hk1 hp1 => typ_spec n w1 (hG.ext (hX.trans hE1)) U t1 k1 a1 n1 c1 hk1 hp1)) ?_ (fun c wp hc => And.intro rfl (let ⟨e, he, hc1, hc2⟩ := hc; ⟨e, by simp [dconM, SP.need, h1, h2, h3, hn1, he], hc1, hX.trans hc2⟩))
 rintro _ w7 ⟨nds, ra_nds, rc_nds, hnds, rfl, hN, hE7⟩
 replace hb1 := hb1.ext hE7
 replace hb2 := hb2.ext hE7
 replace hX := hX.trans hE7
 replace hKp := hKp.ext hE7
 have sz3 := hE7.size
 have hA1 := Ext.refl w7
 refine ewl_nil (onw_n hKp ?_)
 refine ewo_sp ?_
 refine ewl_ret rfl (en_call ent27 rfl rfl) (node_spec _ ⟨_, _, _, _, _⟩ _ _ _ _ _ _) ?_
 rintro _ w8 ⟨rfl, hE8⟩
 replace hb1 := hb1.ext hE8
 replace hb2 := hb2.ext hE8
 replace hX := hX.trans hE8
 replace hA1 := hA1.trans hE8
 replace hKp := hKp.ext hE8
 have sz4 := hE8.size
 refine ewl_nil (onw_n hKp ?_)
 refine ewo_sp ?_
 refine ewl_store rfl rfl rfl ti40 rfl hb2 rfl rfl fun w9 hb3 hC1 => ?_
 replace hb1 := hb1.chg hC1 (by omega)
 replace hX := hX.chg hC1 (by omega)
 replace hN := (hN.ext hA1).chg hC1 (by omega)
 clear hA1
 replace hKp := hKp.chg hC1 (by simp only [List.mem_cons, List.not_mem_nil, or_false]; omega)
 have sz5 := hC1.size
 have hA2 := Ext.refl w9
 refine ewl_nil (onw_n hKp ?_)
 refine ewo_nil ?_
 refine thn_n ?_
 refine ewp_ret ?_
 refine fn_r (resv rfl (rv_cella rfl ti40 hb3 rfl)) ?_
 exact ⟨node t 42 h.tx nds, by simp [dconM, SP.need, node, h1, h2, h3, hn1, hnds], ⟨_, _, _, rfl, ((hN.ext hA2).nds).mono (fun b hb => by omega)⟩, hX⟩
 refine ewo_rdo rfl rfl rfl h3 ?_
 refine ewo_rdo rfl rfl rfl h3 ?_
 refine ewo_rdo rfl rfl rfl h3 ?_
 refine ewo_rdo rfl rfl rfl h3 ?_
 refine ewo_rd rfl (fun _ hS => rn_pickf rfl h3 rfl) ?_
 refine ewo_sp ?_
 refine ewl_retp rfl (en_call ent22 rfl rfl) (need_spec _ ⟨_, _, _, _, _⟩ _ _) ?_ (fun c wp hc => And.intro rfl (⟨(t.ln, t.co), by first | (simp [dconM, SP.need, h1, h2, h3, hc.1]; done) | (have hq : decide (((Fo.cons h k r).len : Int) ≤ 9) = false := hc.1; simp [dconM, SP.need, h1, h2, h3, hq]; done) | (exfalso; have hq := hc.1; simp at hq <;> omega), hc.2.1, hX.trans hc.2.2⟩))
 rintro _ w10 ⟨hn2, rfl, hE9⟩
 cases hn2
 · exfalso
   simp at h2 <;> omega
 refine ewo_rdo rfl rfl rfl h1 ?_
 refine ewo_rdo rfl rfl rfl h1 ?_
 refine ewo_rdo rfl rfl rfl h1 ?_
 refine ewo_rdo rfl rfl rfl h1 ?_
 refine ewo_rd rfl (fun _ hS => rn_pickf rfl h1 rfl) ?_
 refine ewo_rd rfl (fun _ hS => rn_move rfl) ?_
 refine ewo_rdo rfl rfl rfl rfl ?_
 refine ewo_rdo rfl rfl rfl rfl ?_
 refine ewo_rdo rfl rfl rfl rfl ?_
 refine ewo_rdo rfl rfl rfl rfl ?_
 refine ewo_rdo rfl rfl rfl rfl ?_
 refine ewo_rdo rfl rfl rfl rfl ?_
 refine ewo_rdo rfl rfl rfl rfl ?_
 refine ewo_rd rfl (fun _ hS => rn_pickf rfl rfl rfl) ?_
 refine ewo_rd rfl (fun _ hS => rn_move rfl) ?_
 refine ewo_rdo rfl rfl rfl rfl ?_
 refine ewo_rdo rfl rfl rfl rfl ?_
 refine ewo_rdo rfl rfl rfl rfl ?_
 refine ewo_rdo rfl rfl rfl rfl ?_
 refine ewo_rd rfl (fun _ hS => rn_pickf rfl rfl rfl) ?_
 refine ewo_sp ?_
 refine ewl_retp rfl (en_call ent22 rfl rfl) (need_spec _ ⟨_, _, _, _, _⟩ _ _) ?_ (fun c wp hc => And.intro rfl (⟨(t.ln, t.co), by first | (simp [dconM, SP.need, h1, hc.1]; done) | (have hq : decide (((Fo.cons h k r).len : Int) ≤ 9) = false := hc.1; simp [dconM, SP.need, h1, hq]; done) | (exfalso; have hq := hc.1; simp at hq <;> omega), hc.2.1, hX.trans hc.2.2⟩))
 rintro _ w11 ⟨hn3, rfl, hE10⟩
 cases hn3
theorem dcon_spec (n : Nat) : NSpec 28 (dconM (n + 1)) (n + 1) := fun w hG U t k ka kn kc hK hok => by
 cases k with
 | nil => obtain rfl : kn = 0 := hK.1; exact dcon_nil w hG t ka kc n
 | cons h k r => exact dcon_cons w hG t ka kn kc n U h k r hK hok
theorem top_nil (n : Nat) (w : World) (hG : Gl w) (t : Tok) (U : Nat → Prop) (ka : Option Addr) (kc : Nat) :
   RetP Tryz.prog 17 #[.agg #[.int .i64 t.k, .int .i64 t.ln, .int .i64 t.co, .int .i64 t.nm, S t.tx, .slice ka 0 kc]] w (fun v w' => ∃ nd, (topM (n + 1)) t Fo.nil = .ok nd ∧ NV w w' v nd ∧ Ext w w') (fun c w' => ∃ e, (topM (n + 1)) t Fo.nil = .error e ∧ c = trb 45 e ∧ Ext w w') := by
 have hX := Ext.refl w
 refine enterP Tryz.func17 rfl rfl rfl ?_
 refine ewp_seq ?_
 refine ewp_reg ?_
 refine ewl_box rfl rfl rfl fun b1 w1 hb1 hE1 hs1 hz1 => ?_
 replace hX := hX.trans hE1
 refine ewl_alloc rfl zr40 fun b2 w2 hb2 hE2 hs2 hz2 => ?_
 replace hb1 := hb1.ext hE2
 replace hX := hX.trans hE2
 refine ewl_nil ?_
 refine thn_n ?_
 refine ewp_seq ?_
 have hr1 := hb1
 have hr2 := hb2
 refine ewp_draw mixed (Keeps w2 [b1, b2]) [(true, 0), (true, 1), (false, 2), (true, 3), (true, 4), (true, 5), (true, 6), (true, 7), (true, 8), (true, 9), (true, 10), (true, 11), (true, 12), (true, 13), (false, 14), (true, 15), (false, 16)] (by kernel_rfl) (by kernel_rfl) rfl rfl fun w3 hE3 hz3 => ?_
 have hKp : Keeps w2 [b1, b2] w3 := Keeps.cons hr1 hE3 (Keeps.cons hr2 hE3 (Keeps.nil _ _))
 refine ⟨hKp, ?_⟩
 replace hb1 := hb1.ext hE3
 replace hb2 := hb2.ext hE3
 replace hX := hX.trans hE3
 refine ewo_rd rfl (fun _ hS => rn_loada rfl ti61 (hr1.keep hS (.head _)) rfl) ?_
 refine ewo_rd rfl (fun _ hS => rn_loada rfl ti61 (hr1.keep hS (.head _)) rfl) ?_
 refine ewo_sp ?_
 refine ewl_ret rfl (en_call ent23 rfl rfl) (isList_spec _ ⟨_, _, _, _, _⟩ _) ?_
 rintro _ w4 ⟨rfl, hE4⟩
 replace hb1 := hb1.ext hE4
 replace hb2 := hb2.ext hE4
 replace hX := hX.trans hE4
 replace hKp := hKp.ext hE4
 have sz1 := hE4.size
 refine ewl_nil (onw_n hKp ?_)
 refine ewo_rd rfl (fun _ hS => rn_move rfl) ?_
 refine ewo_split 11 rfl (fun h1 => ?_) (fun h1 => ?_)
 refine ewo_rdg rfl rfl rfl h1 (fun _ hS => rn_fa rfl fl61_1) ?_
 refine ewo_rdg rfl rfl rfl h1 (fun _ hS => rn_load rfl ti47 (hr1.keep hS (.head _)) rfl) ?_
 refine ewo_rdg rfl rfl rfl h1 (fun _ hS => rn_len rfl sl47) ?_
 refine ewo_rdg rfl rfl rfl h1 (fun _ hS => rn_gtI rfl rfl) ?_
 refine ewo_rd rfl (fun _ hS => rn_pickt rfl h1 rfl) ?_
 refine ewo_rd rfl (fun _ hS => rn_move rfl) ?_
 refine ewo_rdo rfl rfl rfl rfl ?_
 refine ewo_rdo rfl rfl rfl rfl ?_
 refine ewo_rdo rfl rfl rfl rfl ?_
 refine ewo_rdo rfl rfl rfl rfl ?_
 refine ewo_sp ?_
 refine ewl_off rfl rfl rfl rfl ?_
 refine ewl_nil (onw_n hKp ?_)
 refine ewo_rd rfl (fun _ hS => rn_pickf rfl rfl rfl) ?_
 refine ewo_sp ?_
 refine ewl_retp rfl (en_call ent22 rfl rfl) (need_spec _ ⟨_, _, _, _, _⟩ _ _) ?_ (fun c wp hc => And.intro rfl (⟨(t.ln, t.co), by first | (simp [topM, SP.need, h1, hc.1]; done) | (exfalso; have hq := hc.1; simp at hq <;> omega), hc.2.1, hX.trans hc.2.2⟩))
 rintro _ w5 ⟨hn1, rfl, hE5⟩
 cases hn1
 refine ewo_rdo rfl rfl rfl h1 ?_
 refine ewo_rdo rfl rfl rfl h1 ?_
 refine ewo_rdo rfl rfl rfl h1 ?_
 refine ewo_rdo rfl rfl rfl h1 ?_
 refine ewo_rd rfl (fun _ hS => rn_pickf rfl h1 rfl) ?_
 refine ewo_rd rfl (fun _ hS => rn_move rfl) ?_
 refine ewo_rdo rfl rfl rfl rfl ?_
 refine ewo_rdo rfl rfl rfl rfl ?_
 refine ewo_rdo rfl rfl rfl rfl ?_
 refine ewo_rdo rfl rfl rfl rfl ?_
 refine ewo_sp ?_
 refine ewl_off rfl rfl rfl rfl ?_
 refine ewl_nil (onw_n hKp ?_)
 refine ewo_rd rfl (fun _ hS => rn_pickf rfl rfl rfl) ?_
 refine ewo_sp ?_
 refine ewl_retp rfl (en_call ent22 rfl rfl) (need_spec _ ⟨_, _, _, _, _⟩ _ _) ?_ (fun c wp hc => And.intro rfl (⟨(t.ln, t.co), by first | (simp [topM, SP.need, h1, hc.1]; done) | (exfalso; have hq := hc.1; simp at hq <;> omega), hc.2.1, hX.trans hc.2.2⟩))
 rintro _ w6 ⟨hn2, rfl, hE6⟩
 cases hn2
theorem top_root (n : Nat) (w : World) (hG : Gl w) (t : Tok) (U : Nat → Prop) (ka : Option Addr) (kc : Nat) (e0 : Tok) (k0 : Fo) (e1 : Tok) (k1 : Fo) (e2 : Tok) (k2 : Fo) (e3 : Tok) (k3 : Fo) (hK : FoS U w ka 4 kc (Fo.cons e0 k0 (Fo.cons e1 k1 (Fo.cons e2 k2 (Fo.cons e3 k3 Fo.nil))))) (hp1 : okT n e1 k1) (hp2 : okT n e2 k2) (hp3 : okT n e3 k3) (hw : e0.tx = [114, 111, 111, 116]) :
   RetP Tryz.prog 17 #[.agg #[.int .i64 t.k, .int .i64 t.ln, .int .i64 t.co, .int .i64 t.nm, S t.tx, .slice ka 4 kc]] w (fun v w' => ∃ nd, (topM (n + 1)) t (Fo.cons e0 k0 (Fo.cons e1 k1 (Fo.cons e2 k2 (Fo.cons e3 k3 Fo.nil)))) = .ok nd ∧ NV w w' v nd ∧ Ext w w') (fun c w' => ∃ e, (topM (n + 1)) t (Fo.cons e0 k0 (Fo.cons e1 k1 (Fo.cons e2 k2 (Fo.cons e3 k3 Fo.nil)))) = .error e ∧ c = trb 45 e ∧ Ext w w') := by
 obtain ⟨b, off, cells, T, a0, n0, c0, a1, n1, c1, a2, n2, c2, a3, n3, c3, l1, hUb, rfl, hb, hd, hk0, hk1, hk2, hk3, hr1⟩ := hK.four
 have hblt := hb.lt
 have hc1 : kc ≠ 1 := by have := hK.2.1; omega
 have hX := Ext.refl w
 refine enterP Tryz.func17 rfl rfl rfl ?_
 refine ewp_seq ?_
 refine ewp_reg ?_
 refine ewl_box rfl rfl rfl fun b1 w1 hb1 hE1 hs1 hz1 => ?_
 replace hX := hX.trans hE1
 refine ewl_alloc rfl zr40 fun b2 w2 hb2 hE2 hs2 hz2 => ?_
 replace hb1 := hb1.ext hE2
 replace hX := hX.trans hE2
 refine ewl_nil ?_
 refine thn_n ?_
 refine ewp_seq ?_
 have hr1 := (hb.ext hX)
 have hr2 := hb1
 have hr3 := hb2
 refine ewp_draw mixed (Keeps w2 [b, b1, b2]) [(true, 0), (true, 1), (false, 2), (true, 3), (true, 4), (true, 5), (true, 6), (true, 7), (true, 8), (true, 9), (true, 10), (true, 11), (true, 12), (true, 13), (false, 14), (true, 15), (false, 16)] (by kernel_rfl) (by kernel_rfl) rfl rfl fun w3 hE3 hz3 => ?_
 have hKp : Keeps w2 [b, b1, b2] w3 := Keeps.cons hr1 hE3 (Keeps.cons hr2 hE3 (Keeps.cons hr3 hE3 (Keeps.nil _ _)))
 refine ⟨hKp, ?_⟩
 replace hb1 := hb1.ext hE3
 replace hb2 := hb2.ext hE3
 replace hX := hX.trans hE3
 refine ewo_rd rfl (fun _ hS => rn_loada rfl ti61 (hr2.keep hS (.tail _ (.head _))) rfl) ?_
 refine ewo_rd rfl (fun _ hS => rn_loada rfl ti61 (hr2.keep hS (.tail _ (.head _))) rfl) ?_
 refine ewo_sp ?_
 refine ewl_ret rfl (en_call ent23 rfl rfl) (isList_spec _ ⟨_, _, _, _, _⟩ _) ?_
 rintro _ w4 ⟨rfl, hE4⟩
 replace hb1 := hb1.ext hE4
 replace hb2 := hb2.ext hE4
 replace hX := hX.trans hE4
 replace hKp := hKp.ext hE4
 have sz1 := hE4.size
 refine ewl_nil (onw_n hKp ?_)
 refine ewo_rd rfl (fun _ hS => rn_move rfl) ?_
 refine ewo_split 11 rfl (fun h1 => ?_) (fun h1 => ?_)
 refine ewo_rdg rfl rfl rfl h1 (fun _ hS => rn_fa rfl fl61_1) ?_
 refine ewo_rdg rfl rfl rfl h1 (fun _ hS => rn_load rfl ti47 (hr2.keep hS (.tail _ (.head _))) rfl) ?_
 refine ewo_rdg rfl rfl rfl h1 (fun _ hS => rn_len rfl sl47) ?_
 refine ewo_rdg rfl rfl rfl h1 (fun _ hS => rn_gtI rfl rfl) ?_
 refine ewo_rd rfl (fun _ hS => rn_pickt rfl h1 rfl) ?_
 refine ewo_rd rfl (fun _ hS => rn_move rfl) ?_
 refine ewo_rdg rfl rfl rfl rfl (fun _ hS => rn_fa rfl fl61_1) ?_
 refine ewo_rdg rfl rfl rfl rfl (fun _ hS => rn_load rfl ti47 (hr2.keep hS (.tail _ (.head _))) rfl) ?_
 refine ewo_rdg rfl rfl rfl rfl (fun _ hS => rn_ixc (i := 0) rfl rfl sl47 (by omega)) ?_
 refine ewo_rdg rfl rfl rfl rfl (fun _ hS => rn_loadad 0 rfl ti61 (hr1.keep hS (.head _)) hd (by omega) rfl) ?_
 refine ewo_sp ?_
 refine ewl_grd rfl rfl rfl ?_
 refine ewl_ret rfl (en_call ent24 rfl rfl) (isName_spec _ ⟨_, _, _, _, _⟩ _) ?_
 rintro _ w5 ⟨rfl, hE5⟩
 replace hb1 := hb1.ext hE5
 replace hb2 := hb2.ext hE5
 replace hX := hX.trans hE5
 replace hKp := hKp.ext hE5
 have sz2 := hE5.size
 refine ewl_nil (onw_n hKp ?_)
 refine ewo_rd rfl (fun _ hS => rn_pickt rfl rfl rfl) ?_
 refine ewo_sp ?_
 refine ewl_retp rfl (en_call ent22 rfl rfl) (need_spec _ ⟨_, _, _, _, _⟩ _ _) ?_ (fun c wp hc => And.intro rfl (⟨(t.ln, t.co), by first | (simp [topM, SP.need, h1, hw, hc.1]; done) | (exfalso; have hq := hc.1; simp at hq <;> omega), hc.2.1, hX.trans hc.2.2⟩))
 rintro _ w6 ⟨hn1, rfl, hE6⟩
 replace hb1 := hb1.ext hE6
 replace hb2 := hb2.ext hE6
 replace hX := hX.trans hE6
 replace hKp := hKp.ext hE6
 have sz3 := hE6.size
 refine ewl_nil (onw_n hKp ?_)
 refine ewo_nil ?_
 refine thn_n ?_
 refine ewp_seq ?_
 refine ewp_reg ?_
 refine ewl_run rfl (rn_fa rfl fl61_1) ?_
 refine ewl_run rfl (rn_load rfl ti47 hb1 rfl) ?_
 refine ewl_run rfl (rn_resta rfl rfl sl47 hc1) ?_
 refine ewl_run rfl (rn_assign rfl) ?_
 refine ewl_nil ?_
 refine thn_n ?_
 refine ewp_seq ?_
 refine ewp_reg ?_
 refine ewl_run rfl (rn_move rfl) ?_
 refine ewl_run rfl (rn_len rfl sl47) ?_
 refine ewl_run rfl (rn_assign rfl) ?_
 refine ewl_nil ?_
 refine thn_n ?_
 refine ewp_seq ?_
 refine ewp_seq ?_
 refine ewp_reg ?_
 refine ewl_run rfl (rn_fa rfl fl61_1) ?_
 refine ewl_run rfl (rn_load rfl ti47 hb1 rfl) ?_
 refine ewl_run rfl (rn_ixc (i := 0) rfl rfl sl47 (by omega)) ?_
 refine ewl_run rfl (rn_fa rfl fl61_0) ?_
 refine ewl_run rfl (rn_fa rfl fl59_3) ?_
 refine ewl_run rfl (rn_loadd 4 rfl ti9 (hb.ext hX) hd (by omega) rfl) ?_
 refine ewl_nil ?_
 refine thn_n ?_
 refine ewp_block ?_
 refine ewp_seq ?_
 refine ewp_reg ?_
 refine ewl_run rfl (rn_eqS rfl rfl) ?_
 refine ewl_run rfl (rn_assign rfl) ?_
 refine ewl_nil ?_
 refine thn_n ?_
 refine ewp_if rfl (fun h2 => ?_) (fun h2 => ?_)
 · exfalso
   simp [hw] at h2
 refine ewp_seq ?_
 refine ewp_reg ?_
 refine ewl_run rfl (rn_eqS rfl rfl) ?_
 refine ewl_run rfl (rn_assign rfl) ?_
 refine ewl_nil ?_
 refine thn_n ?_
 refine ewp_if rfl (fun h3 => ?_) (fun h3 => ?_)
 refine ewp_seq ?_
 have hr4 := (hb.ext hX)
 have hr5 := hb1
 have hr6 := hb2
 refine ewp_draw mixed (Keeps w6 [b, b1, b2]) [(true, 0), (true, 1), (true, 2), (true, 3), (true, 4), (true, 5), (true, 6), (false, 7), (true, 8), (false, 9)] (by kernel_rfl) (by kernel_rfl) rfl rfl fun w7 hE7 hz4 => ?_
 have hKp : Keeps w6 [b, b1, b2] w7 := Keeps.cons hr4 hE7 (Keeps.cons hr5 hE7 (Keeps.cons hr6 hE7 (Keeps.nil _ _)))
 refine ⟨hKp, ?_⟩
 replace hb1 := hb1.ext hE7
 replace hb2 := hb2.ext hE7
 replace hX := hX.trans hE7
 refine ewo_rd rfl (fun _ hS => rn_loada rfl ti61 (hr5.keep hS (.tail _ (.head _))) rfl) ?_
 refine ewo_rd rfl (fun _ hS => rn_move rfl) ?_
 refine ewo_rd rfl (fun _ hS => rn_eqI rfl rfl) ?_
 refine ewo_rd rfl (fun _ hS => rn_move rfl) ?_
 refine ewo_rdg rfl rfl rfl rfl (fun _ hS => rn_move rfl) ?_
 refine ewo_rdg rfl rfl rfl rfl (fun _ hS => rn_ixc (i := 0) rfl rfl sl47 (by omega)) ?_
 refine ewo_rdg rfl rfl rfl rfl (fun _ hS => rn_loadad 6 rfl ti61 (hr4.keep hS (.head _)) hd (by omega) rfl) ?_
 refine ewo_sp ?_
 refine ewl_grd rfl rfl rfl ?_
 refine ewl_ret rfl (en_call ent29 rfl rfl) (isVar_spec _ (hG.ext hX) ⟨_, _, _, _, _⟩ _ hp1.1.1 hp1.1.2) ?_
 rintro _ w8 ⟨rfl, hE8⟩
 replace hb1 := hb1.ext hE8
 replace hb2 := hb2.ext hE8
 replace hX := hX.trans hE8
 replace hKp := hKp.ext hE8
 have sz4 := hE8.size
 refine ewl_nil (onw_n hKp ?_)
 refine ewo_rd rfl (fun _ hS => rn_pickt rfl rfl rfl) ?_
 refine ewo_sp ?_
 refine ewl_retp rfl (en_call ent22 rfl rfl) (need_spec _ ⟨_, _, _, _, _⟩ _ _) ?_ (fun c wp hc => And.intro rfl (⟨(t.ln, t.co), by first | (simp [topM, SP.need, h1, h2, h3, hn1, hw, hc.1]; done) | (exfalso; have hq := hc.1; simp at hq <;> omega), hc.2.1, hX.trans hc.2.2⟩))
 rintro _ w9 ⟨hn2, rfl, hE9⟩
 replace hb1 := hb1.ext hE9
 replace hb2 := hb2.ext hE9
 replace hX := hX.trans hE9
 replace hKp := hKp.ext hE9
 have sz5 := hE9.size
 refine ewl_nil (onw_n hKp ?_)
 refine ewo_nil ?_
 refine thn_n ?_
 refine ewp_seq ?_
 have hr7 := (hb.ext hX)
 have hr8 := hb1
 refine ewp_draw mixed (Keeps w9 [b, b1]) [(true, 0), (true, 1), (true, 2), (true, 3), (true, 4), (true, 5), (true, 6), (true, 7), (true, 8), (true, 10), (true, 11), (true, 12), (false, 9), (false, 13), (false, 14), (false, 15), (false, 16)] (by kernel_rfl) (by kernel_rfl) rfl rfl fun w10 hE10 hz5 => ?_
 have hKp : Keeps w9 [b, b1] w10 := Keeps.cons hr7 hE10 (Keeps.cons hr8 hE10 (Keeps.nil _ _))
 refine ⟨hKp, ?_⟩
 replace hb1 := hb1.ext hE10
 replace hb2 := hb2.ext hE10
 replace hX := hX.trans hE10
 refine ewo_rd rfl (fun _ hS => rn_loada rfl ti61 (hr8.keep hS (.tail _ (.head _))) rfl) ?_
 refine ewo_rd rfl (fun _ hS => rn_move rfl) ?_
 refine ewo_rd rfl (fun _ hS => rn_ixc (i := 0) rfl rfl sl47 (by omega)) ?_
 refine ewo_rd rfl (fun _ hS => rn_fa rfl fl61_0) ?_
 refine ewo_rd rfl (fun _ hS => rn_fa rfl fl59_3) ?_
 refine ewo_rd rfl (fun _ hS => rn_loadd 10 rfl ti9 (hr7.keep hS (.head _)) hd (by omega) rfl) ?_
 refine ewo_rd rfl (fun _ hS => rn_move rfl) ?_
 refine ewo_rd rfl (fun _ hS => rn_ixc (i := 1) rfl rfl sl47 (by omega)) ?_
 refine ewo_rd rfl (fun _ hS => rn_loadad 12 rfl ti61 (hr7.keep hS (.head _)) hd (by omega) rfl) ?_
 refine ewo_rd rfl (fun _ hS => rn_move rfl) ?_
 refine ewo_rd rfl (fun _ hS => rn_ixc (i := 2) rfl rfl sl47 (by omega)) ?_
 refine ewo_rd rfl (fun _ hS => rn_loadad 18 rfl ti61 (hr7.keep hS (.head _)) hd (by omega) rfl) ?_
 refine ewo_sp ?_
 refine ewl_retp rfl (en_call ent30 rfl rfl) (typ_spec n _ (hG.ext hX) U e2 k2 a2 n2 c2 (hk2.ext hX) hp2) ?_ (fun c wp hc => And.intro rfl (let ⟨e, he, hc1, hc2⟩ := hc; ⟨e, by simp [topM, SP.need, h1, h2, h3, hn1, hn2, hw, he], hc1, hX.trans hc2⟩))
 rintro _ w11 ⟨nd1, hnd1, ⟨xa1, xn1, xc1, rfl, hkx1⟩, hE11⟩
 replace hb1 := hb1.ext hE11
 replace hb2 := hb2.ext hE11
 replace hX := hX.trans hE11
 replace hKp := hKp.ext hE11
 have sz6 := hE11.size
 have hA1 := Ext.refl w11
 refine ewl_nil (onw_n hKp ?_)
 refine ewo_sp ?_
 refine ewl_retp rfl (en_call ent31 rfl rfl) (exp_spec n _ (hG.ext hX) U e3 k3 a3 n3 c3 (hk3.ext hX) hp3) ?_ (fun c wp hc => And.intro rfl (let ⟨e, he, hc1, hc2⟩ := hc; ⟨e, by simp [topM, SP.need, h1, h2, h3, hn1, hn2, hnd1, hw, he], hc1, hX.trans hc2⟩))
 rintro _ w12 ⟨nd2, hnd2, ⟨xa2, xn2, xc2, rfl, hkx2⟩, hE12⟩
 replace hb1 := hb1.ext hE12
 replace hb2 := hb2.ext hE12
 replace hX := hX.trans hE12
 replace hA1 := hA1.trans hE12
 replace hKp := hKp.ext hE12
 have sz7 := hE12.size
 have hA2 := Ext.refl w12
 refine ewl_nil (onw_n hKp ?_)
 refine ewo_sp ?_
 refine ewl_bs rfl rfl sl23 zr40 rfl rfl rfl rfl rfl fun b3 w13 hb3 hE13 hs3 hz6 => ?_
 replace hb1 := hb1.ext hE13
 replace hb2 := hb2.ext hE13
 replace hX := hX.trans hE13
 replace hA1 := hA1.trans hE13
 replace hA2 := hA2.trans hE13
 replace hKp := hKp.ext hE13
 have hnew : NdS (fun b => w2.heap.size ≤ b) w13 (some ⟨b3, 0, none⟩) 2 2 (nd1.cons nd2.one) := nds_two hb3 (by omega) ((hkx1.ext hA1).mono (fun b hb => by omega)) ((hkx2.ext hA2).mono (fun b hb => by omega))
 have hA3 := Ext.refl w13
 refine ewl_nil (onw_n hKp ?_)
 refine ewo_sp ?_
 refine ewl_ret rfl (en_call ent27 rfl rfl) (node_spec _ ⟨_, _, _, _, _⟩ _ _ _ _ _ _) ?_
 rintro _ w14 ⟨rfl, hE14⟩
 replace hb1 := hb1.ext hE14
 replace hb2 := hb2.ext hE14
 replace hb3 := hb3.ext hE14
 replace hX := hX.trans hE14
 replace hA1 := hA1.trans hE14
 replace hA2 := hA2.trans hE14
 replace hA3 := hA3.trans hE14
 replace hKp := hKp.ext hE14
 have sz8 := hE14.size
 refine ewl_nil (onw_n hKp ?_)
 refine ewo_sp ?_
 refine ewl_store rfl rfl rfl ti40 rfl hb2 rfl rfl fun w15 hb4 hC1 => ?_
 replace hb1 := hb1.chg hC1 (by omega)
 replace hb3 := hb3.chg hC1 (by omega)
 replace hX := hX.chg hC1 (by omega)
 replace hkx1 := (hkx1.ext hA1).chg hC1 (by omega)
 replace hkx2 := (hkx2.ext hA2).chg hC1 (by omega)
 replace hnew := (hnew.ext hA3).chg hC1 (by omega)
 clear hA1
 clear hA2
 clear hA3
 replace hKp := hKp.chg hC1 (by simp only [List.mem_cons, List.not_mem_nil, or_false]; omega)
 have sz9 := hC1.size
 have hA4 := Ext.refl w15
 refine ewl_nil (onw_n hKp ?_)
 refine ewo_nil ?_
 refine thn_n ?_
 refine ewp_ret ?_
 refine blk_r ?_
 refine thn_r ?_
 refine fn_r (resv rfl (rv_cella rfl ti40 hb4 rfl)) ?_
 exact ⟨node t 43 e1.tx (nd1.cons nd2.one), by simp [topM, SP.need, node, h1, h2, h3, hn1, hn2, hnd1, hnd2, hw], ⟨_, _, _, rfl, ((hnew.ext hA4)).mono (fun b hb => by omega)⟩, hX⟩
 · exfalso
   simp [hw] at h3
 refine ewo_rdo rfl rfl rfl h1 ?_
 refine ewo_rdo rfl rfl rfl h1 ?_
 refine ewo_rdo rfl rfl rfl h1 ?_
 refine ewo_rdo rfl rfl rfl h1 ?_
 refine ewo_rd rfl (fun _ hS => rn_pickf rfl h1 rfl) ?_
 refine ewo_rd rfl (fun _ hS => rn_move rfl) ?_
 refine ewo_rdo rfl rfl rfl rfl ?_
 refine ewo_rdo rfl rfl rfl rfl ?_
 refine ewo_rdo rfl rfl rfl rfl ?_
 refine ewo_rdo rfl rfl rfl rfl ?_
 refine ewo_sp ?_
 refine ewl_off rfl rfl rfl rfl ?_
 refine ewl_nil (onw_n hKp ?_)
 refine ewo_rd rfl (fun _ hS => rn_pickf rfl rfl rfl) ?_
 refine ewo_sp ?_
 refine ewl_retp rfl (en_call ent22 rfl rfl) (need_spec _ ⟨_, _, _, _, _⟩ _ _) ?_ (fun c wp hc => And.intro rfl (⟨(t.ln, t.co), by first | (simp [topM, SP.need, h1, hw, hc.1]; done) | (exfalso; have hq := hc.1; simp at hq <;> omega), hc.2.1, hX.trans hc.2.2⟩))
 rintro _ w16 ⟨hn3, rfl, hE15⟩
 cases hn3
theorem top_def (n : Nat) (w : World) (hG : Gl w) (t : Tok) (U : Nat → Prop) (ka : Option Addr) (kc : Nat) (e0 : Tok) (k0 : Fo) (e1 : Tok) (k1 : Fo) (e2 : Tok) (k2 : Fo) (hK : FoS U w ka 3 kc (Fo.cons e0 k0 (Fo.cons e1 k1 (Fo.cons e2 k2 Fo.nil)))) (hp1 : okT n e1 k1) (hp2 : okT n e2 k2) (hw : e0.tx = [100, 101, 102]) :
   RetP Tryz.prog 17 #[.agg #[.int .i64 t.k, .int .i64 t.ln, .int .i64 t.co, .int .i64 t.nm, S t.tx, .slice ka 3 kc]] w (fun v w' => ∃ nd, (topM (n + 1)) t (Fo.cons e0 k0 (Fo.cons e1 k1 (Fo.cons e2 k2 Fo.nil))) = .ok nd ∧ NV w w' v nd ∧ Ext w w') (fun c w' => ∃ e, (topM (n + 1)) t (Fo.cons e0 k0 (Fo.cons e1 k1 (Fo.cons e2 k2 Fo.nil))) = .error e ∧ c = trb 45 e ∧ Ext w w') := by
 obtain ⟨b, off, cells, T, a0, n0, c0, a1, n1, c1, a2, n2, c2, l1, hUb, rfl, hb, hd, hk0, hk1, hk2, hr1⟩ := hK.three
 have hblt := hb.lt
 have hc1 : kc ≠ 1 := by have := hK.2.1; omega
 have hX := Ext.refl w
 refine enterP Tryz.func17 rfl rfl rfl ?_
 refine ewp_seq ?_
 refine ewp_reg ?_
 refine ewl_box rfl rfl rfl fun b1 w1 hb1 hE1 hs1 hz1 => ?_
 replace hX := hX.trans hE1
 refine ewl_alloc rfl zr40 fun b2 w2 hb2 hE2 hs2 hz2 => ?_
 replace hb1 := hb1.ext hE2
 replace hX := hX.trans hE2
 refine ewl_nil ?_
 refine thn_n ?_
 refine ewp_seq ?_
 have hr1 := (hb.ext hX)
 have hr2 := hb1
 have hr3 := hb2
 refine ewp_draw mixed (Keeps w2 [b, b1, b2]) [(true, 0), (true, 1), (false, 2), (true, 3), (true, 4), (true, 5), (true, 6), (true, 7), (true, 8), (true, 9), (true, 10), (true, 11), (true, 12), (true, 13), (false, 14), (true, 15), (false, 16)] (by kernel_rfl) (by kernel_rfl) rfl rfl fun w3 hE3 hz3 => ?_
 have hKp : Keeps w2 [b, b1, b2] w3 := Keeps.cons hr1 hE3 (Keeps.cons hr2 hE3 (Keeps.cons hr3 hE3 (Keeps.nil _ _)))
 refine ⟨hKp, ?_⟩
 replace hb1 := hb1.ext hE3
 replace hb2 := hb2.ext hE3
 replace hX := hX.trans hE3
 refine ewo_rd rfl (fun _ hS => rn_loada rfl ti61 (hr2.keep hS (.tail _ (.head _))) rfl) ?_
 refine ewo_rd rfl (fun _ hS => rn_loada rfl ti61 (hr2.keep hS (.tail _ (.head _))) rfl) ?_
 refine ewo_sp ?_
 refine ewl_ret rfl (en_call ent23 rfl rfl) (isList_spec _ ⟨_, _, _, _, _⟩ _) ?_
 rintro _ w4 ⟨rfl, hE4⟩
 replace hb1 := hb1.ext hE4
 replace hb2 := hb2.ext hE4
 replace hX := hX.trans hE4
 replace hKp := hKp.ext hE4
 have sz1 := hE4.size
 refine ewl_nil (onw_n hKp ?_)
 refine ewo_rd rfl (fun _ hS => rn_move rfl) ?_
 refine ewo_split 11 rfl (fun h1 => ?_) (fun h1 => ?_)
 refine ewo_rdg rfl rfl rfl h1 (fun _ hS => rn_fa rfl fl61_1) ?_
 refine ewo_rdg rfl rfl rfl h1 (fun _ hS => rn_load rfl ti47 (hr2.keep hS (.tail _ (.head _))) rfl) ?_
 refine ewo_rdg rfl rfl rfl h1 (fun _ hS => rn_len rfl sl47) ?_
 refine ewo_rdg rfl rfl rfl h1 (fun _ hS => rn_gtI rfl rfl) ?_
 refine ewo_rd rfl (fun _ hS => rn_pickt rfl h1 rfl) ?_
 refine ewo_rd rfl (fun _ hS => rn_move rfl) ?_
 refine ewo_rdg rfl rfl rfl rfl (fun _ hS => rn_fa rfl fl61_1) ?_
 refine ewo_rdg rfl rfl rfl rfl (fun _ hS => rn_load rfl ti47 (hr2.keep hS (.tail _ (.head _))) rfl) ?_
 refine ewo_rdg rfl rfl rfl rfl (fun _ hS => rn_ixc (i := 0) rfl rfl sl47 (by omega)) ?_
 refine ewo_rdg rfl rfl rfl rfl (fun _ hS => rn_loadad 0 rfl ti61 (hr1.keep hS (.head _)) hd (by omega) rfl) ?_
 refine ewo_sp ?_
 refine ewl_grd rfl rfl rfl ?_
 refine ewl_ret rfl (en_call ent24 rfl rfl) (isName_spec _ ⟨_, _, _, _, _⟩ _) ?_
 rintro _ w5 ⟨rfl, hE5⟩
 replace hb1 := hb1.ext hE5
 replace hb2 := hb2.ext hE5
 replace hX := hX.trans hE5
 replace hKp := hKp.ext hE5
 have sz2 := hE5.size
 refine ewl_nil (onw_n hKp ?_)
 refine ewo_rd rfl (fun _ hS => rn_pickt rfl rfl rfl) ?_
 refine ewo_sp ?_
 refine ewl_retp rfl (en_call ent22 rfl rfl) (need_spec _ ⟨_, _, _, _, _⟩ _ _) ?_ (fun c wp hc => And.intro rfl (⟨(t.ln, t.co), by first | (simp [topM, SP.need, h1, hw, hc.1]; done) | (exfalso; have hq := hc.1; simp at hq <;> omega), hc.2.1, hX.trans hc.2.2⟩))
 rintro _ w6 ⟨hn1, rfl, hE6⟩
 replace hb1 := hb1.ext hE6
 replace hb2 := hb2.ext hE6
 replace hX := hX.trans hE6
 replace hKp := hKp.ext hE6
 have sz3 := hE6.size
 refine ewl_nil (onw_n hKp ?_)
 refine ewo_nil ?_
 refine thn_n ?_
 refine ewp_seq ?_
 refine ewp_reg ?_
 refine ewl_run rfl (rn_fa rfl fl61_1) ?_
 refine ewl_run rfl (rn_load rfl ti47 hb1 rfl) ?_
 refine ewl_run rfl (rn_resta rfl rfl sl47 hc1) ?_
 refine ewl_run rfl (rn_assign rfl) ?_
 refine ewl_nil ?_
 refine thn_n ?_
 refine ewp_seq ?_
 refine ewp_reg ?_
 refine ewl_run rfl (rn_move rfl) ?_
 refine ewl_run rfl (rn_len rfl sl47) ?_
 refine ewl_run rfl (rn_assign rfl) ?_
 refine ewl_nil ?_
 refine thn_n ?_
 refine ewp_seq ?_
 refine ewp_seq ?_
 refine ewp_reg ?_
 refine ewl_run rfl (rn_fa rfl fl61_1) ?_
 refine ewl_run rfl (rn_load rfl ti47 hb1 rfl) ?_
 refine ewl_run rfl (rn_ixc (i := 0) rfl rfl sl47 (by omega)) ?_
 refine ewl_run rfl (rn_fa rfl fl61_0) ?_
 refine ewl_run rfl (rn_fa rfl fl59_3) ?_
 refine ewl_run rfl (rn_loadd 4 rfl ti9 (hb.ext hX) hd (by omega) rfl) ?_
 refine ewl_nil ?_
 refine thn_n ?_
 refine ewp_block ?_
 refine ewp_seq ?_
 refine ewp_reg ?_
 refine ewl_run rfl (rn_eqS rfl rfl) ?_
 refine ewl_run rfl (rn_assign rfl) ?_
 refine ewl_nil ?_
 refine thn_n ?_
 refine ewp_if rfl (fun h2 => ?_) (fun h2 => ?_)
 · exfalso
   simp [hw] at h2
 refine ewp_seq ?_
 refine ewp_reg ?_
 refine ewl_run rfl (rn_eqS rfl rfl) ?_
 refine ewl_run rfl (rn_assign rfl) ?_
 refine ewl_nil ?_
 refine thn_n ?_
 refine ewp_if rfl (fun h3 => ?_) (fun h3 => ?_)
 · exfalso
   simp [hw] at h3
 refine ewp_seq ?_
 refine ewp_reg ?_
 refine ewl_run rfl (rn_eqS rfl rfl) ?_
 refine ewl_run rfl (rn_assign rfl) ?_
 refine ewl_nil ?_
 refine thn_n ?_
 refine ewp_if rfl (fun h4 => ?_) (fun h4 => ?_)
 refine ewp_seq ?_
 have hr4 := (hb.ext hX)
 have hr5 := hb1
 have hr6 := hb2
 refine ewp_draw mixed (Keeps w6 [b, b1, b2]) [(true, 0), (true, 1), (true, 2), (true, 3), (true, 4), (true, 5), (true, 6), (false, 7), (true, 8), (false, 9)] (by kernel_rfl) (by kernel_rfl) rfl rfl fun w7 hE7 hz4 => ?_
 have hKp : Keeps w6 [b, b1, b2] w7 := Keeps.cons hr4 hE7 (Keeps.cons hr5 hE7 (Keeps.cons hr6 hE7 (Keeps.nil _ _)))
 refine ⟨hKp, ?_⟩
 replace hb1 := hb1.ext hE7
 replace hb2 := hb2.ext hE7
 replace hX := hX.trans hE7
 refine ewo_rd rfl (fun _ hS => rn_loada rfl ti61 (hr5.keep hS (.tail _ (.head _))) rfl) ?_
 refine ewo_rd rfl (fun _ hS => rn_move rfl) ?_
 refine ewo_rd rfl (fun _ hS => rn_eqI rfl rfl) ?_
 refine ewo_rd rfl (fun _ hS => rn_move rfl) ?_
 refine ewo_rdg rfl rfl rfl rfl (fun _ hS => rn_move rfl) ?_
 refine ewo_rdg rfl rfl rfl rfl (fun _ hS => rn_ixc (i := 0) rfl rfl sl47 (by omega)) ?_
 refine ewo_rdg rfl rfl rfl rfl (fun _ hS => rn_loadad 6 rfl ti61 (hr4.keep hS (.head _)) hd (by omega) rfl) ?_
 refine ewo_sp ?_
 refine ewl_grd rfl rfl rfl ?_
 refine ewl_ret rfl (en_call ent29 rfl rfl) (isVar_spec _ (hG.ext hX) ⟨_, _, _, _, _⟩ _ hp1.1.1 hp1.1.2) ?_
 rintro _ w8 ⟨rfl, hE8⟩
 replace hb1 := hb1.ext hE8
 replace hb2 := hb2.ext hE8
 replace hX := hX.trans hE8
 replace hKp := hKp.ext hE8
 have sz4 := hE8.size
 refine ewl_nil (onw_n hKp ?_)
 refine ewo_rd rfl (fun _ hS => rn_pickt rfl rfl rfl) ?_
 refine ewo_sp ?_
 refine ewl_retp rfl (en_call ent22 rfl rfl) (need_spec _ ⟨_, _, _, _, _⟩ _ _) ?_ (fun c wp hc => And.intro rfl (⟨(t.ln, t.co), by first | (simp [topM, SP.need, h1, h2, h3, h4, hn1, hw, hc.1]; done) | (exfalso; have hq := hc.1; simp at hq <;> omega), hc.2.1, hX.trans hc.2.2⟩))
 rintro _ w9 ⟨hn2, rfl, hE9⟩
 replace hb1 := hb1.ext hE9
 replace hb2 := hb2.ext hE9
 replace hX := hX.trans hE9
 replace hKp := hKp.ext hE9
 have sz5 := hE9.size
 refine ewl_nil (onw_n hKp ?_)
 refine ewo_nil ?_
 refine thn_n ?_
 refine ewp_seq ?_
 have hr7 := (hb.ext hX)
 have hr8 := hb1
 refine ewp_draw mixed (Keeps w9 [b, b1]) [(true, 0), (true, 1), (true, 2), (true, 3), (true, 4), (true, 5), (true, 6), (true, 7), (true, 8), (false, 9), (false, 10), (false, 11), (false, 12)] (by kernel_rfl) (by kernel_rfl) rfl rfl fun w10 hE10 hz5 => ?_
 have hKp : Keeps w9 [b, b1] w10 := Keeps.cons hr7 hE10 (Keeps.cons hr8 hE10 (Keeps.nil _ _))
 refine ⟨hKp, ?_⟩
 replace hb1 := hb1.ext hE10
 replace hb2 := hb2.ext hE10
 replace hX := hX.trans hE10
 refine ewo_rd rfl (fun _ hS => rn_loada rfl ti61 (hr8.keep hS (.tail _ (.head _))) rfl) ?_
 refine ewo_rd rfl (fun _ hS => rn_move rfl) ?_
 refine ewo_rd rfl (fun _ hS => rn_ixc (i := 0) rfl rfl sl47 (by omega)) ?_
 refine ewo_rd rfl (fun _ hS => rn_fa rfl fl61_0) ?_
 refine ewo_rd rfl (fun _ hS => rn_fa rfl fl59_3) ?_
 refine ewo_rd rfl (fun _ hS => rn_loadd 10 rfl ti9 (hr7.keep hS (.head _)) hd (by omega) rfl) ?_
 refine ewo_rd rfl (fun _ hS => rn_move rfl) ?_
 refine ewo_rd rfl (fun _ hS => rn_ixc (i := 1) rfl rfl sl47 (by omega)) ?_
 refine ewo_rd rfl (fun _ hS => rn_loadad 12 rfl ti61 (hr7.keep hS (.head _)) hd (by omega) rfl) ?_
 refine ewo_sp ?_
 refine ewl_retp rfl (en_call ent31 rfl rfl) (exp_spec n _ (hG.ext hX) U e2 k2 a2 n2 c2 (hk2.ext hX) hp2) ?_ (fun c wp hc => And.intro rfl (let ⟨e, he, hc1, hc2⟩ := hc; ⟨e, by simp [topM, SP.need, h1, h2, h3, h4, hn1, hn2, hw, he], hc1, hX.trans hc2⟩))
 rintro _ w11 ⟨nd1, hnd1, ⟨xa1, xn1, xc1, rfl, hkx1⟩, hE11⟩
 replace hb1 := hb1.ext hE11
 replace hb2 := hb2.ext hE11
 replace hX := hX.trans hE11
 replace hKp := hKp.ext hE11
 have sz6 := hE11.size
 have hA1 := Ext.refl w11
 refine ewl_nil (onw_n hKp ?_)
 refine ewo_sp ?_
 refine ewl_bs rfl rfl sl23 zr40 rfl rfl rfl rfl rfl fun b3 w12 hb3 hE12 hs3 hz6 => ?_
 replace hb1 := hb1.ext hE12
 replace hb2 := hb2.ext hE12
 replace hX := hX.trans hE12
 replace hA1 := hA1.trans hE12
 replace hKp := hKp.ext hE12
 have hnew : NdS (fun b => w2.heap.size ≤ b) w12 (some ⟨b3, 0, none⟩) 1 1 (nd1.one) := nds_one hb3 (by omega) ((hkx1.ext hA1).mono (fun b hb => by omega))
 have hA2 := Ext.refl w12
 refine ewl_nil (onw_n hKp ?_)
 refine ewo_sp ?_
 refine ewl_ret rfl (en_call ent27 rfl rfl) (node_spec _ ⟨_, _, _, _, _⟩ _ _ _ _ _ _) ?_
 rintro _ w13 ⟨rfl, hE13⟩
 replace hb1 := hb1.ext hE13
 replace hb2 := hb2.ext hE13
 replace hb3 := hb3.ext hE13
 replace hX := hX.trans hE13
 replace hA1 := hA1.trans hE13
 replace hA2 := hA2.trans hE13
 replace hKp := hKp.ext hE13
 have sz7 := hE13.size
 refine ewl_nil (onw_n hKp ?_)
 refine ewo_sp ?_
 refine ewl_store rfl rfl rfl ti40 rfl hb2 rfl rfl fun w14 hb4 hC1 => ?_
 replace hb1 := hb1.chg hC1 (by omega)
 replace hb3 := hb3.chg hC1 (by omega)
 replace hX := hX.chg hC1 (by omega)
 replace hkx1 := (hkx1.ext hA1).chg hC1 (by omega)
 replace hnew := (hnew.ext hA2).chg hC1 (by omega)
 clear hA1
 clear hA2
 replace hKp := hKp.chg hC1 (by simp only [List.mem_cons, List.not_mem_nil, or_false]; omega)
 have sz8 := hC1.size
 have hA3 := Ext.refl w14
 refine ewl_nil (onw_n hKp ?_)
 refine ewo_nil ?_
 refine thn_n ?_
 refine ewp_ret ?_
 refine blk_r ?_
 refine thn_r ?_
 refine fn_r (resv rfl (rv_cella rfl ti40 hb4 rfl)) ?_
 exact ⟨node t 44 e1.tx (nd1.one), by simp [topM, SP.need, node, h1, h2, h3, h4, hn1, hn2, hnd1, hw], ⟨_, _, _, rfl, ((hnew.ext hA3)).mono (fun b hb => by omega)⟩, hX⟩
 · exfalso
   simp [hw] at h4
 refine ewo_rdo rfl rfl rfl h1 ?_
 refine ewo_rdo rfl rfl rfl h1 ?_
 refine ewo_rdo rfl rfl rfl h1 ?_
 refine ewo_rdo rfl rfl rfl h1 ?_
 refine ewo_rd rfl (fun _ hS => rn_pickf rfl h1 rfl) ?_
 refine ewo_rd rfl (fun _ hS => rn_move rfl) ?_
 refine ewo_rdo rfl rfl rfl rfl ?_
 refine ewo_rdo rfl rfl rfl rfl ?_
 refine ewo_rdo rfl rfl rfl rfl ?_
 refine ewo_rdo rfl rfl rfl rfl ?_
 refine ewo_sp ?_
 refine ewl_off rfl rfl rfl rfl ?_
 refine ewl_nil (onw_n hKp ?_)
 refine ewo_rd rfl (fun _ hS => rn_pickf rfl rfl rfl) ?_
 refine ewo_sp ?_
 refine ewl_retp rfl (en_call ent22 rfl rfl) (need_spec _ ⟨_, _, _, _, _⟩ _ _) ?_ (fun c wp hc => And.intro rfl (⟨(t.ln, t.co), by first | (simp [topM, SP.need, h1, hw, hc.1]; done) | (exfalso; have hq := hc.1; simp at hq <;> omega), hc.2.1, hX.trans hc.2.2⟩))
 rintro _ w15 ⟨hn3, rfl, hE14⟩
 cases hn3
theorem top_rec (n : Nat) (w : World) (hG : Gl w) (t : Tok) (U : Nat → Prop) (ka : Option Addr) (kc : Nat) (e0 : Tok) (k0 : Fo) (e1 : Tok) (k1 : Fo) (e2 : Tok) (k2 : Fo) (hK : FoS U w ka 3 kc (Fo.cons e0 k0 (Fo.cons e1 k1 (Fo.cons e2 k2 Fo.nil)))) (hp1 : okT n e1 k1) (hp2 : okT n e2 k2) (hw : e0.tx = [114, 101, 99]) :
   RetP Tryz.prog 17 #[.agg #[.int .i64 t.k, .int .i64 t.ln, .int .i64 t.co, .int .i64 t.nm, S t.tx, .slice ka 3 kc]] w (fun v w' => ∃ nd, (topM (n + 1)) t (Fo.cons e0 k0 (Fo.cons e1 k1 (Fo.cons e2 k2 Fo.nil))) = .ok nd ∧ NV w w' v nd ∧ Ext w w') (fun c w' => ∃ e, (topM (n + 1)) t (Fo.cons e0 k0 (Fo.cons e1 k1 (Fo.cons e2 k2 Fo.nil))) = .error e ∧ c = trb 45 e ∧ Ext w w') := by
 obtain ⟨b, off, cells, T, a0, n0, c0, a1, n1, c1, a2, n2, c2, l1, hUb, rfl, hb, hd, hk0, hk1, hk2, hr1⟩ := hK.three
 have hblt := hb.lt
 have hc1 : kc ≠ 1 := by have := hK.2.1; omega
 have hX := Ext.refl w
 refine enterP Tryz.func17 rfl rfl rfl ?_
 refine ewp_seq ?_
 refine ewp_reg ?_
 refine ewl_box rfl rfl rfl fun b1 w1 hb1 hE1 hs1 hz1 => ?_
 replace hX := hX.trans hE1
 refine ewl_alloc rfl zr40 fun b2 w2 hb2 hE2 hs2 hz2 => ?_
 replace hb1 := hb1.ext hE2
 replace hX := hX.trans hE2
 refine ewl_nil ?_
 refine thn_n ?_
 refine ewp_seq ?_
 have hr1 := (hb.ext hX)
 have hr2 := hb1
 have hr3 := hb2
 refine ewp_draw mixed (Keeps w2 [b, b1, b2]) [(true, 0), (true, 1), (false, 2), (true, 3), (true, 4), (true, 5), (true, 6), (true, 7), (true, 8), (true, 9), (true, 10), (true, 11), (true, 12), (true, 13), (false, 14), (true, 15), (false, 16)] (by kernel_rfl) (by kernel_rfl) rfl rfl fun w3 hE3 hz3 => ?_
 have hKp : Keeps w2 [b, b1, b2] w3 := Keeps.cons hr1 hE3 (Keeps.cons hr2 hE3 (Keeps.cons hr3 hE3 (Keeps.nil _ _)))
 refine ⟨hKp, ?_⟩
 replace hb1 := hb1.ext hE3
 replace hb2 := hb2.ext hE3
 replace hX := hX.trans hE3
 refine ewo_rd rfl (fun _ hS => rn_loada rfl ti61 (hr2.keep hS (.tail _ (.head _))) rfl) ?_
 refine ewo_rd rfl (fun _ hS => rn_loada rfl ti61 (hr2.keep hS (.tail _ (.head _))) rfl) ?_
 refine ewo_sp ?_
 refine ewl_ret rfl (en_call ent23 rfl rfl) (isList_spec _ ⟨_, _, _, _, _⟩ _) ?_
 rintro _ w4 ⟨rfl, hE4⟩
 replace hb1 := hb1.ext hE4
 replace hb2 := hb2.ext hE4
 replace hX := hX.trans hE4
 replace hKp := hKp.ext hE4
 have sz1 := hE4.size
 refine ewl_nil (onw_n hKp ?_)
 refine ewo_rd rfl (fun _ hS => rn_move rfl) ?_
 refine ewo_split 11 rfl (fun h1 => ?_) (fun h1 => ?_)
 refine ewo_rdg rfl rfl rfl h1 (fun _ hS => rn_fa rfl fl61_1) ?_
 refine ewo_rdg rfl rfl rfl h1 (fun _ hS => rn_load rfl ti47 (hr2.keep hS (.tail _ (.head _))) rfl) ?_
 refine ewo_rdg rfl rfl rfl h1 (fun _ hS => rn_len rfl sl47) ?_
 refine ewo_rdg rfl rfl rfl h1 (fun _ hS => rn_gtI rfl rfl) ?_
 refine ewo_rd rfl (fun _ hS => rn_pickt rfl h1 rfl) ?_
 refine ewo_rd rfl (fun _ hS => rn_move rfl) ?_
 refine ewo_rdg rfl rfl rfl rfl (fun _ hS => rn_fa rfl fl61_1) ?_
 refine ewo_rdg rfl rfl rfl rfl (fun _ hS => rn_load rfl ti47 (hr2.keep hS (.tail _ (.head _))) rfl) ?_
 refine ewo_rdg rfl rfl rfl rfl (fun _ hS => rn_ixc (i := 0) rfl rfl sl47 (by omega)) ?_
 refine ewo_rdg rfl rfl rfl rfl (fun _ hS => rn_loadad 0 rfl ti61 (hr1.keep hS (.head _)) hd (by omega) rfl) ?_
 refine ewo_sp ?_
 refine ewl_grd rfl rfl rfl ?_
 refine ewl_ret rfl (en_call ent24 rfl rfl) (isName_spec _ ⟨_, _, _, _, _⟩ _) ?_
 rintro _ w5 ⟨rfl, hE5⟩
 replace hb1 := hb1.ext hE5
 replace hb2 := hb2.ext hE5
 replace hX := hX.trans hE5
 replace hKp := hKp.ext hE5
 have sz2 := hE5.size
 refine ewl_nil (onw_n hKp ?_)
 refine ewo_rd rfl (fun _ hS => rn_pickt rfl rfl rfl) ?_
 refine ewo_sp ?_
 refine ewl_retp rfl (en_call ent22 rfl rfl) (need_spec _ ⟨_, _, _, _, _⟩ _ _) ?_ (fun c wp hc => And.intro rfl (⟨(t.ln, t.co), by first | (simp [topM, SP.need, h1, hw, hc.1]; done) | (exfalso; have hq := hc.1; simp at hq <;> omega), hc.2.1, hX.trans hc.2.2⟩))
 rintro _ w6 ⟨hn1, rfl, hE6⟩
 replace hb1 := hb1.ext hE6
 replace hb2 := hb2.ext hE6
 replace hX := hX.trans hE6
 replace hKp := hKp.ext hE6
 have sz3 := hE6.size
 refine ewl_nil (onw_n hKp ?_)
 refine ewo_nil ?_
 refine thn_n ?_
 refine ewp_seq ?_
 refine ewp_reg ?_
 refine ewl_run rfl (rn_fa rfl fl61_1) ?_
 refine ewl_run rfl (rn_load rfl ti47 hb1 rfl) ?_
 refine ewl_run rfl (rn_resta rfl rfl sl47 hc1) ?_
 refine ewl_run rfl (rn_assign rfl) ?_
 refine ewl_nil ?_
 refine thn_n ?_
 refine ewp_seq ?_
 refine ewp_reg ?_
 refine ewl_run rfl (rn_move rfl) ?_
 refine ewl_run rfl (rn_len rfl sl47) ?_
 refine ewl_run rfl (rn_assign rfl) ?_
 refine ewl_nil ?_
 refine thn_n ?_
 refine ewp_seq ?_
 refine ewp_seq ?_
 refine ewp_reg ?_
 refine ewl_run rfl (rn_fa rfl fl61_1) ?_
 refine ewl_run rfl (rn_load rfl ti47 hb1 rfl) ?_
 refine ewl_run rfl (rn_ixc (i := 0) rfl rfl sl47 (by omega)) ?_
 refine ewl_run rfl (rn_fa rfl fl61_0) ?_
 refine ewl_run rfl (rn_fa rfl fl59_3) ?_
 refine ewl_run rfl (rn_loadd 4 rfl ti9 (hb.ext hX) hd (by omega) rfl) ?_
 refine ewl_nil ?_
 refine thn_n ?_
 refine ewp_block ?_
 refine ewp_seq ?_
 refine ewp_reg ?_
 refine ewl_run rfl (rn_eqS rfl rfl) ?_
 refine ewl_run rfl (rn_assign rfl) ?_
 refine ewl_nil ?_
 refine thn_n ?_
 refine ewp_if rfl (fun h2 => ?_) (fun h2 => ?_)
 · exfalso
   simp [hw] at h2
 refine ewp_seq ?_
 refine ewp_reg ?_
 refine ewl_run rfl (rn_eqS rfl rfl) ?_
 refine ewl_run rfl (rn_assign rfl) ?_
 refine ewl_nil ?_
 refine thn_n ?_
 refine ewp_if rfl (fun h3 => ?_) (fun h3 => ?_)
 · exfalso
   simp [hw] at h3
 refine ewp_seq ?_
 refine ewp_reg ?_
 refine ewl_run rfl (rn_eqS rfl rfl) ?_
 refine ewl_run rfl (rn_assign rfl) ?_
 refine ewl_nil ?_
 refine thn_n ?_
 refine ewp_if rfl (fun h4 => ?_) (fun h4 => ?_)
 · exfalso
   simp [hw] at h4
 refine ewp_seq ?_
 refine ewp_reg ?_
 refine ewl_run rfl (rn_eqS rfl rfl) ?_
 refine ewl_run rfl (rn_assign rfl) ?_
 refine ewl_nil ?_
 refine thn_n ?_
 refine ewp_if rfl (fun h5 => ?_) (fun h5 => ?_)
 refine ewp_seq ?_
 have hr4 := (hb.ext hX)
 have hr5 := hb1
 have hr6 := hb2
 refine ewp_draw mixed (Keeps w6 [b, b1, b2]) [(true, 0), (true, 1), (true, 2), (true, 3), (true, 4), (true, 5), (true, 6), (false, 7), (true, 8), (true, 9), (true, 10), (true, 11), (true, 12), (false, 13), (true, 14), (false, 15)] (by kernel_rfl) (by kernel_rfl) rfl rfl fun w7 hE7 hz4 => ?_
 have hKp : Keeps w6 [b, b1, b2] w7 := Keeps.cons hr4 hE7 (Keeps.cons hr5 hE7 (Keeps.cons hr6 hE7 (Keeps.nil _ _)))
 refine ⟨hKp, ?_⟩
 replace hb1 := hb1.ext hE7
 replace hb2 := hb2.ext hE7
 replace hX := hX.trans hE7
 refine ewo_rd rfl (fun _ hS => rn_loada rfl ti61 (hr5.keep hS (.tail _ (.head _))) rfl) ?_
 refine ewo_rd rfl (fun _ hS => rn_move rfl) ?_
 refine ewo_rd rfl (fun _ hS => rn_eqI rfl rfl) ?_
 refine ewo_rd rfl (fun _ hS => rn_move rfl) ?_
 refine ewo_rdg rfl rfl rfl rfl (fun _ hS => rn_move rfl) ?_
 refine ewo_rdg rfl rfl rfl rfl (fun _ hS => rn_ixc (i := 0) rfl rfl sl47 (by omega)) ?_
 refine ewo_rdg rfl rfl rfl rfl (fun _ hS => rn_loadad 6 rfl ti61 (hr4.keep hS (.head _)) hd (by omega) rfl) ?_
 refine ewo_sp ?_
 refine ewl_grd rfl rfl rfl ?_
 refine ewl_ret rfl (en_call ent29 rfl rfl) (isVar_spec _ (hG.ext hX) ⟨_, _, _, _, _⟩ _ hp1.1.1 hp1.1.2) ?_
 rintro _ w8 ⟨rfl, hE8⟩
 replace hb1 := hb1.ext hE8
 replace hb2 := hb2.ext hE8
 replace hX := hX.trans hE8
 replace hKp := hKp.ext hE8
 have sz4 := hE8.size
 refine ewl_nil (onw_n hKp ?_)
 refine ewo_rd rfl (fun _ hS => rn_pickt rfl rfl rfl) ?_
 refine ewo_rd rfl (fun _ hS => rn_move rfl) ?_
 refine ewo_split 159 rfl (fun h6 => ?_) (fun h6 => ?_)
 refine ewo_rdg rfl rfl rfl h6 (fun _ hS => rn_move rfl) ?_
 refine ewo_rdg rfl rfl rfl h6 (fun _ hS => rn_ixc (i := 1) rfl rfl sl47 (by omega)) ?_
 refine ewo_rdg rfl rfl rfl h6 (fun _ hS => rn_loadad 12 rfl ti61 (hr4.keep hS (.head _)) hd (by omega) rfl) ?_
 refine ewo_sp ?_
 refine ewl_grd rfl rfl h6 ?_
 refine ewl_ret rfl (en_call ent32 rfl rfl) (isFn_spec _ ⟨_, _, _, _, _⟩ U _ _ _ k2 (hk2.ext hX)) ?_
 rintro _ w9 ⟨rfl, hE9⟩
 replace hb1 := hb1.ext hE9
 replace hb2 := hb2.ext hE9
 replace hX := hX.trans hE9
 replace hKp := hKp.ext hE9
 have sz5 := hE9.size
 refine ewl_nil (onw_n hKp ?_)
 refine ewo_rd rfl (fun _ hS => rn_pickt rfl h6 rfl) ?_
 refine ewo_sp ?_
 refine ewl_retp rfl (en_call ent22 rfl rfl) (need_spec _ ⟨_, _, _, _, _⟩ _ _) ?_ (fun c wp hc => And.intro rfl (⟨(t.ln, t.co), by first | (simp [topM, SP.need, h1, h2, h3, h4, h5, h6, hn1, hw, hc.1]; done) | (exfalso; have hq := hc.1; simp at hq <;> omega), hc.2.1, hX.trans hc.2.2⟩))
 rintro _ w10 ⟨hn2, rfl, hE10⟩
 replace hb1 := hb1.ext hE10
 replace hb2 := hb2.ext hE10
 replace hX := hX.trans hE10
 replace hKp := hKp.ext hE10
 have sz6 := hE10.size
 refine ewl_nil (onw_n hKp ?_)
 refine ewo_nil ?_
 refine thn_n ?_
 refine ewp_seq ?_
 have hr7 := (hb.ext hX)
 have hr8 := hb1
 refine ewp_draw mixed (Keeps w10 [b, b1]) [(true, 0), (true, 1), (true, 2), (true, 3), (true, 4), (true, 5), (true, 6), (true, 7), (true, 8), (false, 9), (false, 10), (false, 11), (false, 12)] (by kernel_rfl) (by kernel_rfl) rfl rfl fun w11 hE11 hz5 => ?_
 have hKp : Keeps w10 [b, b1] w11 := Keeps.cons hr7 hE11 (Keeps.cons hr8 hE11 (Keeps.nil _ _))
 refine ⟨hKp, ?_⟩
 replace hb1 := hb1.ext hE11
 replace hb2 := hb2.ext hE11
 replace hX := hX.trans hE11
 refine ewo_rd rfl (fun _ hS => rn_loada rfl ti61 (hr8.keep hS (.tail _ (.head _))) rfl) ?_
 refine ewo_rd rfl (fun _ hS => rn_move rfl) ?_
 refine ewo_rd rfl (fun _ hS => rn_ixc (i := 0) rfl rfl sl47 (by omega)) ?_
 refine ewo_rd rfl (fun _ hS => rn_fa rfl fl61_0) ?_
 refine ewo_rd rfl (fun _ hS => rn_fa rfl fl59_3) ?_
 refine ewo_rd rfl (fun _ hS => rn_loadd 10 rfl ti9 (hr7.keep hS (.head _)) hd (by omega) rfl) ?_
 refine ewo_rd rfl (fun _ hS => rn_move rfl) ?_
 refine ewo_rd rfl (fun _ hS => rn_ixc (i := 1) rfl rfl sl47 (by omega)) ?_
 refine ewo_rd rfl (fun _ hS => rn_loadad 12 rfl ti61 (hr7.keep hS (.head _)) hd (by omega) rfl) ?_
 refine ewo_sp ?_
 refine ewl_retp rfl (en_call ent31 rfl rfl) (exp_spec n _ (hG.ext hX) U e2 k2 a2 n2 c2 (hk2.ext hX) hp2) ?_ (fun c wp hc => And.intro rfl (let ⟨e, he, hc1, hc2⟩ := hc; ⟨e, by simp [topM, SP.need, h1, h2, h3, h4, h5, h6, hn1, hn2, hw, he], hc1, hX.trans hc2⟩))
 rintro _ w12 ⟨nd1, hnd1, ⟨xa1, xn1, xc1, rfl, hkx1⟩, hE12⟩
 replace hb1 := hb1.ext hE12
 replace hb2 := hb2.ext hE12
 replace hX := hX.trans hE12
 replace hKp := hKp.ext hE12
 have sz7 := hE12.size
 have hA1 := Ext.refl w12
 refine ewl_nil (onw_n hKp ?_)
 refine ewo_sp ?_
 refine ewl_bs rfl rfl sl23 zr40 rfl rfl rfl rfl rfl fun b3 w13 hb3 hE13 hs3 hz6 => ?_
 replace hb1 := hb1.ext hE13
 replace hb2 := hb2.ext hE13
 replace hX := hX.trans hE13
 replace hA1 := hA1.trans hE13
 replace hKp := hKp.ext hE13
 have hnew : NdS (fun b => w2.heap.size ≤ b) w13 (some ⟨b3, 0, none⟩) 1 1 (nd1.one) := nds_one hb3 (by omega) ((hkx1.ext hA1).mono (fun b hb => by omega))
 have hA2 := Ext.refl w13
 refine ewl_nil (onw_n hKp ?_)
 refine ewo_sp ?_
 refine ewl_ret rfl (en_call ent27 rfl rfl) (node_spec _ ⟨_, _, _, _, _⟩ _ _ _ _ _ _) ?_
 rintro _ w14 ⟨rfl, hE14⟩
 replace hb1 := hb1.ext hE14
 replace hb2 := hb2.ext hE14
 replace hb3 := hb3.ext hE14
 replace hX := hX.trans hE14
 replace hA1 := hA1.trans hE14
 replace hA2 := hA2.trans hE14
 replace hKp := hKp.ext hE14
 have sz8 := hE14.size
 refine ewl_nil (onw_n hKp ?_)
 refine ewo_sp ?_
 refine ewl_store rfl rfl rfl ti40 rfl hb2 rfl rfl fun w15 hb4 hC1 => ?_
 replace hb1 := hb1.chg hC1 (by omega)
 replace hb3 := hb3.chg hC1 (by omega)
 replace hX := hX.chg hC1 (by omega)
 replace hkx1 := (hkx1.ext hA1).chg hC1 (by omega)
 replace hnew := (hnew.ext hA2).chg hC1 (by omega)
 clear hA1
 clear hA2
 replace hKp := hKp.chg hC1 (by simp only [List.mem_cons, List.not_mem_nil, or_false]; omega)
 have sz9 := hC1.size
 have hA3 := Ext.refl w15
 refine ewl_nil (onw_n hKp ?_)
 refine ewo_nil ?_
 refine thn_n ?_
 refine ewp_ret ?_
 refine blk_r ?_
 refine thn_r ?_
 refine fn_r (resv rfl (rv_cella rfl ti40 hb4 rfl)) ?_
 exact ⟨node t 45 e1.tx (nd1.one), by simp [topM, SP.need, node, h1, h2, h3, h4, h5, h6, hn1, hn2, hnd1, hw], ⟨_, _, _, rfl, ((hnew.ext hA3)).mono (fun b hb => by omega)⟩, hX⟩
 refine ewo_rdo rfl rfl rfl h6 ?_
 refine ewo_rdo rfl rfl rfl h6 ?_
 refine ewo_rdo rfl rfl rfl h6 ?_
 refine ewo_sp ?_
 refine ewl_off rfl rfl rfl h6 ?_
 refine ewl_nil (onw_n hKp ?_)
 refine ewo_rd rfl (fun _ hS => rn_pickf rfl h6 rfl) ?_
 refine ewo_sp ?_
 refine ewl_retp rfl (en_call ent22 rfl rfl) (need_spec _ ⟨_, _, _, _, _⟩ _ _) ?_ (fun c wp hc => And.intro rfl (⟨(t.ln, t.co), by first | (simp [topM, SP.need, h1, h2, h3, h4, h5, h6, hn1, hw, hc.1]; done) | (exfalso; have hq := hc.1; simp at hq <;> omega), hc.2.1, hX.trans hc.2.2⟩))
 rintro _ w16 ⟨hn3, rfl, hE15⟩
 cases hn3
 · exfalso
   simp [hw] at h5
 refine ewo_rdo rfl rfl rfl h1 ?_
 refine ewo_rdo rfl rfl rfl h1 ?_
 refine ewo_rdo rfl rfl rfl h1 ?_
 refine ewo_rdo rfl rfl rfl h1 ?_
 refine ewo_rd rfl (fun _ hS => rn_pickf rfl h1 rfl) ?_
 refine ewo_rd rfl (fun _ hS => rn_move rfl) ?_
 refine ewo_rdo rfl rfl rfl rfl ?_
 refine ewo_rdo rfl rfl rfl rfl ?_
 refine ewo_rdo rfl rfl rfl rfl ?_
 refine ewo_rdo rfl rfl rfl rfl ?_
 refine ewo_sp ?_
 refine ewl_off rfl rfl rfl rfl ?_
 refine ewl_nil (onw_n hKp ?_)
 refine ewo_rd rfl (fun _ hS => rn_pickf rfl rfl rfl) ?_
 refine ewo_sp ?_
 refine ewl_retp rfl (en_call ent22 rfl rfl) (need_spec _ ⟨_, _, _, _, _⟩ _ _) ?_ (fun c wp hc => And.intro rfl (⟨(t.ln, t.co), by first | (simp [topM, SP.need, h1, hw, hc.1]; done) | (exfalso; have hq := hc.1; simp at hq <;> omega), hc.2.1, hX.trans hc.2.2⟩))
 rintro _ w17 ⟨hn4, rfl, hE16⟩
 cases hn4
theorem top_do (n : Nat) (w : World) (hG : Gl w) (t : Tok) (U : Nat → Prop) (ka : Option Addr) (kc : Nat) (e0 : Tok) (k0 : Fo) (e1 : Tok) (k1 : Fo) (hK : FoS U w ka 2 kc (Fo.cons e0 k0 (Fo.cons e1 k1 Fo.nil))) (hp1 : okT n e1 k1) (hw : e0.tx = [100, 111]) :
   RetP Tryz.prog 17 #[.agg #[.int .i64 t.k, .int .i64 t.ln, .int .i64 t.co, .int .i64 t.nm, S t.tx, .slice ka 2 kc]] w (fun v w' => ∃ nd, (topM (n + 1)) t (Fo.cons e0 k0 (Fo.cons e1 k1 Fo.nil)) = .ok nd ∧ NV w w' v nd ∧ Ext w w') (fun c w' => ∃ e, (topM (n + 1)) t (Fo.cons e0 k0 (Fo.cons e1 k1 Fo.nil)) = .error e ∧ c = trb 45 e ∧ Ext w w') := by
 obtain ⟨b, off, cells, T, a0, n0, c0, a1, n1, c1, l1, hUb, rfl, hb, hd, hk0, hk1, hr1⟩ := hK.two
 have hblt := hb.lt
 have hc1 : kc ≠ 1 := by have := hK.2.1; omega
 have hX := Ext.refl w
 refine enterP Tryz.func17 rfl rfl rfl ?_
 refine ewp_seq ?_
 refine ewp_reg ?_
 refine ewl_box rfl rfl rfl fun b1 w1 hb1 hE1 hs1 hz1 => ?_
 replace hX := hX.trans hE1
 refine ewl_alloc rfl zr40 fun b2 w2 hb2 hE2 hs2 hz2 => ?_
 replace hb1 := hb1.ext hE2
 replace hX := hX.trans hE2
 refine ewl_nil ?_
 refine thn_n ?_
 refine ewp_seq ?_
 have hr1 := (hb.ext hX)
 have hr2 := hb1
 have hr3 := hb2
 refine ewp_draw mixed (Keeps w2 [b, b1, b2]) [(true, 0), (true, 1), (false, 2), (true, 3), (true, 4), (true, 5), (true, 6), (true, 7), (true, 8), (true, 9), (true, 10), (true, 11), (true, 12), (true, 13), (false, 14), (true, 15), (false, 16)] (by kernel_rfl) (by kernel_rfl) rfl rfl fun w3 hE3 hz3 => ?_
 have hKp : Keeps w2 [b, b1, b2] w3 := Keeps.cons hr1 hE3 (Keeps.cons hr2 hE3 (Keeps.cons hr3 hE3 (Keeps.nil _ _)))
 refine ⟨hKp, ?_⟩
 replace hb1 := hb1.ext hE3
 replace hb2 := hb2.ext hE3
 replace hX := hX.trans hE3
 refine ewo_rd rfl (fun _ hS => rn_loada rfl ti61 (hr2.keep hS (.tail _ (.head _))) rfl) ?_
 refine ewo_rd rfl (fun _ hS => rn_loada rfl ti61 (hr2.keep hS (.tail _ (.head _))) rfl) ?_
 refine ewo_sp ?_
 refine ewl_ret rfl (en_call ent23 rfl rfl) (isList_spec _ ⟨_, _, _, _, _⟩ _) ?_
 rintro _ w4 ⟨rfl, hE4⟩
 replace hb1 := hb1.ext hE4
 replace hb2 := hb2.ext hE4
 replace hX := hX.trans hE4
 replace hKp := hKp.ext hE4
 have sz1 := hE4.size
 refine ewl_nil (onw_n hKp ?_)
 refine ewo_rd rfl (fun _ hS => rn_move rfl) ?_
 refine ewo_split 11 rfl (fun h1 => ?_) (fun h1 => ?_)
 refine ewo_rdg rfl rfl rfl h1 (fun _ hS => rn_fa rfl fl61_1) ?_
 refine ewo_rdg rfl rfl rfl h1 (fun _ hS => rn_load rfl ti47 (hr2.keep hS (.tail _ (.head _))) rfl) ?_
 refine ewo_rdg rfl rfl rfl h1 (fun _ hS => rn_len rfl sl47) ?_
 refine ewo_rdg rfl rfl rfl h1 (fun _ hS => rn_gtI rfl rfl) ?_
 refine ewo_rd rfl (fun _ hS => rn_pickt rfl h1 rfl) ?_
 refine ewo_rd rfl (fun _ hS => rn_move rfl) ?_
 refine ewo_rdg rfl rfl rfl rfl (fun _ hS => rn_fa rfl fl61_1) ?_
 refine ewo_rdg rfl rfl rfl rfl (fun _ hS => rn_load rfl ti47 (hr2.keep hS (.tail _ (.head _))) rfl) ?_
 refine ewo_rdg rfl rfl rfl rfl (fun _ hS => rn_ixc (i := 0) rfl rfl sl47 (by omega)) ?_
 refine ewo_rdg rfl rfl rfl rfl (fun _ hS => rn_loadad 0 rfl ti61 (hr1.keep hS (.head _)) hd (by omega) rfl) ?_
 refine ewo_sp ?_
 refine ewl_grd rfl rfl rfl ?_
 refine ewl_ret rfl (en_call ent24 rfl rfl) (isName_spec _ ⟨_, _, _, _, _⟩ _) ?_
 rintro _ w5 ⟨rfl, hE5⟩
 replace hb1 := hb1.ext hE5
 replace hb2 := hb2.ext hE5
 replace hX := hX.trans hE5
 replace hKp := hKp.ext hE5
 have sz2 := hE5.size
 refine ewl_nil (onw_n hKp ?_)
 refine ewo_rd rfl (fun _ hS => rn_pickt rfl rfl rfl) ?_
 refine ewo_sp ?_
 refine ewl_retp rfl (en_call ent22 rfl rfl) (need_spec _ ⟨_, _, _, _, _⟩ _ _) ?_ (fun c wp hc => And.intro rfl (⟨(t.ln, t.co), by first | (simp [topM, SP.need, h1, hw, hc.1]; done) | (exfalso; have hq := hc.1; simp at hq <;> omega), hc.2.1, hX.trans hc.2.2⟩))
 rintro _ w6 ⟨hn1, rfl, hE6⟩
 replace hb1 := hb1.ext hE6
 replace hb2 := hb2.ext hE6
 replace hX := hX.trans hE6
 replace hKp := hKp.ext hE6
 have sz3 := hE6.size
 refine ewl_nil (onw_n hKp ?_)
 refine ewo_nil ?_
 refine thn_n ?_
 refine ewp_seq ?_
 refine ewp_reg ?_
 refine ewl_run rfl (rn_fa rfl fl61_1) ?_
 refine ewl_run rfl (rn_load rfl ti47 hb1 rfl) ?_
 refine ewl_run rfl (rn_resta rfl rfl sl47 hc1) ?_
 refine ewl_run rfl (rn_assign rfl) ?_
 refine ewl_nil ?_
 refine thn_n ?_
 refine ewp_seq ?_
 refine ewp_reg ?_
 refine ewl_run rfl (rn_move rfl) ?_
 refine ewl_run rfl (rn_len rfl sl47) ?_
 refine ewl_run rfl (rn_assign rfl) ?_
 refine ewl_nil ?_
 refine thn_n ?_
 refine ewp_seq ?_
 refine ewp_seq ?_
 refine ewp_reg ?_
 refine ewl_run rfl (rn_fa rfl fl61_1) ?_
 refine ewl_run rfl (rn_load rfl ti47 hb1 rfl) ?_
 refine ewl_run rfl (rn_ixc (i := 0) rfl rfl sl47 (by omega)) ?_
 refine ewl_run rfl (rn_fa rfl fl61_0) ?_
 refine ewl_run rfl (rn_fa rfl fl59_3) ?_
 refine ewl_run rfl (rn_loadd 4 rfl ti9 (hb.ext hX) hd (by omega) rfl) ?_
 refine ewl_nil ?_
 refine thn_n ?_
 refine ewp_block ?_
 refine ewp_seq ?_
 refine ewp_reg ?_
 refine ewl_run rfl (rn_eqS rfl rfl) ?_
 refine ewl_run rfl (rn_assign rfl) ?_
 refine ewl_nil ?_
 refine thn_n ?_
 refine ewp_if rfl (fun h2 => ?_) (fun h2 => ?_)
 · exfalso
   simp [hw] at h2
 refine ewp_seq ?_
 refine ewp_reg ?_
 refine ewl_run rfl (rn_eqS rfl rfl) ?_
 refine ewl_run rfl (rn_assign rfl) ?_
 refine ewl_nil ?_
 refine thn_n ?_
 refine ewp_if rfl (fun h3 => ?_) (fun h3 => ?_)
 · exfalso
   simp [hw] at h3
 refine ewp_seq ?_
 refine ewp_reg ?_
 refine ewl_run rfl (rn_eqS rfl rfl) ?_
 refine ewl_run rfl (rn_assign rfl) ?_
 refine ewl_nil ?_
 refine thn_n ?_
 refine ewp_if rfl (fun h4 => ?_) (fun h4 => ?_)
 · exfalso
   simp [hw] at h4
 refine ewp_seq ?_
 refine ewp_reg ?_
 refine ewl_run rfl (rn_eqS rfl rfl) ?_
 refine ewl_run rfl (rn_assign rfl) ?_
 refine ewl_nil ?_
 refine thn_n ?_
 refine ewp_if rfl (fun h5 => ?_) (fun h5 => ?_)
 · exfalso
   simp [hw] at h5
 refine ewp_seq ?_
 refine ewp_reg ?_
 refine ewl_run rfl (rn_eqS rfl rfl) ?_
 refine ewl_run rfl (rn_assign rfl) ?_
 refine ewl_nil ?_
 refine thn_n ?_
 refine ewp_if rfl (fun h6 => ?_) (fun h6 => ?_)
 refine ewp_seq ?_
 refine ewp_reg ?_
 refine ewl_run rfl (rn_loada rfl ti61 hb1 rfl) ?_
 refine ewl_run rfl (rn_move rfl) ?_
 refine ewl_run rfl (rn_eqI rfl rfl) ?_
 refine ewl_retp rfl (en_call ent22 rfl rfl) (need_spec _ ⟨_, _, _, _, _⟩ _ _) ?_ (fun c wp hc => And.intro rfl (⟨(t.ln, t.co), by first | (simp [topM, SP.need, h1, h2, h3, h4, h5, h6, hn1, hw, hc.1]; done) | (exfalso; have hq := hc.1; simp at hq <;> omega), hc.2.1, hX.trans hc.2.2⟩))
 rintro _ w7 ⟨hn2, rfl, hE7⟩
 replace hb1 := hb1.ext hE7
 replace hb2 := hb2.ext hE7
 replace hX := hX.trans hE7
 have sz4 := hE7.size
 refine ewl_nil ?_
 refine thn_n ?_
 refine ewp_seq ?_
 have hr4 := (hb.ext hX)
 have hr5 := hb1
 refine ewp_draw mixed (Keeps w7 [b, b1]) [(true, 0), (true, 1), (true, 2), (true, 3), (false, 4), (false, 5), (false, 6), (false, 7)] (by kernel_rfl) (by kernel_rfl) rfl rfl fun w8 hE8 hz4 => ?_
 have hKp : Keeps w7 [b, b1] w8 := Keeps.cons hr4 hE8 (Keeps.cons hr5 hE8 (Keeps.nil _ _))
 refine ⟨hKp, ?_⟩
 replace hb1 := hb1.ext hE8
 replace hb2 := hb2.ext hE8
 replace hX := hX.trans hE8
 refine ewo_rd rfl (fun _ hS => rn_loada rfl ti61 (hr5.keep hS (.tail _ (.head _))) rfl) ?_
 refine ewo_rd rfl (fun _ hS => rn_move rfl) ?_
 refine ewo_rd rfl (fun _ hS => rn_ixc (i := 0) rfl rfl sl47 (by omega)) ?_
 refine ewo_rd rfl (fun _ hS => rn_loadad 6 rfl ti61 (hr4.keep hS (.head _)) hd (by omega) rfl) ?_
 refine ewo_sp ?_
 refine ewl_retp rfl (en_call ent31 rfl rfl) (exp_spec n _ (hG.ext hX) U e1 k1 a1 n1 c1 (hk1.ext hX) hp1) ?_ (fun c wp hc => And.intro rfl (let ⟨e, he, hc1, hc2⟩ := hc; ⟨e, by simp [topM, SP.need, h1, h2, h3, h4, h5, h6, hn1, hn2, hw, he], hc1, hX.trans hc2⟩))
 rintro _ w9 ⟨nd1, hnd1, ⟨xa1, xn1, xc1, rfl, hkx1⟩, hE9⟩
 replace hb1 := hb1.ext hE9
 replace hb2 := hb2.ext hE9
 replace hX := hX.trans hE9
 replace hKp := hKp.ext hE9
 have sz5 := hE9.size
 have hA1 := Ext.refl w9
 refine ewl_nil (onw_n hKp ?_)
 refine ewo_sp ?_
 refine ewl_bs rfl rfl sl23 zr40 rfl rfl rfl rfl rfl fun b3 w10 hb3 hE10 hs3 hz5 => ?_
 replace hb1 := hb1.ext hE10
 replace hb2 := hb2.ext hE10
 replace hX := hX.trans hE10
 replace hA1 := hA1.trans hE10
 replace hKp := hKp.ext hE10
 have hnew : NdS (fun b => w2.heap.size ≤ b) w10 (some ⟨b3, 0, none⟩) 1 1 (nd1.one) := nds_one hb3 (by omega) ((hkx1.ext hA1).mono (fun b hb => by omega))
 have hA2 := Ext.refl w10
 refine ewl_nil (onw_n hKp ?_)
 refine ewo_sp ?_
 refine ewl_ret rfl (en_call ent27 rfl rfl) (node_spec _ ⟨_, _, _, _, _⟩ _ _ _ _ _ _) ?_
 rintro _ w11 ⟨rfl, hE11⟩
 replace hb1 := hb1.ext hE11
 replace hb2 := hb2.ext hE11
 replace hb3 := hb3.ext hE11
 replace hX := hX.trans hE11
 replace hA1 := hA1.trans hE11
 replace hA2 := hA2.trans hE11
 replace hKp := hKp.ext hE11
 have sz6 := hE11.size
 refine ewl_nil (onw_n hKp ?_)
 refine ewo_sp ?_
 refine ewl_store rfl rfl rfl ti40 rfl hb2 rfl rfl fun w12 hb4 hC1 => ?_
 replace hb1 := hb1.chg hC1 (by omega)
 replace hb3 := hb3.chg hC1 (by omega)
 replace hX := hX.chg hC1 (by omega)
 replace hkx1 := (hkx1.ext hA1).chg hC1 (by omega)
 replace hnew := (hnew.ext hA2).chg hC1 (by omega)
 clear hA1
 clear hA2
 replace hKp := hKp.chg hC1 (by simp only [List.mem_cons, List.not_mem_nil, or_false]; omega)
 have sz7 := hC1.size
 have hA3 := Ext.refl w12
 refine ewl_nil (onw_n hKp ?_)
 refine ewo_nil ?_
 refine thn_n ?_
 refine ewp_ret ?_
 refine blk_r ?_
 refine thn_r ?_
 refine fn_r (resv rfl (rv_cella rfl ti40 hb4 rfl)) ?_
 exact ⟨node t 46 [] (nd1.one), by simp [topM, SP.need, node, h1, h2, h3, h4, h5, h6, hn1, hn2, hnd1, hw], ⟨_, _, _, rfl, ((hnew.ext hA3)).mono (fun b hb => by omega)⟩, hX⟩
 · exfalso
   simp [hw] at h6
 refine ewo_rdo rfl rfl rfl h1 ?_
 refine ewo_rdo rfl rfl rfl h1 ?_
 refine ewo_rdo rfl rfl rfl h1 ?_
 refine ewo_rdo rfl rfl rfl h1 ?_
 refine ewo_rd rfl (fun _ hS => rn_pickf rfl h1 rfl) ?_
 refine ewo_rd rfl (fun _ hS => rn_move rfl) ?_
 refine ewo_rdo rfl rfl rfl rfl ?_
 refine ewo_rdo rfl rfl rfl rfl ?_
 refine ewo_rdo rfl rfl rfl rfl ?_
 refine ewo_rdo rfl rfl rfl rfl ?_
 refine ewo_sp ?_
 refine ewl_off rfl rfl rfl rfl ?_
 refine ewl_nil (onw_n hKp ?_)
 refine ewo_rd rfl (fun _ hS => rn_pickf rfl rfl rfl) ?_
 refine ewo_sp ?_
 refine ewl_retp rfl (en_call ent22 rfl rfl) (need_spec _ ⟨_, _, _, _, _⟩ _ _) ?_ (fun c wp hc => And.intro rfl (⟨(t.ln, t.co), by first | (simp [topM, SP.need, h1, hw, hc.1]; done) | (exfalso; have hq := hc.1; simp at hq <;> omega), hc.2.1, hX.trans hc.2.2⟩))
 rintro _ w13 ⟨hn3, rfl, hE12⟩
 cases hn3
theorem top_bad_data (n : Nat) (w : World) (hG : Gl w) (t : Tok) (U : Nat → Prop) (ka : Option Addr) (kc : Nat) (kn : Nat) (e0 : Tok) (k0 r : Fo) (hK : FoS U w ka kn kc (.cons e0 k0 r)) (hw : e0.tx = [100, 97, 116, 97]) (hne : (decide ((3 : Int) ≤ r.len)) = false) (hm : (t.k == 0) = true → (e0.k == 5) = true → topM (n + 1) t (Fo.cons e0 k0 r) = .error (t.ln, t.co)) :
   RetP Tryz.prog 17 #[.agg #[.int .i64 t.k, .int .i64 t.ln, .int .i64 t.co, .int .i64 t.nm, S t.tx, .slice ka kn kc]] w (fun v w' => ∃ nd, (topM (n + 1)) t (Fo.cons e0 k0 r) = .ok nd ∧ NV w w' v nd ∧ Ext w w') (fun c w' => ∃ e, (topM (n + 1)) t (Fo.cons e0 k0 r) = .error e ∧ c = trb 45 e ∧ Ext w w') := by
 obtain ⟨b, off, cells, T, a0, n0, c0, l1, hUb, rfl, hb, hd, hk0, hr1⟩ := hK.head
 have hblt := hb.lt
 obtain rfl : kn = r.len + 1 := hK.1
 have hX := Ext.refl w
 refine enterP Tryz.func17 rfl rfl rfl ?_
 refine ewp_seq ?_
 refine ewp_reg ?_
 refine ewl_box rfl rfl rfl fun b1 w1 hb1 hE1 hs1 hz1 => ?_
 replace hX := hX.trans hE1
 refine ewl_alloc rfl zr40 fun b2 w2 hb2 hE2 hs2 hz2 => ?_
 replace hb1 := hb1.ext hE2
 replace hX := hX.trans hE2
 refine ewl_nil ?_
 refine thn_n ?_
 refine ewp_seq ?_
 have hr1 := (hb.ext hX)
 have hr2 := hb1
 have hr3 := hb2
 refine ewp_draw mixed (Keeps w2 [b, b1, b2]) [(true, 0), (true, 1), (false, 2), (true, 3), (true, 4), (true, 5), (true, 6), (true, 7), (true, 8), (true, 9), (true, 10), (true, 11), (true, 12), (true, 13), (false, 14), (true, 15), (false, 16)] (by kernel_rfl) (by kernel_rfl) rfl rfl fun w3 hE3 hz3 => ?_
 have hKp : Keeps w2 [b, b1, b2] w3 := Keeps.cons hr1 hE3 (Keeps.cons hr2 hE3 (Keeps.cons hr3 hE3 (Keeps.nil _ _)))
 refine ⟨hKp, ?_⟩
 replace hb1 := hb1.ext hE3
 replace hb2 := hb2.ext hE3
 replace hX := hX.trans hE3
 refine ewo_rd rfl (fun _ hS => rn_loada rfl ti61 (hr2.keep hS (.tail _ (.head _))) rfl) ?_
 refine ewo_rd rfl (fun _ hS => rn_loada rfl ti61 (hr2.keep hS (.tail _ (.head _))) rfl) ?_
 refine ewo_sp ?_
 refine ewl_ret rfl (en_call ent23 rfl rfl) (isList_spec _ ⟨_, _, _, _, _⟩ _) ?_
 rintro _ w4 ⟨rfl, hE4⟩
 replace hb1 := hb1.ext hE4
 replace hb2 := hb2.ext hE4
 replace hX := hX.trans hE4
 replace hKp := hKp.ext hE4
 have sz1 := hE4.size
 refine ewl_nil (onw_n hKp ?_)
 refine ewo_rd rfl (fun _ hS => rn_move rfl) ?_
 refine ewo_split 11 rfl (fun h1 => ?_) (fun h1 => ?_)
 refine ewo_rdg rfl rfl rfl h1 (fun _ hS => rn_fa rfl fl61_1) ?_
 refine ewo_rdg rfl rfl rfl h1 (fun _ hS => rn_load rfl ti47 (hr2.keep hS (.tail _ (.head _))) rfl) ?_
 refine ewo_rdg rfl rfl rfl h1 (fun _ hS => rn_len rfl sl47) ?_
 refine ewo_rdg rfl rfl rfl h1 (fun _ hS => rn_gtI rfl rfl) ?_
 refine ewo_rd rfl (fun _ hS => rn_pickt rfl h1 rfl) ?_
 refine ewo_rd rfl (fun _ hS => rn_move rfl) ?_
 refine ewo_split 17 rfl (fun h2 => ?_) (fun h2 => ?_)
 refine ewo_rdg rfl rfl rfl h2 (fun _ hS => rn_fa rfl fl61_1) ?_
 refine ewo_rdg rfl rfl rfl h2 (fun _ hS => rn_load rfl ti47 (hr2.keep hS (.tail _ (.head _))) rfl) ?_
 refine ewo_rdg rfl rfl rfl h2 (fun _ hS => rn_ixc (i := 0) rfl rfl sl47 (by omega)) ?_
 refine ewo_rdg rfl rfl rfl h2 (fun _ hS => rn_loadad 0 rfl ti61 (hr1.keep hS (.head _)) hd (by omega) rfl) ?_
 refine ewo_sp ?_
 refine ewl_grd rfl rfl h2 ?_
 refine ewl_ret rfl (en_call ent24 rfl rfl) (isName_spec _ ⟨_, _, _, _, _⟩ _) ?_
 rintro _ w5 ⟨rfl, hE5⟩
 replace hb1 := hb1.ext hE5
 replace hb2 := hb2.ext hE5
 replace hX := hX.trans hE5
 replace hKp := hKp.ext hE5
 have sz2 := hE5.size
 refine ewl_nil (onw_n hKp ?_)
 refine ewo_rd rfl (fun _ hS => rn_pickt rfl h2 rfl) ?_
 refine ewo_sp ?_
 refine ewl_retp rfl (en_call ent22 rfl rfl) (need_spec _ ⟨_, _, _, _, _⟩ _ _) ?_ (fun c wp hc => And.intro rfl (⟨(t.ln, t.co), by first | exact hm (by assumption) (by assumption) | (simp [topM, SP.need, h1, h2, hc.1]; done) | (exfalso; have hq := hc.1; simp at hq <;> omega), hc.2.1, hX.trans hc.2.2⟩))
 rintro _ w6 ⟨hn1, rfl, hE6⟩
 replace hb1 := hb1.ext hE6
 replace hb2 := hb2.ext hE6
 replace hX := hX.trans hE6
 replace hKp := hKp.ext hE6
 have sz3 := hE6.size
 refine ewl_nil (onw_n hKp ?_)
 refine ewo_nil ?_
 refine thn_n ?_
 refine ewp_seq ?_
 refine ewp_reg ?_
 refine ewl_run rfl (rn_fa rfl fl61_1) ?_
 refine ewl_run rfl (rn_load rfl ti47 hb1 rfl) ?_
 refine ewl_run rfl (rn_rest rfl rfl sl47) ?_
 refine ewl_run rfl (rn_assign rfl) ?_
 refine ewl_nil ?_
 refine thn_n ?_
 refine ewp_seq ?_
 refine ewp_reg ?_
 refine ewl_run rfl (rn_move rfl) ?_
 refine ewl_run rfl (rn_len rfl sl47) ?_
 refine ewl_run rfl (rn_assign rfl) ?_
 refine ewl_nil ?_
 refine thn_n ?_
 refine ewp_seq ?_
 refine ewp_seq ?_
 refine ewp_reg ?_
 refine ewl_run rfl (rn_fa rfl fl61_1) ?_
 refine ewl_run rfl (rn_load rfl ti47 hb1 rfl) ?_
 refine ewl_run rfl (rn_ixc (i := 0) rfl rfl sl47 (by omega)) ?_
 refine ewl_run rfl (rn_fa rfl fl61_0) ?_
 refine ewl_run rfl (rn_fa rfl fl59_3) ?_
 refine ewl_run rfl (rn_loadd 4 rfl ti9 (hb.ext hX) hd (by omega) rfl) ?_
 refine ewl_nil ?_
 refine thn_n ?_
 refine ewp_block ?_
 refine ewp_seq ?_
 refine ewp_reg ?_
 refine ewl_run rfl (rn_eqS rfl rfl) ?_
 refine ewl_run rfl (rn_assign rfl) ?_
 refine ewl_nil ?_
 refine thn_n ?_
 refine ewp_if rfl (fun h3 => ?_) (fun h3 => ?_)
 refine ewp_seq ?_
 have hr4 := (hb.ext hX)
 have hr5 := hb1
 have hr6 := hb2
 refine ewp_draw mixed (Keeps w6 [b, b1, b2]) [(true, 0), (true, 1), (true, 2), (true, 3), (true, 4), (true, 5), (true, 6), (false, 7), (true, 8), (true, 9), (true, 10), (true, 11), (true, 12), (false, 13), (true, 14), (true, 15), (true, 16), (true, 17), (true, 18), (true, 19), (true, 20), (true, 21), (true, 22), (false, 23)] (by kernel_rfl) (by kernel_rfl) rfl rfl fun w7 hE7 hz4 => ?_
 have hKp : Keeps w6 [b, b1, b2] w7 := Keeps.cons hr4 hE7 (Keeps.cons hr5 hE7 (Keeps.cons hr6 hE7 (Keeps.nil _ _)))
 refine ⟨hKp, ?_⟩
 replace hb1 := hb1.ext hE7
 replace hb2 := hb2.ext hE7
 replace hX := hX.trans hE7
 refine ewo_rd rfl (fun _ hS => rn_loada rfl ti61 (hr5.keep hS (.tail _ (.head _))) rfl) ?_
 refine ewo_rd rfl (fun _ hS => rn_move rfl) ?_
 refine ewo_rd rfl (fun _ hS => rn_geI rfl rfl) ?_
 refine ewo_rd rfl (fun _ hS => rn_move rfl) ?_
 refine ewo_split 41 rfl (fun h4 => ?_) (fun h4 => ?_)
 · exfalso
   rw [hne] at h4; contradiction
 refine ewo_rdo rfl rfl rfl h4 ?_
 refine ewo_rdo rfl rfl rfl h4 ?_
 refine ewo_rdo rfl rfl rfl h4 ?_
 refine ewo_sp ?_
 refine ewl_off rfl rfl rfl h4 ?_
 refine ewl_nil (onw_n hKp ?_)
 refine ewo_rd rfl (fun _ hS => rn_pickf rfl h4 rfl) ?_
 refine ewo_rd rfl (fun _ hS => rn_move rfl) ?_
 refine ewo_rdo rfl rfl rfl rfl ?_
 refine ewo_rdo rfl rfl rfl rfl ?_
 refine ewo_rdo rfl rfl rfl rfl ?_
 refine ewo_sp ?_
 refine ewl_off rfl rfl rfl rfl ?_
 refine ewl_nil (onw_n hKp ?_)
 refine ewo_rd rfl (fun _ hS => rn_pickf rfl rfl rfl) ?_
 refine ewo_rd rfl (fun _ hS => rn_move rfl) ?_
 refine ewo_rdo rfl rfl rfl rfl ?_
 refine ewo_rdo rfl rfl rfl rfl ?_
 refine ewo_rdo rfl rfl rfl rfl ?_
 refine ewo_rdo rfl rfl rfl rfl ?_
 refine ewo_rdo rfl rfl rfl rfl ?_
 refine ewo_rdo rfl rfl rfl rfl ?_
 refine ewo_rd rfl (fun _ hS => rn_pickf rfl rfl rfl) ?_
 refine ewo_sp ?_
 refine ewl_retp rfl (en_call ent22 rfl rfl) (need_spec _ ⟨_, _, _, _, _⟩ _ _) ?_ (fun c wp hc => And.intro rfl (⟨(t.ln, t.co), by first | exact hm (by assumption) (by assumption) | (simp [topM, SP.need, h1, h2, h3, h4, hn1, hc.1]; done) | (exfalso; have hq := hc.1; simp at hq <;> omega), hc.2.1, hX.trans hc.2.2⟩))
 rintro _ w8 ⟨hn2, rfl, hE8⟩
 cases hn2
 · exfalso
   simp [hw] at h3
 · exfalso
   simp at h2 <;> omega
 refine ewo_rdo rfl rfl rfl h1 ?_
 refine ewo_rdo rfl rfl rfl h1 ?_
 refine ewo_rdo rfl rfl rfl h1 ?_
 refine ewo_rdo rfl rfl rfl h1 ?_
 refine ewo_rd rfl (fun _ hS => rn_pickf rfl h1 rfl) ?_
 refine ewo_rd rfl (fun _ hS => rn_move rfl) ?_
 refine ewo_rdo rfl rfl rfl rfl ?_
 refine ewo_rdo rfl rfl rfl rfl ?_
 refine ewo_rdo rfl rfl rfl rfl ?_
 refine ewo_rdo rfl rfl rfl rfl ?_
 refine ewo_sp ?_
 refine ewl_off rfl rfl rfl rfl ?_
 refine ewl_nil (onw_n hKp ?_)
 refine ewo_rd rfl (fun _ hS => rn_pickf rfl rfl rfl) ?_
 refine ewo_sp ?_
 refine ewl_retp rfl (en_call ent22 rfl rfl) (need_spec _ ⟨_, _, _, _, _⟩ _ _) ?_ (fun c wp hc => And.intro rfl (⟨(t.ln, t.co), by first | exact hm (by assumption) (by assumption) | (simp [topM, SP.need, h1, hc.1]; done) | (exfalso; have hq := hc.1; simp at hq <;> omega), hc.2.1, hX.trans hc.2.2⟩))
 rintro _ w9 ⟨hn3, rfl, hE9⟩
 cases hn3
theorem top_bad_root (n : Nat) (w : World) (hG : Gl w) (t : Tok) (U : Nat → Prop) (ka : Option Addr) (kc : Nat) (kn : Nat) (e0 : Tok) (k0 r : Fo) (hK : FoS U w ka kn kc (.cons e0 k0 r)) (hw : e0.tx = [114, 111, 111, 116]) (hne : ((r.len : Int) == 3) = false) (hm : (t.k == 0) = true → (e0.k == 5) = true → topM (n + 1) t (Fo.cons e0 k0 r) = .error (t.ln, t.co)) :
   RetP Tryz.prog 17 #[.agg #[.int .i64 t.k, .int .i64 t.ln, .int .i64 t.co, .int .i64 t.nm, S t.tx, .slice ka kn kc]] w (fun v w' => ∃ nd, (topM (n + 1)) t (Fo.cons e0 k0 r) = .ok nd ∧ NV w w' v nd ∧ Ext w w') (fun c w' => ∃ e, (topM (n + 1)) t (Fo.cons e0 k0 r) = .error e ∧ c = trb 45 e ∧ Ext w w') := by
 obtain ⟨b, off, cells, T, a0, n0, c0, l1, hUb, rfl, hb, hd, hk0, hr1⟩ := hK.head
 have hblt := hb.lt
 obtain rfl : kn = r.len + 1 := hK.1
 have hX := Ext.refl w
 refine enterP Tryz.func17 rfl rfl rfl ?_
 refine ewp_seq ?_
 refine ewp_reg ?_
 refine ewl_box rfl rfl rfl fun b1 w1 hb1 hE1 hs1 hz1 => ?_
 replace hX := hX.trans hE1
 refine ewl_alloc rfl zr40 fun b2 w2 hb2 hE2 hs2 hz2 => ?_
 replace hb1 := hb1.ext hE2
 replace hX := hX.trans hE2
 refine ewl_nil ?_
 refine thn_n ?_
 refine ewp_seq ?_
 have hr1 := (hb.ext hX)
 have hr2 := hb1
 have hr3 := hb2
 refine ewp_draw mixed (Keeps w2 [b, b1, b2]) [(true, 0), (true, 1), (false, 2), (true, 3), (true, 4), (true, 5), (true, 6), (true, 7), (true, 8), (true, 9), (true, 10), (true, 11), (true, 12), (true, 13), (false, 14), (true, 15), (false, 16)] (by kernel_rfl) (by kernel_rfl) rfl rfl fun w3 hE3 hz3 => ?_
 have hKp : Keeps w2 [b, b1, b2] w3 := Keeps.cons hr1 hE3 (Keeps.cons hr2 hE3 (Keeps.cons hr3 hE3 (Keeps.nil _ _)))
 refine ⟨hKp, ?_⟩
 replace hb1 := hb1.ext hE3
 replace hb2 := hb2.ext hE3
 replace hX := hX.trans hE3
 refine ewo_rd rfl (fun _ hS => rn_loada rfl ti61 (hr2.keep hS (.tail _ (.head _))) rfl) ?_
 refine ewo_rd rfl (fun _ hS => rn_loada rfl ti61 (hr2.keep hS (.tail _ (.head _))) rfl) ?_
 refine ewo_sp ?_
 refine ewl_ret rfl (en_call ent23 rfl rfl) (isList_spec _ ⟨_, _, _, _, _⟩ _) ?_
 rintro _ w4 ⟨rfl, hE4⟩
 replace hb1 := hb1.ext hE4
 replace hb2 := hb2.ext hE4
 replace hX := hX.trans hE4
 replace hKp := hKp.ext hE4
 have sz1 := hE4.size
 refine ewl_nil (onw_n hKp ?_)
 refine ewo_rd rfl (fun _ hS => rn_move rfl) ?_
 refine ewo_split 11 rfl (fun h1 => ?_) (fun h1 => ?_)
 refine ewo_rdg rfl rfl rfl h1 (fun _ hS => rn_fa rfl fl61_1) ?_
 refine ewo_rdg rfl rfl rfl h1 (fun _ hS => rn_load rfl ti47 (hr2.keep hS (.tail _ (.head _))) rfl) ?_
 refine ewo_rdg rfl rfl rfl h1 (fun _ hS => rn_len rfl sl47) ?_
 refine ewo_rdg rfl rfl rfl h1 (fun _ hS => rn_gtI rfl rfl) ?_
 refine ewo_rd rfl (fun _ hS => rn_pickt rfl h1 rfl) ?_
 refine ewo_rd rfl (fun _ hS => rn_move rfl) ?_
 refine ewo_split 17 rfl (fun h2 => ?_) (fun h2 => ?_)
 refine ewo_rdg rfl rfl rfl h2 (fun _ hS => rn_fa rfl fl61_1) ?_
 refine ewo_rdg rfl rfl rfl h2 (fun _ hS => rn_load rfl ti47 (hr2.keep hS (.tail _ (.head _))) rfl) ?_
 refine ewo_rdg rfl rfl rfl h2 (fun _ hS => rn_ixc (i := 0) rfl rfl sl47 (by omega)) ?_
 refine ewo_rdg rfl rfl rfl h2 (fun _ hS => rn_loadad 0 rfl ti61 (hr1.keep hS (.head _)) hd (by omega) rfl) ?_
 refine ewo_sp ?_
 refine ewl_grd rfl rfl h2 ?_
 refine ewl_ret rfl (en_call ent24 rfl rfl) (isName_spec _ ⟨_, _, _, _, _⟩ _) ?_
 rintro _ w5 ⟨rfl, hE5⟩
 replace hb1 := hb1.ext hE5
 replace hb2 := hb2.ext hE5
 replace hX := hX.trans hE5
 replace hKp := hKp.ext hE5
 have sz2 := hE5.size
 refine ewl_nil (onw_n hKp ?_)
 refine ewo_rd rfl (fun _ hS => rn_pickt rfl h2 rfl) ?_
 refine ewo_sp ?_
 refine ewl_retp rfl (en_call ent22 rfl rfl) (need_spec _ ⟨_, _, _, _, _⟩ _ _) ?_ (fun c wp hc => And.intro rfl (⟨(t.ln, t.co), by first | exact hm (by assumption) (by assumption) | (simp [topM, SP.need, h1, h2, hc.1]; done) | (exfalso; have hq := hc.1; simp at hq <;> omega), hc.2.1, hX.trans hc.2.2⟩))
 rintro _ w6 ⟨hn1, rfl, hE6⟩
 replace hb1 := hb1.ext hE6
 replace hb2 := hb2.ext hE6
 replace hX := hX.trans hE6
 replace hKp := hKp.ext hE6
 have sz3 := hE6.size
 refine ewl_nil (onw_n hKp ?_)
 refine ewo_nil ?_
 refine thn_n ?_
 refine ewp_seq ?_
 refine ewp_reg ?_
 refine ewl_run rfl (rn_fa rfl fl61_1) ?_
 refine ewl_run rfl (rn_load rfl ti47 hb1 rfl) ?_
 refine ewl_run rfl (rn_rest rfl rfl sl47) ?_
 refine ewl_run rfl (rn_assign rfl) ?_
 refine ewl_nil ?_
 refine thn_n ?_
 refine ewp_seq ?_
 refine ewp_reg ?_
 refine ewl_run rfl (rn_move rfl) ?_
 refine ewl_run rfl (rn_len rfl sl47) ?_
 refine ewl_run rfl (rn_assign rfl) ?_
 refine ewl_nil ?_
 refine thn_n ?_
 refine ewp_seq ?_
 refine ewp_seq ?_
 refine ewp_reg ?_
 refine ewl_run rfl (rn_fa rfl fl61_1) ?_
 refine ewl_run rfl (rn_load rfl ti47 hb1 rfl) ?_
 refine ewl_run rfl (rn_ixc (i := 0) rfl rfl sl47 (by omega)) ?_
 refine ewl_run rfl (rn_fa rfl fl61_0) ?_
 refine ewl_run rfl (rn_fa rfl fl59_3) ?_
 refine ewl_run rfl (rn_loadd 4 rfl ti9 (hb.ext hX) hd (by omega) rfl) ?_
 refine ewl_nil ?_
 refine thn_n ?_
 refine ewp_block ?_
 refine ewp_seq ?_
 refine ewp_reg ?_
 refine ewl_run rfl (rn_eqS rfl rfl) ?_
 refine ewl_run rfl (rn_assign rfl) ?_
 refine ewl_nil ?_
 refine thn_n ?_
 refine ewp_if rfl (fun h3 => ?_) (fun h3 => ?_)
 · exfalso
   simp [hw] at h3
 refine ewp_seq ?_
 refine ewp_reg ?_
 refine ewl_run rfl (rn_eqS rfl rfl) ?_
 refine ewl_run rfl (rn_assign rfl) ?_
 refine ewl_nil ?_
 refine thn_n ?_
 refine ewp_if rfl (fun h4 => ?_) (fun h4 => ?_)
 refine ewp_seq ?_
 have hr4 := (hb.ext hX)
 have hr5 := hb1
 have hr6 := hb2
 refine ewp_draw mixed (Keeps w6 [b, b1, b2]) [(true, 0), (true, 1), (true, 2), (true, 3), (true, 4), (true, 5), (true, 6), (false, 7), (true, 8), (false, 9)] (by kernel_rfl) (by kernel_rfl) rfl rfl fun w7 hE7 hz4 => ?_
 have hKp : Keeps w6 [b, b1, b2] w7 := Keeps.cons hr4 hE7 (Keeps.cons hr5 hE7 (Keeps.cons hr6 hE7 (Keeps.nil _ _)))
 refine ⟨hKp, ?_⟩
 replace hb1 := hb1.ext hE7
 replace hb2 := hb2.ext hE7
 replace hX := hX.trans hE7
 refine ewo_rd rfl (fun _ hS => rn_loada rfl ti61 (hr5.keep hS (.tail _ (.head _))) rfl) ?_
 refine ewo_rd rfl (fun _ hS => rn_move rfl) ?_
 refine ewo_rd rfl (fun _ hS => rn_eqI rfl rfl) ?_
 refine ewo_rd rfl (fun _ hS => rn_move rfl) ?_
 refine ewo_split 101 rfl (fun h5 => ?_) (fun h5 => ?_)
 · exfalso
   rw [hne] at h5; contradiction
 refine ewo_rdo rfl rfl rfl h5 ?_
 refine ewo_rdo rfl rfl rfl h5 ?_
 refine ewo_rdo rfl rfl rfl h5 ?_
 refine ewo_sp ?_
 refine ewl_off rfl rfl rfl h5 ?_
 refine ewl_nil (onw_n hKp ?_)
 refine ewo_rd rfl (fun _ hS => rn_pickf rfl h5 rfl) ?_
 refine ewo_sp ?_
 refine ewl_retp rfl (en_call ent22 rfl rfl) (need_spec _ ⟨_, _, _, _, _⟩ _ _) ?_ (fun c wp hc => And.intro rfl (⟨(t.ln, t.co), by first | exact hm (by assumption) (by assumption) | (simp [topM, SP.need, h1, h2, h3, h4, h5, hn1, hc.1]; done) | (exfalso; have hq := hc.1; simp at hq <;> omega), hc.2.1, hX.trans hc.2.2⟩))
 rintro _ w8 ⟨hn2, rfl, hE8⟩
 cases hn2
 · exfalso
   simp [hw] at h4
 · exfalso
   simp at h2 <;> omega
 refine ewo_rdo rfl rfl rfl h1 ?_
 refine ewo_rdo rfl rfl rfl h1 ?_
 refine ewo_rdo rfl rfl rfl h1 ?_
 refine ewo_rdo rfl rfl rfl h1 ?_
 refine ewo_rd rfl (fun _ hS => rn_pickf rfl h1 rfl) ?_
 refine ewo_rd rfl (fun _ hS => rn_move rfl) ?_
 refine ewo_rdo rfl rfl rfl rfl ?_
 refine ewo_rdo rfl rfl rfl rfl ?_
 refine ewo_rdo rfl rfl rfl rfl ?_
 refine ewo_rdo rfl rfl rfl rfl ?_
 refine ewo_sp ?_
 refine ewl_off rfl rfl rfl rfl ?_
 refine ewl_nil (onw_n hKp ?_)
 refine ewo_rd rfl (fun _ hS => rn_pickf rfl rfl rfl) ?_
 refine ewo_sp ?_
 refine ewl_retp rfl (en_call ent22 rfl rfl) (need_spec _ ⟨_, _, _, _, _⟩ _ _) ?_ (fun c wp hc => And.intro rfl (⟨(t.ln, t.co), by first | exact hm (by assumption) (by assumption) | (simp [topM, SP.need, h1, hc.1]; done) | (exfalso; have hq := hc.1; simp at hq <;> omega), hc.2.1, hX.trans hc.2.2⟩))
 rintro _ w9 ⟨hn3, rfl, hE9⟩
 cases hn3
theorem top_bad_def (n : Nat) (w : World) (hG : Gl w) (t : Tok) (U : Nat → Prop) (ka : Option Addr) (kc : Nat) (kn : Nat) (e0 : Tok) (k0 r : Fo) (hK : FoS U w ka kn kc (.cons e0 k0 r)) (hw : e0.tx = [100, 101, 102]) (hne : ((r.len : Int) == 2) = false) (hm : (t.k == 0) = true → (e0.k == 5) = true → topM (n + 1) t (Fo.cons e0 k0 r) = .error (t.ln, t.co)) :
   RetP Tryz.prog 17 #[.agg #[.int .i64 t.k, .int .i64 t.ln, .int .i64 t.co, .int .i64 t.nm, S t.tx, .slice ka kn kc]] w (fun v w' => ∃ nd, (topM (n + 1)) t (Fo.cons e0 k0 r) = .ok nd ∧ NV w w' v nd ∧ Ext w w') (fun c w' => ∃ e, (topM (n + 1)) t (Fo.cons e0 k0 r) = .error e ∧ c = trb 45 e ∧ Ext w w') := by
 obtain ⟨b, off, cells, T, a0, n0, c0, l1, hUb, rfl, hb, hd, hk0, hr1⟩ := hK.head
 have hblt := hb.lt
 obtain rfl : kn = r.len + 1 := hK.1
 have hX := Ext.refl w
 refine enterP Tryz.func17 rfl rfl rfl ?_
 refine ewp_seq ?_
 refine ewp_reg ?_
 refine ewl_box rfl rfl rfl fun b1 w1 hb1 hE1 hs1 hz1 => ?_
 replace hX := hX.trans hE1
 refine ewl_alloc rfl zr40 fun b2 w2 hb2 hE2 hs2 hz2 => ?_
 replace hb1 := hb1.ext hE2
 replace hX := hX.trans hE2
 refine ewl_nil ?_
 refine thn_n ?_
 refine ewp_seq ?_
 have hr1 := (hb.ext hX)
 have hr2 := hb1
 have hr3 := hb2
 refine ewp_draw mixed (Keeps w2 [b, b1, b2]) [(true, 0), (true, 1), (false, 2), (true, 3), (true, 4), (true, 5), (true, 6), (true, 7), (true, 8), (true, 9), (true, 10), (true, 11), (true, 12), (true, 13), (false, 14), (true, 15), (false, 16)] (by kernel_rfl) (by kernel_rfl) rfl rfl fun w3 hE3 hz3 => ?_
 have hKp : Keeps w2 [b, b1, b2] w3 := Keeps.cons hr1 hE3 (Keeps.cons hr2 hE3 (Keeps.cons hr3 hE3 (Keeps.nil _ _)))
 refine ⟨hKp, ?_⟩
 replace hb1 := hb1.ext hE3
 replace hb2 := hb2.ext hE3
 replace hX := hX.trans hE3
 refine ewo_rd rfl (fun _ hS => rn_loada rfl ti61 (hr2.keep hS (.tail _ (.head _))) rfl) ?_
 refine ewo_rd rfl (fun _ hS => rn_loada rfl ti61 (hr2.keep hS (.tail _ (.head _))) rfl) ?_
 refine ewo_sp ?_
 refine ewl_ret rfl (en_call ent23 rfl rfl) (isList_spec _ ⟨_, _, _, _, _⟩ _) ?_
 rintro _ w4 ⟨rfl, hE4⟩
 replace hb1 := hb1.ext hE4
 replace hb2 := hb2.ext hE4
 replace hX := hX.trans hE4
 replace hKp := hKp.ext hE4
 have sz1 := hE4.size
 refine ewl_nil (onw_n hKp ?_)
 refine ewo_rd rfl (fun _ hS => rn_move rfl) ?_
 refine ewo_split 11 rfl (fun h1 => ?_) (fun h1 => ?_)
 refine ewo_rdg rfl rfl rfl h1 (fun _ hS => rn_fa rfl fl61_1) ?_
 refine ewo_rdg rfl rfl rfl h1 (fun _ hS => rn_load rfl ti47 (hr2.keep hS (.tail _ (.head _))) rfl) ?_
 refine ewo_rdg rfl rfl rfl h1 (fun _ hS => rn_len rfl sl47) ?_
 refine ewo_rdg rfl rfl rfl h1 (fun _ hS => rn_gtI rfl rfl) ?_
 refine ewo_rd rfl (fun _ hS => rn_pickt rfl h1 rfl) ?_
 refine ewo_rd rfl (fun _ hS => rn_move rfl) ?_
 refine ewo_split 17 rfl (fun h2 => ?_) (fun h2 => ?_)
 refine ewo_rdg rfl rfl rfl h2 (fun _ hS => rn_fa rfl fl61_1) ?_
 refine ewo_rdg rfl rfl rfl h2 (fun _ hS => rn_load rfl ti47 (hr2.keep hS (.tail _ (.head _))) rfl) ?_
 refine ewo_rdg rfl rfl rfl h2 (fun _ hS => rn_ixc (i := 0) rfl rfl sl47 (by omega)) ?_
 refine ewo_rdg rfl rfl rfl h2 (fun _ hS => rn_loadad 0 rfl ti61 (hr1.keep hS (.head _)) hd (by omega) rfl) ?_
 refine ewo_sp ?_
 refine ewl_grd rfl rfl h2 ?_
 refine ewl_ret rfl (en_call ent24 rfl rfl) (isName_spec _ ⟨_, _, _, _, _⟩ _) ?_
 rintro _ w5 ⟨rfl, hE5⟩
 replace hb1 := hb1.ext hE5
 replace hb2 := hb2.ext hE5
 replace hX := hX.trans hE5
 replace hKp := hKp.ext hE5
 have sz2 := hE5.size
 refine ewl_nil (onw_n hKp ?_)
 refine ewo_rd rfl (fun _ hS => rn_pickt rfl h2 rfl) ?_
 refine ewo_sp ?_
 refine ewl_retp rfl (en_call ent22 rfl rfl) (need_spec _ ⟨_, _, _, _, _⟩ _ _) ?_ (fun c wp hc => And.intro rfl (⟨(t.ln, t.co), by first | exact hm (by assumption) (by assumption) | (simp [topM, SP.need, h1, h2, hc.1]; done) | (exfalso; have hq := hc.1; simp at hq <;> omega), hc.2.1, hX.trans hc.2.2⟩))
 rintro _ w6 ⟨hn1, rfl, hE6⟩
 replace hb1 := hb1.ext hE6
 replace hb2 := hb2.ext hE6
 replace hX := hX.trans hE6
 replace hKp := hKp.ext hE6
 have sz3 := hE6.size
 refine ewl_nil (onw_n hKp ?_)
 refine ewo_nil ?_
 refine thn_n ?_
 refine ewp_seq ?_
 refine ewp_reg ?_
 refine ewl_run rfl (rn_fa rfl fl61_1) ?_
 refine ewl_run rfl (rn_load rfl ti47 hb1 rfl) ?_
 refine ewl_run rfl (rn_rest rfl rfl sl47) ?_
 refine ewl_run rfl (rn_assign rfl) ?_
 refine ewl_nil ?_
 refine thn_n ?_
 refine ewp_seq ?_
 refine ewp_reg ?_
 refine ewl_run rfl (rn_move rfl) ?_
 refine ewl_run rfl (rn_len rfl sl47) ?_
 refine ewl_run rfl (rn_assign rfl) ?_
 refine ewl_nil ?_
 refine thn_n ?_
 refine ewp_seq ?_
 refine ewp_seq ?_
 refine ewp_reg ?_
 refine ewl_run rfl (rn_fa rfl fl61_1) ?_
 refine ewl_run rfl (rn_load rfl ti47 hb1 rfl) ?_
 refine ewl_run rfl (rn_ixc (i := 0) rfl rfl sl47 (by omega)) ?_
 refine ewl_run rfl (rn_fa rfl fl61_0) ?_
 refine ewl_run rfl (rn_fa rfl fl59_3) ?_
 refine ewl_run rfl (rn_loadd 4 rfl ti9 (hb.ext hX) hd (by omega) rfl) ?_
 refine ewl_nil ?_
 refine thn_n ?_
 refine ewp_block ?_
 refine ewp_seq ?_
 refine ewp_reg ?_
 refine ewl_run rfl (rn_eqS rfl rfl) ?_
 refine ewl_run rfl (rn_assign rfl) ?_
 refine ewl_nil ?_
 refine thn_n ?_
 refine ewp_if rfl (fun h3 => ?_) (fun h3 => ?_)
 · exfalso
   simp [hw] at h3
 refine ewp_seq ?_
 refine ewp_reg ?_
 refine ewl_run rfl (rn_eqS rfl rfl) ?_
 refine ewl_run rfl (rn_assign rfl) ?_
 refine ewl_nil ?_
 refine thn_n ?_
 refine ewp_if rfl (fun h4 => ?_) (fun h4 => ?_)
 · exfalso
   simp [hw] at h4
 refine ewp_seq ?_
 refine ewp_reg ?_
 refine ewl_run rfl (rn_eqS rfl rfl) ?_
 refine ewl_run rfl (rn_assign rfl) ?_
 refine ewl_nil ?_
 refine thn_n ?_
 refine ewp_if rfl (fun h5 => ?_) (fun h5 => ?_)
 refine ewp_seq ?_
 have hr4 := (hb.ext hX)
 have hr5 := hb1
 have hr6 := hb2
 refine ewp_draw mixed (Keeps w6 [b, b1, b2]) [(true, 0), (true, 1), (true, 2), (true, 3), (true, 4), (true, 5), (true, 6), (false, 7), (true, 8), (false, 9)] (by kernel_rfl) (by kernel_rfl) rfl rfl fun w7 hE7 hz4 => ?_
 have hKp : Keeps w6 [b, b1, b2] w7 := Keeps.cons hr4 hE7 (Keeps.cons hr5 hE7 (Keeps.cons hr6 hE7 (Keeps.nil _ _)))
 refine ⟨hKp, ?_⟩
 replace hb1 := hb1.ext hE7
 replace hb2 := hb2.ext hE7
 replace hX := hX.trans hE7
 refine ewo_rd rfl (fun _ hS => rn_loada rfl ti61 (hr5.keep hS (.tail _ (.head _))) rfl) ?_
 refine ewo_rd rfl (fun _ hS => rn_move rfl) ?_
 refine ewo_rd rfl (fun _ hS => rn_eqI rfl rfl) ?_
 refine ewo_rd rfl (fun _ hS => rn_move rfl) ?_
 refine ewo_split 129 rfl (fun h6 => ?_) (fun h6 => ?_)
 · exfalso
   rw [hne] at h6; contradiction
 refine ewo_rdo rfl rfl rfl h6 ?_
 refine ewo_rdo rfl rfl rfl h6 ?_
 refine ewo_rdo rfl rfl rfl h6 ?_
 refine ewo_sp ?_
 refine ewl_off rfl rfl rfl h6 ?_
 refine ewl_nil (onw_n hKp ?_)
 refine ewo_rd rfl (fun _ hS => rn_pickf rfl h6 rfl) ?_
 refine ewo_sp ?_
 refine ewl_retp rfl (en_call ent22 rfl rfl) (need_spec _ ⟨_, _, _, _, _⟩ _ _) ?_ (fun c wp hc => And.intro rfl (⟨(t.ln, t.co), by first | exact hm (by assumption) (by assumption) | (simp [topM, SP.need, h1, h2, h3, h4, h5, h6, hn1, hc.1]; done) | (exfalso; have hq := hc.1; simp at hq <;> omega), hc.2.1, hX.trans hc.2.2⟩))
 rintro _ w8 ⟨hn2, rfl, hE8⟩
 cases hn2
 · exfalso
   simp [hw] at h5
 · exfalso
   simp at h2 <;> omega
 refine ewo_rdo rfl rfl rfl h1 ?_
 refine ewo_rdo rfl rfl rfl h1 ?_
 refine ewo_rdo rfl rfl rfl h1 ?_
 refine ewo_rdo rfl rfl rfl h1 ?_
 refine ewo_rd rfl (fun _ hS => rn_pickf rfl h1 rfl) ?_
 refine ewo_rd rfl (fun _ hS => rn_move rfl) ?_
 refine ewo_rdo rfl rfl rfl rfl ?_
 refine ewo_rdo rfl rfl rfl rfl ?_
 refine ewo_rdo rfl rfl rfl rfl ?_
 refine ewo_rdo rfl rfl rfl rfl ?_
 refine ewo_sp ?_
 refine ewl_off rfl rfl rfl rfl ?_
 refine ewl_nil (onw_n hKp ?_)
 refine ewo_rd rfl (fun _ hS => rn_pickf rfl rfl rfl) ?_
 refine ewo_sp ?_
 refine ewl_retp rfl (en_call ent22 rfl rfl) (need_spec _ ⟨_, _, _, _, _⟩ _ _) ?_ (fun c wp hc => And.intro rfl (⟨(t.ln, t.co), by first | exact hm (by assumption) (by assumption) | (simp [topM, SP.need, h1, hc.1]; done) | (exfalso; have hq := hc.1; simp at hq <;> omega), hc.2.1, hX.trans hc.2.2⟩))
 rintro _ w9 ⟨hn3, rfl, hE9⟩
 cases hn3
theorem top_bad_rec (n : Nat) (w : World) (hG : Gl w) (t : Tok) (U : Nat → Prop) (ka : Option Addr) (kc : Nat) (kn : Nat) (e0 : Tok) (k0 r : Fo) (hK : FoS U w ka kn kc (.cons e0 k0 r)) (hw : e0.tx = [114, 101, 99]) (hne : ((r.len : Int) == 2) = false) (hm : (t.k == 0) = true → (e0.k == 5) = true → topM (n + 1) t (Fo.cons e0 k0 r) = .error (t.ln, t.co)) :
   RetP Tryz.prog 17 #[.agg #[.int .i64 t.k, .int .i64 t.ln, .int .i64 t.co, .int .i64 t.nm, S t.tx, .slice ka kn kc]] w (fun v w' => ∃ nd, (topM (n + 1)) t (Fo.cons e0 k0 r) = .ok nd ∧ NV w w' v nd ∧ Ext w w') (fun c w' => ∃ e, (topM (n + 1)) t (Fo.cons e0 k0 r) = .error e ∧ c = trb 45 e ∧ Ext w w') := by
 obtain ⟨b, off, cells, T, a0, n0, c0, l1, hUb, rfl, hb, hd, hk0, hr1⟩ := hK.head
 have hblt := hb.lt
 obtain rfl : kn = r.len + 1 := hK.1
 have hX := Ext.refl w
 refine enterP Tryz.func17 rfl rfl rfl ?_
 refine ewp_seq ?_
 refine ewp_reg ?_
 refine ewl_box rfl rfl rfl fun b1 w1 hb1 hE1 hs1 hz1 => ?_
 replace hX := hX.trans hE1
 refine ewl_alloc rfl zr40 fun b2 w2 hb2 hE2 hs2 hz2 => ?_
 replace hb1 := hb1.ext hE2
 replace hX := hX.trans hE2
 refine ewl_nil ?_
 refine thn_n ?_
 refine ewp_seq ?_
 have hr1 := (hb.ext hX)
 have hr2 := hb1
 have hr3 := hb2
 refine ewp_draw mixed (Keeps w2 [b, b1, b2]) [(true, 0), (true, 1), (false, 2), (true, 3), (true, 4), (true, 5), (true, 6), (true, 7), (true, 8), (true, 9), (true, 10), (true, 11), (true, 12), (true, 13), (false, 14), (true, 15), (false, 16)] (by kernel_rfl) (by kernel_rfl) rfl rfl fun w3 hE3 hz3 => ?_
 have hKp : Keeps w2 [b, b1, b2] w3 := Keeps.cons hr1 hE3 (Keeps.cons hr2 hE3 (Keeps.cons hr3 hE3 (Keeps.nil _ _)))
 refine ⟨hKp, ?_⟩
 replace hb1 := hb1.ext hE3
 replace hb2 := hb2.ext hE3
 replace hX := hX.trans hE3
 refine ewo_rd rfl (fun _ hS => rn_loada rfl ti61 (hr2.keep hS (.tail _ (.head _))) rfl) ?_
 refine ewo_rd rfl (fun _ hS => rn_loada rfl ti61 (hr2.keep hS (.tail _ (.head _))) rfl) ?_
 refine ewo_sp ?_
 refine ewl_ret rfl (en_call ent23 rfl rfl) (isList_spec _ ⟨_, _, _, _, _⟩ _) ?_
 rintro _ w4 ⟨rfl, hE4⟩
 replace hb1 := hb1.ext hE4
 replace hb2 := hb2.ext hE4
 replace hX := hX.trans hE4
 replace hKp := hKp.ext hE4
 have sz1 := hE4.size
 refine ewl_nil (onw_n hKp ?_)
 refine ewo_rd rfl (fun _ hS => rn_move rfl) ?_
 refine ewo_split 11 rfl (fun h1 => ?_) (fun h1 => ?_)
 refine ewo_rdg rfl rfl rfl h1 (fun _ hS => rn_fa rfl fl61_1) ?_
 refine ewo_rdg rfl rfl rfl h1 (fun _ hS => rn_load rfl ti47 (hr2.keep hS (.tail _ (.head _))) rfl) ?_
 refine ewo_rdg rfl rfl rfl h1 (fun _ hS => rn_len rfl sl47) ?_
 refine ewo_rdg rfl rfl rfl h1 (fun _ hS => rn_gtI rfl rfl) ?_
 refine ewo_rd rfl (fun _ hS => rn_pickt rfl h1 rfl) ?_
 refine ewo_rd rfl (fun _ hS => rn_move rfl) ?_
 refine ewo_split 17 rfl (fun h2 => ?_) (fun h2 => ?_)
 refine ewo_rdg rfl rfl rfl h2 (fun _ hS => rn_fa rfl fl61_1) ?_
 refine ewo_rdg rfl rfl rfl h2 (fun _ hS => rn_load rfl ti47 (hr2.keep hS (.tail _ (.head _))) rfl) ?_
 refine ewo_rdg rfl rfl rfl h2 (fun _ hS => rn_ixc (i := 0) rfl rfl sl47 (by omega)) ?_
 refine ewo_rdg rfl rfl rfl h2 (fun _ hS => rn_loadad 0 rfl ti61 (hr1.keep hS (.head _)) hd (by omega) rfl) ?_
 refine ewo_sp ?_
 refine ewl_grd rfl rfl h2 ?_
 refine ewl_ret rfl (en_call ent24 rfl rfl) (isName_spec _ ⟨_, _, _, _, _⟩ _) ?_
 rintro _ w5 ⟨rfl, hE5⟩
 replace hb1 := hb1.ext hE5
 replace hb2 := hb2.ext hE5
 replace hX := hX.trans hE5
 replace hKp := hKp.ext hE5
 have sz2 := hE5.size
 refine ewl_nil (onw_n hKp ?_)
 refine ewo_rd rfl (fun _ hS => rn_pickt rfl h2 rfl) ?_
 refine ewo_sp ?_
 refine ewl_retp rfl (en_call ent22 rfl rfl) (need_spec _ ⟨_, _, _, _, _⟩ _ _) ?_ (fun c wp hc => And.intro rfl (⟨(t.ln, t.co), by first | exact hm (by assumption) (by assumption) | (simp [topM, SP.need, h1, h2, hc.1]; done) | (exfalso; have hq := hc.1; simp at hq <;> omega), hc.2.1, hX.trans hc.2.2⟩))
 rintro _ w6 ⟨hn1, rfl, hE6⟩
 replace hb1 := hb1.ext hE6
 replace hb2 := hb2.ext hE6
 replace hX := hX.trans hE6
 replace hKp := hKp.ext hE6
 have sz3 := hE6.size
 refine ewl_nil (onw_n hKp ?_)
 refine ewo_nil ?_
 refine thn_n ?_
 refine ewp_seq ?_
 refine ewp_reg ?_
 refine ewl_run rfl (rn_fa rfl fl61_1) ?_
 refine ewl_run rfl (rn_load rfl ti47 hb1 rfl) ?_
 refine ewl_run rfl (rn_rest rfl rfl sl47) ?_
 refine ewl_run rfl (rn_assign rfl) ?_
 refine ewl_nil ?_
 refine thn_n ?_
 refine ewp_seq ?_
 refine ewp_reg ?_
 refine ewl_run rfl (rn_move rfl) ?_
 refine ewl_run rfl (rn_len rfl sl47) ?_
 refine ewl_run rfl (rn_assign rfl) ?_
 refine ewl_nil ?_
 refine thn_n ?_
 refine ewp_seq ?_
 refine ewp_seq ?_
 refine ewp_reg ?_
 refine ewl_run rfl (rn_fa rfl fl61_1) ?_
 refine ewl_run rfl (rn_load rfl ti47 hb1 rfl) ?_
 refine ewl_run rfl (rn_ixc (i := 0) rfl rfl sl47 (by omega)) ?_
 refine ewl_run rfl (rn_fa rfl fl61_0) ?_
 refine ewl_run rfl (rn_fa rfl fl59_3) ?_
 refine ewl_run rfl (rn_loadd 4 rfl ti9 (hb.ext hX) hd (by omega) rfl) ?_
 refine ewl_nil ?_
 refine thn_n ?_
 refine ewp_block ?_
 refine ewp_seq ?_
 refine ewp_reg ?_
 refine ewl_run rfl (rn_eqS rfl rfl) ?_
 refine ewl_run rfl (rn_assign rfl) ?_
 refine ewl_nil ?_
 refine thn_n ?_
 refine ewp_if rfl (fun h3 => ?_) (fun h3 => ?_)
 · exfalso
   simp [hw] at h3
 refine ewp_seq ?_
 refine ewp_reg ?_
 refine ewl_run rfl (rn_eqS rfl rfl) ?_
 refine ewl_run rfl (rn_assign rfl) ?_
 refine ewl_nil ?_
 refine thn_n ?_
 refine ewp_if rfl (fun h4 => ?_) (fun h4 => ?_)
 · exfalso
   simp [hw] at h4
 refine ewp_seq ?_
 refine ewp_reg ?_
 refine ewl_run rfl (rn_eqS rfl rfl) ?_
 refine ewl_run rfl (rn_assign rfl) ?_
 refine ewl_nil ?_
 refine thn_n ?_
 refine ewp_if rfl (fun h5 => ?_) (fun h5 => ?_)
 · exfalso
   simp [hw] at h5
 refine ewp_seq ?_
 refine ewp_reg ?_
 refine ewl_run rfl (rn_eqS rfl rfl) ?_
 refine ewl_run rfl (rn_assign rfl) ?_
 refine ewl_nil ?_
 refine thn_n ?_
 refine ewp_if rfl (fun h6 => ?_) (fun h6 => ?_)
 refine ewp_seq ?_
 have hr4 := (hb.ext hX)
 have hr5 := hb1
 have hr6 := hb2
 refine ewp_draw mixed (Keeps w6 [b, b1, b2]) [(true, 0), (true, 1), (true, 2), (true, 3), (true, 4), (true, 5), (true, 6), (false, 7), (true, 8), (true, 9), (true, 10), (true, 11), (true, 12), (false, 13), (true, 14), (false, 15)] (by kernel_rfl) (by kernel_rfl) rfl rfl fun w7 hE7 hz4 => ?_
 have hKp : Keeps w6 [b, b1, b2] w7 := Keeps.cons hr4 hE7 (Keeps.cons hr5 hE7 (Keeps.cons hr6 hE7 (Keeps.nil _ _)))
 refine ⟨hKp, ?_⟩
 replace hb1 := hb1.ext hE7
 replace hb2 := hb2.ext hE7
 replace hX := hX.trans hE7
 refine ewo_rd rfl (fun _ hS => rn_loada rfl ti61 (hr5.keep hS (.tail _ (.head _))) rfl) ?_
 refine ewo_rd rfl (fun _ hS => rn_move rfl) ?_
 refine ewo_rd rfl (fun _ hS => rn_eqI rfl rfl) ?_
 refine ewo_rd rfl (fun _ hS => rn_move rfl) ?_
 refine ewo_split 153 rfl (fun h7 => ?_) (fun h7 => ?_)
 · exfalso
   rw [hne] at h7; contradiction
 refine ewo_rdo rfl rfl rfl h7 ?_
 refine ewo_rdo rfl rfl rfl h7 ?_
 refine ewo_rdo rfl rfl rfl h7 ?_
 refine ewo_sp ?_
 refine ewl_off rfl rfl rfl h7 ?_
 refine ewl_nil (onw_n hKp ?_)
 refine ewo_rd rfl (fun _ hS => rn_pickf rfl h7 rfl) ?_
 refine ewo_rd rfl (fun _ hS => rn_move rfl) ?_
 refine ewo_rdo rfl rfl rfl rfl ?_
 refine ewo_rdo rfl rfl rfl rfl ?_
 refine ewo_rdo rfl rfl rfl rfl ?_
 refine ewo_sp ?_
 refine ewl_off rfl rfl rfl rfl ?_
 refine ewl_nil (onw_n hKp ?_)
 refine ewo_rd rfl (fun _ hS => rn_pickf rfl rfl rfl) ?_
 refine ewo_sp ?_
 refine ewl_retp rfl (en_call ent22 rfl rfl) (need_spec _ ⟨_, _, _, _, _⟩ _ _) ?_ (fun c wp hc => And.intro rfl (⟨(t.ln, t.co), by first | exact hm (by assumption) (by assumption) | (simp [topM, SP.need, h1, h2, h3, h4, h5, h6, h7, hn1, hc.1]; done) | (exfalso; have hq := hc.1; simp at hq <;> omega), hc.2.1, hX.trans hc.2.2⟩))
 rintro _ w8 ⟨hn2, rfl, hE8⟩
 cases hn2
 · exfalso
   simp [hw] at h6
 · exfalso
   simp at h2 <;> omega
 refine ewo_rdo rfl rfl rfl h1 ?_
 refine ewo_rdo rfl rfl rfl h1 ?_
 refine ewo_rdo rfl rfl rfl h1 ?_
 refine ewo_rdo rfl rfl rfl h1 ?_
 refine ewo_rd rfl (fun _ hS => rn_pickf rfl h1 rfl) ?_
 refine ewo_rd rfl (fun _ hS => rn_move rfl) ?_
 refine ewo_rdo rfl rfl rfl rfl ?_
 refine ewo_rdo rfl rfl rfl rfl ?_
 refine ewo_rdo rfl rfl rfl rfl ?_
 refine ewo_rdo rfl rfl rfl rfl ?_
 refine ewo_sp ?_
 refine ewl_off rfl rfl rfl rfl ?_
 refine ewl_nil (onw_n hKp ?_)
 refine ewo_rd rfl (fun _ hS => rn_pickf rfl rfl rfl) ?_
 refine ewo_sp ?_
 refine ewl_retp rfl (en_call ent22 rfl rfl) (need_spec _ ⟨_, _, _, _, _⟩ _ _) ?_ (fun c wp hc => And.intro rfl (⟨(t.ln, t.co), by first | exact hm (by assumption) (by assumption) | (simp [topM, SP.need, h1, hc.1]; done) | (exfalso; have hq := hc.1; simp at hq <;> omega), hc.2.1, hX.trans hc.2.2⟩))
 rintro _ w9 ⟨hn3, rfl, hE9⟩
 cases hn3
theorem top_bad_do (n : Nat) (w : World) (hG : Gl w) (t : Tok) (U : Nat → Prop) (ka : Option Addr) (kc : Nat) (kn : Nat) (e0 : Tok) (k0 r : Fo) (hK : FoS U w ka kn kc (.cons e0 k0 r)) (hw : e0.tx = [100, 111]) (hne : ((r.len : Int) == 1) = false) (hm : (t.k == 0) = true → (e0.k == 5) = true → topM (n + 1) t (Fo.cons e0 k0 r) = .error (t.ln, t.co)) :
   RetP Tryz.prog 17 #[.agg #[.int .i64 t.k, .int .i64 t.ln, .int .i64 t.co, .int .i64 t.nm, S t.tx, .slice ka kn kc]] w (fun v w' => ∃ nd, (topM (n + 1)) t (Fo.cons e0 k0 r) = .ok nd ∧ NV w w' v nd ∧ Ext w w') (fun c w' => ∃ e, (topM (n + 1)) t (Fo.cons e0 k0 r) = .error e ∧ c = trb 45 e ∧ Ext w w') := by
 obtain ⟨b, off, cells, T, a0, n0, c0, l1, hUb, rfl, hb, hd, hk0, hr1⟩ := hK.head
 have hblt := hb.lt
 obtain rfl : kn = r.len + 1 := hK.1
 have hX := Ext.refl w
 refine enterP Tryz.func17 rfl rfl rfl ?_
 refine ewp_seq ?_
 refine ewp_reg ?_
 refine ewl_box rfl rfl rfl fun b1 w1 hb1 hE1 hs1 hz1 => ?_
 replace hX := hX.trans hE1
 refine ewl_alloc rfl zr40 fun b2 w2 hb2 hE2 hs2 hz2 => ?_
 replace hb1 := hb1.ext hE2
 replace hX := hX.trans hE2
 refine ewl_nil ?_
 refine thn_n ?_
 refine ewp_seq ?_
 have hr1 := (hb.ext hX)
 have hr2 := hb1
 have hr3 := hb2
 refine ewp_draw mixed (Keeps w2 [b, b1, b2]) [(true, 0), (true, 1), (false, 2), (true, 3), (true, 4), (true, 5), (true, 6), (true, 7), (true, 8), (true, 9), (true, 10), (true, 11), (true, 12), (true, 13), (false, 14), (true, 15), (false, 16)] (by kernel_rfl) (by kernel_rfl) rfl rfl fun w3 hE3 hz3 => ?_
 have hKp : Keeps w2 [b, b1, b2] w3 := Keeps.cons hr1 hE3 (Keeps.cons hr2 hE3 (Keeps.cons hr3 hE3 (Keeps.nil _ _)))
 refine ⟨hKp, ?_⟩
 replace hb1 := hb1.ext hE3
 replace hb2 := hb2.ext hE3
 replace hX := hX.trans hE3
 refine ewo_rd rfl (fun _ hS => rn_loada rfl ti61 (hr2.keep hS (.tail _ (.head _))) rfl) ?_
 refine ewo_rd rfl (fun _ hS => rn_loada rfl ti61 (hr2.keep hS (.tail _ (.head _))) rfl) ?_
 refine ewo_sp ?_
 refine ewl_ret rfl (en_call ent23 rfl rfl) (isList_spec _ ⟨_, _, _, _, _⟩ _) ?_
 rintro _ w4 ⟨rfl, hE4⟩
 replace hb1 := hb1.ext hE4
 replace hb2 := hb2.ext hE4
 replace hX := hX.trans hE4
 replace hKp := hKp.ext hE4
 have sz1 := hE4.size
 refine ewl_nil (onw_n hKp ?_)
 refine ewo_rd rfl (fun _ hS => rn_move rfl) ?_
 refine ewo_split 11 rfl (fun h1 => ?_) (fun h1 => ?_)
 refine ewo_rdg rfl rfl rfl h1 (fun _ hS => rn_fa rfl fl61_1) ?_
 refine ewo_rdg rfl rfl rfl h1 (fun _ hS => rn_load rfl ti47 (hr2.keep hS (.tail _ (.head _))) rfl) ?_
 refine ewo_rdg rfl rfl rfl h1 (fun _ hS => rn_len rfl sl47) ?_
 refine ewo_rdg rfl rfl rfl h1 (fun _ hS => rn_gtI rfl rfl) ?_
 refine ewo_rd rfl (fun _ hS => rn_pickt rfl h1 rfl) ?_
 refine ewo_rd rfl (fun _ hS => rn_move rfl) ?_
 refine ewo_split 17 rfl (fun h2 => ?_) (fun h2 => ?_)
 refine ewo_rdg rfl rfl rfl h2 (fun _ hS => rn_fa rfl fl61_1) ?_
 refine ewo_rdg rfl rfl rfl h2 (fun _ hS => rn_load rfl ti47 (hr2.keep hS (.tail _ (.head _))) rfl) ?_
 refine ewo_rdg rfl rfl rfl h2 (fun _ hS => rn_ixc (i := 0) rfl rfl sl47 (by omega)) ?_
 refine ewo_rdg rfl rfl rfl h2 (fun _ hS => rn_loadad 0 rfl ti61 (hr1.keep hS (.head _)) hd (by omega) rfl) ?_
 refine ewo_sp ?_
 refine ewl_grd rfl rfl h2 ?_
 refine ewl_ret rfl (en_call ent24 rfl rfl) (isName_spec _ ⟨_, _, _, _, _⟩ _) ?_
 rintro _ w5 ⟨rfl, hE5⟩
 replace hb1 := hb1.ext hE5
 replace hb2 := hb2.ext hE5
 replace hX := hX.trans hE5
 replace hKp := hKp.ext hE5
 have sz2 := hE5.size
 refine ewl_nil (onw_n hKp ?_)
 refine ewo_rd rfl (fun _ hS => rn_pickt rfl h2 rfl) ?_
 refine ewo_sp ?_
 refine ewl_retp rfl (en_call ent22 rfl rfl) (need_spec _ ⟨_, _, _, _, _⟩ _ _) ?_ (fun c wp hc => And.intro rfl (⟨(t.ln, t.co), by first | exact hm (by assumption) (by assumption) | (simp [topM, SP.need, h1, h2, hc.1]; done) | (exfalso; have hq := hc.1; simp at hq <;> omega), hc.2.1, hX.trans hc.2.2⟩))
 rintro _ w6 ⟨hn1, rfl, hE6⟩
 replace hb1 := hb1.ext hE6
 replace hb2 := hb2.ext hE6
 replace hX := hX.trans hE6
 replace hKp := hKp.ext hE6
 have sz3 := hE6.size
 refine ewl_nil (onw_n hKp ?_)
 refine ewo_nil ?_
 refine thn_n ?_
 refine ewp_seq ?_
 refine ewp_reg ?_
 refine ewl_run rfl (rn_fa rfl fl61_1) ?_
 refine ewl_run rfl (rn_load rfl ti47 hb1 rfl) ?_
 refine ewl_run rfl (rn_rest rfl rfl sl47) ?_
 refine ewl_run rfl (rn_assign rfl) ?_
 refine ewl_nil ?_
 refine thn_n ?_
 refine ewp_seq ?_
 refine ewp_reg ?_
 refine ewl_run rfl (rn_move rfl) ?_
 refine ewl_run rfl (rn_len rfl sl47) ?_
 refine ewl_run rfl (rn_assign rfl) ?_
 refine ewl_nil ?_
 refine thn_n ?_
 refine ewp_seq ?_
 refine ewp_seq ?_
 refine ewp_reg ?_
 refine ewl_run rfl (rn_fa rfl fl61_1) ?_
 refine ewl_run rfl (rn_load rfl ti47 hb1 rfl) ?_
 refine ewl_run rfl (rn_ixc (i := 0) rfl rfl sl47 (by omega)) ?_
 refine ewl_run rfl (rn_fa rfl fl61_0) ?_
 refine ewl_run rfl (rn_fa rfl fl59_3) ?_
 refine ewl_run rfl (rn_loadd 4 rfl ti9 (hb.ext hX) hd (by omega) rfl) ?_
 refine ewl_nil ?_
 refine thn_n ?_
 refine ewp_block ?_
 refine ewp_seq ?_
 refine ewp_reg ?_
 refine ewl_run rfl (rn_eqS rfl rfl) ?_
 refine ewl_run rfl (rn_assign rfl) ?_
 refine ewl_nil ?_
 refine thn_n ?_
 refine ewp_if rfl (fun h3 => ?_) (fun h3 => ?_)
 · exfalso
   simp [hw] at h3
 refine ewp_seq ?_
 refine ewp_reg ?_
 refine ewl_run rfl (rn_eqS rfl rfl) ?_
 refine ewl_run rfl (rn_assign rfl) ?_
 refine ewl_nil ?_
 refine thn_n ?_
 refine ewp_if rfl (fun h4 => ?_) (fun h4 => ?_)
 · exfalso
   simp [hw] at h4
 refine ewp_seq ?_
 refine ewp_reg ?_
 refine ewl_run rfl (rn_eqS rfl rfl) ?_
 refine ewl_run rfl (rn_assign rfl) ?_
 refine ewl_nil ?_
 refine thn_n ?_
 refine ewp_if rfl (fun h5 => ?_) (fun h5 => ?_)
 · exfalso
   simp [hw] at h5
 refine ewp_seq ?_
 refine ewp_reg ?_
 refine ewl_run rfl (rn_eqS rfl rfl) ?_
 refine ewl_run rfl (rn_assign rfl) ?_
 refine ewl_nil ?_
 refine thn_n ?_
 refine ewp_if rfl (fun h6 => ?_) (fun h6 => ?_)
 · exfalso
   simp [hw] at h6
 refine ewp_seq ?_
 refine ewp_reg ?_
 refine ewl_run rfl (rn_eqS rfl rfl) ?_
 refine ewl_run rfl (rn_assign rfl) ?_
 refine ewl_nil ?_
 refine thn_n ?_
 refine ewp_if rfl (fun h7 => ?_) (fun h7 => ?_)
 refine ewp_seq ?_
 refine ewp_reg ?_
 refine ewl_run rfl (rn_loada rfl ti61 hb1 rfl) ?_
 refine ewl_run rfl (rn_move rfl) ?_
 refine ewl_run rfl (rn_eqI rfl rfl) ?_
 refine ewl_retp rfl (en_call ent22 rfl rfl) (need_spec _ ⟨_, _, _, _, _⟩ _ _) ?_ (fun c wp hc => And.intro rfl (⟨(t.ln, t.co), by first | exact hm (by assumption) (by assumption) | (simp [topM, SP.need, h1, h2, h3, h4, h5, h6, h7, hn1, hc.1]; done) | (exfalso; have hq := hc.1; simp at hq <;> omega), hc.2.1, hX.trans hc.2.2⟩))
 rintro _ w7 ⟨hn2, rfl, hE7⟩
 exfalso
 rw [hne] at hn2; contradiction
 · exfalso
   simp [hw] at h7
 · exfalso
   simp at h2 <;> omega
 refine ewo_rdo rfl rfl rfl h1 ?_
 refine ewo_rdo rfl rfl rfl h1 ?_
 refine ewo_rdo rfl rfl rfl h1 ?_
 refine ewo_rdo rfl rfl rfl h1 ?_
 refine ewo_rd rfl (fun _ hS => rn_pickf rfl h1 rfl) ?_
 refine ewo_rd rfl (fun _ hS => rn_move rfl) ?_
 refine ewo_rdo rfl rfl rfl rfl ?_
 refine ewo_rdo rfl rfl rfl rfl ?_
 refine ewo_rdo rfl rfl rfl rfl ?_
 refine ewo_rdo rfl rfl rfl rfl ?_
 refine ewo_sp ?_
 refine ewl_off rfl rfl rfl rfl ?_
 refine ewl_nil (onw_n hKp ?_)
 refine ewo_rd rfl (fun _ hS => rn_pickf rfl rfl rfl) ?_
 refine ewo_sp ?_
 refine ewl_retp rfl (en_call ent22 rfl rfl) (need_spec _ ⟨_, _, _, _, _⟩ _ _) ?_ (fun c wp hc => And.intro rfl (⟨(t.ln, t.co), by first | exact hm (by assumption) (by assumption) | (simp [topM, SP.need, h1, hc.1]; done) | (exfalso; have hq := hc.1; simp at hq <;> omega), hc.2.1, hX.trans hc.2.2⟩))
 rintro _ w8 ⟨hn3, rfl, hE8⟩
 cases hn3
theorem top_other (n : Nat) (w : World) (hG : Gl w) (t : Tok) (U : Nat → Prop) (ka : Option Addr) (kc : Nat) (kn : Nat) (e0 : Tok) (k0 r : Fo) (hK : FoS U w ka kn kc (.cons e0 k0 r)) (w_data : (e0.tx == [100, 97, 116, 97]) = false) (w_root : (e0.tx == [114, 111, 111, 116]) = false) (w_def : (e0.tx == [100, 101, 102]) = false) (w_rec : (e0.tx == [114, 101, 99]) = false) (w_do : (e0.tx == [100, 111]) = false) :
   RetP Tryz.prog 17 #[.agg #[.int .i64 t.k, .int .i64 t.ln, .int .i64 t.co, .int .i64 t.nm, S t.tx, .slice ka kn kc]] w (fun v w' => ∃ nd, (topM (n + 1)) t (Fo.cons e0 k0 r) = .ok nd ∧ NV w w' v nd ∧ Ext w w') (fun c w' => ∃ e, (topM (n + 1)) t (Fo.cons e0 k0 r) = .error e ∧ c = trb 45 e ∧ Ext w w') := by
 obtain ⟨b, off, cells, T, a0, n0, c0, l1, hUb, rfl, hb, hd, hk0, hr1⟩ := hK.head
 have hblt := hb.lt
 obtain rfl : kn = r.len + 1 := hK.1
 have hX := Ext.refl w
 refine enterP Tryz.func17 rfl rfl rfl ?_
 refine ewp_seq ?_
 refine ewp_reg ?_
 refine ewl_box rfl rfl rfl fun b1 w1 hb1 hE1 hs1 hz1 => ?_
 replace hX := hX.trans hE1
 refine ewl_alloc rfl zr40 fun b2 w2 hb2 hE2 hs2 hz2 => ?_
 replace hb1 := hb1.ext hE2
 replace hX := hX.trans hE2
 refine ewl_nil ?_
 refine thn_n ?_
 refine ewp_seq ?_
 have hr1 := (hb.ext hX)
 have hr2 := hb1
 have hr3 := hb2
 refine ewp_draw mixed (Keeps w2 [b, b1, b2]) [(true, 0), (true, 1), (false, 2), (true, 3), (true, 4), (true, 5), (true, 6), (true, 7), (true, 8), (true, 9), (true, 10), (true, 11), (true, 12), (true, 13), (false, 14), (true, 15), (false, 16)] (by kernel_rfl) (by kernel_rfl) rfl rfl fun w3 hE3 hz3 => ?_
 have hKp : Keeps w2 [b, b1, b2] w3 := Keeps.cons hr1 hE3 (Keeps.cons hr2 hE3 (Keeps.cons hr3 hE3 (Keeps.nil _ _)))
 refine ⟨hKp, ?_⟩
 replace hb1 := hb1.ext hE3
 replace hb2 := hb2.ext hE3
 replace hX := hX.trans hE3
 refine ewo_rd rfl (fun _ hS => rn_loada rfl ti61 (hr2.keep hS (.tail _ (.head _))) rfl) ?_
 refine ewo_rd rfl (fun _ hS => rn_loada rfl ti61 (hr2.keep hS (.tail _ (.head _))) rfl) ?_
 refine ewo_sp ?_
 refine ewl_ret rfl (en_call ent23 rfl rfl) (isList_spec _ ⟨_, _, _, _, _⟩ _) ?_
 rintro _ w4 ⟨rfl, hE4⟩
 replace hb1 := hb1.ext hE4
 replace hb2 := hb2.ext hE4
 replace hX := hX.trans hE4
 replace hKp := hKp.ext hE4
 have sz1 := hE4.size
 refine ewl_nil (onw_n hKp ?_)
 refine ewo_rd rfl (fun _ hS => rn_move rfl) ?_
 refine ewo_split 11 rfl (fun h1 => ?_) (fun h1 => ?_)
 refine ewo_rdg rfl rfl rfl h1 (fun _ hS => rn_fa rfl fl61_1) ?_
 refine ewo_rdg rfl rfl rfl h1 (fun _ hS => rn_load rfl ti47 (hr2.keep hS (.tail _ (.head _))) rfl) ?_
 refine ewo_rdg rfl rfl rfl h1 (fun _ hS => rn_len rfl sl47) ?_
 refine ewo_rdg rfl rfl rfl h1 (fun _ hS => rn_gtI rfl rfl) ?_
 refine ewo_rd rfl (fun _ hS => rn_pickt rfl h1 rfl) ?_
 refine ewo_rd rfl (fun _ hS => rn_move rfl) ?_
 refine ewo_split 17 rfl (fun h2 => ?_) (fun h2 => ?_)
 refine ewo_rdg rfl rfl rfl h2 (fun _ hS => rn_fa rfl fl61_1) ?_
 refine ewo_rdg rfl rfl rfl h2 (fun _ hS => rn_load rfl ti47 (hr2.keep hS (.tail _ (.head _))) rfl) ?_
 refine ewo_rdg rfl rfl rfl h2 (fun _ hS => rn_ixc (i := 0) rfl rfl sl47 (by omega)) ?_
 refine ewo_rdg rfl rfl rfl h2 (fun _ hS => rn_loadad 0 rfl ti61 (hr1.keep hS (.head _)) hd (by omega) rfl) ?_
 refine ewo_sp ?_
 refine ewl_grd rfl rfl h2 ?_
 refine ewl_ret rfl (en_call ent24 rfl rfl) (isName_spec _ ⟨_, _, _, _, _⟩ _) ?_
 rintro _ w5 ⟨rfl, hE5⟩
 replace hb1 := hb1.ext hE5
 replace hb2 := hb2.ext hE5
 replace hX := hX.trans hE5
 replace hKp := hKp.ext hE5
 have sz2 := hE5.size
 refine ewl_nil (onw_n hKp ?_)
 refine ewo_rd rfl (fun _ hS => rn_pickt rfl h2 rfl) ?_
 refine ewo_sp ?_
 refine ewl_retp rfl (en_call ent22 rfl rfl) (need_spec _ ⟨_, _, _, _, _⟩ _ _) ?_ (fun c wp hc => And.intro rfl (⟨(t.ln, t.co), by first | (simp [topM, SP.need, h1, h2, w_data, w_root, w_def, w_rec, w_do, hc.1]; done) | (exfalso; have hq := hc.1; simp at hq <;> omega), hc.2.1, hX.trans hc.2.2⟩))
 rintro _ w6 ⟨hn1, rfl, hE6⟩
 replace hb1 := hb1.ext hE6
 replace hb2 := hb2.ext hE6
 replace hX := hX.trans hE6
 replace hKp := hKp.ext hE6
 have sz3 := hE6.size
 refine ewl_nil (onw_n hKp ?_)
 refine ewo_nil ?_
 refine thn_n ?_
 refine ewp_seq ?_
 refine ewp_reg ?_
 refine ewl_run rfl (rn_fa rfl fl61_1) ?_
 refine ewl_run rfl (rn_load rfl ti47 hb1 rfl) ?_
 refine ewl_run rfl (rn_rest rfl rfl sl47) ?_
 refine ewl_run rfl (rn_assign rfl) ?_
 refine ewl_nil ?_
 refine thn_n ?_
 refine ewp_seq ?_
 refine ewp_reg ?_
 refine ewl_run rfl (rn_move rfl) ?_
 refine ewl_run rfl (rn_len rfl sl47) ?_
 refine ewl_run rfl (rn_assign rfl) ?_
 refine ewl_nil ?_
 refine thn_n ?_
 refine ewp_seq ?_
 refine ewp_seq ?_
 refine ewp_reg ?_
 refine ewl_run rfl (rn_fa rfl fl61_1) ?_
 refine ewl_run rfl (rn_load rfl ti47 hb1 rfl) ?_
 refine ewl_run rfl (rn_ixc (i := 0) rfl rfl sl47 (by omega)) ?_
 refine ewl_run rfl (rn_fa rfl fl61_0) ?_
 refine ewl_run rfl (rn_fa rfl fl59_3) ?_
 refine ewl_run rfl (rn_loadd 4 rfl ti9 (hb.ext hX) hd (by omega) rfl) ?_
 refine ewl_nil ?_
 refine thn_n ?_
 refine ewp_block ?_
 refine ewp_seq ?_
 refine ewp_reg ?_
 refine ewl_run rfl (rn_eqS rfl rfl) ?_
 refine ewl_run rfl (rn_assign rfl) ?_
 refine ewl_nil ?_
 refine thn_n ?_
 refine ewp_if rfl (fun h3 => ?_) (fun h3 => ?_)
 · exfalso
   rw [w_data] at h3; contradiction
 refine ewp_seq ?_
 refine ewp_reg ?_
 refine ewl_run rfl (rn_eqS rfl rfl) ?_
 refine ewl_run rfl (rn_assign rfl) ?_
 refine ewl_nil ?_
 refine thn_n ?_
 refine ewp_if rfl (fun h4 => ?_) (fun h4 => ?_)
 · exfalso
   rw [w_root] at h4; contradiction
 refine ewp_seq ?_
 refine ewp_reg ?_
 refine ewl_run rfl (rn_eqS rfl rfl) ?_
 refine ewl_run rfl (rn_assign rfl) ?_
 refine ewl_nil ?_
 refine thn_n ?_
 refine ewp_if rfl (fun h5 => ?_) (fun h5 => ?_)
 · exfalso
   rw [w_def] at h5; contradiction
 refine ewp_seq ?_
 refine ewp_reg ?_
 refine ewl_run rfl (rn_eqS rfl rfl) ?_
 refine ewl_run rfl (rn_assign rfl) ?_
 refine ewl_nil ?_
 refine thn_n ?_
 refine ewp_if rfl (fun h6 => ?_) (fun h6 => ?_)
 · exfalso
   rw [w_rec] at h6; contradiction
 refine ewp_seq ?_
 refine ewp_reg ?_
 refine ewl_run rfl (rn_eqS rfl rfl) ?_
 refine ewl_run rfl (rn_assign rfl) ?_
 refine ewl_nil ?_
 refine thn_n ?_
 refine ewp_if rfl (fun h7 => ?_) (fun h7 => ?_)
 · exfalso
   rw [w_do] at h7; contradiction
 refine ewp_skip ?_
 refine blk_n ?_
 refine thn_n ?_
 refine ewp_seq ?_
 refine ewp_reg ?_
 refine ewl_run rfl (rn_loada rfl ti61 hb1 rfl) ?_
 refine ewl_retp rfl (en_call ent33 rfl rfl) (fail_spec _ ⟨_, _, _, _, _⟩ _) (fun _ _ hf => hf.elim) (fun c wp hc => And.intro rfl (⟨(t.ln, t.co), by simp [topM, SP.need, h1, h2, h3, h4, h5, h6, h7, hn1, w_data, w_root, w_def, w_rec, w_do], hc.1, hX.trans hc.2⟩))
 · exfalso
   simp at h2 <;> omega
 refine ewo_rdo rfl rfl rfl h1 ?_
 refine ewo_rdo rfl rfl rfl h1 ?_
 refine ewo_rdo rfl rfl rfl h1 ?_
 refine ewo_rdo rfl rfl rfl h1 ?_
 refine ewo_rd rfl (fun _ hS => rn_pickf rfl h1 rfl) ?_
 refine ewo_rd rfl (fun _ hS => rn_move rfl) ?_
 refine ewo_rdo rfl rfl rfl rfl ?_
 refine ewo_rdo rfl rfl rfl rfl ?_
 refine ewo_rdo rfl rfl rfl rfl ?_
 refine ewo_rdo rfl rfl rfl rfl ?_
 refine ewo_sp ?_
 refine ewl_off rfl rfl rfl rfl ?_
 refine ewl_nil (onw_n hKp ?_)
 refine ewo_rd rfl (fun _ hS => rn_pickf rfl rfl rfl) ?_
 refine ewo_sp ?_
 refine ewl_retp rfl (en_call ent22 rfl rfl) (need_spec _ ⟨_, _, _, _, _⟩ _ _) ?_ (fun c wp hc => And.intro rfl (⟨(t.ln, t.co), by first | (simp [topM, SP.need, h1, w_data, w_root, w_def, w_rec, w_do, hc.1]; done) | (exfalso; have hq := hc.1; simp at hq <;> omega), hc.2.1, hX.trans hc.2.2⟩))
 rintro _ w7 ⟨hn2, rfl, hE7⟩
 cases hn2
end Go.Proofs.YthjdnhnbgjgbkaaGreatDoor
namespace Go.Proofs.YthjdnhnbgjgbkaaGreatDoor
open Go.SW Go.SP Go.RowKit
theorem top_data (n : Nat) (w : World) (hG : Gl w) (t : Tok) (U : Nat → Prop) (ka : Option Addr) (kc : Nat) (e0 : Tok) (k0 : Fo) (e1 : Tok) (k1 : Fo) (e2 : Tok) (k2 : Fo) (e3 : Tok) (k3 : Fo) (r : Fo) (kn : Nat) (hK : FoS U w ka kn kc (Fo.cons e0 k0 (Fo.cons e1 k1 (Fo.cons e2 k2 (Fo.cons e3 k3 r))))) (hp1 : okT n e1 k1) (hp2 : okT n e2 k2) (hp3 : okT n e3 k3) (hall : r.all (okT n)) (hlen : r.len ≤ 99996) (hw : e0.tx = [100, 97, 116, 97]) :
   RetP Tryz.prog 17 #[.agg #[.int .i64 t.k, .int .i64 t.ln, .int .i64 t.co, .int .i64 t.nm, S t.tx, .slice ka kn kc]] w (fun v w' => ∃ nd, (topM (n + 1)) t (Fo.cons e0 k0 (Fo.cons e1 k1 (Fo.cons e2 k2 (Fo.cons e3 k3 r)))) = .ok nd ∧ NV w w' v nd ∧ Ext w w') (fun c w' => ∃ e, (topM (n + 1)) t (Fo.cons e0 k0 (Fo.cons e1 k1 (Fo.cons e2 k2 (Fo.cons e3 k3 r)))) = .error e ∧ c = trb 45 e ∧ Ext w w') := by
 obtain ⟨b, off, cells, T, a0, n0, c0, a1, n1, c1, a2, n2, c2, a3, n3, c3, l1, hUb, rfl, hb, hd, hk0, hk1, hk2, hk3, hr1⟩ := hK.four
 have hblt := hb.lt
 have hkl : r.len + 4 ≤ kc := by have := hK.1; have := hK.2.1; simp only [Fo.len] at *; omega
 have hc1 : kc ≠ 1 := by omega
 have hc2 : kc - 1 ≠ 2 := by omega
 obtain rfl : kn = r.len + 4 := hK.1
 obtain rfl : n2 = k2.len := hk2.1
 have hl20 : k2.len ≤ 100000 := hp2.2.2.1
 have hK3 : FoS U w (some ⟨b, off + 1 * 6 + 2 * 6, none⟩) (r.len + 1) (kc - 1 - 2) (.cons e3 k3 r) := ⟨rfl, by omega, .inr ⟨b, _, cells, T, hUb, rfl, hb, a3, n3, c3, l1, by rw [show off + 1 * 6 + 2 * 6 = off + 18 by omega, ← List.drop_drop, hd]; rfl, hk3, hr1⟩⟩
 have hX := Ext.refl w
 refine enterP Tryz.func17 rfl rfl rfl ?_
 refine ewp_seq ?_
 refine ewp_reg ?_
 refine ewl_box rfl rfl rfl fun b1 w1 hb1 hE1 hs1 hz1 => ?_
 replace hX := hX.trans hE1
 refine ewl_alloc rfl zr40 fun b2 w2 hb2 hE2 hs2 hz2 => ?_
 replace hb1 := hb1.ext hE2
 replace hX := hX.trans hE2
 refine ewl_nil ?_
 refine thn_n ?_
 refine ewp_seq ?_
 have hr1 := (hb.ext hX)
 have hr2 := hb1
 have hr3 := hb2
 refine ewp_draw mixed (Keeps w2 [b, b1, b2]) [(true, 0), (true, 1), (false, 2), (true, 3), (true, 4), (true, 5), (true, 6), (true, 7), (true, 8), (true, 9), (true, 10), (true, 11), (true, 12), (true, 13), (false, 14), (true, 15), (false, 16)] (by kernel_rfl) (by kernel_rfl) rfl rfl fun w3 hE3 hz3 => ?_
 have hKp : Keeps w2 [b, b1, b2] w3 := Keeps.cons hr1 hE3 (Keeps.cons hr2 hE3 (Keeps.cons hr3 hE3 (Keeps.nil _ _)))
 refine ⟨hKp, ?_⟩
 replace hb1 := hb1.ext hE3
 replace hb2 := hb2.ext hE3
 replace hX := hX.trans hE3
 refine ewo_rd rfl (fun _ hS => rn_loada rfl ti61 (hr2.keep hS (.tail _ (.head _))) rfl) ?_
 refine ewo_rd rfl (fun _ hS => rn_loada rfl ti61 (hr2.keep hS (.tail _ (.head _))) rfl) ?_
 refine ewo_sp ?_
 refine ewl_ret rfl (en_call ent23 rfl rfl) (isList_spec _ ⟨_, _, _, _, _⟩ _) ?_
 rintro _ w4 ⟨rfl, hE4⟩
 replace hb1 := hb1.ext hE4
 replace hb2 := hb2.ext hE4
 replace hX := hX.trans hE4
 replace hKp := hKp.ext hE4
 have sz1 := hE4.size
 refine ewl_nil (onw_n hKp ?_)
 refine ewo_rd rfl (fun _ hS => rn_move rfl) ?_
 refine ewo_split 11 rfl (fun h1 => ?_) (fun h1 => ?_)
 refine ewo_rdg rfl rfl rfl h1 (fun _ hS => rn_fa rfl fl61_1) ?_
 refine ewo_rdg rfl rfl rfl h1 (fun _ hS => rn_load rfl ti47 (hr2.keep hS (.tail _ (.head _))) rfl) ?_
 refine ewo_rdg rfl rfl rfl h1 (fun _ hS => rn_len rfl sl47) ?_
 refine ewo_rdg rfl rfl rfl h1 (fun _ hS => rn_gtI rfl rfl) ?_
 refine ewo_rd rfl (fun _ hS => rn_pickt rfl h1 rfl) ?_
 refine ewo_rd rfl (fun _ hS => rn_move rfl) ?_
 refine ewo_split 17 rfl (fun h2 => ?_) (fun h2 => ?_)
 refine ewo_rdg rfl rfl rfl h2 (fun _ hS => rn_fa rfl fl61_1) ?_
 refine ewo_rdg rfl rfl rfl h2 (fun _ hS => rn_load rfl ti47 (hr2.keep hS (.tail _ (.head _))) rfl) ?_
 refine ewo_rdg rfl rfl rfl h2 (fun _ hS => rn_ixc (i := 0) rfl rfl sl47 (by omega)) ?_
 refine ewo_rdg rfl rfl rfl h2 (fun _ hS => rn_loadad 0 rfl ti61 (hr1.keep hS (.head _)) hd (by omega) rfl) ?_
 refine ewo_sp ?_
 refine ewl_grd rfl rfl h2 ?_
 refine ewl_ret rfl (en_call ent24 rfl rfl) (isName_spec _ ⟨_, _, _, _, _⟩ _) ?_
 rintro _ w5 ⟨rfl, hE5⟩
 replace hb1 := hb1.ext hE5
 replace hb2 := hb2.ext hE5
 replace hX := hX.trans hE5
 replace hKp := hKp.ext hE5
 have sz2 := hE5.size
 refine ewl_nil (onw_n hKp ?_)
 refine ewo_rd rfl (fun _ hS => rn_pickt rfl h2 rfl) ?_
 refine ewo_sp ?_
 refine ewl_retp rfl (en_call ent22 rfl rfl) (need_spec _ ⟨_, _, _, _, _⟩ _ _) ?_ (fun c wp hc => And.intro rfl (⟨(t.ln, t.co), by first | (simp [topM, SP.need, h1, h2, hw, hc.1]; done) | (exfalso; have hq := hc.1; simp at hq <;> omega), hc.2.1, hX.trans hc.2.2⟩))
 rintro _ w6 ⟨hn1, rfl, hE6⟩
 replace hb1 := hb1.ext hE6
 replace hb2 := hb2.ext hE6
 replace hX := hX.trans hE6
 replace hKp := hKp.ext hE6
 have sz3 := hE6.size
 refine ewl_nil (onw_n hKp ?_)
 refine ewo_nil ?_
 refine thn_n ?_
 refine ewp_seq ?_
 refine ewp_reg ?_
 refine ewl_run rfl (rn_fa rfl fl61_1) ?_
 refine ewl_run rfl (rn_load rfl ti47 hb1 rfl) ?_
 refine ewl_run rfl (rn_resta rfl rfl sl47 hc1) ?_
 refine ewl_run rfl (rn_assign rfl) ?_
 refine ewl_nil ?_
 refine thn_n ?_
 refine ewp_seq ?_
 refine ewp_reg ?_
 refine ewl_run rfl (rn_move rfl) ?_
 refine ewl_run rfl (rn_len rfl sl47) ?_
 refine ewl_run rfl (rn_assign rfl) ?_
 refine ewl_nil ?_
 refine thn_n ?_
 refine ewp_seq ?_
 refine ewp_seq ?_
 refine ewp_reg ?_
 refine ewl_run rfl (rn_fa rfl fl61_1) ?_
 refine ewl_run rfl (rn_load rfl ti47 hb1 rfl) ?_
 refine ewl_run rfl (rn_ixc (i := 0) rfl rfl sl47 (by omega)) ?_
 refine ewl_run rfl (rn_fa rfl fl61_0) ?_
 refine ewl_run rfl (rn_fa rfl fl59_3) ?_
 refine ewl_run rfl (rn_loadd 4 rfl ti9 (hb.ext hX) hd (by omega) rfl) ?_
 refine ewl_nil ?_
 refine thn_n ?_
 refine ewp_block ?_
 refine ewp_seq ?_
 refine ewp_reg ?_
 refine ewl_run rfl (rn_eqS rfl rfl) ?_
 refine ewl_run rfl (rn_assign rfl) ?_
 refine ewl_nil ?_
 refine thn_n ?_
 refine ewp_if rfl (fun h3 => ?_) (fun h3 => ?_)
 refine ewp_seq ?_
 have hr4 := (hb.ext hX)
 have hr5 := hb1
 have hr6 := hb2
 refine ewp_draw mixed (Keeps w6 [b, b1, b2]) [(true, 0), (true, 1), (true, 2), (true, 3), (true, 4), (true, 5), (true, 6), (false, 7), (true, 8), (true, 9), (true, 10), (true, 11), (true, 12), (false, 13), (true, 14), (true, 15), (true, 16), (true, 17), (true, 18), (true, 19), (true, 20), (true, 21), (true, 22), (false, 23)] (by kernel_rfl) (by kernel_rfl) rfl rfl fun w7 hE7 hz4 => ?_
 have hKp : Keeps w6 [b, b1, b2] w7 := Keeps.cons hr4 hE7 (Keeps.cons hr5 hE7 (Keeps.cons hr6 hE7 (Keeps.nil _ _)))
 refine ⟨hKp, ?_⟩
 replace hb1 := hb1.ext hE7
 replace hb2 := hb2.ext hE7
 replace hX := hX.trans hE7
 refine ewo_rd rfl (fun _ hS => rn_loada rfl ti61 (hr5.keep hS (.tail _ (.head _))) rfl) ?_
 refine ewo_rd rfl (fun _ hS => rn_move rfl) ?_
 refine ewo_rd rfl (fun _ hS => rn_geI rfl rfl) ?_
 refine ewo_rd rfl (fun _ hS => rn_move rfl) ?_
 refine ewo_split 41 rfl (fun h4 => ?_) (fun h4 => ?_)
 refine ewo_rdg rfl rfl rfl h4 (fun _ hS => rn_move rfl) ?_
 refine ewo_rdg rfl rfl rfl h4 (fun _ hS => rn_ixc (i := 0) rfl rfl sl47 (by omega)) ?_
 refine ewo_rdg rfl rfl rfl h4 (fun _ hS => rn_loadad 6 rfl ti61 (hr4.keep hS (.head _)) hd (by omega) rfl) ?_
 refine ewo_sp ?_
 refine ewl_grd rfl rfl h4 ?_
 refine ewl_ret rfl (en_call ent25 rfl rfl) (isTypeName_spec _ (hG.ext hX) ⟨_, _, _, _, _⟩ _ hp1.1.1 hp1.1.2) ?_
 rintro _ w8 ⟨rfl, hE8⟩
 replace hb1 := hb1.ext hE8
 replace hb2 := hb2.ext hE8
 replace hX := hX.trans hE8
 replace hKp := hKp.ext hE8
 have sz4 := hE8.size
 refine ewl_nil (onw_n hKp ?_)
 refine ewo_rd rfl (fun _ hS => rn_pickt rfl h4 rfl) ?_
 refine ewo_rd rfl (fun _ hS => rn_move rfl) ?_
 refine ewo_split 47 rfl (fun h5 => ?_) (fun h5 => ?_)
 refine ewo_rdg rfl rfl rfl h5 (fun _ hS => rn_move rfl) ?_
 refine ewo_rdg rfl rfl rfl h5 (fun _ hS => rn_ixc (i := 1) rfl rfl sl47 (by omega)) ?_
 refine ewo_rdg rfl rfl rfl h5 (fun _ hS => rn_loadad 12 rfl ti61 (hr4.keep hS (.head _)) hd (by omega) rfl) ?_
 refine ewo_sp ?_
 refine ewl_grd rfl rfl h5 ?_
 refine ewl_ret rfl (en_call ent23 rfl rfl) (isList_spec _ ⟨_, _, _, _, _⟩ _) ?_
 rintro _ w9 ⟨rfl, hE9⟩
 replace hb1 := hb1.ext hE9
 replace hb2 := hb2.ext hE9
 replace hX := hX.trans hE9
 replace hKp := hKp.ext hE9
 have sz5 := hE9.size
 refine ewl_nil (onw_n hKp ?_)
 refine ewo_rd rfl (fun _ hS => rn_pickt rfl h5 rfl) ?_
 refine ewo_rd rfl (fun _ hS => rn_move rfl) ?_
 refine ewo_split 53 rfl (fun h6 => ?_) (fun h6 => ?_)
 refine ewo_rdg rfl rfl rfl h6 (fun _ hS => rn_move rfl) ?_
 refine ewo_rdg rfl rfl rfl h6 (fun _ hS => rn_ixc (i := 1) rfl rfl sl47 (by omega)) ?_
 refine ewo_rdg rfl rfl rfl h6 (fun _ hS => rn_fa rfl fl61_1) ?_
 refine ewo_rdg rfl rfl rfl h6 (fun _ hS => rn_loadd 17 rfl ti47 (hr4.keep hS (.head _)) hd (by omega) rfl) ?_
 refine ewo_rdg rfl rfl rfl h6 (fun _ hS => rn_len rfl sl47) ?_
 refine ewo_rdg rfl rfl rfl h6 (fun _ hS => rn_leI rfl rfl) ?_
 refine ewo_rd rfl (fun _ hS => rn_pickt rfl h6 rfl) ?_
 refine ewo_sp ?_
 refine ewl_retp rfl (en_call ent22 rfl rfl) (need_spec _ ⟨_, _, _, _, _⟩ _ _) ?_ (fun c wp hc => And.intro rfl (⟨(t.ln, t.co), by first | (simp [topM, SP.need, h1, h2, h3, h4, h5, h6, hn1, hw, hc.1]; done) | (exfalso; have hq := hc.1; simp at hq <;> omega), hc.2.1, hX.trans hc.2.2⟩))
 rintro _ w10 ⟨hn2, rfl, hE10⟩
 replace hb1 := hb1.ext hE10
 replace hb2 := hb2.ext hE10
 replace hX := hX.trans hE10
 replace hKp := hKp.ext hE10
 have sz6 := hE10.size
 refine ewl_nil (onw_n hKp ?_)
 refine ewo_nil ?_
 refine thn_n ?_
 refine ewp_seq ?_
 refine ewp_reg ?_
 refine ewl_run rfl (rn_assign rfl) ?_
 refine ewl_nil ?_
 refine thn_n ?_
 refine ewp_seq ?_
 refine ewp_seq ?_
 refine ewp_reg ?_
 refine ewl_run rfl (rn_move rfl) ?_
 refine ewl_run rfl (rn_ixc (i := 1) rfl rfl sl47 (by omega)) ?_
 refine ewl_run rfl (rn_fa rfl fl61_1) ?_
 refine ewl_run rfl (rn_loadd 17 rfl ti47 (hb.ext hX) hd (by omega) rfl) ?_
 refine ewl_run rfl (rn_len rfl sl47) ?_
 refine ewl_run rfl (rn_move rfl) ?_
 refine ewl_nil ?_
 refine thn_n ?_
 refine ewp_block ?_
 refine ewp_loop (fun k σ ds w' => ∃ (i : Nat) (q : Fo) (vs : Nd) (ra : Option Addr) (rc : Nat), k = q.len ∧ ds = [] ∧ σ = (upd (upd (upd (upd (upd (upd (upd SW.e0 1 (.pointer (some ⟨b1, 0, none⟩))) 2 (.pointer (some ⟨b2, 0, none⟩))) 3 (.slice (some ⟨b, off + 1 * 6, none⟩) (r.len + 3) (kc - 1))) 5 (.slice ra vs.len rc)) 65 (.slice a2 k2.len c2)) 66 (.int .i64 (k2.len : Int))) 67 (.int .i64 (i : Int))) ∧ i + q.len = k2.len ∧ vs.len = i ∧ (∀ x, tvarsM q = some x → tvarsM k2 = some (vs.app x)) ∧ (tvarsM q = none → tvarsM k2 = none) ∧ q.all (fun t _ => t.ok) ∧ At U w a2 i q ∧ Blk w' b1 [.int .i64 t.k, .int .i64 t.ln, .int .i64 t.co, .int .i64 t.nm, S t.tx, .slice (some ⟨b, off, none⟩) (r.len + 4) kc] 61 ∧ Blk w' b2 [.int .i64 0, .int .i64 0, .int .i64 0, .string ⟨#[]⟩, .int .i64 0, .slice none 0 0] 40 ∧ NRow 40 w10 w' ra vs.len rc vs ∧ Ext w10 w' ∧ Ext w w') k2.len (upd (upd (upd (upd (upd (upd (upd SW.e0 1 (.pointer (some ⟨b1, 0, none⟩))) 2 (.pointer (some ⟨b2, 0, none⟩))) 3 (.slice (some ⟨b, off + 1 * 6, none⟩) (r.len + 3) (kc - 1))) 5 (.slice none 0 0)) 65 (.slice a2 k2.len c2)) 66 (.int .i64 (k2.len : Int))) 67 (.int .i64 ((0 : Nat) : Int))) (le_upd (le_upd (le_upd (le_upd (le_upd (le_upd (le_upd (le_e0 _) rfl) rfl) rfl) rfl) rfl) rfl) rfl) ⟨0, k2, .nil, none, 0, rfl, rfl, rfl, by omega, rfl, fun x h => h, fun h => h, hp2.2.1.all, hk2.at, hb1, hb2, NRow.nil _ _ _, Ext.refl _, hX⟩ ?_
 rintro _ _ _ wl ⟨i, q, vs, ra, rc, rfl, rfl, rfl, hi, hnl, hmo, hme, hal, hat, hl1, hl2, hN, hAl, hX⟩
 have szl := hX.size
 have szA := hAl.size
 have hA1 := Ext.refl wl
 refine ewp_seq ?_
 refine ewp_reg ?_
 refine ewl_run rfl (rn_ltI rfl rfl) ?_
 refine ewl_nil ?_
 refine thn_n ?_
 refine ewp_seq ?_
 refine ewp_if rfl (fun h7 => ?_) (fun h7 => ?_)
 refine ewp_skip ?_
 refine thn_n ?_
 refine ewp_seq ?_
 refine ewp_block ?_
 refine ewp_seq ?_
 refine ewp_reg ?_
 have hi2 : i < k2.len := by simpa using h7
 rcases q with _ | ⟨t9, k9, q⟩
 · simp [Fo.len] at hi; omega
 simp only [Fo.len] at hi
 obtain ⟨b9, off9, cells9, T9, ka9, kn9, kc9, l9, hU9, rfl, hb9, hd9, hk9⟩ := hat.head
 refine ewl_run rfl (rn_ixc (i := i) rfl rfl sl47 hi2) ?_
 refine ewl_run rfl (rn_loadad 0 rfl ti61 (hb9.ext hX) hd9 (by omega) rfl) ?_
 refine ewl_alloc rfl zr61 fun b3 w11 hb3 hE11 hs3 hz5 => ?_
 replace hl1 := hl1.ext hE11
 replace hl2 := hl2.ext hE11
 replace hX := hX.trans hE11
 replace hAl := hAl.trans hE11
 replace hA1 := hA1.trans hE11
 refine ewl_store rfl rfl rfl ti61 rfl hb3 rfl rfl fun w12 hb4 hC1 => ?_
 replace hl1 := hl1.chg hC1 (by omega)
 replace hl2 := hl2.chg hC1 (by omega)
 replace hX := hX.chg hC1 (by omega)
 replace hAl := hAl.chg hC1 (by omega)
 replace hA1 := hA1.chg hC1 (by omega)
 have sz7 := hC1.size
 refine ewl_nil ?_
 refine thn_n ?_
 refine ewp_seq ?_
 have hr7 := (hb.ext hX)
 have hr8 := hl1
 have hr9 := hl2
 have hr10 := (hb9.ext hX)
 have hr11 := hb4
 refine ewp_draw mixed (Keeps w12 [b, b1, b2, b9, b3]) [(true, 0), (true, 1), (false, 2), (false, 3)] (by kernel_rfl) (by kernel_rfl) rfl rfl fun w13 hE12 hz6 => ?_
 have hKp : Keeps w12 [b, b1, b2, b9, b3] w13 := Keeps.cons hr7 hE12 (Keeps.cons hr8 hE12 (Keeps.cons hr9 hE12 (Keeps.cons hr10 hE12 (Keeps.cons hr11 hE12 (Keeps.nil _ _)))))
 refine ⟨hKp, ?_⟩
 replace hl1 := hl1.ext hE12
 replace hl2 := hl2.ext hE12
 replace hb4 := hb4.ext hE12
 replace hX := hX.trans hE12
 replace hAl := hAl.trans hE12
 replace hA1 := hA1.trans hE12
 refine ewo_rd rfl (fun _ hS => rn_loada rfl ti61 (hr8.keep hS (.tail _ (.head _))) rfl) ?_
 refine ewo_rd rfl (fun _ hS => rn_loada rfl ti61 (hr11.keep hS (.tail _ (.tail _ (.tail _ (.tail _ (.head _)))))) rfl) ?_
 refine ewo_sp ?_
 refine ewl_ret rfl (en_call ent26 rfl rfl) (isTypeVar_spec _ ⟨_, _, _, _, _⟩ _ hal.1.1) ?_
 rintro _ w14 ⟨rfl, hE13⟩
 replace hl1 := hl1.ext hE13
 replace hl2 := hl2.ext hE13
 replace hb4 := hb4.ext hE13
 replace hX := hX.trans hE13
 replace hAl := hAl.trans hE13
 replace hA1 := hA1.trans hE13
 replace hKp := hKp.ext hE13
 have sz8 := hE13.size
 refine ewl_nil (onw_n hKp ?_)
 refine ewo_sp ?_
 refine ewl_retp rfl (en_call ent22 rfl rfl) (need_spec _ ⟨_, _, _, _, _⟩ _ _) ?_ (fun c wp hc => And.intro rfl (⟨(t.ln, t.co), by simp [topM, SP.need, h1, h2, h3, h4, h5, h6, h7, hn1, hn2, hw, hme (tvars_none hc.1)], hc.2.1, hX.trans hc.2.2⟩))
 rintro _ w15 ⟨hn3, rfl, hE14⟩
 replace hl1 := hl1.ext hE14
 replace hl2 := hl2.ext hE14
 replace hb4 := hb4.ext hE14
 replace hX := hX.trans hE14
 replace hAl := hAl.trans hE14
 replace hA1 := hA1.trans hE14
 replace hKp := hKp.ext hE14
 have sz9 := hE14.size
 refine ewl_nil (onw_n hKp ?_)
 refine ewo_nil ?_
 refine thn_n ?_
 refine ewp_reg ?_
 refine ewl_run rfl (rn_move rfl) ?_
 refine ewl_run rfl (rn_loada rfl ti61 hb4 rfl) ?_
 refine ewl_run rfl (rn_fa rfl fl61_0) ?_
 refine ewl_run rfl (rn_fa rfl fl59_3) ?_
 refine ewl_run rfl (rn_load rfl ti9 hb4 rfl) ?_
 refine ewl_ret rfl (en_call ent27 rfl rfl) (node_spec _ ⟨_, _, _, _, _⟩ _ _ _ _ _ _) ?_
 rintro _ w16 ⟨rfl, hE15⟩
 replace hl1 := hl1.ext hE15
 replace hl2 := hl2.ext hE15
 replace hb4 := hb4.ext hE15
 replace hX := hX.trans hE15
 replace hAl := hAl.trans hE15
 replace hA1 := hA1.trans hE15
 have sz10 := hE15.size
 refine ewl_bs rfl rfl sl23 zr40 rfl rfl rfl rfl rfl fun b4 w17 hb5 hE16 hs4 hz7 => ?_
 replace hl1 := hl1.ext hE16
 replace hl2 := hl2.ext hE16
 replace hb4 := hb4.ext hE16
 replace hX := hX.trans hE16
 replace hAl := hAl.trans hE16
 replace hA1 := hA1.trans hE16
 have hN1 := (hN.ext hA1)
 obtain ⟨xs, hrow, hxs⟩ := hN1.ex
 refine ewl_app1 rfl ap23 rfl rfl rfl rfl hrow hb5 rfl rfl (by omega) (by omega) fun ra2 rc2 w18 hr12 hG1 => ?_
 have hlv : (vs.app (Nd.cons 31 t9.ln t9.co t9.tx 0 .nil .nil)).len = i + 1 := by rw [Nd.len_app, hnl]; rfl
 have hl3 : vs.len + 1 = (vs.app (Nd.cons 31 t9.ln t9.co t9.tx 0 .nil .nil)).len := by omega
 have hN2 := NRow.step (w1 := w17) hrow hxs rfl hN1.new (NdS.nil _ _ _ _) (by omega) (Nat.le_refl _) (fun b hb => hrow.lt hb) hr12 hG1
 replace hAl := hAl.grow hG1 (fun b hb => by have := hN1.new b hb; omega)
 replace hl1 := hl1.grow hG1 (fun e => by have := hN1.new _ e.symm; omega)
 replace hl2 := hl2.grow hG1 (fun e => by have := hN1.new _ e.symm; omega)
 replace hX := hX.grow hG1 (fun b hb => by have := hN1.new b hb; omega)
 have sz11 := hG1.size
 have hA2 := Ext.refl w18
 refine ewl_run rfl (rn_assign rfl) ?_
 refine ewl_nil ?_
 refine blk_n ?_
 refine thn_n ?_
 refine ewp_reg ?_
 refine ewl_run rfl (rn_add rfl rfl ⟨by omega, by omega⟩) ?_
 refine ewl_run rfl (rn_move rfl) ?_
 refine ewl_nil ?_
 refine lp_n q.len (upd (upd (upd (upd (upd (upd (upd SW.e0 1 (.pointer (some ⟨b1, 0, none⟩))) 2 (.pointer (some ⟨b2, 0, none⟩))) 3 (.slice (some ⟨b, off + 1 * 6, none⟩) (r.len + 3) (kc - 1))) 5 (.slice ra2 (vs.app (Nd.cons 31 t9.ln t9.co t9.tx 0 .nil .nil)).len rc2)) 65 (.slice (some ⟨b9, off9, none⟩) k2.len c2)) 66 (.int .i64 (k2.len : Int))) 67 (.int .i64 ((i + 1 : Nat) : Int))) (by simp [Fo.len]) (le_upd (le_upd (le_upd (le_upd (le_upd (le_upd (le_upd (le_e0 _) rfl) rfl) rfl) (hl3 ▸ rfl)) rfl) rfl) rfl) ⟨i + 1, q, (vs.app (Nd.cons 31 t9.ln t9.co t9.tx 0 .nil .nil)), ra2, rc2, rfl, rfl, rfl, by omega, hlv, ?_, ?_, hal.2, hat.next, hl1, hl2, hl3 ▸ hN2, hAl, hX⟩
 · intro x hx; rw [hmo _ (tvars_some hn3 hx), Nd.app_assoc]; rfl
 · intro hx; exact hme (tvars_none2 hx)
 refine ewp_exit ?_
 refine thn_e ?_
 refine lp_e ?_
 refine blk_e ?_
 refine thn_n ?_
 refine ewp_seq ?_
 have hr13 := (hb.ext hX)
 have hr14 := hl1
 refine ewp_draw mixed (Keeps wl [b, b1]) [(true, 0), (true, 1), (true, 2), (true, 3), (true, 4), (true, 5), (true, 6), (true, 7), (true, 8), (false, 9), (false, 10), (false, 11), (false, 12)] (by kernel_rfl) (by kernel_rfl) rfl rfl fun w19 hE17 hz8 => ?_
 have hKp : Keeps wl [b, b1] w19 := Keeps.cons hr13 hE17 (Keeps.cons hr14 hE17 (Keeps.nil _ _))
 refine ⟨hKp, ?_⟩
 replace hl1 := hl1.ext hE17
 replace hl2 := hl2.ext hE17
 replace hX := hX.trans hE17
 replace hAl := hAl.trans hE17
 replace hA1 := hA1.trans hE17
 refine ewo_rd rfl (fun _ hS => rn_loada rfl ti61 (hr14.keep hS (.tail _ (.head _))) rfl) ?_
 refine ewo_rd rfl (fun _ hS => rn_move rfl) ?_
 refine ewo_rd rfl (fun _ hS => rn_ixc (i := 0) rfl rfl sl47 (by omega)) ?_
 refine ewo_rd rfl (fun _ hS => rn_fa rfl fl61_0) ?_
 refine ewo_rd rfl (fun _ hS => rn_fa rfl fl59_3) ?_
 refine ewo_rd rfl (fun _ hS => rn_loadd 10 rfl ti9 (hr13.keep hS (.head _)) hd (by omega) rfl) ?_
 refine ewo_rd rfl (fun _ hS => rn_move rfl) ?_
 refine ewo_rd rfl (fun _ hS => rn_move rfl) ?_
 refine ewo_rd rfl (fun _ hS => rn_restb rfl rfl sl47 hc2) ?_
 refine ewo_sp ?_
 have hz : q = .nil := by
   rcases q with _ | ⟨t9, k9, q⟩
   · rfl
   · simp [Fo.len] at hi; have := h7; simp at this; omega
 subst hz
 have htv := (hmo .nil rfl).trans (by rw [Nd.app_nil])
 refine ewl_retp rfl (en_call ent15 rfl rfl) (each_spec _ 28 ent28 (dconM (n + 1)) (okT n) U _ _ _ (.cons e3 k3 r) (hK3.ext hX) ⟨hp3, hall⟩ (by simp only [Fo.len]; omega) (fun w1 hE1 t1 q1 a9 n9 c9 hk9 hp9 => dcon_spec n w1 (hG.ext (hX.trans hE1)) U t1 q1 a9 n9 c9 hk9 (okT_mono hp9))) ?_ (fun c wp hc => And.intro rfl (let ⟨e, he, hc1, hc2⟩ := hc; ⟨e, by simp [topM, SP.need, h1, h2, h3, h4, h5, h6, h7, hn1, hn2, htv, hw, he], hc1, hX.trans hc2⟩))
 rintro _ w20 ⟨nds, ra_nds, rc_nds, hnds, rfl, hM, hE18⟩
 replace hl1 := hl1.ext hE18
 replace hl2 := hl2.ext hE18
 replace hX := hX.trans hE18
 replace hAl := hAl.trans hE18
 replace hA1 := hA1.trans hE18
 replace hKp := hKp.ext hE18
 have sz12 := hE18.size
 have hA3 := Ext.refl w20
 refine ewl_nil (onw_n hKp ?_)
 refine ewo_sp ?_
 have hN1 := (hN.ext hA1)
 have hasl := eachM_len hnds
 have hge : 0 < nds.len := by simp only [Fo.len] at hasl; omega
 have h8 := of_decide_eq_true hn2
 obtain ⟨xs, hrow, hxs⟩ := hN1.ex
 obtain ⟨b7, l7, ys, rfl, hb7, hy1, hy2, hy3⟩ := hM.rowBlk hge
 have hy4 := NdC.imp (U' := fun b => w19.heap.size ≤ b ∧ b < w20.heap.size) (fun b hb hlt => ⟨⟨hb.1, hlt⟩, hA3.block b hlt⟩) _ _ hy3
 refine ewl_app rfl ap23 rfl rfl rfl rfl hrow (hb7.ext hA3) hy1 hy2 (NdC.one _ _ hy3 hy2) hge (by simp only [Fo.len] at hasl; omega) (fun ra2 rc2 w21 hr15 hG2 => ?_) (by simp only [Fo.len] at hasl; omega)
 have hN2 := NRow.join hrow hxs rfl hN1.new hy4 (fun b hb => ⟨by omega, fun e => by have := (hN.ex.choose_spec.1).lt e.symm; omega⟩) (by omega) hr15 hG2
 replace hl1 := hl1.grow hG2 (fun e => by have := hN1.new _ e.symm; omega)
 replace hl2 := hl2.grow hG2 (fun e => by have := hN1.new _ e.symm; omega)
 replace hX := hX.grow hG2 (fun b hb => by have := hN1.new b hb; omega)
 replace hKp := hKp.grow hG2 (by simp only [List.mem_cons, List.not_mem_nil, or_false]; intro c hc e; have := hN1.new c e.symm; omega)
 have sz13 := hG2.size
 have hA4 := Ext.refl w21
 refine ewl_nil (onw_n hKp ?_)
 refine ewo_sp ?_
 refine ewl_ret rfl (en_call ent27 rfl rfl) (node_spec _ ⟨_, _, _, _, _⟩ _ _ _ _ _ _) ?_
 rintro _ w22 ⟨rfl, hE19⟩
 replace hl1 := hl1.ext hE19
 replace hl2 := hl2.ext hE19
 replace hX := hX.trans hE19
 replace hA4 := hA4.trans hE19
 replace hKp := hKp.ext hE19
 have sz14 := hE19.size
 refine ewl_nil (onw_n hKp ?_)
 refine ewo_sp ?_
 refine ewl_store rfl rfl rfl ti40 rfl hl2 rfl rfl fun w23 hb6 hC2 => ?_
 replace hl1 := hl1.chg hC2 (by omega)
 replace hX := hX.chg hC2 (by omega)
 replace hN2 := (hN2.ext hA4).chg hC2 (by omega)
 clear hA4
 replace hKp := hKp.chg hC2 (by simp only [List.mem_cons, List.not_mem_nil, or_false]; omega)
 have sz15 := hC2.size
 have hA5 := Ext.refl w23
 refine ewl_nil (onw_n hKp ?_)
 refine ewo_nil ?_
 refine thn_n ?_
 refine ewp_ret ?_
 refine blk_r ?_
 refine thn_r ?_
 refine fn_r (resv rfl (rv_cella rfl ti40 hb6 rfl)) ?_
 exact ⟨node t 41 e1.tx (vs.app nds), by simp [topM, SP.need, node, h1, h2, h3, h4, h5, h6, h7, hn1, hn2, htv, hnds, hw], ⟨_, _, _, rfl, ((hN2.ext hA5).nds).mono (fun b hb => by omega)⟩, hX⟩
 refine ewo_rdo rfl rfl rfl h6 ?_
 refine ewo_rdo rfl rfl rfl h6 ?_
 refine ewo_rdo rfl rfl rfl h6 ?_
 refine ewo_rdo rfl rfl rfl h6 ?_
 refine ewo_rdo rfl rfl rfl h6 ?_
 refine ewo_rdo rfl rfl rfl h6 ?_
 refine ewo_rd rfl (fun _ hS => rn_pickf rfl h6 rfl) ?_
 refine ewo_sp ?_
 refine ewl_retp rfl (en_call ent22 rfl rfl) (need_spec _ ⟨_, _, _, _, _⟩ _ _) ?_ (fun c wp hc => And.intro rfl (⟨(t.ln, t.co), by first | (simp [topM, SP.need, h1, h2, h3, h4, h5, h6, hn1, hw, hc.1]; done) | (exfalso; have hq := hc.1; simp at hq <;> omega), hc.2.1, hX.trans hc.2.2⟩))
 rintro _ w24 ⟨hn4, rfl, hE20⟩
 cases hn4
 refine ewo_rdo rfl rfl rfl h5 ?_
 refine ewo_rdo rfl rfl rfl h5 ?_
 refine ewo_rdo rfl rfl rfl h5 ?_
 refine ewo_sp ?_
 refine ewl_off rfl rfl rfl h5 ?_
 refine ewl_nil (onw_n hKp ?_)
 refine ewo_rd rfl (fun _ hS => rn_pickf rfl h5 rfl) ?_
 refine ewo_rd rfl (fun _ hS => rn_move rfl) ?_
 refine ewo_rdo rfl rfl rfl rfl ?_
 refine ewo_rdo rfl rfl rfl rfl ?_
 refine ewo_rdo rfl rfl rfl rfl ?_
 refine ewo_rdo rfl rfl rfl rfl ?_
 refine ewo_rdo rfl rfl rfl rfl ?_
 refine ewo_rdo rfl rfl rfl rfl ?_
 refine ewo_rd rfl (fun _ hS => rn_pickf rfl rfl rfl) ?_
 refine ewo_sp ?_
 refine ewl_retp rfl (en_call ent22 rfl rfl) (need_spec _ ⟨_, _, _, _, _⟩ _ _) ?_ (fun c wp hc => And.intro rfl (⟨(t.ln, t.co), by first | (simp [topM, SP.need, h1, h2, h3, h4, h5, hn1, hw, hc.1]; done) | (exfalso; have hq := hc.1; simp at hq <;> omega), hc.2.1, hX.trans hc.2.2⟩))
 rintro _ w25 ⟨hn5, rfl, hE21⟩
 cases hn5
 · exfalso
   simp at h4 <;> omega
 · exfalso
   simp [hw] at h3
 · exfalso
   simp at h2 <;> omega
 refine ewo_rdo rfl rfl rfl h1 ?_
 refine ewo_rdo rfl rfl rfl h1 ?_
 refine ewo_rdo rfl rfl rfl h1 ?_
 refine ewo_rdo rfl rfl rfl h1 ?_
 refine ewo_rd rfl (fun _ hS => rn_pickf rfl h1 rfl) ?_
 refine ewo_rd rfl (fun _ hS => rn_move rfl) ?_
 refine ewo_rdo rfl rfl rfl rfl ?_
 refine ewo_rdo rfl rfl rfl rfl ?_
 refine ewo_rdo rfl rfl rfl rfl ?_
 refine ewo_rdo rfl rfl rfl rfl ?_
 refine ewo_sp ?_
 refine ewl_off rfl rfl rfl rfl ?_
 refine ewl_nil (onw_n hKp ?_)
 refine ewo_rd rfl (fun _ hS => rn_pickf rfl rfl rfl) ?_
 refine ewo_sp ?_
 refine ewl_retp rfl (en_call ent22 rfl rfl) (need_spec _ ⟨_, _, _, _, _⟩ _ _) ?_ (fun c wp hc => And.intro rfl (⟨(t.ln, t.co), by first | (simp [topM, SP.need, h1, hw, hc.1]; done) | (exfalso; have hq := hc.1; simp at hq <;> omega), hc.2.1, hX.trans hc.2.2⟩))
 rintro _ w26 ⟨hn6, rfl, hE22⟩
 cases hn6
theorem top_spec (n : Nat) : NSpec 17 (topM (n + 1)) (n + 1) := fun w hG U t k ka kn kc hK hok => by
 cases k with
 | nil => obtain rfl : kn = 0 := hK.1; exact top_nil n w hG t U ka kc
 | cons e0 k0 l =>
   have hall := (okT_kids hok).2
   have hll : l.len ≤ 99999 := by have := hok.2.2.1; simp only [Fo.len] at this; omega
   by_cases w_data : (e0.tx == [100, 97, 116, 97]) = true
   · have hw : e0.tx = [100, 97, 116, 97] := by simpa using w_data
     match l, hK, hall, hll with
     | .nil, hK, hall, hll => exact top_bad_data n w hG t U ka kc kn e0 k0 _ hK hw (by simp [Fo.len] <;> omega) (fun h1 h2 => by simp [topM, SP.need, h1, h2, hw])
     | .cons e1 k1 .nil, hK, hall, hll => exact top_bad_data n w hG t U ka kc kn e0 k0 _ hK hw (by simp [Fo.len] <;> omega) (fun h1 h2 => by simp [topM, SP.need, h1, h2, hw])
     | .cons e1 k1 (.cons e2 k2 .nil), hK, hall, hll => exact top_bad_data n w hG t U ka kc kn e0 k0 _ hK hw (by simp [Fo.len] <;> omega) (fun h1 h2 => by simp [topM, SP.need, h1, h2, hw])
     | .cons e1 k1 (.cons e2 k2 (.cons e3 k3 r)), hK, hall, hll => exact top_data n w hG t U ka kc e0 k0 e1 k1 e2 k2 e3 k3 r kn hK hall.1 hall.2.1 hall.2.2.1 hall.2.2.2 (by simp only [Fo.len] at hll; omega) hw
   replace w_data : (e0.tx == [100, 97, 116, 97]) = false := by simpa using w_data
   by_cases w_root : (e0.tx == [114, 111, 111, 116]) = true
   · have hw : e0.tx = [114, 111, 111, 116] := by simpa using w_root
     match l, hK, hall, hll with
     | .nil, hK, hall, hll => exact top_bad_root n w hG t U ka kc kn e0 k0 _ hK hw (by simp [Fo.len] <;> omega) (fun h1 h2 => by simp [topM, SP.need, h1, h2, hw])
     | .cons e1 k1 .nil, hK, hall, hll => exact top_bad_root n w hG t U ka kc kn e0 k0 _ hK hw (by simp [Fo.len] <;> omega) (fun h1 h2 => by simp [topM, SP.need, h1, h2, hw])
     | .cons e1 k1 (.cons e2 k2 .nil), hK, hall, hll => exact top_bad_root n w hG t U ka kc kn e0 k0 _ hK hw (by simp [Fo.len] <;> omega) (fun h1 h2 => by simp [topM, SP.need, h1, h2, hw])
     | .cons e1 k1 (.cons e2 k2 (.cons e3 k3 .nil)), hK, hall, hll => obtain rfl : kn = 4 := hK.1; exact top_root n w hG t U ka kc e0 k0 e1 k1 e2 k2 e3 k3 hK hall.1 hall.2.1 hall.2.2.1 hw
     | .cons e1 k1 (.cons e2 k2 (.cons e3 k3 (.cons e4 k4 (r)))), hK, hall, hll => exact top_bad_root n w hG t U ka kc kn e0 k0 _ hK hw (by simp [Fo.len] <;> omega) (fun h1 h2 => by simp [topM, SP.need, h1, h2, hw])
   replace w_root : (e0.tx == [114, 111, 111, 116]) = false := by simpa using w_root
   by_cases w_def : (e0.tx == [100, 101, 102]) = true
   · have hw : e0.tx = [100, 101, 102] := by simpa using w_def
     match l, hK, hall, hll with
     | .nil, hK, hall, hll => exact top_bad_def n w hG t U ka kc kn e0 k0 _ hK hw (by simp [Fo.len] <;> omega) (fun h1 h2 => by simp [topM, SP.need, h1, h2, hw])
     | .cons e1 k1 .nil, hK, hall, hll => exact top_bad_def n w hG t U ka kc kn e0 k0 _ hK hw (by simp [Fo.len] <;> omega) (fun h1 h2 => by simp [topM, SP.need, h1, h2, hw])
     | .cons e1 k1 (.cons e2 k2 .nil), hK, hall, hll => obtain rfl : kn = 3 := hK.1; exact top_def n w hG t U ka kc e0 k0 e1 k1 e2 k2 hK hall.1 hall.2.1 hw
     | .cons e1 k1 (.cons e2 k2 (.cons e3 k3 (r))), hK, hall, hll => exact top_bad_def n w hG t U ka kc kn e0 k0 _ hK hw (by simp [Fo.len] <;> omega) (fun h1 h2 => by simp [topM, SP.need, h1, h2, hw])
   replace w_def : (e0.tx == [100, 101, 102]) = false := by simpa using w_def
   by_cases w_rec : (e0.tx == [114, 101, 99]) = true
   · have hw : e0.tx = [114, 101, 99] := by simpa using w_rec
     match l, hK, hall, hll with
     | .nil, hK, hall, hll => exact top_bad_rec n w hG t U ka kc kn e0 k0 _ hK hw (by simp [Fo.len] <;> omega) (fun h1 h2 => by simp [topM, SP.need, h1, h2, hw])
     | .cons e1 k1 .nil, hK, hall, hll => exact top_bad_rec n w hG t U ka kc kn e0 k0 _ hK hw (by simp [Fo.len] <;> omega) (fun h1 h2 => by simp [topM, SP.need, h1, h2, hw])
     | .cons e1 k1 (.cons e2 k2 .nil), hK, hall, hll => obtain rfl : kn = 3 := hK.1; exact top_rec n w hG t U ka kc e0 k0 e1 k1 e2 k2 hK hall.1 hall.2.1 hw
     | .cons e1 k1 (.cons e2 k2 (.cons e3 k3 (r))), hK, hall, hll => exact top_bad_rec n w hG t U ka kc kn e0 k0 _ hK hw (by simp [Fo.len] <;> omega) (fun h1 h2 => by simp [topM, SP.need, h1, h2, hw])
   replace w_rec : (e0.tx == [114, 101, 99]) = false := by simpa using w_rec
   by_cases w_do : (e0.tx == [100, 111]) = true
   · have hw : e0.tx = [100, 111] := by simpa using w_do
     match l, hK, hall, hll with
     | .nil, hK, hall, hll => exact top_bad_do n w hG t U ka kc kn e0 k0 _ hK hw (by simp [Fo.len] <;> omega) (fun h1 h2 => by simp [topM, SP.need, h1, h2, hw])
     | .cons e1 k1 .nil, hK, hall, hll => obtain rfl : kn = 2 := hK.1; exact top_do n w hG t U ka kc e0 k0 e1 k1 hK hall.1 hw
     | .cons e1 k1 (.cons e2 k2 (r)), hK, hall, hll => exact top_bad_do n w hG t U ka kc kn e0 k0 _ hK hw (by simp [Fo.len] <;> omega) (fun h1 h2 => by simp [topM, SP.need, h1, h2, hw])
   replace w_do : (e0.tx == [100, 111]) = false := by simpa using w_do
   exact top_other n w hG t U ka kc kn e0 k0 l hK w_data w_root w_def w_rec w_do
end Go.Proofs.YthjdnhnbgjgbkaaGreatDoor
namespace Go.Proofs.YthjdnhnbgjgbkaaGreatDoor
open Go.SW Go.SP Go.RowKit
theorem trees_spec (w : World) (ta : Option Addr) (tn tc : Nat) (toks : List Tok) (hT : Row w 59 5 ta tc toks.length (toksC toks)) (htn : tn = toks.length) (hlen : toks.length ≤ 100000) :
   RetP Tryz.prog 16 #[.slice ta tn tc] w (fun v w' => ∃ fo a c, treesM toks [] .nil = .ok fo ∧ v = .slice a fo.len c ∧ FoS (fun b => w.heap.size ≤ b) w' a fo.len c fo ∧ Ext w w') (fun c w' => ∃ e, treesM toks [] .nil = .error e ∧ c = trb 45 e ∧ Ext w w') := by
 subst htn
 have hX := Ext.refl w
 refine enterP Tryz.func16 rfl rfl rfl ?_
 refine ewp_seq ?_
 refine ewp_reg ?_
 refine ewl_run rfl (rn_assign rfl) ?_
 refine ewl_nil ?_
 refine thn_n ?_
 refine ewp_seq ?_
 refine ewp_reg ?_
 refine ewl_bs rfl rfl sl62 zr47 rfl rfl rfl rfl rfl fun b1 w1 hb1 hE1 hs1 hz1 => ?_
 replace hX := hX.trans hE1
 refine ewl_run rfl (rn_assign rfl) ?_
 refine ewl_nil ?_
 refine thn_n ?_
 refine ewp_seq ?_
 refine ewp_reg ?_
 refine ewl_run rfl (rn_assign rfl) ?_
 refine ewl_nil ?_
 refine thn_n ?_
 refine ewp_seq ?_
 refine ewp_seq ?_
 refine ewp_reg ?_
 refine ewl_run rfl (rn_move rfl) ?_
 refine ewl_run rfl (rn_len rfl sl41) ?_
 refine ewl_run rfl (rn_move rfl) ?_
 refine ewl_nil ?_
 refine thn_n ?_
 refine ewp_block ?_
 refine ewp_loop (fun k σ ds w' => ∃ (i : Nat) (pre rest : List Tok) (st : List (Tok × Fo)) (cur : Fo) (u : Nat → Nat) (oa : Option Addr) (oc sb sc : Nat) (a : Option Addr) (c : Nat) (vs : List Value), k = rest.length ∧ ds = [] ∧ σ = (upd (upd (upd (upd (upd SW.e0 3 (.slice (some ⟨sb, 0, none⟩) (st.length + 1) sc)) 4 (.slice oa st.length oc)) 10 (.slice ta toks.length tc)) 11 (.int .i64 (toks.length : Int))) 12 (.int .i64 (i : Int))) ∧ toks = pre ++ rest ∧ pre.length = i ∧ treesM toks [] .nil = treesM rest st cur ∧ st.length ≤ 200 ∧ cur.len ≤ i ∧ (∀ z ∈ st, z.2.len ≤ i) ∧ SV 61 59 47 u w w' st st oa oc (some ⟨sb, 0, none⟩) sc (.slice a cur.len c) a c cur vs none 0 0 .nil ∧ Ext w w') toks.length (upd (upd (upd (upd (upd SW.e0 3 (.slice (some ⟨b1, 0, none⟩) 1 1)) 4 (.slice none 0 0)) 10 (.slice ta toks.length tc)) 11 (.int .i64 (toks.length : Int))) 12 (.int .i64 ((0 : Nat) : Int))) (le_upd (le_upd (le_upd (le_upd (le_upd (le_e0 _) rfl) rfl) rfl) rfl) rfl) ⟨0, [], toks, [], .nil, fun _ => 2, none, 0, b1, 1, none, 0, [], rfl, rfl, rfl, rfl, rfl, rfl, by simp, by simp [Fo.len], (fun z hz => by cases hz), SV.start hb1 (by omega), hX⟩ ?_
 rintro _ _ _ wl ⟨i, pre, rest, st, cur, u, oa, oc, sb, sc, a, c, vs, rfl, rfl, rfl, htk, hpi, hm, h200, hcl, hsl, hS, hX⟩
 have szl := hX.size
 have hil : i + rest.length = toks.length := by rw [htk, List.length_append, hpi]
 have hslt : sb < wl.heap.size := hS.slt sb rfl
 have hsge : w.heap.size ≤ sb := (hS.sla sb rfl).1
 have htlt := hS.tlt
 have holt := hS.olt
 have hson := hS.o.n_le
 have hssn := hS.s.n_le
 have hA1 := Ext.refl wl
 refine ewp_seq ?_
 refine ewp_reg ?_
 refine ewl_run rfl (rn_ltI rfl rfl) ?_
 refine ewl_nil ?_
 refine thn_n ?_
 refine ewp_seq ?_
 refine ewp_if rfl (fun h1 => ?_) (fun h1 => ?_)
 refine ewp_skip ?_
 refine thn_n ?_
 refine ewp_seq ?_
 refine ewp_block ?_
 refine ewp_seq ?_
 refine ewp_reg ?_
 have hi2 : i < toks.length := by simpa using h1
 rcases rest with _ | ⟨tk, rest⟩
 · simp at hil; omega
 simp only [List.length_cons] at hil
 obtain ⟨bt, lt, lt2, hta, hbt, hdt⟩ := tok_at (htk ▸ hT) hpi
 cases hta
 have hbtl := hbt.lt
 refine ewl_run rfl (rn_ixc (i := i) rfl rfl sl41 hi2) ?_
 refine ewl_run rfl (rn_loadad 0 rfl ti59 (hbt.ext hX) hdt (by omega) rfl) ?_
 refine ewl_alloc rfl zr59 fun b2 w2 hb2 hE2 hs2 hz2 => ?_
 replace hX := hX.trans hE2
 replace hA1 := hA1.trans hE2
 refine ewl_store rfl rfl rfl ti59 rfl hb2 rfl rfl fun w3 hb3 hC1 => ?_
 replace hX := hX.chg hC1 (by omega)
 replace hA1 := hA1.chg hC1 (by omega)
 have sz1 := hC1.size
 refine ewl_nil ?_
 refine thn_n ?_
 refine ewp_seq ?_
 refine ewp_reg ?_
 refine ewl_run rfl (rn_move rfl) ?_
 refine ewl_run rfl (rn_len rfl sl62) ?_
 refine ewl_run rfl (rn_sub rfl rfl ⟨by omega, by omega⟩) ?_
 refine ewl_run rfl (rn_assign rfl) ?_
 refine ewl_nil ?_
 refine thn_n ?_
 refine ewp_seq ?_
 refine ewp_reg ?_
 refine ewl_run rfl (rn_fa rfl fl59_0) ?_
 refine ewl_run rfl (rn_load rfl ti3 hb3 rfl) ?_
 refine ewl_nil ?_
 refine thn_n ?_
 refine ewp_block ?_
 refine ewp_seq ?_
 refine ewp_reg ?_
 refine ewl_run rfl (rn_eqI rfl rfl) ?_
 refine ewl_run rfl (rn_assign rfl) ?_
 refine ewl_nil ?_
 refine thn_n ?_
 refine ewp_if rfl (fun h2 => ?_) (fun h2 => ?_)
 refine ewp_seq ?_
 refine ewp_seq ?_
 refine ewp_reg ?_
 refine ewl_run rfl (rn_move rfl) ?_
 refine ewl_run rfl (rn_len rfl sl41) ?_
 refine ewl_run rfl (rn_eqI rfl rfl) ?_
 refine ewl_nil ?_
 refine thn_n ?_
 refine ewp_if rfl (fun h3 => ?_) (fun h3 => ?_)
 refine ewp_reg ?_
 refine ewl_run rfl (rn_fa rfl fl59_1) ?_
 refine ewl_run rfl (rn_loada rfl ti25 hb3 rfl) ?_
 refine ewl_run rfl (rn_build rfl pl45 zr45 rfl) ?_
 refine ewl_run rfl (rn_mki rfl ni45) ?_
 refine ewl_pan (pn_panic rfl) (And.intro rfl ?_)
 exact ⟨(tk.ln, tk.co), hm.trans (treesM_full h2 (by have := h3; simp at this; omega)), rfl, hX⟩
 refine ewp_skip ?_
 refine thn_n ?_
 refine ewp_seq ?_
 refine ewp_reg ?_
 refine ewl_run rfl (rn_move rfl) ?_
 refine ewl_run rfl (rn_loada rfl ti59 hb3 rfl) ?_
 refine ewl_bs rfl rfl sl41 zr59 rfl rfl rfl rfl rfl fun b3 w4 hb4 hE3 hs3 hz3 => ?_
 replace hb3 := hb3.ext hE3
 replace hX := hX.trans hE3
 replace hA1 := hA1.trans hE3
 have hS0 := (hS.ext hA1)
 refine ewl_app1 rfl ap41 rfl rfl rfl rfl hS0.o hb4 rfl rfl (by omega) (by omega) fun oa2 oc2 w5 hr1 hG1 => ?_
 obtain ⟨u2, hS1⟩ := hS0.pushTok tk cur hr1 hG1 (by omega)
 replace hX := hX.grow hG1 (fun b hb => (hS0.ol b hb).1)
 have sz2 := hG1.size
 have hA2 := Ext.refl w5
 refine ewl_run rfl (rn_assign rfl) ?_
 refine ewl_nil ?_
 refine thn_n ?_
 refine ewp_reg ?_
 refine ewl_run rfl (rn_move rfl) ?_
 refine ewl_bs rfl rfl sl62 zr47 rfl rfl rfl rfl rfl fun b4 w6 hb5 hE4 hs4 hz4 => ?_
 replace hX := hX.trans hE4
 replace hA2 := hA2.trans hE4
 have hS0 := (hS1.ext hA2)
 refine ewl_app1 rfl ap62 rfl rfl rfl rfl hS0.s hb5 rfl rfl (by omega) (by omega) fun sa2 sc2 w7 hr2 hG2 => ?_
 obtain ⟨u3, hS2⟩ := hS0.pushLev rfl tk hr2 hG2 (by omega)
 replace hX := hX.grow hG2 (fun b hb => (hS0.sla b hb).1)
 have sz3 := hG2.size
 have hA3 := Ext.refl w7
 refine ewl_run rfl (rn_assign rfl) ?_
 refine ewl_nil ?_
 refine blk_n ?_
 refine blk_n ?_
 refine thn_n ?_
 refine ewp_reg ?_
 refine ewl_run rfl (rn_add rfl rfl ⟨by omega, by omega⟩) ?_
 refine ewl_run rfl (rn_move rfl) ?_
 refine ewl_nil ?_
 obtain ⟨sb2, _, hes2, -⟩ := (hS2.ext hA3).sblk
 cases hes2
 have hne2 : st.length ≠ 200 := by have := h3; simp at this; omega
 refine lp_n rest.length (upd (upd (upd (upd (upd SW.e0 3 (.slice (some ⟨sb2, 0, none⟩) (st.length + 1 + 1) sc2)) 4 (.slice oa2 (st.length + 1) oc2)) 10 (.slice (some ⟨bt, 0, none⟩) toks.length tc)) 11 (.int .i64 (toks.length : Int))) 12 (.int .i64 ((i + 1 : Nat) : Int))) (by simp) (le_upd (le_upd (le_upd (le_upd (le_upd (le_e0 _) rfl) rfl) rfl) rfl) rfl) ⟨i + 1, pre ++ [tk], rest, (tk, cur) :: st, .nil, _, oa2, oc2, sb2, sc2, none, 0, _, rfl, rfl, rfl, by rw [htk]; simp, by simp [hpi], hm.trans (treesM_open h2 hne2), by simp only [List.length_cons]; omega, by simp [Fo.len], lens_push tk hsl hcl, (hS2.ext hA3), hX⟩
 refine ewp_seq ?_
 refine ewp_reg ?_
 refine ewl_run rfl (rn_eqI rfl rfl) ?_
 refine ewl_run rfl (rn_assign rfl) ?_
 refine ewl_nil ?_
 refine thn_n ?_
 refine ewp_if rfl (fun h4 => ?_) (fun h4 => ?_)
 refine ewp_seq ?_
 refine ewp_seq ?_
 refine ewp_reg ?_
 refine ewl_run rfl (rn_move rfl) ?_
 refine ewl_run rfl (rn_eqI rfl rfl) ?_
 refine ewl_nil ?_
 refine thn_n ?_
 refine ewp_if rfl (fun h5 => ?_) (fun h5 => ?_)
 refine ewp_reg ?_
 refine ewl_run rfl (rn_fa rfl fl59_1) ?_
 refine ewl_run rfl (rn_loada rfl ti25 hb3 rfl) ?_
 refine ewl_run rfl (rn_build rfl pl45 zr45 rfl) ?_
 refine ewl_run rfl (rn_mki rfl ni45) ?_
 refine ewl_pan (pn_panic rfl) (And.intro rfl ?_)
 rcases st with _ | ⟨o, s⟩
 · exact ⟨(tk.ln, tk.co), hm.trans (treesM_bad h2 h4), rfl, hX⟩
 · have h2 := h5; simp at h2 <;> omega
 refine ewp_skip ?_
 refine thn_n ?_
 refine ewp_seq ?_
 rcases st with _ | ⟨⟨o, q⟩, s⟩
 · simp at h5
 rcases vs with _ | ⟨y, vs⟩
 · exact hS.lv.elim
 obtain ⟨_, ls, hes, hsb, hcell, hsl2, hsw, hsu⟩ := (hS.ext hA1).sblk
 cases hes
 obtain ⟨ob, lo, lo2, hoa, hob, hod⟩ := (hS.ext hA1).oblk
 cases hoa
 have hobl : ob < wl.heap.size := holt ob rfl
 have hr3 := hsb
 have hr4 := (hbt.ext hX)
 have hr5 := hb3
 have hr6 := hob
 refine ewp_draw mixed (Keeps w3 [sb, bt, b2, ob]) [(true, 0), (true, 1), (true, 2), (true, 3), (true, 4), (true, 5), (true, 6), (true, 7), (true, 8), (true, 9), (false, 10), (false, 11)] (by kernel_rfl) (by kernel_rfl) rfl rfl fun w8 hE5 hz5 => ?_
 have hKp : Keeps w3 [sb, bt, b2, ob] w8 := Keeps.cons hr3 hE5 (Keeps.cons hr4 hE5 (Keeps.cons hr5 hE5 (Keeps.cons hr6 hE5 (Keeps.nil _ _))))
 refine ⟨hKp, ?_⟩
 replace hb3 := hb3.ext hE5
 replace hob := hob.ext hE5
 replace hsb := hsb.ext hE5
 replace hX := hX.trans hE5
 replace hA1 := hA1.trans hE5
 refine ewo_rd rfl (fun _ hS => rn_move rfl) ?_
 refine ewo_rd rfl (fun _ hS => rn_move rfl) ?_
 refine ewo_rd rfl (fun _ hS => rn_sub rfl rfl ⟨by omega, by omega⟩) ?_
 refine ewo_rd rfl (fun _ hS => rn_ixe s.length rfl rfl (by simp <;> omega) sl41 (by simp)) ?_
 refine ewo_rd rfl (fun _ hS => rn_loadad 0 rfl ti59 (hr6.keep hS (.tail _ (.tail _ (.tail _ (.head _))))) hod (by omega) rfl) ?_
 refine ewo_rd rfl (fun _ hS => rn_move rfl) ?_
 refine ewo_rd rfl (fun _ hS => rn_move rfl) ?_
 refine ewo_rd rfl (fun _ hS => rn_ixe (s.length + 1) rfl rfl (by simp) sl62 (by simp)) ?_
 refine ewo_rd rfl (fun _ hS => rn_load rfl ti47 (hr3.keep hS (.head _)) (by simpa using hcell)) ?_
 refine ewo_rd rfl (fun _ hS => rn_build rfl pl61 zr61 rfl) ?_
 refine ewo_sp ?_
 refine ewl_alloc rfl zr61 fun b5 w9 hb6 hE6 hs5 hz6 => ?_
 replace hb3 := hb3.ext hE6
 replace hob := hob.ext hE6
 replace hsb := hsb.ext hE6
 replace hX := hX.trans hE6
 replace hA1 := hA1.trans hE6
 replace hKp := hKp.ext hE6
 refine ewl_nil (onw_n hKp ?_)
 refine ewo_sp ?_
 refine ewl_store rfl rfl rfl ti61 rfl hb6 rfl rfl fun w10 hb7 hC2 => ?_
 replace hb3 := hb3.chg hC2 (by omega)
 replace hob := hob.chg hC2 (by omega)
 replace hsb := hsb.chg hC2 (by omega)
 replace hX := hX.chg hC2 (by omega)
 replace hA1 := hA1.chg hC2 (by omega)
 replace hKp := hKp.chg hC2 (by simp only [List.mem_cons, List.not_mem_nil, or_false]; omega)
 have sz4 := hC2.size
 refine ewl_nil (onw_n hKp ?_)
 refine ewo_nil ?_
 refine thn_n ?_
 refine ewp_seq ?_
 have hr7 := (hbt.ext hX)
 have hr8 := hb3
 have hr9 := hb7
 refine ewp_draw mixed (Keeps w10 [bt, b2, b5]) [(true, 0), (true, 1), (true, 2), (true, 3), (true, 4), (true, 5), (true, 6), (true, 7), (true, 8)] (by kernel_rfl) (by kernel_rfl) rfl rfl fun w11 hE7 hz7 => ?_
 have hKp : Keeps w10 [bt, b2, b5] w11 := Keeps.cons hr7 hE7 (Keeps.cons hr8 hE7 (Keeps.cons hr9 hE7 (Keeps.nil _ _)))
 refine ⟨hKp, ?_⟩
 replace hb3 := hb3.ext hE7
 replace hb7 := hb7.ext hE7
 replace hX := hX.trans hE7
 replace hA1 := hA1.trans hE7
 refine ewo_rd rfl (fun _ hS => rn_move rfl) ?_
 refine ewo_rd rfl (fun _ hS => rn_move rfl) ?_
 refine ewo_rd rfl (fun _ hS => rn_sub rfl rfl ⟨by omega, by omega⟩) ?_
 refine ewo_rd rfl (fun _ hS => rn_slte s.length rfl rfl (by simp <;> omega) sl41 (by simp only [List.length_cons] at hson; omega)) ?_
 refine ewo_rd rfl (fun _ hS => rn_move rfl) ?_
 refine ewo_rd rfl (fun _ hS => rn_move rfl) ?_
 refine ewo_rd rfl (fun _ hS => rn_slte (s.length + 1) rfl rfl (by simp) sl62 (by simp only [List.length_cons] at hssn; omega)) ?_
 refine ewo_rd rfl (fun _ hS => rn_assign rfl) ?_
 refine ewo_rd rfl (fun _ hS => rn_assign rfl) ?_
 refine ewo_nil ?_
 refine thn_n ?_
 refine ewp_seq ?_
 obtain ⟨u2, a2, c2, hy, hP⟩ := (hS.ext hA1).pop
 cases hy
 obtain ⟨a9, c9, hy9, xs9, hrow9, -⟩ := hS.lv.1
 cases hy9
 have htlt9 : ∀ b, rb a2 = some b → b < wl.heap.size := fun b hb => hrow9.lt hb
 have hA4 := Ext.refl w11
 have hr10 := (hbt.ext hX)
 have hr11 := hb3
 have hr12 := hb7
 refine ewp_drawt mixed (Keeps w11 [bt, b2, b5]) (.br 0 (.br 1 (.br 2 (.br 3 .fin .fin) .fin) (.br 2 (.br 1 (.br 3 .fin .fin) .fin) .fin)) .fin) (by kernel_rfl) (by kernel_rfl) (by kernel_rfl) fun w12 hE8 hz8 => ?_
 have hKp : Keeps w11 [bt, b2, b5] w12 := Keeps.cons hr10 hE8 (Keeps.cons hr11 hE8 (Keeps.cons hr12 hE8 (Keeps.nil _ _)))
 refine ⟨hKp, ?_⟩
 replace hb3 := hb3.ext hE8
 replace hb7 := hb7.ext hE8
 replace hX := hX.trans hE8
 replace hA1 := hA1.trans hE8
 replace hA4 := hA4.trans hE8
 refine ewt_br rfl ?_ ewt_none
 refine ewl_alloc rfl zr4 fun b6 w13 hb8 hE9 hs6 hz9 => ?_
 replace hb3 := hb3.ext hE9
 replace hb7 := hb7.ext hE9
 replace hX := hX.trans hE9
 replace hA1 := hA1.trans hE9
 replace hA4 := hA4.trans hE9
 replace hKp := hKp.ext hE9
 refine ewl_nil (onwt_n hKp ?_)
 refine ewt_br rfl ?_ ?_
 refine ewl_store rfl rfl rfl ti4 rfl hb8 rfl rfl fun w14 hb9 hC3 => ?_
 replace hb3 := hb3.chg hC3 (by omega)
 replace hb7 := hb7.chg hC3 (by omega)
 replace hX := hX.chg hC3 (by omega)
 replace hA1 := hA1.chg hC3 (by omega)
 replace hA4 := hA4.chg hC3 (by omega)
 replace hKp := hKp.chg hC3 (by simp only [List.mem_cons, List.not_mem_nil, or_false]; omega)
 have sz5 := hC3.size
 refine ewl_nil (onwt_n hKp ?_)
 refine ewt_br rfl ?_ ewt_none
 refine ewl_store rfl rfl rfl ti4 rfl hb9 rfl rfl fun w15 hb10 hC4 => ?_
 replace hb3 := hb3.chg hC4 (by omega)
 replace hb7 := hb7.chg hC4 (by omega)
 replace hX := hX.chg hC4 (by omega)
 replace hA1 := hA1.chg hC4 (by omega)
 replace hA4 := hA4.chg hC4 (by omega)
 replace hKp := hKp.chg hC4 (by simp only [List.mem_cons, List.not_mem_nil, or_false]; omega)
 have sz6 := hC4.size
 refine ewl_nil (onwt_n hKp ?_)
 refine ewt_br rfl ?_ ewt_none
 refine ewl_run rfl (rn_load rfl ti4 hb10 rfl) ?_
 refine ewl_nil (onwt_n hKp ?_)
 refine ewt_fin ?_
 refine thn_n ?_
 refine ewp_iff rfl rfl ?_
 have hr13 := (hbt.ext hX)
 have hr14 := hb3
 have hr15 := hb7
 have hr16 := hb10
 refine ewp_drawt mixed (Keeps w15 [bt, b2, b5, b6]) (.rd 0 (.rd 1 (.rd 2 (.rd 3 (.rd 4 (.rd 5 (.rd 6 (.rd 8 (.br 7 (.br 9 (.br 10 (.rd 11 (.br 12 .fin .fin)) .fin) .fin) (.br 9 (.br 7 (.br 10 (.rd 11 (.br 12 .fin .fin)) .fin) .fin) .fin)))))))))) (by kernel_rfl) (by kernel_rfl) (by kernel_rfl) fun w16 hE10 hz10 => ?_
 have hKp : Keeps w15 [bt, b2, b5, b6] w16 := Keeps.cons hr13 hE10 (Keeps.cons hr14 hE10 (Keeps.cons hr15 hE10 (Keeps.cons hr16 hE10 (Keeps.nil _ _))))
 refine ⟨hKp, ?_⟩
 replace hb3 := hb3.ext hE10
 replace hb7 := hb7.ext hE10
 replace hb10 := hb10.ext hE10
 replace hX := hX.trans hE10
 replace hA1 := hA1.trans hE10
 replace hA4 := hA4.trans hE10
 refine ewt_rd rfl rfl (fun _ hS => rn_move rfl) ?_
 refine ewt_rd rfl rfl (fun _ hS => rn_move rfl) ?_
 refine ewt_rd rfl rfl (fun _ hS => rn_sub rfl rfl ⟨by omega, by omega⟩) ?_
 refine ewt_rd rfl rfl (fun _ hS => rn_move rfl) ?_
 refine ewt_rd rfl rfl (fun _ hS => rn_move rfl) ?_
 refine ewt_rd rfl rfl (fun _ hS => rn_sub rfl rfl ⟨by omega, by omega⟩) ?_
 refine ewt_rd rfl rfl (fun _ hS => rn_ixe s.length rfl rfl (by simp <;> omega) sl62 (by omega)) ?_
 refine ewt_rd rfl rfl (fun _ hS => rn_loada rfl ti61 (hr15.keep hS (.tail _ (.tail _ (.head _)))) rfl) ?_
 refine ewt_br rfl ?_ ?_
 obtain ⟨_, ls, hes, hsb, hcell, hsl2, hsw, hsu⟩ := (hP.ext hA4).sblk
 cases hes
 refine ewl_run rfl (rn_load rfl ti47 hsb (by simpa using hcell)) ?_
 refine ewl_nil (onwt_n hKp ?_)
 refine ewt_br rfl ?_ ewt_none
 refine ewl_bs rfl rfl sl47 zr61 rfl rfl rfl rfl rfl fun b7 w17 hb11 hE11 hs7 hz11 => ?_
 replace hb3 := hb3.ext hE11
 replace hb7 := hb7.ext hE11
 replace hb10 := hb10.ext hE11
 replace hX := hX.trans hE11
 replace hA1 := hA1.trans hE11
 replace hA4 := hA4.trans hE11
 replace hKp := hKp.ext hE11
 refine ewl_nil (onwt_n hKp ?_)
 refine ewt_br rfl ?_ ewt_none
 have hS0 := (hP.ext hA4)
 obtain ⟨xs, hrow, hfc, hla⟩ := hS0.top
 have hql := hsl (o, q) (.head _)
 simp only at hql
 refine ewl_app1 rfl ap47 rfl rfl rfl rfl hrow hb11 rfl rfl (by omega) (by omega) fun a3 c3 w18 hr17 hG3 => ?_
 obtain ⟨u3, hS3⟩ := hS0.app hrow hfc hla o hS0.kid hr17 hG3 (by omega)
 obtain ⟨lb, _, he3, -⟩ := hS3.tblk
 cases he3
 have hlo : lb < wl.heap.size ∨ lb = w17.heap.size := by
   rcases hG3.own with h | h
   · exact .inl (htlt9 lb h.symm)
   · exact .inr (Option.some.inj h)
 have hlge : w17.heap.size ≤ w18.heap.size := hG3.size
 replace hX := hX.grow hG3 (fun b hb => (hla b hb).1)
 have sz7 := hG3.size
 replace hKp := hKp.grow hG3 (by simp only [List.mem_cons, List.not_mem_nil, or_false]; intro c hc e; have h1 := (hla c e.symm).1; have h2 := htlt9 c e.symm; omega)
 have hA5 := Ext.refl w18
 refine ewl_nil (onwt_n hKp ?_)
 refine ewt_rd rfl rfl (fun _ hS => rn_ixe s.length rfl rfl (by simp <;> omega) sl62 (by omega)) ?_
 refine ewt_br rfl ?_ ewt_none
 have hS0 := (hS3.ext hA5)
 obtain ⟨_, ls, hes, hsb, hcell, hsl2, hsw, hsu⟩ := hS0.sblk
 cases hes
 refine ewl_storeG rfl rfl rfl ti47 rfl hsb rfl (by simp <;> omega) fun w19 hb12 hC5 => ?_
 have hS4 := hS0.cell' rfl hsb hb12 hC5
 replace hX := hX.chg hC5 hsw
 have sz8 := hC5.size
 replace hKp := hKp.chg hC5 (by simp only [List.mem_cons, List.not_mem_nil, or_false]; omega)
 have hA6 := Ext.refl w19
 refine ewl_nil (onwt_n hKp ?_)
 refine ewt_fin ?_
 refine blk_n ?_
 refine blk_n ?_
 refine thn_n ?_
 refine ewp_reg ?_
 refine ewl_run rfl (rn_add rfl rfl ⟨by omega, by omega⟩) ?_
 refine ewl_run rfl (rn_move rfl) ?_
 refine ewl_nil ?_
 refine lp_n rest.length (upd (upd (upd (upd (upd SW.e0 3 (.slice (some ⟨sb, 0, none⟩) (s.length + 1) sc)) 4 (.slice (some ⟨ob, 0, none⟩) s.length oc)) 10 (.slice (some ⟨bt, 0, none⟩) toks.length tc)) 11 (.int .i64 (toks.length : Int))) 12 (.int .i64 ((i + 1 : Nat) : Int))) (by simp) (le_upd (le_upd (le_upd (le_upd (le_upd (le_e0 _) rfl) rfl) rfl) rfl) rfl) ⟨i + 1, pre ++ [tk], rest, s, q.snoc o cur, _, _, oc, sb, sc, _, _, _, rfl, rfl, rfl, by rw [htk]; simp, by simp [hpi], hm.trans (treesM_close h2 h4), by simp only [List.length_cons] at h200; omega, by rw [Fo.len_snoc]; have := hsl (o, q) (.head _); simp only at this; omega, lens_pop hsl, (by rw [Fo.len_snoc]; exact (hS4.ext hA6).knil), hX⟩
 refine ewt_br rfl ?_ ?_
 refine ewl_bs rfl rfl sl47 zr61 rfl rfl rfl rfl rfl fun b8 w20 hb13 hE12 hs8 hz12 => ?_
 replace hb3 := hb3.ext hE12
 replace hb7 := hb7.ext hE12
 replace hb10 := hb10.ext hE12
 replace hX := hX.trans hE12
 replace hA1 := hA1.trans hE12
 replace hA4 := hA4.trans hE12
 replace hKp := hKp.ext hE12
 refine ewl_nil (onwt_n hKp ?_)
 refine ewt_br rfl ?_ ewt_none
 obtain ⟨_, ls, hes, hsb, hcell, hsl2, hsw, hsu⟩ := (hP.ext hA4).sblk
 cases hes
 refine ewl_run rfl (rn_load rfl ti47 hsb (by simpa using hcell)) ?_
 refine ewl_nil (onwt_n hKp ?_)
 refine ewt_br rfl ?_ ewt_none
 have hS0 := (hP.ext hA4)
 obtain ⟨xs, hrow, hfc, hla⟩ := hS0.top
 have hql := hsl (o, q) (.head _)
 simp only at hql
 refine ewl_app1 rfl ap47 rfl rfl rfl rfl hrow hb13 rfl rfl (by omega) (by omega) fun a3 c3 w21 hr18 hG4 => ?_
 obtain ⟨u3, hS5⟩ := hS0.app hrow hfc hla o hS0.kid hr18 hG4 (by omega)
 obtain ⟨lb, _, he3, -⟩ := hS5.tblk
 cases he3
 have hlo : lb < wl.heap.size ∨ lb = w20.heap.size := by
   rcases hG4.own with h | h
   · exact .inl (htlt9 lb h.symm)
   · exact .inr (Option.some.inj h)
 have hlge : w20.heap.size ≤ w21.heap.size := hG4.size
 replace hX := hX.grow hG4 (fun b hb => (hla b hb).1)
 have sz9 := hG4.size
 replace hKp := hKp.grow hG4 (by simp only [List.mem_cons, List.not_mem_nil, or_false]; intro c hc e; have h1 := (hla c e.symm).1; have h2 := htlt9 c e.symm; omega)
 have hA7 := Ext.refl w21
 refine ewl_nil (onwt_n hKp ?_)
 refine ewt_rd rfl rfl (fun _ hS => rn_ixe s.length rfl rfl (by simp <;> omega) sl62 (by omega)) ?_
 refine ewt_br rfl ?_ ewt_none
 have hS0 := (hS5.ext hA7)
 obtain ⟨_, ls, hes, hsb, hcell, hsl2, hsw, hsu⟩ := hS0.sblk
 cases hes
 refine ewl_storeG rfl rfl rfl ti47 rfl hsb rfl (by simp <;> omega) fun w22 hb14 hC6 => ?_
 have hS6 := hS0.cell' rfl hsb hb14 hC6
 replace hX := hX.chg hC6 hsw
 have sz10 := hC6.size
 replace hKp := hKp.chg hC6 (by simp only [List.mem_cons, List.not_mem_nil, or_false]; omega)
 have hA8 := Ext.refl w22
 refine ewl_nil (onwt_n hKp ?_)
 refine ewt_fin ?_
 refine blk_n ?_
 refine blk_n ?_
 refine thn_n ?_
 refine ewp_reg ?_
 refine ewl_run rfl (rn_add rfl rfl ⟨by omega, by omega⟩) ?_
 refine ewl_run rfl (rn_move rfl) ?_
 refine ewl_nil ?_
 refine lp_n rest.length (upd (upd (upd (upd (upd SW.e0 3 (.slice (some ⟨sb, 0, none⟩) (s.length + 1) sc)) 4 (.slice (some ⟨ob, 0, none⟩) s.length oc)) 10 (.slice (some ⟨bt, 0, none⟩) toks.length tc)) 11 (.int .i64 (toks.length : Int))) 12 (.int .i64 ((i + 1 : Nat) : Int))) (by simp) (le_upd (le_upd (le_upd (le_upd (le_upd (le_e0 _) rfl) rfl) rfl) rfl) rfl) ⟨i + 1, pre ++ [tk], rest, s, q.snoc o cur, _, _, oc, sb, sc, _, _, _, rfl, rfl, rfl, by rw [htk]; simp, by simp [hpi], hm.trans (treesM_close h2 h4), by simp only [List.length_cons] at h200; omega, by rw [Fo.len_snoc]; have := hsl (o, q) (.head _); simp only at this; omega, lens_pop hsl, (by rw [Fo.len_snoc]; exact (hS6.ext hA8).knil), hX⟩
 exact ewt_none
 refine ewt_br rfl ?_ ?_
 refine ewl_store rfl rfl rfl ti4 rfl hb8 rfl rfl fun w23 hb15 hC7 => ?_
 replace hb3 := hb3.chg hC7 (by omega)
 replace hb7 := hb7.chg hC7 (by omega)
 replace hX := hX.chg hC7 (by omega)
 replace hA1 := hA1.chg hC7 (by omega)
 replace hA4 := hA4.chg hC7 (by omega)
 replace hKp := hKp.chg hC7 (by simp only [List.mem_cons, List.not_mem_nil, or_false]; omega)
 have sz11 := hC7.size
 refine ewl_nil (onwt_n hKp ?_)
 refine ewt_br rfl ?_ ewt_none
 refine ewl_store rfl rfl rfl ti4 rfl hb15 rfl rfl fun w24 hb16 hC8 => ?_
 replace hb3 := hb3.chg hC8 (by omega)
 replace hb7 := hb7.chg hC8 (by omega)
 replace hX := hX.chg hC8 (by omega)
 replace hA1 := hA1.chg hC8 (by omega)
 replace hA4 := hA4.chg hC8 (by omega)
 replace hKp := hKp.chg hC8 (by simp only [List.mem_cons, List.not_mem_nil, or_false]; omega)
 have sz12 := hC8.size
 refine ewl_nil (onwt_n hKp ?_)
 refine ewt_br rfl ?_ ewt_none
 refine ewl_run rfl (rn_load rfl ti4 hb16 rfl) ?_
 refine ewl_nil (onwt_n hKp ?_)
 refine ewt_fin ?_
 refine thn_n ?_
 refine ewp_ift rfl rfl ?_
 refine ewp_seq ?_
 have hr19 := (hbt.ext hX)
 have hr20 := hb3
 have hr21 := hb7
 have hr22 := hb16
 refine ewp_drawt mixed (Keeps w24 [bt, b2, b5, b6]) (.rd 0 (.rd 1 (.rd 2 (.rd 3 (.rd 4 (.rd 5 (.rd 6 (.rd 8 (.br 7 (.rd 9 (.br 10 (.br 11 (.rd 12 (.br 13 .fin .fin)) .fin) .fin)) (.br 10 (.br 7 (.rd 9 (.br 11 (.rd 12 (.br 13 .fin .fin)) .fin)) .fin) .fin)))))))))) (by kernel_rfl) (by kernel_rfl) (by kernel_rfl) fun w25 hE13 hz13 => ?_
 have hKp : Keeps w24 [bt, b2, b5, b6] w25 := Keeps.cons hr19 hE13 (Keeps.cons hr20 hE13 (Keeps.cons hr21 hE13 (Keeps.cons hr22 hE13 (Keeps.nil _ _))))
 refine ⟨hKp, ?_⟩
 replace hb3 := hb3.ext hE13
 replace hb7 := hb7.ext hE13
 replace hb16 := hb16.ext hE13
 replace hX := hX.trans hE13
 replace hA1 := hA1.trans hE13
 replace hA4 := hA4.trans hE13
 refine ewt_rd rfl rfl (fun _ hS => rn_move rfl) ?_
 refine ewt_rd rfl rfl (fun _ hS => rn_move rfl) ?_
 refine ewt_rd rfl rfl (fun _ hS => rn_sub rfl rfl ⟨by omega, by omega⟩) ?_
 refine ewt_rd rfl rfl (fun _ hS => rn_move rfl) ?_
 refine ewt_rd rfl rfl (fun _ hS => rn_move rfl) ?_
 refine ewt_rd rfl rfl (fun _ hS => rn_sub rfl rfl ⟨by omega, by omega⟩) ?_
 refine ewt_rd rfl rfl (fun _ hS => rn_ixe s.length rfl rfl (by simp <;> omega) sl62 (by omega)) ?_
 refine ewt_rd rfl rfl (fun _ hS => rn_loada rfl ti61 (hr21.keep hS (.tail _ (.tail _ (.head _)))) rfl) ?_
 refine ewt_br rfl ?_ ?_
 obtain ⟨_, ls, hes, hsb, hcell, hsl2, hsw, hsu⟩ := (hP.ext hA4).sblk
 cases hes
 refine ewl_run rfl (rn_load rfl ti47 hsb (by simpa using hcell)) ?_
 refine ewl_nil (onwt_n hKp ?_)
 refine ewt_rd rfl rfl (fun _ hS => rn_len rfl sl47) ?_
 refine ewt_br rfl ?_ ewt_none
 refine ewl_bs rfl rfl sl47 zr61 rfl rfl rfl rfl rfl fun b9 w26 hb17 hE14 hs9 hz14 => ?_
 replace hb3 := hb3.ext hE14
 replace hb7 := hb7.ext hE14
 replace hb16 := hb16.ext hE14
 replace hX := hX.trans hE14
 replace hA1 := hA1.trans hE14
 replace hA4 := hA4.trans hE14
 replace hKp := hKp.ext hE14
 refine ewl_nil (onwt_n hKp ?_)
 refine ewt_br rfl ?_ ewt_none
 have hS0 := (hP.ext hA4)
 obtain ⟨xs, hrow, hfc, hla⟩ := hS0.top
 have hql := hsl (o, q) (.head _)
 simp only at hql
 refine ewl_app1 rfl ap47 rfl rfl rfl rfl hrow hb17 rfl rfl (by omega) (by omega) fun a3 c3 w27 hr23 hG5 => ?_
 obtain ⟨u3, hS7⟩ := hS0.app hrow hfc hla ⟨0, 0, 0, 0, []⟩ (FoS.nil _ _ none 0) hr23 hG5 (by omega)
 obtain ⟨lb, _, he3, -⟩ := hS7.tblk
 cases he3
 have hlo : lb < wl.heap.size ∨ lb = w26.heap.size := by
   rcases hG5.own with h | h
   · exact .inl (htlt9 lb h.symm)
   · exact .inr (Option.some.inj h)
 have hlge : w26.heap.size ≤ w27.heap.size := hG5.size
 replace hX := hX.grow hG5 (fun b hb => (hla b hb).1)
 have sz13 := hG5.size
 replace hKp := hKp.grow hG5 (by simp only [List.mem_cons, List.not_mem_nil, or_false]; intro c hc e; have h1 := (hla c e.symm).1; have h2 := htlt9 c e.symm; omega)
 have hA9 := Ext.refl w27
 refine ewl_nil (onwt_n hKp ?_)
 refine ewt_rd rfl rfl (fun _ hS => rn_ixe s.length rfl rfl (by simp <;> omega) sl62 (by omega)) ?_
 refine ewt_br rfl ?_ ewt_none
 have hS0 := (hS7.ext hA9)
 obtain ⟨_, ls, hes, hsb, hcell, hsl2, hsw, hsu⟩ := hS0.sblk
 cases hes
 refine ewl_storeG rfl rfl rfl ti47 rfl hsb rfl (by simp <;> omega) fun w28 hb18 hC9 => ?_
 have hS8 := hS0.cell' rfl hsb hb18 hC9
 replace hX := hX.chg hC9 hsw
 have sz14 := hC9.size
 replace hKp := hKp.chg hC9 (by simp only [List.mem_cons, List.not_mem_nil, or_false]; omega)
 have hA10 := Ext.refl w28
 refine ewl_nil (onwt_n hKp ?_)
 refine ewt_fin ?_
 refine thn_n ?_
 refine ewp_reg ?_
 refine ewl_run rfl (rn_ixe q.len rfl rfl (by omega) sl47 (by omega)) ?_
 have hS0 := (hS8.ext hA10)
 obtain ⟨_, ll, hel, hlb, hll, hlw, hlu⟩ := hS0.tblk
 cases hel
 refine ewl_storeG rfl rfl rfl ti61 rfl hlb rfl (by simp <;> omega) fun w29 hb19 hC10 => ?_
 have hS9 := hS0.last' rfl hlb o hS0.kid hb19 hC10
 replace hX := hX.chg hC10 hlw
 have sz15 := hC10.size
 have hA11 := Ext.refl w29
 refine ewl_nil ?_
 refine blk_n ?_
 refine blk_n ?_
 refine thn_n ?_
 refine ewp_reg ?_
 refine ewl_run rfl (rn_add rfl rfl ⟨by omega, by omega⟩) ?_
 refine ewl_run rfl (rn_move rfl) ?_
 refine ewl_nil ?_
 refine lp_n rest.length (upd (upd (upd (upd (upd SW.e0 3 (.slice (some ⟨sb, 0, none⟩) (s.length + 1) sc)) 4 (.slice (some ⟨ob, 0, none⟩) s.length oc)) 10 (.slice (some ⟨bt, 0, none⟩) toks.length tc)) 11 (.int .i64 (toks.length : Int))) 12 (.int .i64 ((i + 1 : Nat) : Int))) (by simp) (le_upd (le_upd (le_upd (le_upd (le_upd (le_e0 _) rfl) rfl) rfl) rfl) rfl) ⟨i + 1, pre ++ [tk], rest, s, q.snoc o cur, _, _, oc, sb, sc, _, _, _, rfl, rfl, rfl, by rw [htk]; simp, by simp [hpi], hm.trans (treesM_close h2 h4), by simp only [List.length_cons] at h200; omega, by rw [Fo.len_snoc]; have := hsl (o, q) (.head _); simp only at this; omega, lens_pop hsl, (by rw [Fo.len_snoc]; exact (hS9.ext hA11).knil), hX⟩
 refine ewt_br rfl ?_ ?_
 refine ewl_bs rfl rfl sl47 zr61 rfl rfl rfl rfl rfl fun b10 w30 hb20 hE15 hs10 hz15 => ?_
 replace hb3 := hb3.ext hE15
 replace hb7 := hb7.ext hE15
 replace hb16 := hb16.ext hE15
 replace hX := hX.trans hE15
 replace hA1 := hA1.trans hE15
 replace hA4 := hA4.trans hE15
 replace hKp := hKp.ext hE15
 refine ewl_nil (onwt_n hKp ?_)
 refine ewt_br rfl ?_ ewt_none
 obtain ⟨_, ls, hes, hsb, hcell, hsl2, hsw, hsu⟩ := (hP.ext hA4).sblk
 cases hes
 refine ewl_run rfl (rn_load rfl ti47 hsb (by simpa using hcell)) ?_
 refine ewl_nil (onwt_n hKp ?_)
 refine ewt_rd rfl rfl (fun _ hS => rn_len rfl sl47) ?_
 refine ewt_br rfl ?_ ewt_none
 have hS0 := (hP.ext hA4)
 obtain ⟨xs, hrow, hfc, hla⟩ := hS0.top
 have hql := hsl (o, q) (.head _)
 simp only at hql
 refine ewl_app1 rfl ap47 rfl rfl rfl rfl hrow hb20 rfl rfl (by omega) (by omega) fun a3 c3 w31 hr24 hG6 => ?_
 obtain ⟨u3, hS10⟩ := hS0.app hrow hfc hla ⟨0, 0, 0, 0, []⟩ (FoS.nil _ _ none 0) hr24 hG6 (by omega)
 obtain ⟨lb, _, he3, -⟩ := hS10.tblk
 cases he3
 have hlo : lb < wl.heap.size ∨ lb = w30.heap.size := by
   rcases hG6.own with h | h
   · exact .inl (htlt9 lb h.symm)
   · exact .inr (Option.some.inj h)
 have hlge : w30.heap.size ≤ w31.heap.size := hG6.size
 replace hX := hX.grow hG6 (fun b hb => (hla b hb).1)
 have sz16 := hG6.size
 replace hKp := hKp.grow hG6 (by simp only [List.mem_cons, List.not_mem_nil, or_false]; intro c hc e; have h1 := (hla c e.symm).1; have h2 := htlt9 c e.symm; omega)
 have hA12 := Ext.refl w31
 refine ewl_nil (onwt_n hKp ?_)
 refine ewt_rd rfl rfl (fun _ hS => rn_ixe s.length rfl rfl (by simp <;> omega) sl62 (by omega)) ?_
 refine ewt_br rfl ?_ ewt_none
 have hS0 := (hS10.ext hA12)
 obtain ⟨_, ls, hes, hsb, hcell, hsl2, hsw, hsu⟩ := hS0.sblk
 cases hes
 refine ewl_storeG rfl rfl rfl ti47 rfl hsb rfl (by simp <;> omega) fun w32 hb21 hC11 => ?_
 have hS11 := hS0.cell' rfl hsb hb21 hC11
 replace hX := hX.chg hC11 hsw
 have sz17 := hC11.size
 replace hKp := hKp.chg hC11 (by simp only [List.mem_cons, List.not_mem_nil, or_false]; omega)
 have hA13 := Ext.refl w32
 refine ewl_nil (onwt_n hKp ?_)
 refine ewt_fin ?_
 refine thn_n ?_
 refine ewp_reg ?_
 refine ewl_run rfl (rn_ixe q.len rfl rfl (by omega) sl47 (by omega)) ?_
 have hS0 := (hS11.ext hA13)
 obtain ⟨_, ll, hel, hlb, hll, hlw, hlu⟩ := hS0.tblk
 cases hel
 refine ewl_storeG rfl rfl rfl ti61 rfl hlb rfl (by simp <;> omega) fun w33 hb22 hC12 => ?_
 have hS12 := hS0.last' rfl hlb o hS0.kid hb22 hC12
 replace hX := hX.chg hC12 hlw
 have sz18 := hC12.size
 have hA14 := Ext.refl w33
 refine ewl_nil ?_
 refine blk_n ?_
 refine blk_n ?_
 refine thn_n ?_
 refine ewp_reg ?_
 refine ewl_run rfl (rn_add rfl rfl ⟨by omega, by omega⟩) ?_
 refine ewl_run rfl (rn_move rfl) ?_
 refine ewl_nil ?_
 refine lp_n rest.length (upd (upd (upd (upd (upd SW.e0 3 (.slice (some ⟨sb, 0, none⟩) (s.length + 1) sc)) 4 (.slice (some ⟨ob, 0, none⟩) s.length oc)) 10 (.slice (some ⟨bt, 0, none⟩) toks.length tc)) 11 (.int .i64 (toks.length : Int))) 12 (.int .i64 ((i + 1 : Nat) : Int))) (by simp) (le_upd (le_upd (le_upd (le_upd (le_upd (le_e0 _) rfl) rfl) rfl) rfl) rfl) ⟨i + 1, pre ++ [tk], rest, s, q.snoc o cur, _, _, oc, sb, sc, _, _, _, rfl, rfl, rfl, by rw [htk]; simp, by simp [hpi], hm.trans (treesM_close h2 h4), by simp only [List.length_cons] at h200; omega, by rw [Fo.len_snoc]; have := hsl (o, q) (.head _); simp only at this; omega, lens_pop hsl, (by rw [Fo.len_snoc]; exact (hS12.ext hA14).knil), hX⟩
 exact ewt_none
 exact ewt_none
 have hr25 := (hbt.ext hX)
 have hr26 := hb3
 refine ewp_drawt mixed (Keeps w3 [bt, b2]) (.rd 0 (.rd 1 (.rd 2 (.rd 4 (.rd 5 (.br 3 (.rd 6 (.br 7 (.br 8 (.rd 9 (.rd 11 (.br 10 (.br 12 .fin .fin) (.br 12 (.br 10 .fin .fin) .fin)))) .fin) .fin)) (.br 7 (.br 3 (.rd 6 (.br 8 (.rd 9 (.rd 11 (.br 10 (.br 12 .fin .fin) (.br 12 (.br 10 .fin .fin) .fin)))) .fin)) .fin) .fin))))))) (by kernel_rfl) (by kernel_rfl) (by kernel_rfl) fun w34 hE16 hz16 => ?_
 have hKp : Keeps w3 [bt, b2] w34 := Keeps.cons hr25 hE16 (Keeps.cons hr26 hE16 (Keeps.nil _ _))
 refine ⟨hKp, ?_⟩
 replace hb3 := hb3.ext hE16
 replace hX := hX.trans hE16
 replace hA1 := hA1.trans hE16
 refine ewt_rd rfl rfl (fun _ hS => rn_move rfl) ?_
 refine ewt_rd rfl rfl (fun _ hS => rn_move rfl) ?_
 refine ewt_rd rfl rfl (fun _ hS => rn_ixe st.length rfl rfl (by omega) sl62 (by omega)) ?_
 refine ewt_rd rfl rfl (fun _ hS => rn_loada rfl ti59 (hr26.keep hS (.tail _ (.head _))) rfl) ?_
 refine ewt_rd rfl rfl (fun _ hS => rn_build rfl pl61 zr61 rfl) ?_
 refine ewt_br rfl ?_ ?_
 obtain ⟨_, ls, hes, hsb, hcell, hsl2, hsw, hsu⟩ := (hS.ext hA1).sblk
 cases hes
 refine ewl_run rfl (rn_load rfl ti47 hsb (by simpa using hcell)) ?_
 refine ewl_nil (onwt_n hKp ?_)
 refine ewt_rd rfl rfl (fun _ hS => rn_len rfl sl47) ?_
 refine ewt_br rfl ?_ ewt_none
 refine ewl_bs rfl rfl sl47 zr61 rfl rfl rfl rfl rfl fun b11 w35 hb23 hE17 hs11 hz17 => ?_
 replace hb3 := hb3.ext hE17
 replace hX := hX.trans hE17
 replace hA1 := hA1.trans hE17
 replace hKp := hKp.ext hE17
 refine ewl_nil (onwt_n hKp ?_)
 refine ewt_br rfl ?_ ewt_none
 have hS0 := (hS.ext hA1)
 obtain ⟨xs, hrow, hfc, hla⟩ := hS0.top
 refine ewl_app1 rfl ap47 rfl rfl rfl rfl hrow hb23 rfl rfl (by omega) (by omega) fun a3 c3 w36 hr27 hG7 => ?_
 obtain ⟨u3, hS13⟩ := hS0.app hrow hfc hla ⟨0, 0, 0, 0, []⟩ (FoS.nil _ _ none 0) hr27 hG7 (by omega)
 obtain ⟨lb, _, he3, -⟩ := hS13.tblk
 cases he3
 have hlo : lb < wl.heap.size ∨ lb = w35.heap.size := by
   rcases hG7.own with h | h
   · exact .inl (htlt lb h.symm)
   · exact .inr (Option.some.inj h)
 have hlge : w35.heap.size ≤ w36.heap.size := hG7.size
 replace hX := hX.grow hG7 (fun b hb => (hla b hb).1)
 have sz19 := hG7.size
 replace hKp := hKp.grow hG7 (by simp only [List.mem_cons, List.not_mem_nil, or_false]; intro c hc e; have h1 := (hla c e.symm).1; have h2 := htlt c e.symm; omega)
 have hA15 := Ext.refl w36
 refine ewl_nil (onwt_n hKp ?_)
 refine ewt_rd rfl rfl (fun _ hS => rn_ixe cur.len rfl rfl (by omega) sl47 (by omega)) ?_
 refine ewt_rd rfl rfl (fun _ hS => rn_ixe st.length rfl rfl (by omega) sl62 (by omega)) ?_
 refine ewt_br rfl ?_ ?_
 have hS0 := (hS13.ext hA15)
 obtain ⟨_, ll, hel, hlb, hll, hlw, hlu⟩ := hS0.tblk
 cases hel
 refine ewl_storeG rfl rfl rfl ti61 rfl hlb rfl (by simp <;> omega) fun w37 hb24 hC13 => ?_
 have hS14 := hS0.last' rfl hlb tk (FoS.nil _ _ none 0) hb24 hC13
 replace hX := hX.chg hC13 hlw
 have sz20 := hC13.size
 replace hKp := hKp.chg hC13 (by simp only [List.mem_cons, List.not_mem_nil, or_false]; omega)
 have hA16 := Ext.refl w37
 refine ewl_nil (onwt_n hKp ?_)
 refine ewt_br rfl ?_ ewt_none
 have hS0 := (hS14.ext hA16)
 obtain ⟨_, ls, hes, hsb, hcell, hsl2, hsw, hsu⟩ := hS0.sblk
 cases hes
 refine ewl_storeG rfl rfl rfl ti47 rfl hsb rfl (by simp <;> omega) fun w38 hb25 hC14 => ?_
 have hS15 := hS0.cell' rfl hsb hb25 hC14
 replace hX := hX.chg hC14 hsw
 have sz21 := hC14.size
 replace hKp := hKp.chg hC14 (by simp only [List.mem_cons, List.not_mem_nil, or_false]; omega)
 have hA17 := Ext.refl w38
 refine ewl_nil (onwt_n hKp ?_)
 refine ewt_fin ?_
 refine blk_n ?_
 refine blk_n ?_
 refine thn_n ?_
 refine ewp_reg ?_
 refine ewl_run rfl (rn_add rfl rfl ⟨by omega, by omega⟩) ?_
 refine ewl_run rfl (rn_move rfl) ?_
 refine ewl_nil ?_
 refine lp_n rest.length (upd (upd (upd (upd (upd SW.e0 3 (.slice (some ⟨sb, 0, none⟩) (st.length + 1) sc)) 4 (.slice oa st.length oc)) 10 (.slice (some ⟨bt, 0, none⟩) toks.length tc)) 11 (.int .i64 (toks.length : Int))) 12 (.int .i64 ((i + 1 : Nat) : Int))) (by simp) (le_upd (le_upd (le_upd (le_upd (le_upd (le_e0 _) rfl) rfl) rfl) rfl) rfl) ⟨i + 1, pre ++ [tk], rest, st, cur.snoc tk .nil, _, oa, oc, sb, sc, _, _, _, rfl, rfl, rfl, by rw [htk]; simp, by simp [hpi], hm.trans (treesM_other h2 h4), h200, by rw [Fo.len_snoc]; omega, lens_up hsl, (by rw [Fo.len_snoc]; exact (hS15.ext hA17)), hX⟩
 refine ewt_br rfl ?_ ?_
 have hS0 := (hS13.ext hA15)
 obtain ⟨_, ls, hes, hsb, hcell, hsl2, hsw, hsu⟩ := hS0.sblk
 cases hes
 refine ewl_storeG rfl rfl rfl ti47 rfl hsb rfl (by simp <;> omega) fun w39 hb26 hC15 => ?_
 have hS16 := hS0.cell' rfl hsb hb26 hC15
 replace hX := hX.chg hC15 hsw
 have sz22 := hC15.size
 replace hKp := hKp.chg hC15 (by simp only [List.mem_cons, List.not_mem_nil, or_false]; omega)
 have hA18 := Ext.refl w39
 refine ewl_nil (onwt_n hKp ?_)
 refine ewt_br rfl ?_ ewt_none
 have hS0 := (hS16.ext hA18)
 obtain ⟨_, ll, hel, hlb, hll, hlw, hlu⟩ := hS0.tblk
 cases hel
 refine ewl_storeG rfl rfl rfl ti61 rfl hlb rfl (by simp <;> omega) fun w40 hb27 hC16 => ?_
 have hS17 := hS0.last' rfl hlb tk (FoS.nil _ _ none 0) hb27 hC16
 replace hX := hX.chg hC16 hlw
 have sz23 := hC16.size
 replace hKp := hKp.chg hC16 (by simp only [List.mem_cons, List.not_mem_nil, or_false]; omega)
 have hA19 := Ext.refl w40
 refine ewl_nil (onwt_n hKp ?_)
 refine ewt_fin ?_
 refine blk_n ?_
 refine blk_n ?_
 refine thn_n ?_
 refine ewp_reg ?_
 refine ewl_run rfl (rn_add rfl rfl ⟨by omega, by omega⟩) ?_
 refine ewl_run rfl (rn_move rfl) ?_
 refine ewl_nil ?_
 refine lp_n rest.length (upd (upd (upd (upd (upd SW.e0 3 (.slice (some ⟨sb, 0, none⟩) (st.length + 1) sc)) 4 (.slice oa st.length oc)) 10 (.slice (some ⟨bt, 0, none⟩) toks.length tc)) 11 (.int .i64 (toks.length : Int))) 12 (.int .i64 ((i + 1 : Nat) : Int))) (by simp) (le_upd (le_upd (le_upd (le_upd (le_upd (le_e0 _) rfl) rfl) rfl) rfl) rfl) ⟨i + 1, pre ++ [tk], rest, st, cur.snoc tk .nil, _, oa, oc, sb, sc, _, _, _, rfl, rfl, rfl, by rw [htk]; simp, by simp [hpi], hm.trans (treesM_other h2 h4), h200, by rw [Fo.len_snoc]; omega, lens_up hsl, (by rw [Fo.len_snoc]; exact (hS17.ext hA19)), hX⟩
 exact ewt_none
 refine ewt_br rfl ?_ ?_
 refine ewl_bs rfl rfl sl47 zr61 rfl rfl rfl rfl rfl fun b12 w41 hb28 hE18 hs12 hz18 => ?_
 replace hb3 := hb3.ext hE18
 replace hX := hX.trans hE18
 replace hA1 := hA1.trans hE18
 replace hKp := hKp.ext hE18
 refine ewl_nil (onwt_n hKp ?_)
 refine ewt_br rfl ?_ ewt_none
 obtain ⟨_, ls, hes, hsb, hcell, hsl2, hsw, hsu⟩ := (hS.ext hA1).sblk
 cases hes
 refine ewl_run rfl (rn_load rfl ti47 hsb (by simpa using hcell)) ?_
 refine ewl_nil (onwt_n hKp ?_)
 refine ewt_rd rfl rfl (fun _ hS => rn_len rfl sl47) ?_
 refine ewt_br rfl ?_ ewt_none
 have hS0 := (hS.ext hA1)
 obtain ⟨xs, hrow, hfc, hla⟩ := hS0.top
 refine ewl_app1 rfl ap47 rfl rfl rfl rfl hrow hb28 rfl rfl (by omega) (by omega) fun a3 c3 w42 hr28 hG8 => ?_
 obtain ⟨u3, hS18⟩ := hS0.app hrow hfc hla ⟨0, 0, 0, 0, []⟩ (FoS.nil _ _ none 0) hr28 hG8 (by omega)
 obtain ⟨lb, _, he3, -⟩ := hS18.tblk
 cases he3
 have hlo : lb < wl.heap.size ∨ lb = w41.heap.size := by
   rcases hG8.own with h | h
   · exact .inl (htlt lb h.symm)
   · exact .inr (Option.some.inj h)
 have hlge : w41.heap.size ≤ w42.heap.size := hG8.size
 replace hX := hX.grow hG8 (fun b hb => (hla b hb).1)
 have sz24 := hG8.size
 replace hKp := hKp.grow hG8 (by simp only [List.mem_cons, List.not_mem_nil, or_false]; intro c hc e; have h1 := (hla c e.symm).1; have h2 := htlt c e.symm; omega)
 have hA20 := Ext.refl w42
 refine ewl_nil (onwt_n hKp ?_)
 refine ewt_rd rfl rfl (fun _ hS => rn_ixe cur.len rfl rfl (by omega) sl47 (by omega)) ?_
 refine ewt_rd rfl rfl (fun _ hS => rn_ixe st.length rfl rfl (by omega) sl62 (by omega)) ?_
 refine ewt_br rfl ?_ ?_
 have hS0 := (hS18.ext hA20)
 obtain ⟨_, ll, hel, hlb, hll, hlw, hlu⟩ := hS0.tblk
 cases hel
 refine ewl_storeG rfl rfl rfl ti61 rfl hlb rfl (by simp <;> omega) fun w43 hb29 hC17 => ?_
 have hS19 := hS0.last' rfl hlb tk (FoS.nil _ _ none 0) hb29 hC17
 replace hX := hX.chg hC17 hlw
 have sz25 := hC17.size
 replace hKp := hKp.chg hC17 (by simp only [List.mem_cons, List.not_mem_nil, or_false]; omega)
 have hA21 := Ext.refl w43
 refine ewl_nil (onwt_n hKp ?_)
 refine ewt_br rfl ?_ ewt_none
 have hS0 := (hS19.ext hA21)
 obtain ⟨_, ls, hes, hsb, hcell, hsl2, hsw, hsu⟩ := hS0.sblk
 cases hes
 refine ewl_storeG rfl rfl rfl ti47 rfl hsb rfl (by simp <;> omega) fun w44 hb30 hC18 => ?_
 have hS20 := hS0.cell' rfl hsb hb30 hC18
 replace hX := hX.chg hC18 hsw
 have sz26 := hC18.size
 replace hKp := hKp.chg hC18 (by simp only [List.mem_cons, List.not_mem_nil, or_false]; omega)
 have hA22 := Ext.refl w44
 refine ewl_nil (onwt_n hKp ?_)
 refine ewt_fin ?_
 refine blk_n ?_
 refine blk_n ?_
 refine thn_n ?_
 refine ewp_reg ?_
 refine ewl_run rfl (rn_add rfl rfl ⟨by omega, by omega⟩) ?_
 refine ewl_run rfl (rn_move rfl) ?_
 refine ewl_nil ?_
 refine lp_n rest.length (upd (upd (upd (upd (upd SW.e0 3 (.slice (some ⟨sb, 0, none⟩) (st.length + 1) sc)) 4 (.slice oa st.length oc)) 10 (.slice (some ⟨bt, 0, none⟩) toks.length tc)) 11 (.int .i64 (toks.length : Int))) 12 (.int .i64 ((i + 1 : Nat) : Int))) (by simp) (le_upd (le_upd (le_upd (le_upd (le_upd (le_e0 _) rfl) rfl) rfl) rfl) rfl) ⟨i + 1, pre ++ [tk], rest, st, cur.snoc tk .nil, _, oa, oc, sb, sc, _, _, _, rfl, rfl, rfl, by rw [htk]; simp, by simp [hpi], hm.trans (treesM_other h2 h4), h200, by rw [Fo.len_snoc]; omega, lens_up hsl, (by rw [Fo.len_snoc]; exact (hS20.ext hA22)), hX⟩
 refine ewt_br rfl ?_ ?_
 have hS0 := (hS18.ext hA20)
 obtain ⟨_, ls, hes, hsb, hcell, hsl2, hsw, hsu⟩ := hS0.sblk
 cases hes
 refine ewl_storeG rfl rfl rfl ti47 rfl hsb rfl (by simp <;> omega) fun w45 hb31 hC19 => ?_
 have hS21 := hS0.cell' rfl hsb hb31 hC19
 replace hX := hX.chg hC19 hsw
 have sz27 := hC19.size
 replace hKp := hKp.chg hC19 (by simp only [List.mem_cons, List.not_mem_nil, or_false]; omega)
 have hA23 := Ext.refl w45
 refine ewl_nil (onwt_n hKp ?_)
 refine ewt_br rfl ?_ ewt_none
 have hS0 := (hS21.ext hA23)
 obtain ⟨_, ll, hel, hlb, hll, hlw, hlu⟩ := hS0.tblk
 cases hel
 refine ewl_storeG rfl rfl rfl ti61 rfl hlb rfl (by simp <;> omega) fun w46 hb32 hC20 => ?_
 have hS22 := hS0.last' rfl hlb tk (FoS.nil _ _ none 0) hb32 hC20
 replace hX := hX.chg hC20 hlw
 have sz28 := hC20.size
 replace hKp := hKp.chg hC20 (by simp only [List.mem_cons, List.not_mem_nil, or_false]; omega)
 have hA24 := Ext.refl w46
 refine ewl_nil (onwt_n hKp ?_)
 refine ewt_fin ?_
 refine blk_n ?_
 refine blk_n ?_
 refine thn_n ?_
 refine ewp_reg ?_
 refine ewl_run rfl (rn_add rfl rfl ⟨by omega, by omega⟩) ?_
 refine ewl_run rfl (rn_move rfl) ?_
 refine ewl_nil ?_
 refine lp_n rest.length (upd (upd (upd (upd (upd SW.e0 3 (.slice (some ⟨sb, 0, none⟩) (st.length + 1) sc)) 4 (.slice oa st.length oc)) 10 (.slice (some ⟨bt, 0, none⟩) toks.length tc)) 11 (.int .i64 (toks.length : Int))) 12 (.int .i64 ((i + 1 : Nat) : Int))) (by simp) (le_upd (le_upd (le_upd (le_upd (le_upd (le_e0 _) rfl) rfl) rfl) rfl) rfl) ⟨i + 1, pre ++ [tk], rest, st, cur.snoc tk .nil, _, oa, oc, sb, sc, _, _, _, rfl, rfl, rfl, by rw [htk]; simp, by simp [hpi], hm.trans (treesM_other h2 h4), h200, by rw [Fo.len_snoc]; omega, lens_up hsl, (by rw [Fo.len_snoc]; exact (hS22.ext hA24)), hX⟩
 exact ewt_none
 exact ewt_none
 refine ewp_exit ?_
 refine thn_e ?_
 refine lp_e ?_
 refine blk_e ?_
 refine thn_n ?_
 refine ewp_seq ?_
 refine ewp_seq ?_
 have hrz : rest = [] := by
   rcases rest with _ | ⟨t9, rest⟩
   · rfl
   · simp at hil; have := h1; simp at this; omega
 subst hrz
 refine ewp_reg ?_
 refine ewl_run rfl (rn_move rfl) ?_
 refine ewl_run rfl (rn_len rfl sl41) ?_
 refine ewl_run rfl (rn_gtI rfl rfl) ?_
 refine ewl_nil ?_
 refine thn_n ?_
 refine ewp_if rfl (fun h6 => ?_) (fun h6 => ?_)
 rcases st with _ | ⟨o, s⟩
 · simp at h6
 obtain ⟨ob, lo, lo2, tz, fz, hoa, hob, hoz, hod⟩ := (hS.ext hA1).oblk0
 cases hoa
 refine ewp_reg ?_
 refine ewl_run rfl (rn_move rfl) ?_
 refine ewl_run rfl (rn_ixc (i := 0) rfl rfl sl41 (by simp)) ?_
 refine ewl_run rfl (rn_fa rfl fl59_1) ?_
 refine ewl_run rfl (rn_loadad 1 rfl ti25 hob hod (by omega) rfl) ?_
 refine ewl_run rfl (rn_build rfl pl45 zr45 rfl) ?_
 refine ewl_run rfl (rn_mki rfl ni45) ?_
 refine ewl_pan (pn_panic rfl) (And.intro rfl ?_)
 exact ⟨(tz.ln, tz.co), hm.trans (treesM_end hoz), rfl, hX⟩
 refine ewp_skip ?_
 refine thn_n ?_
 refine ewp_seq ?_
 rcases st with _ | ⟨o, s⟩
 rotate_left
 · simp at h6
 refine ewp_reg ?_
 refine ewl_run rfl (rn_move rfl) ?_
 refine ewl_run rfl (rn_ixc (i := 0) rfl rfl sl62 (by omega)) ?_
 obtain ⟨_, ls, hes, hsb, hcell, hsl2, hsw, hsu⟩ := (hS.ext hA1).sblk
 cases hes
 refine ewl_run rfl (rn_load rfl ti47 hsb (by simpa using hcell)) ?_
 refine ewl_run rfl (rn_assign rfl) ?_
 refine ewl_nil ?_
 refine thn_n ?_
 refine ewp_ret ?_
 refine fn_r (resv rfl (rv_tmp rfl)) ?_
 exact ⟨cur, a, c, hm.trans treesM_done, rfl, (hS.ext hA1).out, hX⟩
end Go.Proofs.YthjdnhnbgjgbkaaGreatDoor
