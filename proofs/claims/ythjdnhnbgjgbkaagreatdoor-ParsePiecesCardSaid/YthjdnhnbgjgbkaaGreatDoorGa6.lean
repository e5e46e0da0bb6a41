/- What the laws on parse rest on: contracts of the functions of parse and lex, for every world in which the listed package variables hold what the text lays. Part 6. -/
import Derived.Test.YthjdnhnbgjgbkaaGreatDoorGa5
set_option linter.unusedVariables false
set_option linter.unusedSimpArgs false
namespace Go.Proofs.YthjdnhnbgjgbkaaGreatDoor
open Go.SW Go.SP Go.RowKit
theorem step_spec (hPF : PFS) (w0 w : World) (hG : Gl w0) (hX0 : Ext w0 w) (b : Nat) (hb0 : w0.heap.size ≤ b) (src : List UInt8) (i : Nat) (p : Ps) (toks : List Tok) (ta : Option Addr) (tc : Nat) (hsc : Blk w b [S src, .int .i64 ((i : Nat) : Int), .int .i64 p.1, .int .i64 p.2, (.slice ta toks.length tc)] 57) (hrow : Row w 59 5 ta tc toks.length (toksC toks)) (hlow : ∀ x, rb ta = some x → w0.heap.size ≤ x ∧ x ≠ b) (c : UInt8) (hc : src[i]? = some c) (hp : Pk i p) (hlen : src.length ≤ 65536) (htl : toks.length ≤ i) :
   RetP Tryz.prog 21 #[.pointer (some ⟨b, 0, none⟩)] w (fun v w' => ∃ (ot : List Tok) (i1 : Nat) (p1 : Ps) (ta1 : Option Addr) (tc1 : Nat), stepM (src.length + 1) p (src.drop i) = .ok (ot, src.drop i1, p1) ∧ v = .tuple #[] ∧ Blk w' b [S src, .int .i64 ((i1 : Nat) : Int), .int .i64 p1.1, .int .i64 p1.2, (.slice ta1 (toks ++ ot).length tc1)] 57 ∧ Row w' 59 5 ta1 tc1 (toks ++ ot).length (toksC (toks ++ ot)) ∧ (∀ x, rb ta1 = some x → w0.heap.size ≤ x ∧ x ≠ b) ∧ Ext w0 w' ∧ i < i1 ∧ i1 ≤ src.length ∧ Pk i1 p1) (fun cc w' => ∃ e, stepM (src.length + 1) p (src.drop i) = .error e ∧ cc = trb 54 e ∧ Ext w0 w') := by
 have hbl := hsc.lt
 have hilt := lt_at hc
 have hlowl : ∀ x, rb ta = some x → x < w.heap.size := fun x hx => hrow.lt hx
 have hX := hX0
 refine enterP Tryz.func21 rfl rfl rfl ?_
 refine ewp_seq ?_
 have hr1 := hsc
 refine ewp_draw mixed (Keeps w [b]) [(true, 0), (true, 1), (true, 2), (true, 3), (true, 4), (true, 5), (true, 6), (true, 7), (false, 8), (false, 9), (true, 10)] (by kernel_rfl) (by kernel_rfl) rfl rfl fun w1 hE1 hz1 => ?_
 have hKp : Keeps w [b] w1 := Keeps.cons hr1 hE1 (Keeps.nil _ _)
 refine ⟨hKp, ?_⟩
 replace hsc := hsc.ext hE1
 replace hrow := hrow.ext hE1
 replace hX := hX.trans hE1
 refine ewo_rd rfl (fun _ hS => rn_move rfl) ?_
 refine ewo_rd rfl (fun _ hS => rn_nc rfl) ?_
 refine ewo_rd rfl (fun _ hS => rn_fa rfl fl57_2) ?_
 refine ewo_rd rfl (fun _ hS => rn_loada rfl ti25 (hr1.keep hS (.head _)) rfl) ?_
 refine ewo_rd rfl (fun _ hS => rn_move rfl) ?_
 refine ewo_rd rfl (fun _ hS => rn_nc rfl) ?_
 refine ewo_rd rfl (fun _ hS => rn_fa rfl fl57_1) ?_
 refine ewo_rd rfl (fun _ hS => rn_load rfl ti3 (hr1.keep hS (.head _)) rfl) ?_
 refine ewo_sp ?_
 refine ewl_alloc rfl zr25 fun b1 w2 hb1 hE2 hs1 hz2 => ?_
 replace hsc := hsc.ext hE2
 replace hrow := hrow.ext hE2
 replace hX := hX.trans hE2
 replace hKp := hKp.ext hE2
 refine ewl_nil (onw_n hKp ?_)
 refine ewo_sp ?_
 refine ewl_store rfl rfl rfl ti25 rfl hb1 rfl rfl fun w3 hb2 hC1 => ?_
 replace hsc := hsc.chg hC1 (by omega)
 replace hrow := Row.chg hrow hC1 (fun e => by have := hlow _ e; have := hlowl _ e; omega)
 replace hX := hX.chg hC1 (by omega)
 replace hKp := hKp.chg hC1 (by simp only [List.mem_cons, List.not_mem_nil, or_false]; omega)
 have sz1 := hC1.size
 refine ewl_nil (onw_n hKp ?_)
 refine ewo_rd rfl (fun _ hS => rn_assign rfl) ?_
 refine ewo_nil ?_
 refine thn_n ?_
 refine ewp_seq ?_
 refine ewp_reg ?_
 refine ewl_run rfl (rn_move rfl) ?_
 refine ewl_ret rfl (en_call ent34 rfl rfl) (next_spec _ b src i p (.slice ta toks.length tc) hsc c hc (by omega) hp) ?_
 rintro _ w4 ⟨rfl, hb3, hE3⟩
 replace hrow := Row.exb hrow hE3 (fun e => by have := hlow _ e; omega)
 replace hb2 := hb2.exb hE3 (by omega)
 replace hX := hE3.ext hX hb0
 have sz2 := hE3.size
 have hp1 := Pk.adv (c := c) hp
 refine ewl_run rfl (rn_assign rfl) ?_
 refine ewl_nil ?_
 refine thn_n ?_
 refine ewp_block ?_
 refine ewp_seq ?_
 refine ewp_reg ?_
 refine ewl_run rfl (rn_move rfl) ?_
 refine ewl_ret rfl (en_call ent35 rfl rfl) (indexByte_spec _ blanksB _) ?_
 rintro _ w5 ⟨rfl, hE4⟩
 replace hrow := hrow.ext hE4
 replace hb2 := hb2.ext hE4
 replace hb3 := hb3.ext hE4
 replace hX := hX.trans hE4
 have sz3 := hE4.size
 refine ewl_run rfl (rn_geI rfl rfl) ?_
 refine ewl_run rfl (rn_assign rfl) ?_
 refine ewl_nil ?_
 refine thn_n ?_
 refine ewp_if rfl (fun h1 => ?_) (fun h1 => ?_)
 refine ewp_skip ?_
 refine blk_n ?_
 refine fn_n (res0 rfl) ?_
 exact ⟨[], i + 1, adv c p, ta, tc, stepM_blank hc h1, rfl, by rw [List.append_nil]; exact hb3, by rw [List.append_nil]; exact hrow, hlow, hX, by omega, by have := lt_at hc; omega, hp1⟩
 refine ewp_seq ?_
 refine ewp_reg ?_
 refine ewl_run rfl (rn_move rfl) ?_
 refine ewl_run rfl (rn_eqI rfl rfl) ?_
 refine ewl_run rfl (rn_assign rfl) ?_
 refine ewl_nil ?_
 refine thn_n ?_
 refine ewp_if rfl (fun h2 => ?_) (fun h2 => ?_)
 refine ewp_block ?_
 refine ewp_loop (fun k σ ds w' => ∃ (j : Nat) (q : Ps), k = src.length - j ∧ ds = [] ∧ σ = (upd SW.e0 0 (.pointer (some ⟨b, 0, none⟩))) ∧ i < j ∧ j ≤ src.length ∧ Pk j q ∧ comM (adv c p) (src.drop (i + 1)) = comM q (src.drop j) ∧ Blk w' b [S src, .int .i64 ((j : Nat) : Int), .int .i64 q.1, .int .i64 q.2, (.slice ta toks.length tc)] 57 ∧ Blk w' b1 [.int .i64 p.1, .int .i64 p.2] 25 ∧ Row w' 59 5 ta tc toks.length (toksC toks) ∧ Ext w0 w') (src.length - (i + 1)) (upd SW.e0 0 (.pointer (some ⟨b, 0, none⟩))) (le_upd (le_e0 _) rfl) ⟨i + 1, adv c p, rfl, rfl, rfl, by omega, by have := lt_at hc; omega, hp1, rfl, hb3, hb2, hrow, hX⟩ ?_
 rintro _ _ _ wl ⟨j, q, rfl, rfl, rfl, hij, hjl, hq, hm, hscl, hl2, hrow, hX⟩
 have szl := hX.size
 have lt2 := hl2.lt
 have lts := hscl.lt
 refine ewp_seq ?_
 refine ewp_seq ?_
 have hr2 := hscl
 have hr3 := hl2
 refine ewp_draw mixed (Keeps wl [b, b1]) [(true, 0), (false, 1), (true, 2), (true, 3), (true, 4), (true, 5), (true, 6), (true, 7), (true, 8), (true, 9), (true, 10), (true, 11), (true, 12), (true, 13)] (by kernel_rfl) (by kernel_rfl) rfl rfl fun w6 hE5 hz3 => ?_
 have hKp : Keeps wl [b, b1] w6 := Keeps.cons hr2 hE5 (Keeps.cons hr3 hE5 (Keeps.nil _ _))
 refine ⟨hKp, ?_⟩
 replace hscl := hscl.ext hE5
 replace hl2 := hl2.ext hE5
 replace hrow := hrow.ext hE5
 replace hX := hX.trans hE5
 refine ewo_rd rfl (fun _ hS => rn_move rfl) ?_
 refine ewo_sp ?_
 refine ewl_ret rfl (en_call ent20 rfl rfl) (more_spec _ b src j q (.slice ta toks.length tc) hscl) ?_
 rintro _ w7 ⟨rfl, hE6⟩
 replace hscl := hscl.ext hE6
 replace hl2 := hl2.ext hE6
 replace hrow := hrow.ext hE6
 replace hX := hX.trans hE6
 replace hKp := hKp.ext hE6
 have sz4 := hE6.size
 refine ewl_nil (onw_n hKp ?_)
 refine ewo_rd rfl (fun _ hS => rn_move rfl) ?_
 refine ewo_split 62 rfl (fun h3 => ?_) (fun h3 => ?_)
 have hjlt : j < src.length := by have := of_decide_eq_true h3; omega
 obtain ⟨c1, hc1⟩ := at_lt hjlt
 refine ewo_rdg rfl rfl rfl h3 (fun _ hS => rn_move rfl) ?_
 refine ewo_rdg rfl rfl rfl h3 (fun _ hS => rn_nc rfl) ?_
 refine ewo_rdg rfl rfl rfl h3 (fun _ hS => rn_fa rfl fl57_0) ?_
 refine ewo_rdg rfl rfl rfl h3 (fun _ hS => rn_load rfl ti9 (hr2.keep hS (.head _)) rfl) ?_
 refine ewo_rdg rfl rfl rfl h3 (fun _ hS => rn_move rfl) ?_
 refine ewo_rdg rfl rfl rfl h3 (fun _ hS => rn_nc rfl) ?_
 refine ewo_rdg rfl rfl rfl h3 (fun _ hS => rn_fa rfl fl57_1) ?_
 refine ewo_rdg rfl rfl rfl h3 (fun _ hS => rn_load rfl ti3 (hr2.keep hS (.head _)) rfl) ?_
 refine ewo_rdg rfl rfl rfl h3 (fun _ hS => rn_ixS (c := c1) rfl rfl un9 (by omega) (by rw [Int.toNat_natCast]; exact hc1)) ?_
 refine ewo_rdg rfl rfl rfl h3 (fun _ hS => rn_neI rfl rfl) ?_
 refine ewo_rd rfl (fun _ hS => rn_pickt rfl h3 rfl) ?_
 refine ewo_nil ?_
 refine thn_n ?_
 refine ewp_if rfl (fun h4 => ?_) (fun h4 => ?_)
 refine ewp_skip ?_
 refine thn_n ?_
 refine ewp_block ?_
 refine ewp_reg ?_
 refine ewl_run rfl (rn_move rfl) ?_
 refine ewl_ret rfl (en_call ent34 rfl rfl) (next_spec _ b src j q (.slice ta toks.length tc) hscl c1 hc1 (by omega) hq) ?_
 rintro _ w8 ⟨rfl, hb4, hE7⟩
 replace hl2 := hl2.exb hE7 (by omega)
 replace hrow := Row.exb hrow hE7 (fun e => by have := hlow _ e; omega)
 replace hX := hE7.ext hX hb0
 have sz5 := hE7.size
 have hp2 := Pk.adv (c := c1) hq
 refine ewl_nil ?_
 refine blk_n ?_
 refine lp_n (src.length - (j + 1)) (upd SW.e0 0 (.pointer (some ⟨b, 0, none⟩))) (by have := lt_at hc1; omega) (le_upd (le_e0 _) rfl) ⟨j + 1, adv c1 q, rfl, rfl, rfl, by omega, by have := lt_at hc1; omega, hp2, hm.trans (comM_next hc1 h4), hb4, hl2, hrow, hX⟩
 refine ewp_exit ?_
 refine thn_e ?_
 refine lp_e ?_
 refine blk_e ?_
 refine blk_n ?_
 refine fn_n (res0 rfl) ?_
 exact ⟨[], j, q, ta, tc, by rw [stepM_com hc h1 h2, hm, comM_stop (.inr ⟨c1, hc1, h4⟩)], rfl, by rw [List.append_nil]; exact hscl, by rw [List.append_nil]; exact hrow, hlow, hX, hij, hjl, hq⟩
 refine ewo_rdo rfl rfl rfl h3 ?_
 refine ewo_rdo rfl rfl rfl h3 ?_
 refine ewo_rdo rfl rfl rfl h3 ?_
 refine ewo_rdo rfl rfl rfl h3 ?_
 refine ewo_rdo rfl rfl rfl h3 ?_
 refine ewo_rdo rfl rfl rfl h3 ?_
 refine ewo_rdo rfl rfl rfl h3 ?_
 refine ewo_rdo rfl rfl rfl h3 ?_
 refine ewo_rdo rfl rfl rfl h3 ?_
 refine ewo_rdo rfl rfl rfl h3 ?_
 refine ewo_rd rfl (fun _ hS => rn_pickf rfl h3 rfl) ?_
 refine ewo_nil ?_
 refine thn_n ?_
 refine ewp_iff rfl rfl ?_
 refine ewp_exit ?_
 refine thn_e ?_
 refine lp_e ?_
 refine blk_e ?_
 refine blk_n ?_
 refine fn_n (res0 rfl) ?_
 exact ⟨[], j, q, ta, tc, by rw [stepM_com hc h1 h2, hm, comM_stop (.inl (by have := of_decide_eq_false h3; omega))], rfl, by rw [List.append_nil]; exact hscl, by rw [List.append_nil]; exact hrow, hlow, hX, hij, hjl, hq⟩
 refine ewp_seq ?_
 refine ewp_reg ?_
 refine ewl_run rfl (rn_move rfl) ?_
 refine ewl_run rfl (rn_eqI rfl rfl) ?_
 refine ewl_run rfl (rn_assign rfl) ?_
 refine ewl_nil ?_
 refine thn_n ?_
 refine ewp_if rfl (fun h5 => ?_) (fun h5 => ?_)
 have hr4 := hb2
 refine ewp_drawt mixed (Keeps w5 [b1]) (.rd 0 (.rd 1 (.rd 2 (.rd 3 (.rd 5 (.rd 6 (.br 4 (.br 7 (.br 8 (.rd 9 (.rd 10 (.br 11 .fin .fin))) .fin) .fin) (.br 7 (.br 4 (.br 8 (.rd 9 (.rd 10 (.br 11 .fin .fin))) .fin) .fin) .fin)))))))) (by kernel_rfl) (by kernel_rfl) (by kernel_rfl) fun w9 hE8 hz4 => ?_
 have hKp : Keeps w5 [b1] w9 := Keeps.cons hr4 hE8 (Keeps.nil _ _)
 refine ⟨hKp, ?_⟩
 replace hrow := hrow.ext hE8
 replace hb2 := hb2.ext hE8
 replace hb3 := hb3.ext hE8
 replace hX := hX.trans hE8
 refine ewt_rd rfl rfl (fun _ hS => rn_move rfl) ?_
 refine ewt_rd rfl rfl (fun _ hS => rn_move rfl) ?_
 refine ewt_rd rfl rfl (fun _ hS => rn_nc rfl) ?_
 refine ewt_rd rfl rfl (fun _ hS => rn_fa rfl fl57_3) ?_
 refine ewt_rd rfl rfl (fun _ hS => rn_loada rfl ti25 (hr4.keep hS (.head _)) rfl) ?_
 refine ewt_rd rfl rfl (fun _ hS => rn_build rfl pl59 zr59 rfl) ?_
 refine ewt_br rfl ?_ ?_
 refine ewl_run rfl (rn_load rfl ti41 hb3 rfl) ?_
 refine ewl_nil (onwt_n hKp ?_)
 refine ewt_br rfl ?_ ewt_none
 refine ewl_bs rfl rfl sl41 zr59 rfl rfl rfl rfl rfl fun b2 w10 hb5 hE9 hs2 hz5 => ?_
 replace hrow := hrow.ext hE9
 replace hb2 := hb2.ext hE9
 replace hb3 := hb3.ext hE9
 replace hX := hX.trans hE9
 replace hKp := hKp.ext hE9
 refine ewl_nil (onwt_n hKp ?_)
 refine ewt_br rfl ?_ ewt_none
 refine ewl_app1 rfl ap41 rfl rfl rfl rfl hrow hb5 rfl rfl (by omega) (by omega) fun ta2 tc2 w11 hr2 hG2 => ?_
 have hlow2 : ∀ x, rb ta2 = some x → w0.heap.size ≤ x ∧ x ≠ b := low_grow hG2 hlow (by omega)
 replace hb3 := hb3.grow hG2 (fun e => by have := hlow _ e.symm; have := hlowl _ e.symm; omega)
 replace hX := hX.grow hG2 (fun x hx => (hlow x hx).1)
 replace hKp := hKp.grow hG2 (by simp only [List.mem_cons, List.not_mem_nil, or_false]; intro c hc e; have := hlow _ e.symm; have := hlowl _ e.symm; omega)
 have sz6 := hG2.size
 refine ewl_nil (onwt_n hKp ?_)
 refine ewt_rd rfl rfl (fun _ hS => rn_nc rfl) ?_
 refine ewt_rd rfl rfl (fun _ hS => rn_fa rfl fl57_3) ?_
 refine ewt_br rfl ?_ ewt_none
 refine ewl_store rfl rfl rfl ti41 rfl hb3 rfl rfl fun w12 hb6 hC2 => ?_
 replace hr2 := Row.chg hr2 hC2 (fun e => by have := hlow2 _ e; omega)
 replace hX := hX.chg hC2 (by omega)
 replace hKp := hKp.chg hC2 (by simp only [List.mem_cons, List.not_mem_nil, or_false]; omega)
 have sz7 := hC2.size
 refine ewl_nil (onwt_n hKp ?_)
 refine ewt_fin ?_
 refine blk_n ?_
 refine fn_n (res0 rfl) ?_
 exact ⟨[⟨0, p.1, p.2, 0, []⟩], i + 1, adv c p, ta2, tc2, stepM_op hc h1 h2 h5, rfl, by rw [List.length_append]; exact hb6, by rw [List.length_append, toksC_app]; exact hr2, hlow2, hX, by omega, by first | omega | (have := lt_at hc; omega), hp1⟩
 refine ewt_br rfl ?_ ?_
 refine ewl_bs rfl rfl sl41 zr59 rfl rfl rfl rfl rfl fun b3 w13 hb7 hE10 hs3 hz6 => ?_
 replace hrow := hrow.ext hE10
 replace hb2 := hb2.ext hE10
 replace hb3 := hb3.ext hE10
 replace hX := hX.trans hE10
 replace hKp := hKp.ext hE10
 refine ewl_nil (onwt_n hKp ?_)
 refine ewt_br rfl ?_ ewt_none
 refine ewl_run rfl (rn_load rfl ti41 hb3 rfl) ?_
 refine ewl_nil (onwt_n hKp ?_)
 refine ewt_br rfl ?_ ewt_none
 refine ewl_app1 rfl ap41 rfl rfl rfl rfl hrow hb7 rfl rfl (by omega) (by omega) fun ta2 tc2 w14 hr2 hG2 => ?_
 have hlow2 : ∀ x, rb ta2 = some x → w0.heap.size ≤ x ∧ x ≠ b := low_grow hG2 hlow (by omega)
 replace hb3 := hb3.grow hG2 (fun e => by have := hlow _ e.symm; have := hlowl _ e.symm; omega)
 replace hX := hX.grow hG2 (fun x hx => (hlow x hx).1)
 replace hKp := hKp.grow hG2 (by simp only [List.mem_cons, List.not_mem_nil, or_false]; intro c hc e; have := hlow _ e.symm; have := hlowl _ e.symm; omega)
 have sz8 := hG2.size
 refine ewl_nil (onwt_n hKp ?_)
 refine ewt_rd rfl rfl (fun _ hS => rn_nc rfl) ?_
 refine ewt_rd rfl rfl (fun _ hS => rn_fa rfl fl57_3) ?_
 refine ewt_br rfl ?_ ewt_none
 refine ewl_store rfl rfl rfl ti41 rfl hb3 rfl rfl fun w15 hb8 hC3 => ?_
 replace hr2 := Row.chg hr2 hC3 (fun e => by have := hlow2 _ e; omega)
 replace hX := hX.chg hC3 (by omega)
 replace hKp := hKp.chg hC3 (by simp only [List.mem_cons, List.not_mem_nil, or_false]; omega)
 have sz9 := hC3.size
 refine ewl_nil (onwt_n hKp ?_)
 refine ewt_fin ?_
 refine blk_n ?_
 refine fn_n (res0 rfl) ?_
 exact ⟨[⟨0, p.1, p.2, 0, []⟩], i + 1, adv c p, ta2, tc2, stepM_op hc h1 h2 h5, rfl, by rw [List.length_append]; exact hb8, by rw [List.length_append, toksC_app]; exact hr2, hlow2, hX, by omega, by first | omega | (have := lt_at hc; omega), hp1⟩
 exact ewt_none
 refine ewp_seq ?_
 refine ewp_reg ?_
 refine ewl_run rfl (rn_move rfl) ?_
 refine ewl_run rfl (rn_eqI rfl rfl) ?_
 refine ewl_run rfl (rn_assign rfl) ?_
 refine ewl_nil ?_
 refine thn_n ?_
 refine ewp_if rfl (fun h6 => ?_) (fun h6 => ?_)
 have hr5 := hb2
 refine ewp_drawt mixed (Keeps w5 [b1]) (.rd 0 (.rd 1 (.rd 2 (.rd 3 (.rd 5 (.rd 6 (.br 4 (.br 7 (.br 8 (.rd 9 (.rd 10 (.br 11 .fin .fin))) .fin) .fin) (.br 7 (.br 4 (.br 8 (.rd 9 (.rd 10 (.br 11 .fin .fin))) .fin) .fin) .fin)))))))) (by kernel_rfl) (by kernel_rfl) (by kernel_rfl) fun w16 hE11 hz7 => ?_
 have hKp : Keeps w5 [b1] w16 := Keeps.cons hr5 hE11 (Keeps.nil _ _)
 refine ⟨hKp, ?_⟩
 replace hrow := hrow.ext hE11
 replace hb2 := hb2.ext hE11
 replace hb3 := hb3.ext hE11
 replace hX := hX.trans hE11
 refine ewt_rd rfl rfl (fun _ hS => rn_move rfl) ?_
 refine ewt_rd rfl rfl (fun _ hS => rn_move rfl) ?_
 refine ewt_rd rfl rfl (fun _ hS => rn_nc rfl) ?_
 refine ewt_rd rfl rfl (fun _ hS => rn_fa rfl fl57_3) ?_
 refine ewt_rd rfl rfl (fun _ hS => rn_loada rfl ti25 (hr5.keep hS (.head _)) rfl) ?_
 refine ewt_rd rfl rfl (fun _ hS => rn_build rfl pl59 zr59 rfl) ?_
 refine ewt_br rfl ?_ ?_
 refine ewl_run rfl (rn_load rfl ti41 hb3 rfl) ?_
 refine ewl_nil (onwt_n hKp ?_)
 refine ewt_br rfl ?_ ewt_none
 refine ewl_bs rfl rfl sl41 zr59 rfl rfl rfl rfl rfl fun b4 w17 hb9 hE12 hs4 hz8 => ?_
 replace hrow := hrow.ext hE12
 replace hb2 := hb2.ext hE12
 replace hb3 := hb3.ext hE12
 replace hX := hX.trans hE12
 replace hKp := hKp.ext hE12
 refine ewl_nil (onwt_n hKp ?_)
 refine ewt_br rfl ?_ ewt_none
 refine ewl_app1 rfl ap41 rfl rfl rfl rfl hrow hb9 rfl rfl (by omega) (by omega) fun ta2 tc2 w18 hr2 hG2 => ?_
 have hlow2 : ∀ x, rb ta2 = some x → w0.heap.size ≤ x ∧ x ≠ b := low_grow hG2 hlow (by omega)
 replace hb3 := hb3.grow hG2 (fun e => by have := hlow _ e.symm; have := hlowl _ e.symm; omega)
 replace hX := hX.grow hG2 (fun x hx => (hlow x hx).1)
 replace hKp := hKp.grow hG2 (by simp only [List.mem_cons, List.not_mem_nil, or_false]; intro c hc e; have := hlow _ e.symm; have := hlowl _ e.symm; omega)
 have sz10 := hG2.size
 refine ewl_nil (onwt_n hKp ?_)
 refine ewt_rd rfl rfl (fun _ hS => rn_nc rfl) ?_
 refine ewt_rd rfl rfl (fun _ hS => rn_fa rfl fl57_3) ?_
 refine ewt_br rfl ?_ ewt_none
 refine ewl_store rfl rfl rfl ti41 rfl hb3 rfl rfl fun w19 hb10 hC4 => ?_
 replace hr2 := Row.chg hr2 hC4 (fun e => by have := hlow2 _ e; omega)
 replace hX := hX.chg hC4 (by omega)
 replace hKp := hKp.chg hC4 (by simp only [List.mem_cons, List.not_mem_nil, or_false]; omega)
 have sz11 := hC4.size
 refine ewl_nil (onwt_n hKp ?_)
 refine ewt_fin ?_
 refine blk_n ?_
 refine fn_n (res0 rfl) ?_
 exact ⟨[⟨1, p.1, p.2, 0, []⟩], i + 1, adv c p, ta2, tc2, stepM_cl hc h1 h2 h5 h6, rfl, by rw [List.length_append]; exact hb10, by rw [List.length_append, toksC_app]; exact hr2, hlow2, hX, by omega, by first | omega | (have := lt_at hc; omega), hp1⟩
 refine ewt_br rfl ?_ ?_
 refine ewl_bs rfl rfl sl41 zr59 rfl rfl rfl rfl rfl fun b5 w20 hb11 hE13 hs5 hz9 => ?_
 replace hrow := hrow.ext hE13
 replace hb2 := hb2.ext hE13
 replace hb3 := hb3.ext hE13
 replace hX := hX.trans hE13
 replace hKp := hKp.ext hE13
 refine ewl_nil (onwt_n hKp ?_)
 refine ewt_br rfl ?_ ewt_none
 refine ewl_run rfl (rn_load rfl ti41 hb3 rfl) ?_
 refine ewl_nil (onwt_n hKp ?_)
 refine ewt_br rfl ?_ ewt_none
 refine ewl_app1 rfl ap41 rfl rfl rfl rfl hrow hb11 rfl rfl (by omega) (by omega) fun ta2 tc2 w21 hr2 hG2 => ?_
 have hlow2 : ∀ x, rb ta2 = some x → w0.heap.size ≤ x ∧ x ≠ b := low_grow hG2 hlow (by omega)
 replace hb3 := hb3.grow hG2 (fun e => by have := hlow _ e.symm; have := hlowl _ e.symm; omega)
 replace hX := hX.grow hG2 (fun x hx => (hlow x hx).1)
 replace hKp := hKp.grow hG2 (by simp only [List.mem_cons, List.not_mem_nil, or_false]; intro c hc e; have := hlow _ e.symm; have := hlowl _ e.symm; omega)
 have sz12 := hG2.size
 refine ewl_nil (onwt_n hKp ?_)
 refine ewt_rd rfl rfl (fun _ hS => rn_nc rfl) ?_
 refine ewt_rd rfl rfl (fun _ hS => rn_fa rfl fl57_3) ?_
 refine ewt_br rfl ?_ ewt_none
 refine ewl_store rfl rfl rfl ti41 rfl hb3 rfl rfl fun w22 hb12 hC5 => ?_
 replace hr2 := Row.chg hr2 hC5 (fun e => by have := hlow2 _ e; omega)
 replace hX := hX.chg hC5 (by omega)
 replace hKp := hKp.chg hC5 (by simp only [List.mem_cons, List.not_mem_nil, or_false]; omega)
 have sz13 := hC5.size
 refine ewl_nil (onwt_n hKp ?_)
 refine ewt_fin ?_
 refine blk_n ?_
 refine fn_n (res0 rfl) ?_
 exact ⟨[⟨1, p.1, p.2, 0, []⟩], i + 1, adv c p, ta2, tc2, stepM_cl hc h1 h2 h5 h6, rfl, by rw [List.length_append]; exact hb12, by rw [List.length_append, toksC_app]; exact hr2, hlow2, hX, by omega, by first | omega | (have := lt_at hc; omega), hp1⟩
 exact ewt_none
 refine ewp_seq ?_
 refine ewp_reg ?_
 refine ewl_run rfl (rn_move rfl) ?_
 refine ewl_run rfl (rn_eqI rfl rfl) ?_
 refine ewl_run rfl (rn_assign rfl) ?_
 refine ewl_nil ?_
 refine thn_n ?_
 refine ewp_if rfl (fun h7 => ?_) (fun h7 => ?_)
 have hr6 := hb2
 refine ewp_drawt mixed (Keeps w5 [b1]) (.rd 0 (.rd 1 (.rd 2 (.rd 3 (.rd 5 (.rd 6 (.br 4 (.br 7 (.br 8 (.br 9 (.rd 10 (.rd 11 (.br 12 .fin .fin))) .fin) .fin) .fin) (.br 7 (.br 4 (.br 8 (.br 9 (.rd 10 (.rd 11 (.br 12 .fin .fin))) .fin) .fin) (.br 8 (.br 4 (.br 9 (.rd 10 (.rd 11 (.br 12 .fin .fin))) .fin) .fin) .fin)) .fin)))))))) (by kernel_rfl) (by kernel_rfl) (by kernel_rfl) fun w23 hE14 hz10 => ?_
 have hKp : Keeps w5 [b1] w23 := Keeps.cons hr6 hE14 (Keeps.nil _ _)
 refine ⟨hKp, ?_⟩
 replace hrow := hrow.ext hE14
 replace hb2 := hb2.ext hE14
 replace hb3 := hb3.ext hE14
 replace hX := hX.trans hE14
 refine ewt_rd rfl rfl (fun _ hS => rn_move rfl) ?_
 refine ewt_rd rfl rfl (fun _ hS => rn_move rfl) ?_
 refine ewt_rd rfl rfl (fun _ hS => rn_nc rfl) ?_
 refine ewt_rd rfl rfl (fun _ hS => rn_fa rfl fl57_3) ?_
 refine ewt_rd rfl rfl (fun _ hS => rn_move rfl) ?_
 refine ewt_rd rfl rfl (fun _ hS => rn_loada rfl ti25 (hr6.keep hS (.head _)) rfl) ?_
 refine ewt_br rfl ?_ ?_
 refine ewl_run rfl (rn_load rfl ti41 hb3 rfl) ?_
 refine ewl_nil (onwt_n hKp ?_)
 refine ewt_br rfl ?_ ewt_none
 refine ewl_retp rfl (en_call ent36 rfl rfl) (str_spec _ b src (i + 1) (adv c p) (.slice ta toks.length tc) hb3 p (by have := lt_at hc; omega) (by omega) hp1) ?_ (fun cc wp hc1 => And.intro rfl (let ⟨e, he, hcc, hE⟩ := hc1; ⟨e, by rw [stepM_str hc h1 h2 h5 h6 h7, he], hcc, hE.ext hX hb0⟩))
 rintro _ w24 ⟨tx, i1, p1, hstr, rfl, hb13, hE15, hi1, hi2, hp1⟩
 replace hrow := Row.exb hrow hE15 (fun e => by have := hlow _ e; omega)
 replace hb2 := hb2.exb hE15 (by omega)
 replace hX := hE15.ext hX hb0
 have sz14 := hE15.size
 replace hKp := hKp.exb hE15 (by simp only [List.mem_cons, List.not_mem_nil, or_false]; omega)
 refine ewl_nil (onwt_n hKp ?_)
 refine ewt_br rfl ?_ ewt_none
 refine ewl_bs rfl rfl sl41 zr59 rfl rfl rfl rfl rfl fun b6 w25 hb14 hE16 hs6 hz11 => ?_
 replace hrow := hrow.ext hE16
 replace hb2 := hb2.ext hE16
 replace hb13 := hb13.ext hE16
 replace hX := hX.trans hE16
 replace hKp := hKp.ext hE16
 refine ewl_nil (onwt_n hKp ?_)
 refine ewt_br rfl ?_ ewt_none
 refine ewl_app1 rfl ap41 rfl rfl rfl rfl hrow hb14 rfl rfl (by omega) (by omega) fun ta2 tc2 w26 hr2 hG2 => ?_
 have hlow2 : ∀ x, rb ta2 = some x → w0.heap.size ≤ x ∧ x ≠ b := low_grow hG2 hlow (by omega)
 replace hb13 := hb13.grow hG2 (fun e => by have := hlow _ e.symm; have := hlowl _ e.symm; omega)
 replace hX := hX.grow hG2 (fun x hx => (hlow x hx).1)
 replace hKp := hKp.grow hG2 (by simp only [List.mem_cons, List.not_mem_nil, or_false]; intro c hc e; have := hlow _ e.symm; have := hlowl _ e.symm; omega)
 have sz15 := hG2.size
 refine ewl_nil (onwt_n hKp ?_)
 refine ewt_rd rfl rfl (fun _ hS => rn_nc rfl) ?_
 refine ewt_rd rfl rfl (fun _ hS => rn_fa rfl fl57_3) ?_
 refine ewt_br rfl ?_ ewt_none
 refine ewl_store rfl rfl rfl ti41 rfl hb13 rfl rfl fun w27 hb15 hC6 => ?_
 replace hr2 := Row.chg hr2 hC6 (fun e => by have := hlow2 _ e; omega)
 replace hX := hX.chg hC6 (by omega)
 replace hKp := hKp.chg hC6 (by simp only [List.mem_cons, List.not_mem_nil, or_false]; omega)
 have sz16 := hC6.size
 refine ewl_nil (onwt_n hKp ?_)
 refine ewt_fin ?_
 refine blk_n ?_
 refine fn_n (res0 rfl) ?_
 exact ⟨[⟨4, p.1, p.2, 0, tx⟩], i1, p1, ta2, tc2, by rw [stepM_str hc h1 h2 h5 h6 h7, hstr], rfl, by rw [List.length_append]; exact hb15, by rw [List.length_append, toksC_app]; exact hr2, hlow2, hX, by omega, by first | omega | (have := lt_at hc; omega), hp1⟩
 refine ewt_br rfl ?_ ?_
 refine ewl_retp rfl (en_call ent36 rfl rfl) (str_spec _ b src (i + 1) (adv c p) (.slice ta toks.length tc) hb3 p (by have := lt_at hc; omega) (by omega) hp1) ?_ (fun cc wp hc1 => And.intro rfl (let ⟨e, he, hcc, hE⟩ := hc1; ⟨e, by rw [stepM_str hc h1 h2 h5 h6 h7, he], hcc, hE.ext hX hb0⟩))
 rintro _ w28 ⟨tx, i1, p1, hstr, rfl, hb16, hE17, hi1, hi2, hp1⟩
 replace hrow := Row.exb hrow hE17 (fun e => by have := hlow _ e; omega)
 replace hb2 := hb2.exb hE17 (by omega)
 replace hX := hE17.ext hX hb0
 have sz17 := hE17.size
 replace hKp := hKp.exb hE17 (by simp only [List.mem_cons, List.not_mem_nil, or_false]; omega)
 refine ewl_nil (onwt_n hKp ?_)
 refine ewt_br rfl ?_ ?_
 refine ewl_run rfl (rn_load rfl ti41 hb16 rfl) ?_
 refine ewl_nil (onwt_n hKp ?_)
 refine ewt_br rfl ?_ ewt_none
 refine ewl_bs rfl rfl sl41 zr59 rfl rfl rfl rfl rfl fun b7 w29 hb17 hE18 hs7 hz12 => ?_
 replace hrow := hrow.ext hE18
 replace hb2 := hb2.ext hE18
 replace hb16 := hb16.ext hE18
 replace hX := hX.trans hE18
 replace hKp := hKp.ext hE18
 refine ewl_nil (onwt_n hKp ?_)
 refine ewt_br rfl ?_ ewt_none
 refine ewl_app1 rfl ap41 rfl rfl rfl rfl hrow hb17 rfl rfl (by omega) (by omega) fun ta2 tc2 w30 hr2 hG2 => ?_
 have hlow2 : ∀ x, rb ta2 = some x → w0.heap.size ≤ x ∧ x ≠ b := low_grow hG2 hlow (by omega)
 replace hb16 := hb16.grow hG2 (fun e => by have := hlow _ e.symm; have := hlowl _ e.symm; omega)
 replace hX := hX.grow hG2 (fun x hx => (hlow x hx).1)
 replace hKp := hKp.grow hG2 (by simp only [List.mem_cons, List.not_mem_nil, or_false]; intro c hc e; have := hlow _ e.symm; have := hlowl _ e.symm; omega)
 have sz18 := hG2.size
 refine ewl_nil (onwt_n hKp ?_)
 refine ewt_rd rfl rfl (fun _ hS => rn_nc rfl) ?_
 refine ewt_rd rfl rfl (fun _ hS => rn_fa rfl fl57_3) ?_
 refine ewt_br rfl ?_ ewt_none
 refine ewl_store rfl rfl rfl ti41 rfl hb16 rfl rfl fun w31 hb18 hC7 => ?_
 replace hr2 := Row.chg hr2 hC7 (fun e => by have := hlow2 _ e; omega)
 replace hX := hX.chg hC7 (by omega)
 replace hKp := hKp.chg hC7 (by simp only [List.mem_cons, List.not_mem_nil, or_false]; omega)
 have sz19 := hC7.size
 refine ewl_nil (onwt_n hKp ?_)
 refine ewt_fin ?_
 refine blk_n ?_
 refine fn_n (res0 rfl) ?_
 exact ⟨[⟨4, p.1, p.2, 0, tx⟩], i1, p1, ta2, tc2, by rw [stepM_str hc h1 h2 h5 h6 h7, hstr], rfl, by rw [List.length_append]; exact hb18, by rw [List.length_append, toksC_app]; exact hr2, hlow2, hX, by omega, by first | omega | (have := lt_at hc; omega), hp1⟩
 refine ewt_br rfl ?_ ?_
 refine ewl_bs rfl rfl sl41 zr59 rfl rfl rfl rfl rfl fun b8 w32 hb19 hE19 hs8 hz13 => ?_
 replace hrow := hrow.ext hE19
 replace hb2 := hb2.ext hE19
 replace hb16 := hb16.ext hE19
 replace hX := hX.trans hE19
 replace hKp := hKp.ext hE19
 refine ewl_nil (onwt_n hKp ?_)
 refine ewt_br rfl ?_ ewt_none
 refine ewl_run rfl (rn_load rfl ti41 hb16 rfl) ?_
 refine ewl_nil (onwt_n hKp ?_)
 refine ewt_br rfl ?_ ewt_none
 refine ewl_app1 rfl ap41 rfl rfl rfl rfl hrow hb19 rfl rfl (by omega) (by omega) fun ta2 tc2 w33 hr2 hG2 => ?_
 have hlow2 : ∀ x, rb ta2 = some x → w0.heap.size ≤ x ∧ x ≠ b := low_grow hG2 hlow (by omega)
 replace hb16 := hb16.grow hG2 (fun e => by have := hlow _ e.symm; have := hlowl _ e.symm; omega)
 replace hX := hX.grow hG2 (fun x hx => (hlow x hx).1)
 replace hKp := hKp.grow hG2 (by simp only [List.mem_cons, List.not_mem_nil, or_false]; intro c hc e; have := hlow _ e.symm; have := hlowl _ e.symm; omega)
 have sz20 := hG2.size
 refine ewl_nil (onwt_n hKp ?_)
 refine ewt_rd rfl rfl (fun _ hS => rn_nc rfl) ?_
 refine ewt_rd rfl rfl (fun _ hS => rn_fa rfl fl57_3) ?_
 refine ewt_br rfl ?_ ewt_none
 refine ewl_store rfl rfl rfl ti41 rfl hb16 rfl rfl fun w34 hb20 hC8 => ?_
 replace hr2 := Row.chg hr2 hC8 (fun e => by have := hlow2 _ e; omega)
 replace hX := hX.chg hC8 (by omega)
 replace hKp := hKp.chg hC8 (by simp only [List.mem_cons, List.not_mem_nil, or_false]; omega)
 have sz21 := hC8.size
 refine ewl_nil (onwt_n hKp ?_)
 refine ewt_fin ?_
 refine blk_n ?_
 refine fn_n (res0 rfl) ?_
 exact ⟨[⟨4, p.1, p.2, 0, tx⟩], i1, p1, ta2, tc2, by rw [stepM_str hc h1 h2 h5 h6 h7, hstr], rfl, by rw [List.length_append]; exact hb20, by rw [List.length_append, toksC_app]; exact hr2, hlow2, hX, by omega, by first | omega | (have := lt_at hc; omega), hp1⟩
 exact ewt_none
 exact ewt_none
 refine ewp_seq ?_
 refine ewp_block ?_
 refine ewp_loop (fun k σ ds w' => ∃ (j : Nat) (q : Ps), k = src.length - j ∧ ds = [] ∧ σ = (upd (upd (upd SW.e0 0 (.pointer (some ⟨b, 0, none⟩))) 2 (.pointer (some ⟨b1, 0, none⟩))) 3 (.int .i64 (i : Int))) ∧ i < j ∧ j ≤ src.length ∧ Pk j q ∧ spanM (adv c p) (src.drop (i + 1)) = (cutIJ src (i + 1) j ++ (spanM q (src.drop j)).1, (spanM q (src.drop j)).2) ∧ Blk w' b [S src, .int .i64 ((j : Nat) : Int), .int .i64 q.1, .int .i64 q.2, (.slice ta toks.length tc)] 57 ∧ Blk w' b1 [.int .i64 p.1, .int .i64 p.2] 25 ∧ Row w' 59 5 ta tc toks.length (toksC toks) ∧ Ext w0 w') (src.length - (i + 1)) (upd (upd (upd SW.e0 0 (.pointer (some ⟨b, 0, none⟩))) 2 (.pointer (some ⟨b1, 0, none⟩))) 3 (.int .i64 (i : Int))) (le_upd (le_upd (le_upd (le_e0 _) rfl) rfl) rfl) ⟨i + 1, adv c p, rfl, rfl, rfl, by omega, by have := lt_at hc; omega, hp1, by rw [cutIJ_self]; rfl, hb3, hb2, hrow, hX⟩ ?_
 rintro _ _ _ wl ⟨j, q, rfl, rfl, rfl, hij, hjl, hq, hm, hscl, hl2, hrow, hX⟩
 have szl := hX.size
 have lt2 := hl2.lt
 have lts := hscl.lt
 refine ewp_seq ?_
 refine ewp_seq ?_
 have hr7 := hscl
 have hr8 := hl2
 refine ewp_draw mixed (Keeps wl [b, b1]) [(true, 0), (false, 1), (true, 2), (true, 3), (true, 4), (true, 5), (true, 6), (true, 7), (true, 8), (true, 9), (true, 10), (true, 11), (false, 12), (true, 13), (true, 14)] (by kernel_rfl) (by kernel_rfl) rfl rfl fun w35 hE20 hz14 => ?_
 have hKp : Keeps wl [b, b1] w35 := Keeps.cons hr7 hE20 (Keeps.cons hr8 hE20 (Keeps.nil _ _))
 refine ⟨hKp, ?_⟩
 replace hscl := hscl.ext hE20
 replace hl2 := hl2.ext hE20
 replace hrow := hrow.ext hE20
 replace hX := hX.trans hE20
 refine ewo_rd rfl (fun _ hS => rn_move rfl) ?_
 refine ewo_sp ?_
 refine ewl_ret rfl (en_call ent20 rfl rfl) (more_spec _ b src j q (.slice ta toks.length tc) hscl) ?_
 rintro _ w36 ⟨rfl, hE21⟩
 replace hscl := hscl.ext hE21
 replace hl2 := hl2.ext hE21
 replace hrow := hrow.ext hE21
 replace hX := hX.trans hE21
 replace hKp := hKp.ext hE21
 have sz22 := hE21.size
 refine ewl_nil (onw_n hKp ?_)
 refine ewo_rd rfl (fun _ hS => rn_move rfl) ?_
 refine ewo_split 17 rfl (fun h8 => ?_) (fun h8 => ?_)
 have hjlt : j < src.length := by have := of_decide_eq_true h8; omega
 obtain ⟨c1, hc1⟩ := at_lt hjlt
 refine ewo_rdg rfl rfl rfl h8 (fun _ hS => rn_move rfl) ?_
 refine ewo_rdg rfl rfl rfl h8 (fun _ hS => rn_nc rfl) ?_
 refine ewo_rdg rfl rfl rfl h8 (fun _ hS => rn_fa rfl fl57_0) ?_
 refine ewo_rdg rfl rfl rfl h8 (fun _ hS => rn_load rfl ti9 (hr7.keep hS (.head _)) rfl) ?_
 refine ewo_rdg rfl rfl rfl h8 (fun _ hS => rn_move rfl) ?_
 refine ewo_rdg rfl rfl rfl h8 (fun _ hS => rn_nc rfl) ?_
 refine ewo_rdg rfl rfl rfl h8 (fun _ hS => rn_fa rfl fl57_1) ?_
 refine ewo_rdg rfl rfl rfl h8 (fun _ hS => rn_load rfl ti3 (hr7.keep hS (.head _)) rfl) ?_
 refine ewo_rdg rfl rfl rfl h8 (fun _ hS => rn_ixS (c := c1) rfl rfl un9 (by omega) (by rw [Int.toNat_natCast]; exact hc1)) ?_
 refine ewo_sp ?_
 refine ewl_grd rfl rfl h8 ?_
 refine ewl_ret rfl (en_call ent35 rfl rfl) (indexByte_spec _ endsB _) ?_
 rintro _ w37 ⟨rfl, hE22⟩
 replace hscl := hscl.ext hE22
 replace hl2 := hl2.ext hE22
 replace hrow := hrow.ext hE22
 replace hX := hX.trans hE22
 replace hKp := hKp.ext hE22
 have sz23 := hE22.size
 refine ewl_nil (onw_n hKp ?_)
 refine ewo_rdg rfl rfl rfl h8 (fun _ hS => rn_ltI rfl rfl) ?_
 refine ewo_rd rfl (fun _ hS => rn_pickt rfl h8 rfl) ?_
 refine ewo_nil ?_
 refine thn_n ?_
 refine ewp_if rfl (fun h9 => ?_) (fun h9 => ?_)
 refine ewp_skip ?_
 refine thn_n ?_
 refine ewp_block ?_
 refine ewp_reg ?_
 refine ewl_run rfl (rn_move rfl) ?_
 refine ewl_ret rfl (en_call ent34 rfl rfl) (next_spec _ b src j q (.slice ta toks.length tc) hscl c1 hc1 (by omega) hq) ?_
 rintro _ w38 ⟨rfl, hb21, hE23⟩
 replace hl2 := hl2.exb hE23 (by omega)
 replace hrow := Row.exb hrow hE23 (fun e => by have := hlow _ e; omega)
 replace hX := hE23.ext hX hb0
 have sz24 := hE23.size
 have hp3 := Pk.adv (c := c1) hq
 refine ewl_nil ?_
 refine blk_n ?_
 refine lp_n (src.length - (j + 1)) (upd (upd (upd SW.e0 0 (.pointer (some ⟨b, 0, none⟩))) 2 (.pointer (some ⟨b1, 0, none⟩))) 3 (.int .i64 (i : Int))) (by have := lt_at hc1; omega) (le_upd (le_upd (le_upd (le_e0 _) rfl) rfl) rfl) ⟨j + 1, adv c1 q, rfl, rfl, rfl, by omega, by have := lt_at hc1; omega, hp3, by rw [hm, spanM_next hc1 h9, cutIJ_next (by omega) hc1, List.append_assoc]; rfl, hb21, hl2, hrow, hX⟩
 refine ewp_exit ?_
 refine thn_e ?_
 refine lp_e ?_
 refine blk_e ?_
 refine thn_n ?_
 have hst := spanM_stop (p := q) (src := src) (j := j) (.inr ⟨c1, hc1, h9⟩)
 rw [hst, List.append_nil] at hm
 have hr9 := hl2
 refine ewp_drawt mixed (Keeps w37 [b1]) (.rd 0 (.rd 1 (.rd 2 (.rd 3 (.rd 5 (.rd 6 (.rd 7 (.rd 9 (.rd 10 (.rd 11 (.rd 12 (.rd 15 (.br 4 (.br 8 (.br 13 (.rd 14 (.br 16 (.br 17 (.br 18 (.rd 19 (.rd 20 (.br 21 .fin .fin))) .fin) .fin) .fin)) .fin) (.br 13 (.br 8 (.rd 14 (.br 16 (.br 17 (.br 18 (.rd 19 (.rd 20 (.br 21 .fin .fin))) .fin) .fin) .fin)) .fin) .fin)) (.br 8 (.br 4 (.br 13 (.rd 14 (.br 16 (.br 17 (.br 18 (.rd 19 (.rd 20 (.br 21 .fin .fin))) .fin) .fin) .fin)) .fin) (.br 13 (.rd 14 (.br 4 (.br 16 (.br 17 (.br 18 (.rd 19 (.rd 20 (.br 21 .fin .fin))) .fin) .fin) .fin) (.br 16 (.br 4 (.br 17 (.br 18 (.rd 19 (.rd 20 (.br 21 .fin .fin))) .fin) .fin) (.br 17 (.br 4 (.br 18 (.rd 19 (.rd 20 (.br 21 .fin .fin))) .fin) .fin) .fin)) .fin))) .fin)) (.br 13 (.br 4 (.br 8 (.rd 14 (.br 16 (.br 17 (.br 18 (.rd 19 (.rd 20 (.br 21 .fin .fin))) .fin) .fin) .fin)) .fin) (.br 8 (.rd 14 (.br 4 (.br 16 (.br 17 (.br 18 (.rd 19 (.rd 20 (.br 21 .fin .fin))) .fin) .fin) .fin) (.br 16 (.br 4 (.br 17 (.br 18 (.rd 19 (.rd 20 (.br 21 .fin .fin))) .fin) .fin) (.br 17 (.br 4 (.br 18 (.rd 19 (.rd 20 (.br 21 .fin .fin))) .fin) .fin) .fin)) .fin))) .fin)) .fin))))))))))))))) (by kernel_rfl) (by kernel_rfl) (by kernel_rfl) fun w39 hE24 hz15 => ?_
 have hKp : Keeps w37 [b1] w39 := Keeps.cons hr9 hE24 (Keeps.nil _ _)
 refine ⟨hKp, ?_⟩
 replace hscl := hscl.ext hE24
 replace hl2 := hl2.ext hE24
 replace hrow := hrow.ext hE24
 replace hX := hX.trans hE24
 refine ewt_rd rfl rfl (fun _ hS => rn_move rfl) ?_
 refine ewt_rd rfl rfl (fun _ hS => rn_move rfl) ?_
 refine ewt_rd rfl rfl (fun _ hS => rn_nc rfl) ?_
 refine ewt_rd rfl rfl (fun _ hS => rn_fa rfl fl57_3) ?_
 refine ewt_rd rfl rfl (fun _ hS => rn_move rfl) ?_
 refine ewt_rd rfl rfl (fun _ hS => rn_nc rfl) ?_
 refine ewt_rd rfl rfl (fun _ hS => rn_fa rfl fl57_0) ?_
 refine ewt_rd rfl rfl (fun _ hS => rn_move rfl) ?_
 refine ewt_rd rfl rfl (fun _ hS => rn_move rfl) ?_
 refine ewt_rd rfl rfl (fun _ hS => rn_nc rfl) ?_
 refine ewt_rd rfl rfl (fun _ hS => rn_fa rfl fl57_1) ?_
 refine ewt_rd rfl rfl (fun _ hS => rn_loada rfl ti25 (hr9.keep hS (.head _)) rfl) ?_
 refine ewt_br rfl ?_ ?_
 refine ewl_run rfl (rn_load rfl ti41 hscl rfl) ?_
 refine ewl_nil (onwt_n hKp ?_)
 refine ewt_br rfl ?_ ?_
 refine ewl_run rfl (rn_load rfl ti9 hscl rfl) ?_
 refine ewl_nil (onwt_n hKp ?_)
 refine ewt_br rfl ?_ ewt_none
 refine ewl_run rfl (rn_load rfl ti3 hscl rfl) ?_
 refine ewl_nil (onwt_n hKp ?_)
 refine ewt_rd rfl rfl (fun _ hS => rn_slS rfl rfl rfl un9 ⟨by omega, by omega, by omega⟩) ?_
 refine ewt_br rfl ?_ ewt_none
 refine ewl_retp rfl (en_call ent37 rfl rfl) (word_spec hPF _ (hG.ext hX) (cutIJ src i j) (by have := cutIJ_len src i j; omega) (by rw [cutIJ_head hij hc]; simp) p) ?_ (fun cc wp hc1 => And.intro rfl (let ⟨he, hcc, hE⟩ := hc1; ⟨p, by rw [stepM_word hc h1 h2 h5 h6 h7, hm]; simp only []; rw [← cutIJ_head hij hc, he], hcc, hX.trans hE⟩))
 rintro _ w40 ⟨wk, wn, wt, hw, rfl, hE25⟩
 replace hscl := hscl.ext hE25
 replace hl2 := hl2.ext hE25
 replace hrow := hrow.ext hE25
 replace hX := hX.trans hE25
 replace hKp := hKp.ext hE25
 have sz25 := hE25.size
 have hst2 : stepM (src.length + 1) p (src.drop i) = .ok ([⟨wk, p.1, p.2, wn, wt⟩], src.drop j, q) := by rw [stepM_word hc h1 h2 h5 h6 h7, hm]; simp only []; rw [← cutIJ_head hij hc, hw]
 refine ewl_nil (onwt_n hKp ?_)
 refine ewt_br rfl ?_ ewt_none
 refine ewl_bs rfl rfl sl41 zr59 rfl rfl rfl rfl rfl fun b9 w41 hb22 hE26 hs9 hz16 => ?_
 replace hscl := hscl.ext hE26
 replace hl2 := hl2.ext hE26
 replace hrow := hrow.ext hE26
 replace hX := hX.trans hE26
 replace hKp := hKp.ext hE26
 refine ewl_nil (onwt_n hKp ?_)
 refine ewt_br rfl ?_ ewt_none
 refine ewl_app1 rfl ap41 rfl rfl rfl rfl hrow hb22 rfl rfl (by omega) (by omega) fun ta2 tc2 w42 hr2 hG2 => ?_
 have hlow2 : ∀ x, rb ta2 = some x → w0.heap.size ≤ x ∧ x ≠ b := low_grow hG2 hlow (by omega)
 replace hscl := hscl.grow hG2 (fun e => by have := hlow _ e.symm; have := hlowl _ e.symm; omega)
 replace hl2 := hl2.grow hG2 (fun e => by have := hlow _ e.symm; have := hlowl _ e.symm; omega)
 replace hX := hX.grow hG2 (fun x hx => (hlow x hx).1)
 replace hKp := hKp.grow hG2 (by simp only [List.mem_cons, List.not_mem_nil, or_false]; intro c hc e; have := hlow _ e.symm; have := hlowl _ e.symm; omega)
 have sz26 := hG2.size
 refine ewl_nil (onwt_n hKp ?_)
 refine ewt_rd rfl rfl (fun _ hS => rn_nc rfl) ?_
 refine ewt_rd rfl rfl (fun _ hS => rn_fa rfl fl57_3) ?_
 refine ewt_br rfl ?_ ewt_none
 refine ewl_store rfl rfl rfl ti41 rfl hscl rfl rfl fun w43 hb23 hC9 => ?_
 replace hl2 := hl2.chg hC9 (by omega)
 replace hr2 := Row.chg hr2 hC9 (fun e => by have := hlow2 _ e; omega)
 replace hX := hX.chg hC9 (by omega)
 replace hKp := hKp.chg hC9 (by simp only [List.mem_cons, List.not_mem_nil, or_false]; omega)
 have sz27 := hC9.size
 refine ewl_nil (onwt_n hKp ?_)
 refine ewt_fin ?_
 refine blk_n ?_
 refine fn_n (res0 rfl) ?_
 exact ⟨[⟨wk, p.1, p.2, wn, wt⟩], j, q, ta2, tc2, hst2, rfl, by rw [List.length_append]; exact hb23, by rw [List.length_append, toksC_app]; exact hr2, hlow2, hX, by omega, by first | omega | (have := lt_at hc; omega), hq⟩
 refine ewt_br rfl ?_ ?_
 refine ewl_run rfl (rn_load rfl ti3 hscl rfl) ?_
 refine ewl_nil (onwt_n hKp ?_)
 refine ewt_br rfl ?_ ewt_none
 refine ewl_run rfl (rn_load rfl ti9 hscl rfl) ?_
 refine ewl_nil (onwt_n hKp ?_)
 refine ewt_rd rfl rfl (fun _ hS => rn_slS rfl rfl rfl un9 ⟨by omega, by omega, by omega⟩) ?_
 refine ewt_br rfl ?_ ewt_none
 refine ewl_retp rfl (en_call ent37 rfl rfl) (word_spec hPF _ (hG.ext hX) (cutIJ src i j) (by have := cutIJ_len src i j; omega) (by rw [cutIJ_head hij hc]; simp) p) ?_ (fun cc wp hc1 => And.intro rfl (let ⟨he, hcc, hE⟩ := hc1; ⟨p, by rw [stepM_word hc h1 h2 h5 h6 h7, hm]; simp only []; rw [← cutIJ_head hij hc, he], hcc, hX.trans hE⟩))
 rintro _ w44 ⟨wk, wn, wt, hw, rfl, hE27⟩
 replace hscl := hscl.ext hE27
 replace hl2 := hl2.ext hE27
 replace hrow := hrow.ext hE27
 replace hX := hX.trans hE27
 replace hKp := hKp.ext hE27
 have sz28 := hE27.size
 have hst2 : stepM (src.length + 1) p (src.drop i) = .ok ([⟨wk, p.1, p.2, wn, wt⟩], src.drop j, q) := by rw [stepM_word hc h1 h2 h5 h6 h7, hm]; simp only []; rw [← cutIJ_head hij hc, hw]
 refine ewl_nil (onwt_n hKp ?_)
 refine ewt_br rfl ?_ ewt_none
 refine ewl_bs rfl rfl sl41 zr59 rfl rfl rfl rfl rfl fun b10 w45 hb24 hE28 hs10 hz17 => ?_
 replace hscl := hscl.ext hE28
 replace hl2 := hl2.ext hE28
 replace hrow := hrow.ext hE28
 replace hX := hX.trans hE28
 replace hKp := hKp.ext hE28
 refine ewl_nil (onwt_n hKp ?_)
 refine ewt_br rfl ?_ ewt_none
 refine ewl_app1 rfl ap41 rfl rfl rfl rfl hrow hb24 rfl rfl (by omega) (by omega) fun ta2 tc2 w46 hr2 hG2 => ?_
 have hlow2 : ∀ x, rb ta2 = some x → w0.heap.size ≤ x ∧ x ≠ b := low_grow hG2 hlow (by omega)
 replace hscl := hscl.grow hG2 (fun e => by have := hlow _ e.symm; have := hlowl _ e.symm; omega)
 replace hl2 := hl2.grow hG2 (fun e => by have := hlow _ e.symm; have := hlowl _ e.symm; omega)
 replace hX := hX.grow hG2 (fun x hx => (hlow x hx).1)
 replace hKp := hKp.grow hG2 (by simp only [List.mem_cons, List.not_mem_nil, or_false]; intro c hc e; have := hlow _ e.symm; have := hlowl _ e.symm; omega)
 have sz29 := hG2.size
 refine ewl_nil (onwt_n hKp ?_)
 refine ewt_rd rfl rfl (fun _ hS => rn_nc rfl) ?_
 refine ewt_rd rfl rfl (fun _ hS => rn_fa rfl fl57_3) ?_
 refine ewt_br rfl ?_ ewt_none
 refine ewl_store rfl rfl rfl ti41 rfl hscl rfl rfl fun w47 hb25 hC10 => ?_
 replace hl2 := hl2.chg hC10 (by omega)
 replace hr2 := Row.chg hr2 hC10 (fun e => by have := hlow2 _ e; omega)
 replace hX := hX.chg hC10 (by omega)
 replace hKp := hKp.chg hC10 (by simp only [List.mem_cons, List.not_mem_nil, or_false]; omega)
 have sz30 := hC10.size
 refine ewl_nil (onwt_n hKp ?_)
 refine ewt_fin ?_
 refine blk_n ?_
 refine fn_n (res0 rfl) ?_
 exact ⟨[⟨wk, p.1, p.2, wn, wt⟩], j, q, ta2, tc2, hst2, rfl, by rw [List.length_append]; exact hb25, by rw [List.length_append, toksC_app]; exact hr2, hlow2, hX, by omega, by first | omega | (have := lt_at hc; omega), hq⟩
 exact ewt_none
 refine ewt_br rfl ?_ ?_
 refine ewl_run rfl (rn_load rfl ti9 hscl rfl) ?_
 refine ewl_nil (onwt_n hKp ?_)
 refine ewt_br rfl ?_ ?_
 refine ewl_run rfl (rn_load rfl ti41 hscl rfl) ?_
 refine ewl_nil (onwt_n hKp ?_)
 refine ewt_br rfl ?_ ewt_none
 refine ewl_run rfl (rn_load rfl ti3 hscl rfl) ?_
 refine ewl_nil (onwt_n hKp ?_)
 refine ewt_rd rfl rfl (fun _ hS => rn_slS rfl rfl rfl un9 ⟨by omega, by omega, by omega⟩) ?_
 refine ewt_br rfl ?_ ewt_none
 refine ewl_retp rfl (en_call ent37 rfl rfl) (word_spec hPF _ (hG.ext hX) (cutIJ src i j) (by have := cutIJ_len src i j; omega) (by rw [cutIJ_head hij hc]; simp) p) ?_ (fun cc wp hc1 => And.intro rfl (let ⟨he, hcc, hE⟩ := hc1; ⟨p, by rw [stepM_word hc h1 h2 h5 h6 h7, hm]; simp only []; rw [← cutIJ_head hij hc, he], hcc, hX.trans hE⟩))
 rintro _ w48 ⟨wk, wn, wt, hw, rfl, hE29⟩
 replace hscl := hscl.ext hE29
 replace hl2 := hl2.ext hE29
 replace hrow := hrow.ext hE29
 replace hX := hX.trans hE29
 replace hKp := hKp.ext hE29
 have sz31 := hE29.size
 have hst2 : stepM (src.length + 1) p (src.drop i) = .ok ([⟨wk, p.1, p.2, wn, wt⟩], src.drop j, q) := by rw [stepM_word hc h1 h2 h5 h6 h7, hm]; simp only []; rw [← cutIJ_head hij hc, hw]
 refine ewl_nil (onwt_n hKp ?_)
 refine ewt_br rfl ?_ ewt_none
 refine ewl_bs rfl rfl sl41 zr59 rfl rfl rfl rfl rfl fun b11 w49 hb26 hE30 hs11 hz18 => ?_
 replace hscl := hscl.ext hE30
 replace hl2 := hl2.ext hE30
 replace hrow := hrow.ext hE30
 replace hX := hX.trans hE30
 replace hKp := hKp.ext hE30
 refine ewl_nil (onwt_n hKp ?_)
 refine ewt_br rfl ?_ ewt_none
 refine ewl_app1 rfl ap41 rfl rfl rfl rfl hrow hb26 rfl rfl (by omega) (by omega) fun ta2 tc2 w50 hr2 hG2 => ?_
 have hlow2 : ∀ x, rb ta2 = some x → w0.heap.size ≤ x ∧ x ≠ b := low_grow hG2 hlow (by omega)
 replace hscl := hscl.grow hG2 (fun e => by have := hlow _ e.symm; have := hlowl _ e.symm; omega)
 replace hl2 := hl2.grow hG2 (fun e => by have := hlow _ e.symm; have := hlowl _ e.symm; omega)
 replace hX := hX.grow hG2 (fun x hx => (hlow x hx).1)
 replace hKp := hKp.grow hG2 (by simp only [List.mem_cons, List.not_mem_nil, or_false]; intro c hc e; have := hlow _ e.symm; have := hlowl _ e.symm; omega)
 have sz32 := hG2.size
 refine ewl_nil (onwt_n hKp ?_)
 refine ewt_rd rfl rfl (fun _ hS => rn_nc rfl) ?_
 refine ewt_rd rfl rfl (fun _ hS => rn_fa rfl fl57_3) ?_
 refine ewt_br rfl ?_ ewt_none
 refine ewl_store rfl rfl rfl ti41 rfl hscl rfl rfl fun w51 hb27 hC11 => ?_
 replace hl2 := hl2.chg hC11 (by omega)
 replace hr2 := Row.chg hr2 hC11 (fun e => by have := hlow2 _ e; omega)
 replace hX := hX.chg hC11 (by omega)
 replace hKp := hKp.chg hC11 (by simp only [List.mem_cons, List.not_mem_nil, or_false]; omega)
 have sz33 := hC11.size
 refine ewl_nil (onwt_n hKp ?_)
 refine ewt_fin ?_
 refine blk_n ?_
 refine fn_n (res0 rfl) ?_
 exact ⟨[⟨wk, p.1, p.2, wn, wt⟩], j, q, ta2, tc2, hst2, rfl, by rw [List.length_append]; exact hb27, by rw [List.length_append, toksC_app]; exact hr2, hlow2, hX, by omega, by first | omega | (have := lt_at hc; omega), hq⟩
 refine ewt_br rfl ?_ ?_
 refine ewl_run rfl (rn_load rfl ti3 hscl rfl) ?_
 refine ewl_nil (onwt_n hKp ?_)
 refine ewt_rd rfl rfl (fun _ hS => rn_slS rfl rfl rfl un9 ⟨by omega, by omega, by omega⟩) ?_
 refine ewt_br rfl ?_ ?_
 refine ewl_run rfl (rn_load rfl ti41 hscl rfl) ?_
 refine ewl_nil (onwt_n hKp ?_)
 refine ewt_br rfl ?_ ewt_none
 refine ewl_retp rfl (en_call ent37 rfl rfl) (word_spec hPF _ (hG.ext hX) (cutIJ src i j) (by have := cutIJ_len src i j; omega) (by rw [cutIJ_head hij hc]; simp) p) ?_ (fun cc wp hc1 => And.intro rfl (let ⟨he, hcc, hE⟩ := hc1; ⟨p, by rw [stepM_word hc h1 h2 h5 h6 h7, hm]; simp only []; rw [← cutIJ_head hij hc, he], hcc, hX.trans hE⟩))
 rintro _ w52 ⟨wk, wn, wt, hw, rfl, hE31⟩
 replace hscl := hscl.ext hE31
 replace hl2 := hl2.ext hE31
 replace hrow := hrow.ext hE31
 replace hX := hX.trans hE31
 replace hKp := hKp.ext hE31
 have sz34 := hE31.size
 have hst2 : stepM (src.length + 1) p (src.drop i) = .ok ([⟨wk, p.1, p.2, wn, wt⟩], src.drop j, q) := by rw [stepM_word hc h1 h2 h5 h6 h7, hm]; simp only []; rw [← cutIJ_head hij hc, hw]
 refine ewl_nil (onwt_n hKp ?_)
 refine ewt_br rfl ?_ ewt_none
 refine ewl_bs rfl rfl sl41 zr59 rfl rfl rfl rfl rfl fun b12 w53 hb28 hE32 hs12 hz19 => ?_
 replace hscl := hscl.ext hE32
 replace hl2 := hl2.ext hE32
 replace hrow := hrow.ext hE32
 replace hX := hX.trans hE32
 replace hKp := hKp.ext hE32
 refine ewl_nil (onwt_n hKp ?_)
 refine ewt_br rfl ?_ ewt_none
 refine ewl_app1 rfl ap41 rfl rfl rfl rfl hrow hb28 rfl rfl (by omega) (by omega) fun ta2 tc2 w54 hr2 hG2 => ?_
 have hlow2 : ∀ x, rb ta2 = some x → w0.heap.size ≤ x ∧ x ≠ b := low_grow hG2 hlow (by omega)
 replace hscl := hscl.grow hG2 (fun e => by have := hlow _ e.symm; have := hlowl _ e.symm; omega)
 replace hl2 := hl2.grow hG2 (fun e => by have := hlow _ e.symm; have := hlowl _ e.symm; omega)
 replace hX := hX.grow hG2 (fun x hx => (hlow x hx).1)
 replace hKp := hKp.grow hG2 (by simp only [List.mem_cons, List.not_mem_nil, or_false]; intro c hc e; have := hlow _ e.symm; have := hlowl _ e.symm; omega)
 have sz35 := hG2.size
 refine ewl_nil (onwt_n hKp ?_)
 refine ewt_rd rfl rfl (fun _ hS => rn_nc rfl) ?_
 refine ewt_rd rfl rfl (fun _ hS => rn_fa rfl fl57_3) ?_
 refine ewt_br rfl ?_ ewt_none
 refine ewl_store rfl rfl rfl ti41 rfl hscl rfl rfl fun w55 hb29 hC12 => ?_
 replace hl2 := hl2.chg hC12 (by omega)
 replace hr2 := Row.chg hr2 hC12 (fun e => by have := hlow2 _ e; omega)
 replace hX := hX.chg hC12 (by omega)
 replace hKp := hKp.chg hC12 (by simp only [List.mem_cons, List.not_mem_nil, or_false]; omega)
 have sz36 := hC12.size
 refine ewl_nil (onwt_n hKp ?_)
 refine ewt_fin ?_
 refine blk_n ?_
 refine fn_n (res0 rfl) ?_
 exact ⟨[⟨wk, p.1, p.2, wn, wt⟩], j, q, ta2, tc2, hst2, rfl, by rw [List.length_append]; exact hb29, by rw [List.length_append, toksC_app]; exact hr2, hlow2, hX, by omega, by first | omega | (have := lt_at hc; omega), hq⟩
 refine ewt_br rfl ?_ ?_
 refine ewl_retp rfl (en_call ent37 rfl rfl) (word_spec hPF _ (hG.ext hX) (cutIJ src i j) (by have := cutIJ_len src i j; omega) (by rw [cutIJ_head hij hc]; simp) p) ?_ (fun cc wp hc1 => And.intro rfl (let ⟨he, hcc, hE⟩ := hc1; ⟨p, by rw [stepM_word hc h1 h2 h5 h6 h7, hm]; simp only []; rw [← cutIJ_head hij hc, he], hcc, hX.trans hE⟩))
 rintro _ w56 ⟨wk, wn, wt, hw, rfl, hE33⟩
 replace hscl := hscl.ext hE33
 replace hl2 := hl2.ext hE33
 replace hrow := hrow.ext hE33
 replace hX := hX.trans hE33
 replace hKp := hKp.ext hE33
 have sz37 := hE33.size
 have hst2 : stepM (src.length + 1) p (src.drop i) = .ok ([⟨wk, p.1, p.2, wn, wt⟩], src.drop j, q) := by rw [stepM_word hc h1 h2 h5 h6 h7, hm]; simp only []; rw [← cutIJ_head hij hc, hw]
 refine ewl_nil (onwt_n hKp ?_)
 refine ewt_br rfl ?_ ?_
 refine ewl_run rfl (rn_load rfl ti41 hscl rfl) ?_
 refine ewl_nil (onwt_n hKp ?_)
 refine ewt_br rfl ?_ ewt_none
 refine ewl_bs rfl rfl sl41 zr59 rfl rfl rfl rfl rfl fun b13 w57 hb30 hE34 hs13 hz20 => ?_
 replace hscl := hscl.ext hE34
 replace hl2 := hl2.ext hE34
 replace hrow := hrow.ext hE34
 replace hX := hX.trans hE34
 replace hKp := hKp.ext hE34
 refine ewl_nil (onwt_n hKp ?_)
 refine ewt_br rfl ?_ ewt_none
 refine ewl_app1 rfl ap41 rfl rfl rfl rfl hrow hb30 rfl rfl (by omega) (by omega) fun ta2 tc2 w58 hr2 hG2 => ?_
 have hlow2 : ∀ x, rb ta2 = some x → w0.heap.size ≤ x ∧ x ≠ b := low_grow hG2 hlow (by omega)
 replace hscl := hscl.grow hG2 (fun e => by have := hlow _ e.symm; have := hlowl _ e.symm; omega)
 replace hl2 := hl2.grow hG2 (fun e => by have := hlow _ e.symm; have := hlowl _ e.symm; omega)
 replace hX := hX.grow hG2 (fun x hx => (hlow x hx).1)
 replace hKp := hKp.grow hG2 (by simp only [List.mem_cons, List.not_mem_nil, or_false]; intro c hc e; have := hlow _ e.symm; have := hlowl _ e.symm; omega)
 have sz38 := hG2.size
 refine ewl_nil (onwt_n hKp ?_)
 refine ewt_rd rfl rfl (fun _ hS => rn_nc rfl) ?_
 refine ewt_rd rfl rfl (fun _ hS => rn_fa rfl fl57_3) ?_
 refine ewt_br rfl ?_ ewt_none
 refine ewl_store rfl rfl rfl ti41 rfl hscl rfl rfl fun w59 hb31 hC13 => ?_
 replace hl2 := hl2.chg hC13 (by omega)
 replace hr2 := Row.chg hr2 hC13 (fun e => by have := hlow2 _ e; omega)
 replace hX := hX.chg hC13 (by omega)
 replace hKp := hKp.chg hC13 (by simp only [List.mem_cons, List.not_mem_nil, or_false]; omega)
 have sz39 := hC13.size
 refine ewl_nil (onwt_n hKp ?_)
 refine ewt_fin ?_
 refine blk_n ?_
 refine fn_n (res0 rfl) ?_
 exact ⟨[⟨wk, p.1, p.2, wn, wt⟩], j, q, ta2, tc2, hst2, rfl, by rw [List.length_append]; exact hb31, by rw [List.length_append, toksC_app]; exact hr2, hlow2, hX, by omega, by first | omega | (have := lt_at hc; omega), hq⟩
 refine ewt_br rfl ?_ ?_
 refine ewl_bs rfl rfl sl41 zr59 rfl rfl rfl rfl rfl fun b14 w60 hb32 hE35 hs14 hz21 => ?_
 replace hscl := hscl.ext hE35
 replace hl2 := hl2.ext hE35
 replace hrow := hrow.ext hE35
 replace hX := hX.trans hE35
 replace hKp := hKp.ext hE35
 refine ewl_nil (onwt_n hKp ?_)
 refine ewt_br rfl ?_ ewt_none
 refine ewl_run rfl (rn_load rfl ti41 hscl rfl) ?_
 refine ewl_nil (onwt_n hKp ?_)
 refine ewt_br rfl ?_ ewt_none
 refine ewl_app1 rfl ap41 rfl rfl rfl rfl hrow hb32 rfl rfl (by omega) (by omega) fun ta2 tc2 w61 hr2 hG2 => ?_
 have hlow2 : ∀ x, rb ta2 = some x → w0.heap.size ≤ x ∧ x ≠ b := low_grow hG2 hlow (by omega)
 replace hscl := hscl.grow hG2 (fun e => by have := hlow _ e.symm; have := hlowl _ e.symm; omega)
 replace hl2 := hl2.grow hG2 (fun e => by have := hlow _ e.symm; have := hlowl _ e.symm; omega)
 replace hX := hX.grow hG2 (fun x hx => (hlow x hx).1)
 replace hKp := hKp.grow hG2 (by simp only [List.mem_cons, List.not_mem_nil, or_false]; intro c hc e; have := hlow _ e.symm; have := hlowl _ e.symm; omega)
 have sz40 := hG2.size
 refine ewl_nil (onwt_n hKp ?_)
 refine ewt_rd rfl rfl (fun _ hS => rn_nc rfl) ?_
 refine ewt_rd rfl rfl (fun _ hS => rn_fa rfl fl57_3) ?_
 refine ewt_br rfl ?_ ewt_none
 refine ewl_store rfl rfl rfl ti41 rfl hscl rfl rfl fun w62 hb33 hC14 => ?_
 replace hl2 := hl2.chg hC14 (by omega)
 replace hr2 := Row.chg hr2 hC14 (fun e => by have := hlow2 _ e; omega)
 replace hX := hX.chg hC14 (by omega)
 replace hKp := hKp.chg hC14 (by simp only [List.mem_cons, List.not_mem_nil, or_false]; omega)
 have sz41 := hC14.size
 refine ewl_nil (onwt_n hKp ?_)
 refine ewt_fin ?_
 refine blk_n ?_
 refine fn_n (res0 rfl) ?_
 exact ⟨[⟨wk, p.1, p.2, wn, wt⟩], j, q, ta2, tc2, hst2, rfl, by rw [List.length_append]; exact hb33, by rw [List.length_append, toksC_app]; exact hr2, hlow2, hX, by omega, by first | omega | (have := lt_at hc; omega), hq⟩
 exact ewt_none
 exact ewt_none
 exact ewt_none
 refine ewt_br rfl ?_ ?_
 refine ewl_run rfl (rn_load rfl ti3 hscl rfl) ?_
 refine ewl_nil (onwt_n hKp ?_)
 refine ewt_br rfl ?_ ?_
 refine ewl_run rfl (rn_load rfl ti41 hscl rfl) ?_
 refine ewl_nil (onwt_n hKp ?_)
 refine ewt_br rfl ?_ ewt_none
 refine ewl_run rfl (rn_load rfl ti9 hscl rfl) ?_
 refine ewl_nil (onwt_n hKp ?_)
 refine ewt_rd rfl rfl (fun _ hS => rn_slS rfl rfl rfl un9 ⟨by omega, by omega, by omega⟩) ?_
 refine ewt_br rfl ?_ ewt_none
 refine ewl_retp rfl (en_call ent37 rfl rfl) (word_spec hPF _ (hG.ext hX) (cutIJ src i j) (by have := cutIJ_len src i j; omega) (by rw [cutIJ_head hij hc]; simp) p) ?_ (fun cc wp hc1 => And.intro rfl (let ⟨he, hcc, hE⟩ := hc1; ⟨p, by rw [stepM_word hc h1 h2 h5 h6 h7, hm]; simp only []; rw [← cutIJ_head hij hc, he], hcc, hX.trans hE⟩))
 rintro _ w63 ⟨wk, wn, wt, hw, rfl, hE36⟩
 replace hscl := hscl.ext hE36
 replace hl2 := hl2.ext hE36
 replace hrow := hrow.ext hE36
 replace hX := hX.trans hE36
 replace hKp := hKp.ext hE36
 have sz42 := hE36.size
 have hst2 : stepM (src.length + 1) p (src.drop i) = .ok ([⟨wk, p.1, p.2, wn, wt⟩], src.drop j, q) := by rw [stepM_word hc h1 h2 h5 h6 h7, hm]; simp only []; rw [← cutIJ_head hij hc, hw]
 refine ewl_nil (onwt_n hKp ?_)
 refine ewt_br rfl ?_ ewt_none
 refine ewl_bs rfl rfl sl41 zr59 rfl rfl rfl rfl rfl fun b15 w64 hb34 hE37 hs15 hz22 => ?_
 replace hscl := hscl.ext hE37
 replace hl2 := hl2.ext hE37
 replace hrow := hrow.ext hE37
 replace hX := hX.trans hE37
 replace hKp := hKp.ext hE37
 refine ewl_nil (onwt_n hKp ?_)
 refine ewt_br rfl ?_ ewt_none
 refine ewl_app1 rfl ap41 rfl rfl rfl rfl hrow hb34 rfl rfl (by omega) (by omega) fun ta2 tc2 w65 hr2 hG2 => ?_
 have hlow2 : ∀ x, rb ta2 = some x → w0.heap.size ≤ x ∧ x ≠ b := low_grow hG2 hlow (by omega)
 replace hscl := hscl.grow hG2 (fun e => by have := hlow _ e.symm; have := hlowl _ e.symm; omega)
 replace hl2 := hl2.grow hG2 (fun e => by have := hlow _ e.symm; have := hlowl _ e.symm; omega)
 replace hX := hX.grow hG2 (fun x hx => (hlow x hx).1)
 replace hKp := hKp.grow hG2 (by simp only [List.mem_cons, List.not_mem_nil, or_false]; intro c hc e; have := hlow _ e.symm; have := hlowl _ e.symm; omega)
 have sz43 := hG2.size
 refine ewl_nil (onwt_n hKp ?_)
 refine ewt_rd rfl rfl (fun _ hS => rn_nc rfl) ?_
 refine ewt_rd rfl rfl (fun _ hS => rn_fa rfl fl57_3) ?_
 refine ewt_br rfl ?_ ewt_none
 refine ewl_store rfl rfl rfl ti41 rfl hscl rfl rfl fun w66 hb35 hC15 => ?_
 replace hl2 := hl2.chg hC15 (by omega)
 replace hr2 := Row.chg hr2 hC15 (fun e => by have := hlow2 _ e; omega)
 replace hX := hX.chg hC15 (by omega)
 replace hKp := hKp.chg hC15 (by simp only [List.mem_cons, List.not_mem_nil, or_false]; omega)
 have sz44 := hC15.size
 refine ewl_nil (onwt_n hKp ?_)
 refine ewt_fin ?_
 refine blk_n ?_
 refine fn_n (res0 rfl) ?_
 exact ⟨[⟨wk, p.1, p.2, wn, wt⟩], j, q, ta2, tc2, hst2, rfl, by rw [List.length_append]; exact hb35, by rw [List.length_append, toksC_app]; exact hr2, hlow2, hX, by omega, by first | omega | (have := lt_at hc; omega), hq⟩
 refine ewt_br rfl ?_ ?_
 refine ewl_run rfl (rn_load rfl ti9 hscl rfl) ?_
 refine ewl_nil (onwt_n hKp ?_)
 refine ewt_rd rfl rfl (fun _ hS => rn_slS rfl rfl rfl un9 ⟨by omega, by omega, by omega⟩) ?_
 refine ewt_br rfl ?_ ?_
 refine ewl_run rfl (rn_load rfl ti41 hscl rfl) ?_
 refine ewl_nil (onwt_n hKp ?_)
 refine ewt_br rfl ?_ ewt_none
 refine ewl_retp rfl (en_call ent37 rfl rfl) (word_spec hPF _ (hG.ext hX) (cutIJ src i j) (by have := cutIJ_len src i j; omega) (by rw [cutIJ_head hij hc]; simp) p) ?_ (fun cc wp hc1 => And.intro rfl (let ⟨he, hcc, hE⟩ := hc1; ⟨p, by rw [stepM_word hc h1 h2 h5 h6 h7, hm]; simp only []; rw [← cutIJ_head hij hc, he], hcc, hX.trans hE⟩))
 rintro _ w67 ⟨wk, wn, wt, hw, rfl, hE38⟩
 replace hscl := hscl.ext hE38
 replace hl2 := hl2.ext hE38
 replace hrow := hrow.ext hE38
 replace hX := hX.trans hE38
 replace hKp := hKp.ext hE38
 have sz45 := hE38.size
 have hst2 : stepM (src.length + 1) p (src.drop i) = .ok ([⟨wk, p.1, p.2, wn, wt⟩], src.drop j, q) := by rw [stepM_word hc h1 h2 h5 h6 h7, hm]; simp only []; rw [← cutIJ_head hij hc, hw]
 refine ewl_nil (onwt_n hKp ?_)
 refine ewt_br rfl ?_ ewt_none
 refine ewl_bs rfl rfl sl41 zr59 rfl rfl rfl rfl rfl fun b16 w68 hb36 hE39 hs16 hz23 => ?_
 replace hscl := hscl.ext hE39
 replace hl2 := hl2.ext hE39
 replace hrow := hrow.ext hE39
 replace hX := hX.trans hE39
 replace hKp := hKp.ext hE39
 refine ewl_nil (onwt_n hKp ?_)
 refine ewt_br rfl ?_ ewt_none
 refine ewl_app1 rfl ap41 rfl rfl rfl rfl hrow hb36 rfl rfl (by omega) (by omega) fun ta2 tc2 w69 hr2 hG2 => ?_
 have hlow2 : ∀ x, rb ta2 = some x → w0.heap.size ≤ x ∧ x ≠ b := low_grow hG2 hlow (by omega)
 replace hscl := hscl.grow hG2 (fun e => by have := hlow _ e.symm; have := hlowl _ e.symm; omega)
 replace hl2 := hl2.grow hG2 (fun e => by have := hlow _ e.symm; have := hlowl _ e.symm; omega)
 replace hX := hX.grow hG2 (fun x hx => (hlow x hx).1)
 replace hKp := hKp.grow hG2 (by simp only [List.mem_cons, List.not_mem_nil, or_false]; intro c hc e; have := hlow _ e.symm; have := hlowl _ e.symm; omega)
 have sz46 := hG2.size
 refine ewl_nil (onwt_n hKp ?_)
 refine ewt_rd rfl rfl (fun _ hS => rn_nc rfl) ?_
 refine ewt_rd rfl rfl (fun _ hS => rn_fa rfl fl57_3) ?_
 refine ewt_br rfl ?_ ewt_none
 refine ewl_store rfl rfl rfl ti41 rfl hscl rfl rfl fun w70 hb37 hC16 => ?_
 replace hl2 := hl2.chg hC16 (by omega)
 replace hr2 := Row.chg hr2 hC16 (fun e => by have := hlow2 _ e; omega)
 replace hX := hX.chg hC16 (by omega)
 replace hKp := hKp.chg hC16 (by simp only [List.mem_cons, List.not_mem_nil, or_false]; omega)
 have sz47 := hC16.size
 refine ewl_nil (onwt_n hKp ?_)
 refine ewt_fin ?_
 refine blk_n ?_
 refine fn_n (res0 rfl) ?_
 exact ⟨[⟨wk, p.1, p.2, wn, wt⟩], j, q, ta2, tc2, hst2, rfl, by rw [List.length_append]; exact hb37, by rw [List.length_append, toksC_app]; exact hr2, hlow2, hX, by omega, by first | omega | (have := lt_at hc; omega), hq⟩
 refine ewt_br rfl ?_ ?_
 refine ewl_retp rfl (en_call ent37 rfl rfl) (word_spec hPF _ (hG.ext hX) (cutIJ src i j) (by have := cutIJ_len src i j; omega) (by rw [cutIJ_head hij hc]; simp) p) ?_ (fun cc wp hc1 => And.intro rfl (let ⟨he, hcc, hE⟩ := hc1; ⟨p, by rw [stepM_word hc h1 h2 h5 h6 h7, hm]; simp only []; rw [← cutIJ_head hij hc, he], hcc, hX.trans hE⟩))
 rintro _ w71 ⟨wk, wn, wt, hw, rfl, hE40⟩
 replace hscl := hscl.ext hE40
 replace hl2 := hl2.ext hE40
 replace hrow := hrow.ext hE40
 replace hX := hX.trans hE40
 replace hKp := hKp.ext hE40
 have sz48 := hE40.size
 have hst2 : stepM (src.length + 1) p (src.drop i) = .ok ([⟨wk, p.1, p.2, wn, wt⟩], src.drop j, q) := by rw [stepM_word hc h1 h2 h5 h6 h7, hm]; simp only []; rw [← cutIJ_head hij hc, hw]
 refine ewl_nil (onwt_n hKp ?_)
 refine ewt_br rfl ?_ ?_
 refine ewl_run rfl (rn_load rfl ti41 hscl rfl) ?_
 refine ewl_nil (onwt_n hKp ?_)
 refine ewt_br rfl ?_ ewt_none
 refine ewl_bs rfl rfl sl41 zr59 rfl rfl rfl rfl rfl fun b17 w72 hb38 hE41 hs17 hz24 => ?_
 replace hscl := hscl.ext hE41
 replace hl2 := hl2.ext hE41
 replace hrow := hrow.ext hE41
 replace hX := hX.trans hE41
 replace hKp := hKp.ext hE41
 refine ewl_nil (onwt_n hKp ?_)
 refine ewt_br rfl ?_ ewt_none
 refine ewl_app1 rfl ap41 rfl rfl rfl rfl hrow hb38 rfl rfl (by omega) (by omega) fun ta2 tc2 w73 hr2 hG2 => ?_
 have hlow2 : ∀ x, rb ta2 = some x → w0.heap.size ≤ x ∧ x ≠ b := low_grow hG2 hlow (by omega)
 replace hscl := hscl.grow hG2 (fun e => by have := hlow _ e.symm; have := hlowl _ e.symm; omega)
 replace hl2 := hl2.grow hG2 (fun e => by have := hlow _ e.symm; have := hlowl _ e.symm; omega)
 replace hX := hX.grow hG2 (fun x hx => (hlow x hx).1)
 replace hKp := hKp.grow hG2 (by simp only [List.mem_cons, List.not_mem_nil, or_false]; intro c hc e; have := hlow _ e.symm; have := hlowl _ e.symm; omega)
 have sz49 := hG2.size
 refine ewl_nil (onwt_n hKp ?_)
 refine ewt_rd rfl rfl (fun _ hS => rn_nc rfl) ?_
 refine ewt_rd rfl rfl (fun _ hS => rn_fa rfl fl57_3) ?_
 refine ewt_br rfl ?_ ewt_none
 refine ewl_store rfl rfl rfl ti41 rfl hscl rfl rfl fun w74 hb39 hC17 => ?_
 replace hl2 := hl2.chg hC17 (by omega)
 replace hr2 := Row.chg hr2 hC17 (fun e => by have := hlow2 _ e; omega)
 replace hX := hX.chg hC17 (by omega)
 replace hKp := hKp.chg hC17 (by simp only [List.mem_cons, List.not_mem_nil, or_false]; omega)
 have sz50 := hC17.size
 refine ewl_nil (onwt_n hKp ?_)
 refine ewt_fin ?_
 refine blk_n ?_
 refine fn_n (res0 rfl) ?_
 exact ⟨[⟨wk, p.1, p.2, wn, wt⟩], j, q, ta2, tc2, hst2, rfl, by rw [List.length_append]; exact hb39, by rw [List.length_append, toksC_app]; exact hr2, hlow2, hX, by omega, by first | omega | (have := lt_at hc; omega), hq⟩
 refine ewt_br rfl ?_ ?_
 refine ewl_bs rfl rfl sl41 zr59 rfl rfl rfl rfl rfl fun b18 w75 hb40 hE42 hs18 hz25 => ?_
 replace hscl := hscl.ext hE42
 replace hl2 := hl2.ext hE42
 replace hrow := hrow.ext hE42
 replace hX := hX.trans hE42
 replace hKp := hKp.ext hE42
 refine ewl_nil (onwt_n hKp ?_)
 refine ewt_br rfl ?_ ewt_none
 refine ewl_run rfl (rn_load rfl ti41 hscl rfl) ?_
 refine ewl_nil (onwt_n hKp ?_)
 refine ewt_br rfl ?_ ewt_none
 refine ewl_app1 rfl ap41 rfl rfl rfl rfl hrow hb40 rfl rfl (by omega) (by omega) fun ta2 tc2 w76 hr2 hG2 => ?_
 have hlow2 : ∀ x, rb ta2 = some x → w0.heap.size ≤ x ∧ x ≠ b := low_grow hG2 hlow (by omega)
 replace hscl := hscl.grow hG2 (fun e => by have := hlow _ e.symm; have := hlowl _ e.symm; omega)
 replace hl2 := hl2.grow hG2 (fun e => by have := hlow _ e.symm; have := hlowl _ e.symm; omega)
 replace hX := hX.grow hG2 (fun x hx => (hlow x hx).1)
 replace hKp := hKp.grow hG2 (by simp only [List.mem_cons, List.not_mem_nil, or_false]; intro c hc e; have := hlow _ e.symm; have := hlowl _ e.symm; omega)
 have sz51 := hG2.size
 refine ewl_nil (onwt_n hKp ?_)
 refine ewt_rd rfl rfl (fun _ hS => rn_nc rfl) ?_
 refine ewt_rd rfl rfl (fun _ hS => rn_fa rfl fl57_3) ?_
 refine ewt_br rfl ?_ ewt_none
 refine ewl_store rfl rfl rfl ti41 rfl hscl rfl rfl fun w77 hb41 hC18 => ?_
 replace hl2 := hl2.chg hC18 (by omega)
 replace hr2 := Row.chg hr2 hC18 (fun e => by have := hlow2 _ e; omega)
 replace hX := hX.chg hC18 (by omega)
 replace hKp := hKp.chg hC18 (by simp only [List.mem_cons, List.not_mem_nil, or_false]; omega)
 have sz52 := hC18.size
 refine ewl_nil (onwt_n hKp ?_)
 refine ewt_fin ?_
 refine blk_n ?_
 refine fn_n (res0 rfl) ?_
 exact ⟨[⟨wk, p.1, p.2, wn, wt⟩], j, q, ta2, tc2, hst2, rfl, by rw [List.length_append]; exact hb41, by rw [List.length_append, toksC_app]; exact hr2, hlow2, hX, by omega, by first | omega | (have := lt_at hc; omega), hq⟩
 exact ewt_none
 exact ewt_none
 exact ewt_none
 exact ewt_none
 refine ewo_rdo rfl rfl rfl h8 ?_
 refine ewo_rdo rfl rfl rfl h8 ?_
 refine ewo_rdo rfl rfl rfl h8 ?_
 refine ewo_rdo rfl rfl rfl h8 ?_
 refine ewo_rdo rfl rfl rfl h8 ?_
 refine ewo_rdo rfl rfl rfl h8 ?_
 refine ewo_rdo rfl rfl rfl h8 ?_
 refine ewo_rdo rfl rfl rfl h8 ?_
 refine ewo_rdo rfl rfl rfl h8 ?_
 refine ewo_sp ?_
 refine ewl_off rfl rfl rfl h8 ?_
 refine ewl_nil (onw_n hKp ?_)
 refine ewo_rdo rfl rfl rfl h8 ?_
 refine ewo_rd rfl (fun _ hS => rn_pickf rfl h8 rfl) ?_
 refine ewo_nil ?_
 refine thn_n ?_
 refine ewp_iff rfl rfl ?_
 refine ewp_exit ?_
 refine thn_e ?_
 refine lp_e ?_
 refine blk_e ?_
 refine thn_n ?_
 have hst := spanM_stop (p := q) (src := src) (j := j) (.inl (by have := of_decide_eq_false h8; omega))
 rw [hst, List.append_nil] at hm
 have hr10 := hl2
 refine ewp_drawt mixed (Keeps w36 [b1]) (.rd 0 (.rd 1 (.rd 2 (.rd 3 (.rd 5 (.rd 6 (.rd 7 (.rd 9 (.rd 10 (.rd 11 (.rd 12 (.rd 15 (.br 4 (.br 8 (.br 13 (.rd 14 (.br 16 (.br 17 (.br 18 (.rd 19 (.rd 20 (.br 21 .fin .fin))) .fin) .fin) .fin)) .fin) (.br 13 (.br 8 (.rd 14 (.br 16 (.br 17 (.br 18 (.rd 19 (.rd 20 (.br 21 .fin .fin))) .fin) .fin) .fin)) .fin) .fin)) (.br 8 (.br 4 (.br 13 (.rd 14 (.br 16 (.br 17 (.br 18 (.rd 19 (.rd 20 (.br 21 .fin .fin))) .fin) .fin) .fin)) .fin) (.br 13 (.rd 14 (.br 4 (.br 16 (.br 17 (.br 18 (.rd 19 (.rd 20 (.br 21 .fin .fin))) .fin) .fin) .fin) (.br 16 (.br 4 (.br 17 (.br 18 (.rd 19 (.rd 20 (.br 21 .fin .fin))) .fin) .fin) (.br 17 (.br 4 (.br 18 (.rd 19 (.rd 20 (.br 21 .fin .fin))) .fin) .fin) .fin)) .fin))) .fin)) (.br 13 (.br 4 (.br 8 (.rd 14 (.br 16 (.br 17 (.br 18 (.rd 19 (.rd 20 (.br 21 .fin .fin))) .fin) .fin) .fin)) .fin) (.br 8 (.rd 14 (.br 4 (.br 16 (.br 17 (.br 18 (.rd 19 (.rd 20 (.br 21 .fin .fin))) .fin) .fin) .fin) (.br 16 (.br 4 (.br 17 (.br 18 (.rd 19 (.rd 20 (.br 21 .fin .fin))) .fin) .fin) (.br 17 (.br 4 (.br 18 (.rd 19 (.rd 20 (.br 21 .fin .fin))) .fin) .fin) .fin)) .fin))) .fin)) .fin))))))))))))))) (by kernel_rfl) (by kernel_rfl) (by kernel_rfl) fun w78 hE43 hz26 => ?_
 have hKp : Keeps w36 [b1] w78 := Keeps.cons hr10 hE43 (Keeps.nil _ _)
 refine ⟨hKp, ?_⟩
 replace hscl := hscl.ext hE43
 replace hl2 := hl2.ext hE43
 replace hrow := hrow.ext hE43
 replace hX := hX.trans hE43
 refine ewt_rd rfl rfl (fun _ hS => rn_move rfl) ?_
 refine ewt_rd rfl rfl (fun _ hS => rn_move rfl) ?_
 refine ewt_rd rfl rfl (fun _ hS => rn_nc rfl) ?_
 refine ewt_rd rfl rfl (fun _ hS => rn_fa rfl fl57_3) ?_
 refine ewt_rd rfl rfl (fun _ hS => rn_move rfl) ?_
 refine ewt_rd rfl rfl (fun _ hS => rn_nc rfl) ?_
 refine ewt_rd rfl rfl (fun _ hS => rn_fa rfl fl57_0) ?_
 refine ewt_rd rfl rfl (fun _ hS => rn_move rfl) ?_
 refine ewt_rd rfl rfl (fun _ hS => rn_move rfl) ?_
 refine ewt_rd rfl rfl (fun _ hS => rn_nc rfl) ?_
 refine ewt_rd rfl rfl (fun _ hS => rn_fa rfl fl57_1) ?_
 refine ewt_rd rfl rfl (fun _ hS => rn_loada rfl ti25 (hr10.keep hS (.head _)) rfl) ?_
 refine ewt_br rfl ?_ ?_
 refine ewl_run rfl (rn_load rfl ti41 hscl rfl) ?_
 refine ewl_nil (onwt_n hKp ?_)
 refine ewt_br rfl ?_ ?_
 refine ewl_run rfl (rn_load rfl ti9 hscl rfl) ?_
 refine ewl_nil (onwt_n hKp ?_)
 refine ewt_br rfl ?_ ewt_none
 refine ewl_run rfl (rn_load rfl ti3 hscl rfl) ?_
 refine ewl_nil (onwt_n hKp ?_)
 refine ewt_rd rfl rfl (fun _ hS => rn_slS rfl rfl rfl un9 ⟨by omega, by omega, by omega⟩) ?_
 refine ewt_br rfl ?_ ewt_none
 refine ewl_retp rfl (en_call ent37 rfl rfl) (word_spec hPF _ (hG.ext hX) (cutIJ src i j) (by have := cutIJ_len src i j; omega) (by rw [cutIJ_head hij hc]; simp) p) ?_ (fun cc wp hc1 => And.intro rfl (let ⟨he, hcc, hE⟩ := hc1; ⟨p, by rw [stepM_word hc h1 h2 h5 h6 h7, hm]; simp only []; rw [← cutIJ_head hij hc, he], hcc, hX.trans hE⟩))
 rintro _ w79 ⟨wk, wn, wt, hw, rfl, hE44⟩
 replace hscl := hscl.ext hE44
 replace hl2 := hl2.ext hE44
 replace hrow := hrow.ext hE44
 replace hX := hX.trans hE44
 replace hKp := hKp.ext hE44
 have sz53 := hE44.size
 have hst2 : stepM (src.length + 1) p (src.drop i) = .ok ([⟨wk, p.1, p.2, wn, wt⟩], src.drop j, q) := by rw [stepM_word hc h1 h2 h5 h6 h7, hm]; simp only []; rw [← cutIJ_head hij hc, hw]
 refine ewl_nil (onwt_n hKp ?_)
 refine ewt_br rfl ?_ ewt_none
 refine ewl_bs rfl rfl sl41 zr59 rfl rfl rfl rfl rfl fun b19 w80 hb42 hE45 hs19 hz27 => ?_
 replace hscl := hscl.ext hE45
 replace hl2 := hl2.ext hE45
 replace hrow := hrow.ext hE45
 replace hX := hX.trans hE45
 replace hKp := hKp.ext hE45
 refine ewl_nil (onwt_n hKp ?_)
 refine ewt_br rfl ?_ ewt_none
 refine ewl_app1 rfl ap41 rfl rfl rfl rfl hrow hb42 rfl rfl (by omega) (by omega) fun ta2 tc2 w81 hr2 hG2 => ?_
 have hlow2 : ∀ x, rb ta2 = some x → w0.heap.size ≤ x ∧ x ≠ b := low_grow hG2 hlow (by omega)
 replace hscl := hscl.grow hG2 (fun e => by have := hlow _ e.symm; have := hlowl _ e.symm; omega)
 replace hl2 := hl2.grow hG2 (fun e => by have := hlow _ e.symm; have := hlowl _ e.symm; omega)
 replace hX := hX.grow hG2 (fun x hx => (hlow x hx).1)
 replace hKp := hKp.grow hG2 (by simp only [List.mem_cons, List.not_mem_nil, or_false]; intro c hc e; have := hlow _ e.symm; have := hlowl _ e.symm; omega)
 have sz54 := hG2.size
 refine ewl_nil (onwt_n hKp ?_)
 refine ewt_rd rfl rfl (fun _ hS => rn_nc rfl) ?_
 refine ewt_rd rfl rfl (fun _ hS => rn_fa rfl fl57_3) ?_
 refine ewt_br rfl ?_ ewt_none
 refine ewl_store rfl rfl rfl ti41 rfl hscl rfl rfl fun w82 hb43 hC19 => ?_
 replace hl2 := hl2.chg hC19 (by omega)
 replace hr2 := Row.chg hr2 hC19 (fun e => by have := hlow2 _ e; omega)
 replace hX := hX.chg hC19 (by omega)
 replace hKp := hKp.chg hC19 (by simp only [List.mem_cons, List.not_mem_nil, or_false]; omega)
 have sz55 := hC19.size
 refine ewl_nil (onwt_n hKp ?_)
 refine ewt_fin ?_
 refine blk_n ?_
 refine fn_n (res0 rfl) ?_
 exact ⟨[⟨wk, p.1, p.2, wn, wt⟩], j, q, ta2, tc2, hst2, rfl, by rw [List.length_append]; exact hb43, by rw [List.length_append, toksC_app]; exact hr2, hlow2, hX, by omega, by first | omega | (have := lt_at hc; omega), hq⟩
 refine ewt_br rfl ?_ ?_
 refine ewl_run rfl (rn_load rfl ti3 hscl rfl) ?_
 refine ewl_nil (onwt_n hKp ?_)
 refine ewt_br rfl ?_ ewt_none
 refine ewl_run rfl (rn_load rfl ti9 hscl rfl) ?_
 refine ewl_nil (onwt_n hKp ?_)
 refine ewt_rd rfl rfl (fun _ hS => rn_slS rfl rfl rfl un9 ⟨by omega, by omega, by omega⟩) ?_
 refine ewt_br rfl ?_ ewt_none
 refine ewl_retp rfl (en_call ent37 rfl rfl) (word_spec hPF _ (hG.ext hX) (cutIJ src i j) (by have := cutIJ_len src i j; omega) (by rw [cutIJ_head hij hc]; simp) p) ?_ (fun cc wp hc1 => And.intro rfl (let ⟨he, hcc, hE⟩ := hc1; ⟨p, by rw [stepM_word hc h1 h2 h5 h6 h7, hm]; simp only []; rw [← cutIJ_head hij hc, he], hcc, hX.trans hE⟩))
 rintro _ w83 ⟨wk, wn, wt, hw, rfl, hE46⟩
 replace hscl := hscl.ext hE46
 replace hl2 := hl2.ext hE46
 replace hrow := hrow.ext hE46
 replace hX := hX.trans hE46
 replace hKp := hKp.ext hE46
 have sz56 := hE46.size
 have hst2 : stepM (src.length + 1) p (src.drop i) = .ok ([⟨wk, p.1, p.2, wn, wt⟩], src.drop j, q) := by rw [stepM_word hc h1 h2 h5 h6 h7, hm]; simp only []; rw [← cutIJ_head hij hc, hw]
 refine ewl_nil (onwt_n hKp ?_)
 refine ewt_br rfl ?_ ewt_none
 refine ewl_bs rfl rfl sl41 zr59 rfl rfl rfl rfl rfl fun b20 w84 hb44 hE47 hs20 hz28 => ?_
 replace hscl := hscl.ext hE47
 replace hl2 := hl2.ext hE47
 replace hrow := hrow.ext hE47
 replace hX := hX.trans hE47
 replace hKp := hKp.ext hE47
 refine ewl_nil (onwt_n hKp ?_)
 refine ewt_br rfl ?_ ewt_none
 refine ewl_app1 rfl ap41 rfl rfl rfl rfl hrow hb44 rfl rfl (by omega) (by omega) fun ta2 tc2 w85 hr2 hG2 => ?_
 have hlow2 : ∀ x, rb ta2 = some x → w0.heap.size ≤ x ∧ x ≠ b := low_grow hG2 hlow (by omega)
 replace hscl := hscl.grow hG2 (fun e => by have := hlow _ e.symm; have := hlowl _ e.symm; omega)
 replace hl2 := hl2.grow hG2 (fun e => by have := hlow _ e.symm; have := hlowl _ e.symm; omega)
 replace hX := hX.grow hG2 (fun x hx => (hlow x hx).1)
 replace hKp := hKp.grow hG2 (by simp only [List.mem_cons, List.not_mem_nil, or_false]; intro c hc e; have := hlow _ e.symm; have := hlowl _ e.symm; omega)
 have sz57 := hG2.size
 refine ewl_nil (onwt_n hKp ?_)
 refine ewt_rd rfl rfl (fun _ hS => rn_nc rfl) ?_
 refine ewt_rd rfl rfl (fun _ hS => rn_fa rfl fl57_3) ?_
 refine ewt_br rfl ?_ ewt_none
 refine ewl_store rfl rfl rfl ti41 rfl hscl rfl rfl fun w86 hb45 hC20 => ?_
 replace hl2 := hl2.chg hC20 (by omega)
 replace hr2 := Row.chg hr2 hC20 (fun e => by have := hlow2 _ e; omega)
 replace hX := hX.chg hC20 (by omega)
 replace hKp := hKp.chg hC20 (by simp only [List.mem_cons, List.not_mem_nil, or_false]; omega)
 have sz58 := hC20.size
 refine ewl_nil (onwt_n hKp ?_)
 refine ewt_fin ?_
 refine blk_n ?_
 refine fn_n (res0 rfl) ?_
 exact ⟨[⟨wk, p.1, p.2, wn, wt⟩], j, q, ta2, tc2, hst2, rfl, by rw [List.length_append]; exact hb45, by rw [List.length_append, toksC_app]; exact hr2, hlow2, hX, by omega, by first | omega | (have := lt_at hc; omega), hq⟩
 exact ewt_none
 refine ewt_br rfl ?_ ?_
 refine ewl_run rfl (rn_load rfl ti9 hscl rfl) ?_
 refine ewl_nil (onwt_n hKp ?_)
 refine ewt_br rfl ?_ ?_
 refine ewl_run rfl (rn_load rfl ti41 hscl rfl) ?_
 refine ewl_nil (onwt_n hKp ?_)
 refine ewt_br rfl ?_ ewt_none
 refine ewl_run rfl (rn_load rfl ti3 hscl rfl) ?_
 refine ewl_nil (onwt_n hKp ?_)
 refine ewt_rd rfl rfl (fun _ hS => rn_slS rfl rfl rfl un9 ⟨by omega, by omega, by omega⟩) ?_
 refine ewt_br rfl ?_ ewt_none
 refine ewl_retp rfl (en_call ent37 rfl rfl) (word_spec hPF _ (hG.ext hX) (cutIJ src i j) (by have := cutIJ_len src i j; omega) (by rw [cutIJ_head hij hc]; simp) p) ?_ (fun cc wp hc1 => And.intro rfl (let ⟨he, hcc, hE⟩ := hc1; ⟨p, by rw [stepM_word hc h1 h2 h5 h6 h7, hm]; simp only []; rw [← cutIJ_head hij hc, he], hcc, hX.trans hE⟩))
 rintro _ w87 ⟨wk, wn, wt, hw, rfl, hE48⟩
 replace hscl := hscl.ext hE48
 replace hl2 := hl2.ext hE48
 replace hrow := hrow.ext hE48
 replace hX := hX.trans hE48
 replace hKp := hKp.ext hE48
 have sz59 := hE48.size
 have hst2 : stepM (src.length + 1) p (src.drop i) = .ok ([⟨wk, p.1, p.2, wn, wt⟩], src.drop j, q) := by rw [stepM_word hc h1 h2 h5 h6 h7, hm]; simp only []; rw [← cutIJ_head hij hc, hw]
 refine ewl_nil (onwt_n hKp ?_)
 refine ewt_br rfl ?_ ewt_none
 refine ewl_bs rfl rfl sl41 zr59 rfl rfl rfl rfl rfl fun b21 w88 hb46 hE49 hs21 hz29 => ?_
 replace hscl := hscl.ext hE49
 replace hl2 := hl2.ext hE49
 replace hrow := hrow.ext hE49
 replace hX := hX.trans hE49
 replace hKp := hKp.ext hE49
 refine ewl_nil (onwt_n hKp ?_)
 refine ewt_br rfl ?_ ewt_none
 refine ewl_app1 rfl ap41 rfl rfl rfl rfl hrow hb46 rfl rfl (by omega) (by omega) fun ta2 tc2 w89 hr2 hG2 => ?_
 have hlow2 : ∀ x, rb ta2 = some x → w0.heap.size ≤ x ∧ x ≠ b := low_grow hG2 hlow (by omega)
 replace hscl := hscl.grow hG2 (fun e => by have := hlow _ e.symm; have := hlowl _ e.symm; omega)
 replace hl2 := hl2.grow hG2 (fun e => by have := hlow _ e.symm; have := hlowl _ e.symm; omega)
 replace hX := hX.grow hG2 (fun x hx => (hlow x hx).1)
 replace hKp := hKp.grow hG2 (by simp only [List.mem_cons, List.not_mem_nil, or_false]; intro c hc e; have := hlow _ e.symm; have := hlowl _ e.symm; omega)
 have sz60 := hG2.size
 refine ewl_nil (onwt_n hKp ?_)
 refine ewt_rd rfl rfl (fun _ hS => rn_nc rfl) ?_
 refine ewt_rd rfl rfl (fun _ hS => rn_fa rfl fl57_3) ?_
 refine ewt_br rfl ?_ ewt_none
 refine ewl_store rfl rfl rfl ti41 rfl hscl rfl rfl fun w90 hb47 hC21 => ?_
 replace hl2 := hl2.chg hC21 (by omega)
 replace hr2 := Row.chg hr2 hC21 (fun e => by have := hlow2 _ e; omega)
 replace hX := hX.chg hC21 (by omega)
 replace hKp := hKp.chg hC21 (by simp only [List.mem_cons, List.not_mem_nil, or_false]; omega)
 have sz61 := hC21.size
 refine ewl_nil (onwt_n hKp ?_)
 refine ewt_fin ?_
 refine blk_n ?_
 refine fn_n (res0 rfl) ?_
 exact ⟨[⟨wk, p.1, p.2, wn, wt⟩], j, q, ta2, tc2, hst2, rfl, by rw [List.length_append]; exact hb47, by rw [List.length_append, toksC_app]; exact hr2, hlow2, hX, by omega, by first | omega | (have := lt_at hc; omega), hq⟩
 refine ewt_br rfl ?_ ?_
 refine ewl_run rfl (rn_load rfl ti3 hscl rfl) ?_
 refine ewl_nil (onwt_n hKp ?_)
 refine ewt_rd rfl rfl (fun _ hS => rn_slS rfl rfl rfl un9 ⟨by omega, by omega, by omega⟩) ?_
 refine ewt_br rfl ?_ ?_
 refine ewl_run rfl (rn_load rfl ti41 hscl rfl) ?_
 refine ewl_nil (onwt_n hKp ?_)
 refine ewt_br rfl ?_ ewt_none
 refine ewl_retp rfl (en_call ent37 rfl rfl) (word_spec hPF _ (hG.ext hX) (cutIJ src i j) (by have := cutIJ_len src i j; omega) (by rw [cutIJ_head hij hc]; simp) p) ?_ (fun cc wp hc1 => And.intro rfl (let ⟨he, hcc, hE⟩ := hc1; ⟨p, by rw [stepM_word hc h1 h2 h5 h6 h7, hm]; simp only []; rw [← cutIJ_head hij hc, he], hcc, hX.trans hE⟩))
 rintro _ w91 ⟨wk, wn, wt, hw, rfl, hE50⟩
 replace hscl := hscl.ext hE50
 replace hl2 := hl2.ext hE50
 replace hrow := hrow.ext hE50
 replace hX := hX.trans hE50
 replace hKp := hKp.ext hE50
 have sz62 := hE50.size
 have hst2 : stepM (src.length + 1) p (src.drop i) = .ok ([⟨wk, p.1, p.2, wn, wt⟩], src.drop j, q) := by rw [stepM_word hc h1 h2 h5 h6 h7, hm]; simp only []; rw [← cutIJ_head hij hc, hw]
 refine ewl_nil (onwt_n hKp ?_)
 refine ewt_br rfl ?_ ewt_none
 refine ewl_bs rfl rfl sl41 zr59 rfl rfl rfl rfl rfl fun b22 w92 hb48 hE51 hs22 hz30 => ?_
 replace hscl := hscl.ext hE51
 replace hl2 := hl2.ext hE51
 replace hrow := hrow.ext hE51
 replace hX := hX.trans hE51
 replace hKp := hKp.ext hE51
 refine ewl_nil (onwt_n hKp ?_)
 refine ewt_br rfl ?_ ewt_none
 refine ewl_app1 rfl ap41 rfl rfl rfl rfl hrow hb48 rfl rfl (by omega) (by omega) fun ta2 tc2 w93 hr2 hG2 => ?_
 have hlow2 : ∀ x, rb ta2 = some x → w0.heap.size ≤ x ∧ x ≠ b := low_grow hG2 hlow (by omega)
 replace hscl := hscl.grow hG2 (fun e => by have := hlow _ e.symm; have := hlowl _ e.symm; omega)
 replace hl2 := hl2.grow hG2 (fun e => by have := hlow _ e.symm; have := hlowl _ e.symm; omega)
 replace hX := hX.grow hG2 (fun x hx => (hlow x hx).1)
 replace hKp := hKp.grow hG2 (by simp only [List.mem_cons, List.not_mem_nil, or_false]; intro c hc e; have := hlow _ e.symm; have := hlowl _ e.symm; omega)
 have sz63 := hG2.size
 refine ewl_nil (onwt_n hKp ?_)
 refine ewt_rd rfl rfl (fun _ hS => rn_nc rfl) ?_
 refine ewt_rd rfl rfl (fun _ hS => rn_fa rfl fl57_3) ?_
 refine ewt_br rfl ?_ ewt_none
 refine ewl_store rfl rfl rfl ti41 rfl hscl rfl rfl fun w94 hb49 hC22 => ?_
 replace hl2 := hl2.chg hC22 (by omega)
 replace hr2 := Row.chg hr2 hC22 (fun e => by have := hlow2 _ e; omega)
 replace hX := hX.chg hC22 (by omega)
 replace hKp := hKp.chg hC22 (by simp only [List.mem_cons, List.not_mem_nil, or_false]; omega)
 have sz64 := hC22.size
 refine ewl_nil (onwt_n hKp ?_)
 refine ewt_fin ?_
 refine blk_n ?_
 refine fn_n (res0 rfl) ?_
 exact ⟨[⟨wk, p.1, p.2, wn, wt⟩], j, q, ta2, tc2, hst2, rfl, by rw [List.length_append]; exact hb49, by rw [List.length_append, toksC_app]; exact hr2, hlow2, hX, by omega, by first | omega | (have := lt_at hc; omega), hq⟩
 refine ewt_br rfl ?_ ?_
 refine ewl_retp rfl (en_call ent37 rfl rfl) (word_spec hPF _ (hG.ext hX) (cutIJ src i j) (by have := cutIJ_len src i j; omega) (by rw [cutIJ_head hij hc]; simp) p) ?_ (fun cc wp hc1 => And.intro rfl (let ⟨he, hcc, hE⟩ := hc1; ⟨p, by rw [stepM_word hc h1 h2 h5 h6 h7, hm]; simp only []; rw [← cutIJ_head hij hc, he], hcc, hX.trans hE⟩))
 rintro _ w95 ⟨wk, wn, wt, hw, rfl, hE52⟩
 replace hscl := hscl.ext hE52
 replace hl2 := hl2.ext hE52
 replace hrow := hrow.ext hE52
 replace hX := hX.trans hE52
 replace hKp := hKp.ext hE52
 have sz65 := hE52.size
 have hst2 : stepM (src.length + 1) p (src.drop i) = .ok ([⟨wk, p.1, p.2, wn, wt⟩], src.drop j, q) := by rw [stepM_word hc h1 h2 h5 h6 h7, hm]; simp only []; rw [← cutIJ_head hij hc, hw]
 refine ewl_nil (onwt_n hKp ?_)
 refine ewt_br rfl ?_ ?_
 refine ewl_run rfl (rn_load rfl ti41 hscl rfl) ?_
 refine ewl_nil (onwt_n hKp ?_)
 refine ewt_br rfl ?_ ewt_none
 refine ewl_bs rfl rfl sl41 zr59 rfl rfl rfl rfl rfl fun b23 w96 hb50 hE53 hs23 hz31 => ?_
 replace hscl := hscl.ext hE53
 replace hl2 := hl2.ext hE53
 replace hrow := hrow.ext hE53
 replace hX := hX.trans hE53
 replace hKp := hKp.ext hE53
 refine ewl_nil (onwt_n hKp ?_)
 refine ewt_br rfl ?_ ewt_none
 refine ewl_app1 rfl ap41 rfl rfl rfl rfl hrow hb50 rfl rfl (by omega) (by omega) fun ta2 tc2 w97 hr2 hG2 => ?_
 have hlow2 : ∀ x, rb ta2 = some x → w0.heap.size ≤ x ∧ x ≠ b := low_grow hG2 hlow (by omega)
 replace hscl := hscl.grow hG2 (fun e => by have := hlow _ e.symm; have := hlowl _ e.symm; omega)
 replace hl2 := hl2.grow hG2 (fun e => by have := hlow _ e.symm; have := hlowl _ e.symm; omega)
 replace hX := hX.grow hG2 (fun x hx => (hlow x hx).1)
 replace hKp := hKp.grow hG2 (by simp only [List.mem_cons, List.not_mem_nil, or_false]; intro c hc e; have := hlow _ e.symm; have := hlowl _ e.symm; omega)
 have sz66 := hG2.size
 refine ewl_nil (onwt_n hKp ?_)
 refine ewt_rd rfl rfl (fun _ hS => rn_nc rfl) ?_
 refine ewt_rd rfl rfl (fun _ hS => rn_fa rfl fl57_3) ?_
 refine ewt_br rfl ?_ ewt_none
 refine ewl_store rfl rfl rfl ti41 rfl hscl rfl rfl fun w98 hb51 hC23 => ?_
 replace hl2 := hl2.chg hC23 (by omega)
 replace hr2 := Row.chg hr2 hC23 (fun e => by have := hlow2 _ e; omega)
 replace hX := hX.chg hC23 (by omega)
 replace hKp := hKp.chg hC23 (by simp only [List.mem_cons, List.not_mem_nil, or_false]; omega)
 have sz67 := hC23.size
 refine ewl_nil (onwt_n hKp ?_)
 refine ewt_fin ?_
 refine blk_n ?_
 refine fn_n (res0 rfl) ?_
 exact ⟨[⟨wk, p.1, p.2, wn, wt⟩], j, q, ta2, tc2, hst2, rfl, by rw [List.length_append]; exact hb51, by rw [List.length_append, toksC_app]; exact hr2, hlow2, hX, by omega, by first | omega | (have := lt_at hc; omega), hq⟩
 refine ewt_br rfl ?_ ?_
 refine ewl_bs rfl rfl sl41 zr59 rfl rfl rfl rfl rfl fun b24 w99 hb52 hE54 hs24 hz32 => ?_
 replace hscl := hscl.ext hE54
 replace hl2 := hl2.ext hE54
 replace hrow := hrow.ext hE54
 replace hX := hX.trans hE54
 replace hKp := hKp.ext hE54
 refine ewl_nil (onwt_n hKp ?_)
 refine ewt_br rfl ?_ ewt_none
 refine ewl_run rfl (rn_load rfl ti41 hscl rfl) ?_
 refine ewl_nil (onwt_n hKp ?_)
 refine ewt_br rfl ?_ ewt_none
 refine ewl_app1 rfl ap41 rfl rfl rfl rfl hrow hb52 rfl rfl (by omega) (by omega) fun ta2 tc2 w100 hr2 hG2 => ?_
 have hlow2 : ∀ x, rb ta2 = some x → w0.heap.size ≤ x ∧ x ≠ b := low_grow hG2 hlow (by omega)
 replace hscl := hscl.grow hG2 (fun e => by have := hlow _ e.symm; have := hlowl _ e.symm; omega)
 replace hl2 := hl2.grow hG2 (fun e => by have := hlow _ e.symm; have := hlowl _ e.symm; omega)
 replace hX := hX.grow hG2 (fun x hx => (hlow x hx).1)
 replace hKp := hKp.grow hG2 (by simp only [List.mem_cons, List.not_mem_nil, or_false]; intro c hc e; have := hlow _ e.symm; have := hlowl _ e.symm; omega)
 have sz68 := hG2.size
 refine ewl_nil (onwt_n hKp ?_)
 refine ewt_rd rfl rfl (fun _ hS => rn_nc rfl) ?_
 refine ewt_rd rfl rfl (fun _ hS => rn_fa rfl fl57_3) ?_
 refine ewt_br rfl ?_ ewt_none
 refine ewl_store rfl rfl rfl ti41 rfl hscl rfl rfl fun w101 hb53 hC24 => ?_
 replace hl2 := hl2.chg hC24 (by omega)
 replace hr2 := Row.chg hr2 hC24 (fun e => by have := hlow2 _ e; omega)
 replace hX := hX.chg hC24 (by omega)
 replace hKp := hKp.chg hC24 (by simp only [List.mem_cons, List.not_mem_nil, or_false]; omega)
 have sz69 := hC24.size
 refine ewl_nil (onwt_n hKp ?_)
 refine ewt_fin ?_
 refine blk_n ?_
 refine fn_n (res0 rfl) ?_
 exact ⟨[⟨wk, p.1, p.2, wn, wt⟩], j, q, ta2, tc2, hst2, rfl, by rw [List.length_append]; exact hb53, by rw [List.length_append, toksC_app]; exact hr2, hlow2, hX, by omega, by first | omega | (have := lt_at hc; omega), hq⟩
 exact ewt_none
 exact ewt_none
 exact ewt_none
 refine ewt_br rfl ?_ ?_
 refine ewl_run rfl (rn_load rfl ti3 hscl rfl) ?_
 refine ewl_nil (onwt_n hKp ?_)
 refine ewt_br rfl ?_ ?_
 refine ewl_run rfl (rn_load rfl ti41 hscl rfl) ?_
 refine ewl_nil (onwt_n hKp ?_)
 refine ewt_br rfl ?_ ewt_none
 refine ewl_run rfl (rn_load rfl ti9 hscl rfl) ?_
 refine ewl_nil (onwt_n hKp ?_)
 refine ewt_rd rfl rfl (fun _ hS => rn_slS rfl rfl rfl un9 ⟨by omega, by omega, by omega⟩) ?_
 refine ewt_br rfl ?_ ewt_none
 refine ewl_retp rfl (en_call ent37 rfl rfl) (word_spec hPF _ (hG.ext hX) (cutIJ src i j) (by have := cutIJ_len src i j; omega) (by rw [cutIJ_head hij hc]; simp) p) ?_ (fun cc wp hc1 => And.intro rfl (let ⟨he, hcc, hE⟩ := hc1; ⟨p, by rw [stepM_word hc h1 h2 h5 h6 h7, hm]; simp only []; rw [← cutIJ_head hij hc, he], hcc, hX.trans hE⟩))
 rintro _ w102 ⟨wk, wn, wt, hw, rfl, hE55⟩
 replace hscl := hscl.ext hE55
 replace hl2 := hl2.ext hE55
 replace hrow := hrow.ext hE55
 replace hX := hX.trans hE55
 replace hKp := hKp.ext hE55
 have sz70 := hE55.size
 have hst2 : stepM (src.length + 1) p (src.drop i) = .ok ([⟨wk, p.1, p.2, wn, wt⟩], src.drop j, q) := by rw [stepM_word hc h1 h2 h5 h6 h7, hm]; simp only []; rw [← cutIJ_head hij hc, hw]
 refine ewl_nil (onwt_n hKp ?_)
 refine ewt_br rfl ?_ ewt_none
 refine ewl_bs rfl rfl sl41 zr59 rfl rfl rfl rfl rfl fun b25 w103 hb54 hE56 hs25 hz33 => ?_
 replace hscl := hscl.ext hE56
 replace hl2 := hl2.ext hE56
 replace hrow := hrow.ext hE56
 replace hX := hX.trans hE56
 replace hKp := hKp.ext hE56
 refine ewl_nil (onwt_n hKp ?_)
 refine ewt_br rfl ?_ ewt_none
 refine ewl_app1 rfl ap41 rfl rfl rfl rfl hrow hb54 rfl rfl (by omega) (by omega) fun ta2 tc2 w104 hr2 hG2 => ?_
 have hlow2 : ∀ x, rb ta2 = some x → w0.heap.size ≤ x ∧ x ≠ b := low_grow hG2 hlow (by omega)
 replace hscl := hscl.grow hG2 (fun e => by have := hlow _ e.symm; have := hlowl _ e.symm; omega)
 replace hl2 := hl2.grow hG2 (fun e => by have := hlow _ e.symm; have := hlowl _ e.symm; omega)
 replace hX := hX.grow hG2 (fun x hx => (hlow x hx).1)
 replace hKp := hKp.grow hG2 (by simp only [List.mem_cons, List.not_mem_nil, or_false]; intro c hc e; have := hlow _ e.symm; have := hlowl _ e.symm; omega)
 have sz71 := hG2.size
 refine ewl_nil (onwt_n hKp ?_)
 refine ewt_rd rfl rfl (fun _ hS => rn_nc rfl) ?_
 refine ewt_rd rfl rfl (fun _ hS => rn_fa rfl fl57_3) ?_
 refine ewt_br rfl ?_ ewt_none
 refine ewl_store rfl rfl rfl ti41 rfl hscl rfl rfl fun w105 hb55 hC25 => ?_
 replace hl2 := hl2.chg hC25 (by omega)
 replace hr2 := Row.chg hr2 hC25 (fun e => by have := hlow2 _ e; omega)
 replace hX := hX.chg hC25 (by omega)
 replace hKp := hKp.chg hC25 (by simp only [List.mem_cons, List.not_mem_nil, or_false]; omega)
 have sz72 := hC25.size
 refine ewl_nil (onwt_n hKp ?_)
 refine ewt_fin ?_
 refine blk_n ?_
 refine fn_n (res0 rfl) ?_
 exact ⟨[⟨wk, p.1, p.2, wn, wt⟩], j, q, ta2, tc2, hst2, rfl, by rw [List.length_append]; exact hb55, by rw [List.length_append, toksC_app]; exact hr2, hlow2, hX, by omega, by first | omega | (have := lt_at hc; omega), hq⟩
 refine ewt_br rfl ?_ ?_
 refine ewl_run rfl (rn_load rfl ti9 hscl rfl) ?_
 refine ewl_nil (onwt_n hKp ?_)
 refine ewt_rd rfl rfl (fun _ hS => rn_slS rfl rfl rfl un9 ⟨by omega, by omega, by omega⟩) ?_
 refine ewt_br rfl ?_ ?_
 refine ewl_run rfl (rn_load rfl ti41 hscl rfl) ?_
 refine ewl_nil (onwt_n hKp ?_)
 refine ewt_br rfl ?_ ewt_none
 refine ewl_retp rfl (en_call ent37 rfl rfl) (word_spec hPF _ (hG.ext hX) (cutIJ src i j) (by have := cutIJ_len src i j; omega) (by rw [cutIJ_head hij hc]; simp) p) ?_ (fun cc wp hc1 => And.intro rfl (let ⟨he, hcc, hE⟩ := hc1; ⟨p, by rw [stepM_word hc h1 h2 h5 h6 h7, hm]; simp only []; rw [← cutIJ_head hij hc, he], hcc, hX.trans hE⟩))
 rintro _ w106 ⟨wk, wn, wt, hw, rfl, hE57⟩
 replace hscl := hscl.ext hE57
 replace hl2 := hl2.ext hE57
 replace hrow := hrow.ext hE57
 replace hX := hX.trans hE57
 replace hKp := hKp.ext hE57
 have sz73 := hE57.size
 have hst2 : stepM (src.length + 1) p (src.drop i) = .ok ([⟨wk, p.1, p.2, wn, wt⟩], src.drop j, q) := by rw [stepM_word hc h1 h2 h5 h6 h7, hm]; simp only []; rw [← cutIJ_head hij hc, hw]
 refine ewl_nil (onwt_n hKp ?_)
 refine ewt_br rfl ?_ ewt_none
 refine ewl_bs rfl rfl sl41 zr59 rfl rfl rfl rfl rfl fun b26 w107 hb56 hE58 hs26 hz34 => ?_
 replace hscl := hscl.ext hE58
 replace hl2 := hl2.ext hE58
 replace hrow := hrow.ext hE58
 replace hX := hX.trans hE58
 replace hKp := hKp.ext hE58
 refine ewl_nil (onwt_n hKp ?_)
 refine ewt_br rfl ?_ ewt_none
 refine ewl_app1 rfl ap41 rfl rfl rfl rfl hrow hb56 rfl rfl (by omega) (by omega) fun ta2 tc2 w108 hr2 hG2 => ?_
 have hlow2 : ∀ x, rb ta2 = some x → w0.heap.size ≤ x ∧ x ≠ b := low_grow hG2 hlow (by omega)
 replace hscl := hscl.grow hG2 (fun e => by have := hlow _ e.symm; have := hlowl _ e.symm; omega)
 replace hl2 := hl2.grow hG2 (fun e => by have := hlow _ e.symm; have := hlowl _ e.symm; omega)
 replace hX := hX.grow hG2 (fun x hx => (hlow x hx).1)
 replace hKp := hKp.grow hG2 (by simp only [List.mem_cons, List.not_mem_nil, or_false]; intro c hc e; have := hlow _ e.symm; have := hlowl _ e.symm; omega)
 have sz74 := hG2.size
 refine ewl_nil (onwt_n hKp ?_)
 refine ewt_rd rfl rfl (fun _ hS => rn_nc rfl) ?_
 refine ewt_rd rfl rfl (fun _ hS => rn_fa rfl fl57_3) ?_
 refine ewt_br rfl ?_ ewt_none
 refine ewl_store rfl rfl rfl ti41 rfl hscl rfl rfl fun w109 hb57 hC26 => ?_
 replace hl2 := hl2.chg hC26 (by omega)
 replace hr2 := Row.chg hr2 hC26 (fun e => by have := hlow2 _ e; omega)
 replace hX := hX.chg hC26 (by omega)
 replace hKp := hKp.chg hC26 (by simp only [List.mem_cons, List.not_mem_nil, or_false]; omega)
 have sz75 := hC26.size
 refine ewl_nil (onwt_n hKp ?_)
 refine ewt_fin ?_
 refine blk_n ?_
 refine fn_n (res0 rfl) ?_
 exact ⟨[⟨wk, p.1, p.2, wn, wt⟩], j, q, ta2, tc2, hst2, rfl, by rw [List.length_append]; exact hb57, by rw [List.length_append, toksC_app]; exact hr2, hlow2, hX, by omega, by first | omega | (have := lt_at hc; omega), hq⟩
 refine ewt_br rfl ?_ ?_
 refine ewl_retp rfl (en_call ent37 rfl rfl) (word_spec hPF _ (hG.ext hX) (cutIJ src i j) (by have := cutIJ_len src i j; omega) (by rw [cutIJ_head hij hc]; simp) p) ?_ (fun cc wp hc1 => And.intro rfl (let ⟨he, hcc, hE⟩ := hc1; ⟨p, by rw [stepM_word hc h1 h2 h5 h6 h7, hm]; simp only []; rw [← cutIJ_head hij hc, he], hcc, hX.trans hE⟩))
 rintro _ w110 ⟨wk, wn, wt, hw, rfl, hE59⟩
 replace hscl := hscl.ext hE59
 replace hl2 := hl2.ext hE59
 replace hrow := hrow.ext hE59
 replace hX := hX.trans hE59
 replace hKp := hKp.ext hE59
 have sz76 := hE59.size
 have hst2 : stepM (src.length + 1) p (src.drop i) = .ok ([⟨wk, p.1, p.2, wn, wt⟩], src.drop j, q) := by rw [stepM_word hc h1 h2 h5 h6 h7, hm]; simp only []; rw [← cutIJ_head hij hc, hw]
 refine ewl_nil (onwt_n hKp ?_)
 refine ewt_br rfl ?_ ?_
 refine ewl_run rfl (rn_load rfl ti41 hscl rfl) ?_
 refine ewl_nil (onwt_n hKp ?_)
 refine ewt_br rfl ?_ ewt_none
 refine ewl_bs rfl rfl sl41 zr59 rfl rfl rfl rfl rfl fun b27 w111 hb58 hE60 hs27 hz35 => ?_
 replace hscl := hscl.ext hE60
 replace hl2 := hl2.ext hE60
 replace hrow := hrow.ext hE60
 replace hX := hX.trans hE60
 replace hKp := hKp.ext hE60
 refine ewl_nil (onwt_n hKp ?_)
 refine ewt_br rfl ?_ ewt_none
 refine ewl_app1 rfl ap41 rfl rfl rfl rfl hrow hb58 rfl rfl (by omega) (by omega) fun ta2 tc2 w112 hr2 hG2 => ?_
 have hlow2 : ∀ x, rb ta2 = some x → w0.heap.size ≤ x ∧ x ≠ b := low_grow hG2 hlow (by omega)
 replace hscl := hscl.grow hG2 (fun e => by have := hlow _ e.symm; have := hlowl _ e.symm; omega)
 replace hl2 := hl2.grow hG2 (fun e => by have := hlow _ e.symm; have := hlowl _ e.symm; omega)
 replace hX := hX.grow hG2 (fun x hx => (hlow x hx).1)
 replace hKp := hKp.grow hG2 (by simp only [List.mem_cons, List.not_mem_nil, or_false]; intro c hc e; have := hlow _ e.symm; have := hlowl _ e.symm; omega)
 have sz77 := hG2.size
 refine ewl_nil (onwt_n hKp ?_)
 refine ewt_rd rfl rfl (fun _ hS => rn_nc rfl) ?_
 refine ewt_rd rfl rfl (fun _ hS => rn_fa rfl fl57_3) ?_
 refine ewt_br rfl ?_ ewt_none
 refine ewl_store rfl rfl rfl ti41 rfl hscl rfl rfl fun w113 hb59 hC27 => ?_
 replace hl2 := hl2.chg hC27 (by omega)
 replace hr2 := Row.chg hr2 hC27 (fun e => by have := hlow2 _ e; omega)
 replace hX := hX.chg hC27 (by omega)
 replace hKp := hKp.chg hC27 (by simp only [List.mem_cons, List.not_mem_nil, or_false]; omega)
 have sz78 := hC27.size
 refine ewl_nil (onwt_n hKp ?_)
 refine ewt_fin ?_
 refine blk_n ?_
 refine fn_n (res0 rfl) ?_
 exact ⟨[⟨wk, p.1, p.2, wn, wt⟩], j, q, ta2, tc2, hst2, rfl, by rw [List.length_append]; exact hb59, by rw [List.length_append, toksC_app]; exact hr2, hlow2, hX, by omega, by first | omega | (have := lt_at hc; omega), hq⟩
 refine ewt_br rfl ?_ ?_
 refine ewl_bs rfl rfl sl41 zr59 rfl rfl rfl rfl rfl fun b28 w114 hb60 hE61 hs28 hz36 => ?_
 replace hscl := hscl.ext hE61
 replace hl2 := hl2.ext hE61
 replace hrow := hrow.ext hE61
 replace hX := hX.trans hE61
 replace hKp := hKp.ext hE61
 refine ewl_nil (onwt_n hKp ?_)
 refine ewt_br rfl ?_ ewt_none
 refine ewl_run rfl (rn_load rfl ti41 hscl rfl) ?_
 refine ewl_nil (onwt_n hKp ?_)
 refine ewt_br rfl ?_ ewt_none
 refine ewl_app1 rfl ap41 rfl rfl rfl rfl hrow hb60 rfl rfl (by omega) (by omega) fun ta2 tc2 w115 hr2 hG2 => ?_
 have hlow2 : ∀ x, rb ta2 = some x → w0.heap.size ≤ x ∧ x ≠ b := low_grow hG2 hlow (by omega)
 replace hscl := hscl.grow hG2 (fun e => by have := hlow _ e.symm; have := hlowl _ e.symm; omega)
 replace hl2 := hl2.grow hG2 (fun e => by have := hlow _ e.symm; have := hlowl _ e.symm; omega)
 replace hX := hX.grow hG2 (fun x hx => (hlow x hx).1)
 replace hKp := hKp.grow hG2 (by simp only [List.mem_cons, List.not_mem_nil, or_false]; intro c hc e; have := hlow _ e.symm; have := hlowl _ e.symm; omega)
 have sz79 := hG2.size
 refine ewl_nil (onwt_n hKp ?_)
 refine ewt_rd rfl rfl (fun _ hS => rn_nc rfl) ?_
 refine ewt_rd rfl rfl (fun _ hS => rn_fa rfl fl57_3) ?_
 refine ewt_br rfl ?_ ewt_none
 refine ewl_store rfl rfl rfl ti41 rfl hscl rfl rfl fun w116 hb61 hC28 => ?_
 replace hl2 := hl2.chg hC28 (by omega)
 replace hr2 := Row.chg hr2 hC28 (fun e => by have := hlow2 _ e; omega)
 replace hX := hX.chg hC28 (by omega)
 replace hKp := hKp.chg hC28 (by simp only [List.mem_cons, List.not_mem_nil, or_false]; omega)
 have sz80 := hC28.size
 refine ewl_nil (onwt_n hKp ?_)
 refine ewt_fin ?_
 refine blk_n ?_
 refine fn_n (res0 rfl) ?_
 exact ⟨[⟨wk, p.1, p.2, wn, wt⟩], j, q, ta2, tc2, hst2, rfl, by rw [List.length_append]; exact hb61, by rw [List.length_append, toksC_app]; exact hr2, hlow2, hX, by omega, by first | omega | (have := lt_at hc; omega), hq⟩
 exact ewt_none
 exact ewt_none
 exact ewt_none
 exact ewt_none
end Go.Proofs.YthjdnhnbgjgbkaaGreatDoor
namespace Go.Proofs.YthjdnhnbgjgbkaaGreatDoor
open Go.SW Go.SP Go.RowKit
theorem scatch_idle (w : World) (c2 c3 c4 : Nat) :
   CallsD Tryz.prog 19 [.pointer (some ⟨c2, 0, none⟩), .pointer (some ⟨c3, 0, none⟩), .pointer (some ⟨c4, 0, none⟩)].toArray .returning w fun r m w' => ∃ x, r = .returned x ∧ m = .returning ∧ (Ext w w') := by
 have hX := Ext.refl w
 refine callsD_recover (R := fun w' => Ext w w') Tryz.func19 rfl rfl rfl rfl rec_idle ?_
 refine ewp_block ?_
 refine ewp_seq ?_
 refine ewp_reg ?_
 refine ewl_run rfl (rn_nil0 ift20 rfl) ?_
 refine ewl_nil ?_
 refine thn_n ?_
 refine ewp_ift rfl rfl ?_
 refine ewp_reg ?_
 refine ewl_run rfl (rn_assign rfl) ?_
 refine ewl_nil ?_
 refine blk_n ?_
 refine fn_n (res0 rfl) ?_
 exact hX
theorem scatch_hit (w0 w : World) (hX0 : Ext w0 w) (c2 c3 c4 : Nat) (v2 x3 y3 v4 : Value) (hc2 : Blk w c2 [v2] 41) (hc3 : Blk w c3 [x3, y3] 25) (hc4 : Blk w c4 [v4] 26) (g2 : w0.heap.size ≤ c2) (g3 : w0.heap.size ≤ c3) (g4 : w0.heap.size ≤ c4) (n23 : c2 ≠ c3) (n24 : c2 ≠ c4) (n34 : c3 ≠ c4) (e : Int × Int) :
   CallsD Tryz.prog 19 [.pointer (some ⟨c2, 0, none⟩), .pointer (some ⟨c3, 0, none⟩), .pointer (some ⟨c4, 0, none⟩)].toArray (.panicking (trb 54 e)) w fun r m w' => ∃ x, r = .returned x ∧ m = .panicking [{ v := .iface 54 (.agg #[.int .i64 e.1, .int .i64 e.2]), recovered := true }] ∧ (Ext w0 w' ∧ Blk w' c2 [.slice none 0 0] 41 ∧ Blk w' c3 [.int .i64 e.1, .int .i64 e.2] 25 ∧ Blk w' c4 [.int .i64 10] 26) := by
 have l2 := hc2.lt
 have l3 := hc3.lt
 have l4 := hc4.lt
 have hX := hX0
 have szx := hX.size
 refine callsD_recover (R := fun w' => Ext w0 w' ∧ Blk w' c2 [.slice none 0 0] 41 ∧ Blk w' c3 [.int .i64 e.1, .int .i64 e.2] 25 ∧ Blk w' c4 [.int .i64 10] 26) Tryz.func19 rfl rfl rfl rfl rec_hit ?_
 refine ewp_block ?_
 refine ewp_seq ?_
 refine ewp_reg ?_
 refine ewl_run rfl (rn_nil1 ift20 rfl) ?_
 refine ewl_nil ?_
 refine thn_n ?_
 refine ewp_iff rfl rfl ?_
 refine ewp_seq ?_
 refine ewp_reg ?_
 refine ewl_run rfl (rn_tas rfl tas54) ?_
 refine ewl_run rfl (rn_exs rfl rfl) ?_
 refine ewl_run rfl (rn_exs rfl rfl) ?_
 refine ewl_nil ?_
 refine thn_n ?_
 refine ewp_ift rfl rfl ?_
 refine ewp_seq ?_
 refine ewp_reg ?_
 refine ewl_alloc rfl zr54 fun b1 w1 hb1 hE1 hs1 hz1 => ?_
 replace hc2 := hc2.ext hE1
 replace hc3 := hc3.ext hE1
 replace hc4 := hc4.ext hE1
 replace hX := hX.trans hE1
 refine ewl_store rfl rfl rfl ti54 rfl hb1 rfl rfl fun w2 hb2 hC1 => ?_
 replace hc2 := hc2.chg hC1 (by omega)
 replace hc3 := hc3.chg hC1 (by omega)
 replace hc4 := hc4.chg hC1 (by omega)
 replace hX := hX.chg hC1 (by omega)
 have sz1 := hC1.size
 refine ewl_nil ?_
 refine thn_n ?_
 have hr1 := hb2
 refine ewp_draw mixed (Keeps w2 [b1]) [(true, 0), (true, 1), (false, 2), (false, 3), (false, 4)] (by kernel_rfl) (by kernel_rfl) rfl rfl fun w3 hE2 hz2 => ?_
 have hKp : Keeps w2 [b1] w3 := Keeps.cons hr1 hE2 (Keeps.nil _ _)
 refine ⟨hKp, ?_⟩
 replace hc2 := hc2.ext hE2
 replace hc3 := hc3.ext hE2
 replace hc4 := hc4.ext hE2
 replace hb2 := hb2.ext hE2
 replace hX := hX.trans hE2
 refine ewo_rd rfl (fun _ hS => rn_fa rfl fl54_0) ?_
 refine ewo_rd rfl (fun _ hS => rn_loada rfl ti25 (hr1.keep hS (.head _)) rfl) ?_
 refine ewo_sp ?_
 refine ewl_store rfl rfl rfl ti41 rfl hc2 rfl rfl fun w4 hb3 hC2 => ?_
 replace hc3 := hc3.chg hC2 (by omega)
 replace hc4 := hc4.chg hC2 (by omega)
 replace hb2 := hb2.chg hC2 (by omega)
 replace hX := hX.chg hC2 (by omega)
 replace hKp := hKp.chg hC2 (by simp only [List.mem_cons, List.not_mem_nil, or_false]; omega)
 have sz2 := hC2.size
 refine ewl_nil (onw_n hKp ?_)
 refine ewo_sp ?_
 refine ewl_store rfl rfl rfl ti25 rfl hc3 rfl rfl fun w5 hb4 hC3 => ?_
 replace hb3 := hb3.chg hC3 (by omega)
 replace hc4 := hc4.chg hC3 (by omega)
 replace hb2 := hb2.chg hC3 (by omega)
 replace hX := hX.chg hC3 (by omega)
 replace hKp := hKp.chg hC3 (by simp only [List.mem_cons, List.not_mem_nil, or_false]; omega)
 have sz3 := hC3.size
 refine ewl_nil (onw_n hKp ?_)
 refine ewo_sp ?_
 refine ewl_store rfl rfl rfl ti26 rfl hc4 rfl rfl fun w6 hb5 hC4 => ?_
 replace hb3 := hb3.chg hC4 (by omega)
 replace hb4 := hb4.chg hC4 (by omega)
 replace hb2 := hb2.chg hC4 (by omega)
 replace hX := hX.chg hC4 (by omega)
 replace hKp := hKp.chg hC4 (by simp only [List.mem_cons, List.not_mem_nil, or_false]; omega)
 have sz4 := hC4.size
 refine ewl_nil (onw_n hKp ?_)
 refine ewo_nil ?_
 refine blk_n ?_
 refine fn_n (res0 rfl) ?_
 exact ⟨hX, hb3, hb4, hb5⟩
/-- What Scan hands back. -/
def ScanR (w w' : World) (v : Value) : Except (Int × Int × Int) (List Tok) → Prop
 | .error e => v = .tuple #[.slice none 0 0, .agg #[.int .i64 e.1, .int .i64 e.2.1], .int .i64 e.2.2] ∧ Ext w w'
 | .ok toks => ∃ ta tc, v = .tuple #[.slice ta toks.length tc, .agg #[.int .i64 0, .int .i64 0], .int .i64 0] ∧ (Row w' 59 5 ta tc toks.length (toksC toks) ∧ ∀ b, rb ta = some b → w.heap.size ≤ b) ∧ Ext w w'
theorem scan_spec (hPF : PFS) (w : World) (hG : Gl w) (src : List UInt8) :
   Ret Tryz.prog 13 #[S src] w fun v w' => ScanR w w' v (lexM src) := by
 have hX := Ext.refl w
 refine enterD (l := [S src]) Tryz.func13 rfl rfl rfl ?_
 refine ewp_seq ?_
 refine ewp_reg ?_
 refine ewl_alloc rfl zr41 fun b1 w1 hb1 hE1 hs1 hz1 => ?_
 replace hX := hX.trans hE1
 refine ewl_alloc rfl zr25 fun b2 w2 hb2 hE2 hs2 hz2 => ?_
 replace hb1 := hb1.ext hE2
 replace hX := hX.trans hE2
 refine ewl_alloc rfl zr26 fun b3 w3 hb3 hE3 hs3 hz3 => ?_
 replace hb1 := hb1.ext hE3
 replace hb2 := hb2.ext hE3
 replace hX := hX.trans hE3
 refine ewl_nil ?_
 refine thn_n ?_
 refine ewp_seq ?_
 refine ewp_seq ?_
 refine ewp_reg ?_
 refine ewl_run rfl (rn_move rfl) ?_
 refine ewl_run rfl (rn_lenS rfl un9) ?_
 refine ewl_run rfl (rn_gtI rfl rfl) ?_
 refine ewl_nil ?_
 refine thn_n ?_
 refine ewp_if rfl (fun h1 => ?_) (fun h1 => ?_)
 refine ewp_seq ?_
 refine ewp_reg ?_
 refine ewl_run rfl (rn_build rfl pl25 zr25 rfl) ?_
 refine ewl_store rfl rfl rfl ti41 rfl hb1 rfl rfl fun w4 hb4 hC1 => ?_
 replace hb2 := hb2.chg hC1 (by omega)
 replace hb3 := hb3.chg hC1 (by omega)
 replace hX := hX.chg hC1 (by omega)
 have sz1 := hC1.size
 refine ewl_store rfl rfl rfl ti25 rfl hb2 rfl rfl fun w5 hb5 hC2 => ?_
 replace hb4 := hb4.chg hC2 (by omega)
 replace hb3 := hb3.chg hC2 (by omega)
 replace hX := hX.chg hC2 (by omega)
 have sz2 := hC2.size
 refine ewl_store rfl rfl rfl ti26 rfl hb3 rfl rfl fun w6 hb6 hC3 => ?_
 replace hb4 := hb4.chg hC3 (by omega)
 replace hb5 := hb5.chg hC3 (by omega)
 replace hX := hX.chg hC3 (by omega)
 have sz3 := hC3.size
 refine ewl_nil ?_
 refine thn_n ?_
 refine ewp_ret ?_
 refine thn_r ?_
 exact fun tmps hσ => leaves_out hσ (resv3 rfl (rv_cell rfl ti41 hb4 rfl) (rv_cella rfl ti25 hb5 rfl) (rv_cell rfl ti26 hb6 rfl)) ⟨_, rfl, by rw [lexM, if_pos h1]; exact ⟨rfl, hX⟩⟩
 refine ewp_skip ?_
 refine thn_n ?_
 refine ewp_seq ?_
 refine ewp_reg ?_
 refine ewl_run rfl (rn_mkf rfl) ?_
 refine ewl_defer rfl ?_
 have hlen : src.length ≤ 65536 := by have := of_decide_eq_false h1; omega
 refine ewl_nil ?_
 refine thn_n ?_
 refine ewp_seq ?_
 have hb1B := hb1
 have hb2B := hb2
 have hb3B := hb3
 have hX0 := hX
 refine ewp_reg ?_
 refine ewl_run rfl (rn_move rfl) ?_
 refine ewl_run rfl (rn_build rfl pl25 zr25 rfl) ?_
 refine ewl_run rfl (rn_build rfl pl57 zr57 rfl) ?_
 refine ewl_box rfl rfl rfl fun b4 w7 hb7 hE4 hs4 hz4 => ?_
 replace hb1 := hb1.ext hE4
 replace hb2 := hb2.ext hE4
 replace hb3 := hb3.ext hE4
 replace hX := hX.trans hE4
 refine ewl_run rfl (rn_assign rfl) ?_
 refine ewl_nil ?_
 refine thn_n ?_
 refine ewp_seq ?_
 refine ewp_block ?_
 refine ewp_loop (fun k σ ds w' => ∃ (j n : Nat) (q : Ps) (toks : List Tok) (ta : Option Addr) (tc : Nat), k = src.length - j ∧ ds = [{ target := .fn (.func 19) ([.pointer (some ⟨b1, 0, none⟩), .pointer (some ⟨b2, 0, none⟩), .pointer (some ⟨b3, 0, none⟩)] : List Value).toArray, args := #[] }] ∧ σ = (upd (upd (upd (upd SW.e0 2 (.pointer (some ⟨b1, 0, none⟩))) 3 (.pointer (some ⟨b2, 0, none⟩))) 4 (.pointer (some ⟨b3, 0, none⟩))) 5 (.pointer (some ⟨b4, 0, none⟩))) ∧ j ≤ src.length ∧ src.length ≤ j + n ∧ Pk j q ∧ toks.length ≤ j ∧ scanM (src.length + 1) src.length (1, 1) src = preT toks (scanM (src.length + 1) n q (src.drop j)) ∧ Blk w' b4 [S src, .int .i64 ((j : Nat) : Int), .int .i64 q.1, .int .i64 q.2, (.slice ta toks.length tc)] 57 ∧ Row w' 59 5 ta tc toks.length (toksC toks) ∧ (∀ x, rb ta = some x → w3.heap.size ≤ x ∧ x ≠ b4) ∧ Ext w3 w') src.length (upd (upd (upd (upd SW.e0 2 (.pointer (some ⟨b1, 0, none⟩))) 3 (.pointer (some ⟨b2, 0, none⟩))) 4 (.pointer (some ⟨b3, 0, none⟩))) 5 (.pointer (some ⟨b4, 0, none⟩))) (le_upd (le_upd (le_upd (le_upd (le_e0 _) rfl) rfl) rfl) rfl) ⟨0, src.length, (1, 1), [], none, 0, rfl, rfl, rfl, by omega, by omega, ⟨by decide, by decide, by decide, by decide⟩, by simp, (preT_nil _).symm, hb7, row_nil _ _ _, (fun x hx => by cases hx), hE4⟩ ?_
 rintro _ _ _ wl ⟨j, n, q, toks, ta, tc, rfl, rfl, rfl, hjl, hn, hq, htl, hm, hscl, hrow, hlow, hXB⟩
 have szl := hXB.size
 have lts := hscl.lt
 replace hX := hX0.trans hXB
 have hb1Bl := hb1B.ext hXB
 have hb2Bl := hb2B.ext hXB
 have hb3Bl := hb3B.ext hXB
 refine ewp_seq ?_
 refine ewp_seq ?_
 refine ewp_reg ?_
 refine ewl_run rfl (rn_move rfl) ?_
 refine ewl_ret rfl (en_call ent20 rfl rfl) (more_spec _ b4 src j q (.slice ta toks.length tc) hscl) ?_
 rintro _ w8 ⟨rfl, hE5⟩
 replace hb1Bl := hb1Bl.ext hE5
 replace hb2Bl := hb2Bl.ext hE5
 replace hb3Bl := hb3Bl.ext hE5
 replace hscl := hscl.ext hE5
 replace hrow := hrow.ext hE5
 replace hX := hX.trans hE5
 replace hXB := hXB.trans hE5
 have sz4 := hE5.size
 refine ewl_nil ?_
 refine thn_n ?_
 refine ewp_if rfl (fun h2 => ?_) (fun h2 => ?_)
 refine ewp_skip ?_
 refine thn_n ?_
 refine ewp_block ?_
 refine ewp_reg ?_
 refine ewl_run rfl (rn_move rfl) ?_
 obtain ⟨c, hc⟩ := at_lt (show j < src.length by have := of_decide_eq_true h2; omega)
 obtain ⟨n, rfl⟩ : ∃ n1, n = n1 + 1 := ⟨n - 1, by have := lt_at hc; omega⟩
 refine ewl_retp rfl (en_call ent21 rfl rfl) (step_spec hPF w3 _ (hG.ext hX0) hXB b4 (by omega) src j q toks ta tc hscl hrow hlow c hc hq hlen htl) ?_ (fun cc wp hcc tmps hσ => by obtain ⟨e, he, rfl, hE⟩ := hcc; have sz := hE.size; exact leaves_one (by simp) ent19 (scatch_hit w wp (hX0.trans hE) b1 b2 b3 _ _ _ _ (hb1B.ext hE) (hb2B.ext hE) (hb3B.ext hE) (by omega) (by omega) (by omega) (by omega) (by omega) (by omega) e) (fun wz hz => by rw [settle_hit]; obtain ⟨h1, h2, h3, h4⟩ := hz; exact leaves_out hσ (resv3 rfl (rv_cell rfl ti41 h2 rfl) (rv_cella rfl ti25 h3 rfl) (rv_cell rfl ti26 h4 rfl)) ⟨_, rfl, by rw [lexM, if_neg (by rw [decide_eq_true_eq]; omega), hm, scanM_bad hc he, preT]; exact ⟨rfl, h1⟩⟩))
 rintro _ w9 ⟨ot, i1, p1, ta1, tc1, hst, rfl, hsc2, hrow2, hlow2, hX2, hi1, hi2, hp1⟩
 have hot : (toks ++ ot).length ≤ i1 := by have := stepM_len hst; rw [List.length_append]; omega
 have hm2 := scanM_step hc hst hm
 refine ewl_nil ?_
 refine blk_n ?_
 refine lp_n (src.length - i1) (upd (upd (upd (upd SW.e0 2 (.pointer (some ⟨b1, 0, none⟩))) 3 (.pointer (some ⟨b2, 0, none⟩))) 4 (.pointer (some ⟨b3, 0, none⟩))) 5 (.pointer (some ⟨b4, 0, none⟩))) (by omega) (le_upd (le_upd (le_upd (le_upd (le_e0 _) rfl) rfl) rfl) rfl) ⟨i1, n, p1, toks ++ ot, ta1, tc1, rfl, rfl, rfl, hi2, by omega, hp1, hot, hm2, hsc2, hrow2, hlow2, hX2⟩
 refine ewp_exit ?_
 refine thn_e ?_
 refine lp_e ?_
 refine blk_e ?_
 refine thn_n ?_
 refine ewp_seq ?_
 refine ewp_reg ?_
 refine ewl_run rfl (rn_move rfl) ?_
 refine ewl_run rfl (rn_nc rfl) ?_
 refine ewl_run rfl (rn_fa rfl fl57_3) ?_
 refine ewl_run rfl (rn_load rfl ti41 hscl rfl) ?_
 refine ewl_run rfl (rn_build rfl pl25 zr25 rfl) ?_
 refine ewl_store rfl rfl rfl ti41 rfl hb1Bl rfl rfl fun w10 hb8 hC4 => ?_
 replace hb2Bl := hb2Bl.chg hC4 (by omega)
 replace hb3Bl := hb3Bl.chg hC4 (by omega)
 replace hscl := hscl.chg hC4 (by omega)
 replace hrow := Row.chg hrow hC4 (fun e => by have := hlow _ e; omega)
 replace hX := hX.chg hC4 (by omega)
 clear hXB
 have sz5 := hC4.size
 refine ewl_store rfl rfl rfl ti25 rfl hb2Bl rfl rfl fun w11 hb9 hC5 => ?_
 replace hb8 := hb8.chg hC5 (by omega)
 replace hb3Bl := hb3Bl.chg hC5 (by omega)
 replace hscl := hscl.chg hC5 (by omega)
 replace hrow := Row.chg hrow hC5 (fun e => by have := hlow _ e; omega)
 replace hX := hX.chg hC5 (by omega)
 have sz6 := hC5.size
 refine ewl_store rfl rfl rfl ti26 rfl hb3Bl rfl rfl fun w12 hb10 hC6 => ?_
 replace hb8 := hb8.chg hC6 (by omega)
 replace hb9 := hb9.chg hC6 (by omega)
 replace hscl := hscl.chg hC6 (by omega)
 replace hrow := Row.chg hrow hC6 (fun e => by have := hlow _ e; omega)
 replace hX := hX.chg hC6 (by omega)
 have sz7 := hC6.size
 refine ewl_nil ?_
 refine thn_n ?_
 refine ewp_ret ?_
 intro tmps hσ
 refine leaves_one (by simp) ent19 (scatch_idle _ b1 b2 b3) fun wz hz => ?_
 have hlx : lexM src = .ok toks := by rw [lexM, if_neg (by rw [decide_eq_true_eq]; omega), hm, drop_end (by have := of_decide_eq_false h2; omega), scanM_nil]; simp [preT]
 refine leaves_out hσ (resv3 rfl (rv_cell rfl ti41 (hb8.ext hz) rfl) (rv_cella rfl ti25 (hb9.ext hz) rfl) (rv_cell rfl ti26 (hb10.ext hz) rfl)) ⟨_, rfl, ?_⟩
 rw [hlx]
 exact ⟨ta, tc, rfl, ⟨hrow.ext hz, fun x hx => by have := hlow x hx; omega⟩, hX.trans hz⟩
end Go.Proofs.YthjdnhnbgjgbkaaGreatDoor
namespace Go.SP
theorem Fo.len_snoc' : ∀ (a : Fo) (t : Tok) (k : Fo), (a.snoc t k).len = a.len + 1
 | .nil, _, _ => rfl
 | .cons _ _ r, t, k => by simp only [Fo.snoc, Fo.len, Fo.len_snoc' r t k]
theorem Fo.ok_snoc : ∀ (a : Fo) (t : Tok) (k : Fo), a.ok → t.ok → k.ok → k.len ≤ 100000 → (a.snoc t k).ok
 | .nil, _, _, _, h1, h2, h3 => ⟨h1, h2, h3, trivial⟩
 | .cons _ _ r, t, k, h, h1, h2, h3 => ⟨h.1, h.2.1, h.2.2.1, Fo.ok_snoc r t k h.2.2.2 h1 h2 h3⟩
theorem Fo.deep_snoc : ∀ (a : Fo) (n : Nat) (t : Tok) (k : Fo), a.deep (n + 1) = true → k.deep n = true → (a.snoc t k).deep (n + 1) = true
 | .nil, n, t, k, _, h => by simp [Fo.snoc, Fo.deep, h]
 | .cons u l r, n, t, k, h1, h2 => by
   simp only [Fo.deep, Bool.and_eq_true] at h1
   simp only [Fo.snoc, Fo.deep, Bool.and_eq_true]
   exact ⟨h1.1, Fo.deep_snoc r n t k h1.2 h2⟩
def StI : Nat → List (Tok × Fo) → Prop
 | _, [] => True
 | i, (o, p) :: s => o.ok ∧ p.ok ∧ p.len ≤ i ∧ p.deep (201 - s.length) = true ∧ StI i s
theorem StI.up : ∀ {i : Nat} {st : List (Tok × Fo)}, StI i st → StI (i + 1) st
 | _, [], _ => trivial
 | _, _ :: _, ⟨a, b, c, d, e⟩ => ⟨a, b, Nat.le_succ_of_le c, d, e.up⟩
theorem treesM_inv : ∀ (l : List Tok) (i : Nat) (st : List (Tok × Fo)) (cur fo : Fo), (∀ t ∈ l, t.ok) → i + l.length ≤ 100000 → st.length ≤ 200 → StI i st → cur.ok → cur.len ≤ i → cur.deep (201 - st.length) = true →
   treesM l st cur = .ok fo → fo.ok ∧ fo.len ≤ i + l.length ∧ fo.deep 201 = true
 | [], i, [], cur, fo, _, _, _, _, h1, h2, h3, h => by
   simp only [treesM] at h
   cases h
   exact ⟨h1, by simpa using h2, by simpa using h3⟩
 | [], i, (o, p) :: s, cur, fo, _, _, _, _, _, _, _, h => by
   unfold treesM at h
   split at h <;> cases h
 | k :: l, i, st, cur, fo, hl, hi, hs, hI, h1, h2, h3, h => by
   have hk : k.ok := hl k (.head _)
   have hl' : ∀ t ∈ l, t.ok := fun t ht => hl t (.tail _ ht)
   simp only [List.length_cons] at hi
   unfold treesM at h
   split at h
   · split at h
     · cases h
     · rename_i h200
       have hne : st.length ≠ 200 := by simpa using h200
       have := treesM_inv l (i + 1) ((k, cur) :: st) .nil fo hl' (by omega) (by simp only [List.length_cons]; omega) ⟨hk, h1, by omega, h3, hI.up⟩ trivial (by simp [Fo.len]) (by simp [Fo.deep]) h
       refine ⟨this.1, ?_, this.2.2⟩
       have := this.2.1
       simp only [List.length_cons]
       omega
   · split at h
     · cases st with
       | nil => cases h
       | cons op s =>
         obtain ⟨o, p⟩ := op
         simp only at h
         obtain ⟨ho, hp, hpl, hpd, hIs⟩ := hI
         simp only [List.length_cons] at hs h3
         have e : 201 - s.length = (201 - (s.length + 1)) + 1 := by omega
         have := treesM_inv l (i + 1) s (p.snoc o cur) fo hl' (by omega) (by omega) hIs.up (Fo.ok_snoc p o cur hp ho h1 (by omega)) (by rw [Fo.len_snoc']; omega) (by rw [e] at hpd ⊢; exact Fo.deep_snoc p _ o cur hpd h3) h
         refine ⟨this.1, ?_, this.2.2⟩
         have := this.2.1
         simp only [List.length_cons]
         omega
     · have e : 201 - st.length = (201 - (st.length + 1)) + 1 := by omega
       have := treesM_inv l (i + 1) st (cur.snoc k .nil) fo hl' (by omega) hs hI.up (Fo.ok_snoc cur k .nil h1 hk trivial (by simp [Fo.len])) (by rw [Fo.len_snoc']; omega)
         (by rw [e] at h3 ⊢; exact Fo.deep_snoc cur _ k .nil h3 (by simp [Fo.deep])) h
       refine ⟨this.1, ?_, this.2.2⟩
       have := this.2.1
       simp only [List.length_cons]
       omega
theorem treesM_okT {toks : List Tok} {fo : Fo} (hl : ∀ t ∈ toks, t.ok) (hi : toks.length ≤ 100000) (h : treesM toks [] .nil = .ok fo) : fo.all (okT 200) ∧ fo.len ≤ 100000 := by
 obtain ⟨h1, h2, h3⟩ := treesM_inv toks 0 [] .nil fo hl (by omega) (by simp) trivial trivial (by simp [Fo.len]) (by rfl) h
 exact ⟨all_of 200 fo h1 h3, by omega⟩
end Go.SP
namespace Go.SP
open Go.SW Go.RowKit
theorem scanM_len {F : Nat} : ∀ (n : Nat) (p : Ps) (l : List UInt8) (toks : List Tok), scanM F n p l = .ok toks → toks.length ≤ n
 | n, p, [], toks, h => by rw [scanM_nil] at h; cases h; exact Nat.zero_le _
 | 0, p, c :: l, toks, h => by cases h
 | n + 1, p, c :: l, toks, h => by
   rw [scanM_cons] at h
   split at h
   · cases h
   · rename_i t r' p' hs
     split at h
     · cases h
     · rename_i l' hl
       cases h
       have := scanM_len n p' r' l' hl
       have := stepM_len hs
       rw [List.length_append]
       omega
theorem strM_len {start : Ps} : ∀ (n : Nat) (p : Ps) (acc l tx r : List UInt8) (p' : Ps), strM start n p acc l = .ok (tx, r, p') → tx.length ≤ 4096
 | 0, _, _, _, _, _, _, h => by cases h
 | n + 1, p, acc, [], tx, r, p', h => by cases h
 | n + 1, p, acc, c :: l, tx, r, p', h => by
   rw [strM_cons] at h
   split at h
   · split at h
     · cases h
     · rename_i hd
       cases h
       simp at hd
       omega
   · split at h
     · cases h
     · split at h
       · exact strM_len n _ _ _ tx r p' h
       · split at h
         · cases h
         · split at h
           · cases h
           · exact strM_len n _ _ _ tx r p' h
theorem wordM_ok {w : List UInt8} {k nm : Int} {tx : List UInt8} (hne : w ≠ []) (h : wordM w = some (k, nm, tx)) : (k = 5 → tx ≠ []) ∧ tx.length ≤ 100000 ∧ k ≠ 0 ∧ k ≠ 1 := by
 unfold wordM at h
 split at h
 · cases h; simp
 · split at h
   · cases h; simp [bytesM, byteG]
   · split at h
     · cases h
     · rename_i hc
       simp only [Bool.or_eq_true, not_or, decide_eq_true_eq] at hc
       split at h
       · cases h; exact ⟨by simp, by omega, by decide, by decide⟩
       · split at h
         · cases h; exact ⟨fun _ => hne, by omega, by decide, by decide⟩
         · cases h
theorem stepM_ok {F : Nat} {p p1 : Ps} {l r : List UInt8} {ot : List Tok} (h : stepM F p l = .ok (ot, r, p1)) : ∀ t ∈ ot, t.ok := by
 cases l with
 | nil => cases h
 | cons c r =>
   rw [stepM_cons] at h
   split at h
   · cases h; simp
   · split at h
     · simp only [Except.ok.injEq, Prod.mk.injEq] at h; rw [← h.1]; simp
     · split at h
       · cases h; simp [Tok.ok]
       · split at h
         · cases h; simp [Tok.ok]
         · split at h
           · split at h
             · cases h
             · rename_i tx r' p' hs
               cases h
               have := strM_len _ _ _ _ _ _ _ hs
               simp only [List.mem_singleton, forall_eq, Tok.ok]
               exact ⟨by simp, by omega⟩
           · split at h
             · cases h
             · rename_i k nm tx hw
               simp only [Except.ok.injEq, Prod.mk.injEq] at h
               rw [← h.1]
               simp only [List.mem_singleton, forall_eq, Tok.ok]
               have := wordM_ok (by simp) hw
               exact ⟨this.1, this.2.1⟩
theorem scanM_ok {F : Nat} : ∀ (n : Nat) (p : Ps) (l : List UInt8) (toks : List Tok), scanM F n p l = .ok toks → ∀ t ∈ toks, t.ok
 | n, p, [], toks, h => by rw [scanM_nil] at h; cases h; simp
 | 0, p, c :: l, toks, h => by cases h
 | n + 1, p, c :: l, toks, h => by
   rw [scanM_cons] at h
   split at h
   · cases h
   · rename_i t r' p' hs
     split at h
     · cases h
     · rename_i l' hl
       cases h
       intro t ht
       rcases List.mem_append.1 ht with ht | ht
       · exact stepM_ok hs t ht
       · exact scanM_ok n p' r' l' hl t ht
theorem lexM_ok {src : List UInt8} {toks : List Tok} (h : lexM src = .ok toks) : toks.length ≤ 100000 ∧ ∀ t ∈ toks, t.ok := by
 unfold lexM at h
 split at h
 · cases h
 · rename_i hl
   simp only [decide_eq_true_eq] at hl
   split at h
   · cases h
   · rename_i l hs
     cases h
     exact ⟨by have := scanM_len _ _ _ _ hs; omega, scanM_ok _ _ _ _ hs⟩
theorem lexM_err {src : List UInt8} {e : Int × Int × Int} (h : lexM src = .error e) : (e.2.2 != 0) = true := by
 unfold lexM at h
 split at h
 · cases h; rfl
 · split at h <;> cases h
   rfl
end Go.SP
namespace Go.Proofs.YthjdnhnbgjgbkaaGreatDoor
open Go.SW Go.SP Go.RowKit
/-- A text's nodes, or where it is none. -/
def progS (src : List UInt8) : Nd × Int × Int × Int := progM 200 (lexM src)
theorem program_spec (hPF : PFS) (w : World) (hG : Gl w) (src : List UInt8) : Ret Tryz.prog 9 #[S src] w fun v w' => ProgR w w' v (progS src) := by
 unfold progS
 cases hl : lexM src with
 | error e =>
   exact program_err 199 w hG src e (lexM_err hl) fun w1 hG1 => by
     have := scan_spec hPF w1 hG1 src
     rw [hl] at this
     exact this
 | ok toks =>
   obtain ⟨h1, h2⟩ := lexM_ok hl
   exact program_ok 199 w hG src toks h1 (fun fo hfo => treesM_okT h2 h1 hfo) fun w1 hG1 => by
     have := scan_spec hPF w1 hG1 src
     rw [hl] at this
     exact this
end Go.Proofs.YthjdnhnbgjgbkaaGreatDoor
namespace Go.SP
open Go.SW Go.RowKit
def digs (l : List UInt8) : Prop := ∀ c ∈ l, 48 ≤ c.toNat ∧ c.toNat ≤ 57
/-- What is left of a float's text: is the point read? -/
def FV (b : List UInt8) : Bool → List UInt8 → Prop
 | false, rest => ∃ a2, rest = a2 ++ 46 :: b ∧ digs a2
 | true, rest => digs rest ∧ rest.length ≤ b.length
theorem FV.cons {b r : List UInt8} {dot : Bool} {c : UInt8} (h : FV b dot (c :: r)) : (c = 46 ∧ dot = false ∧ r = b) ∨ ((48 ≤ c.toNat ∧ c.toNat ≤ 57) ∧ FV b dot r) := by
 cases dot with
 | false =>
   obtain ⟨a2, h1, h2⟩ := h
   cases a2 with
   | nil => left; simp at h1; exact ⟨h1.1, rfl, h1.2⟩
   | cons d a3 =>
     right
     simp at h1
     exact ⟨h1.1 ▸ h2 d (.head _), a3, h1.2, fun x hx => h2 x (.tail _ hx)⟩
 | true => exact .inr ⟨h.1 c (.head _), fun x hx => h.1 x (.tail _ hx), by have := h.2; simp only [List.length_cons] at this; omega⟩
theorem FV.nil {b : List UInt8} {dot : Bool} (h : FV b dot []) : dot = true := by
 cases dot with
 | false => obtain ⟨a2, h1, _⟩ := h; cases a2 <;> cases h1
 | true => rfl
/-- The digits alone. -/
def noDot (l : List UInt8) : List UInt8 := l.filter (fun c => c != 46)
theorem noDot_digs {l : List UInt8} (h : digs l) : noDot l = l := by
 unfold noDot
 rw [List.filter_eq_self]
 intro c hc
 have := h c hc
 have h2 : c ≠ 46 := fun e => by subst e; revert this; decide
 simpa using h2
theorem noDot_cons {c : UInt8} {l : List UInt8} (h : 48 ≤ c.toNat ∧ c.toNat ≤ 57) : noDot (c :: l) = c :: noDot l := by
 unfold noDot
 rw [List.filter_cons_of_pos]
 have h2 : c ≠ 46 := fun e => by subst e; revert h; decide
 simpa using h2
theorem noDot_dot (l : List UInt8) : noDot (46 :: l) = noDot l := by
 unfold noDot
 rw [List.filter_cons_of_neg]
 simp
theorem noDot_all {a b : List UInt8} (ha : digs a) (hb : digs b) : noDot (a ++ 46 :: b) = a ++ b := by
 induction a with
 | nil => rw [List.nil_append, noDot_dot, noDot_digs hb, List.nil_append]
 | cons c a ih => rw [List.cons_append, noDot_cons (ha c (.head _)), ih fun x hx => ha x (.tail _ hx)]; rfl
theorem decN_c (n : Nat) (c : UInt8) (l : List UInt8) : decN n (c :: l) = decN (n * 10 + (c.toNat - 48)) l := by conv => lhs; unfold decN
theorem decN_n (n : Nat) : decN n [] = n := by conv => lhs; unfold decN
theorem decN_mono : ∀ (l : List UInt8) (n : Nat), n ≤ decN n l
 | [], n => Nat.le_refl _
 | c :: l, n => by
   have := decN_mono l (n * 10 + (c.toNat - 48))
   rw [decN_c]
   omega
theorem decN_lt : ∀ (l : List UInt8) (n : Nat), digs l → decN n l < (n + 1) * 10 ^ l.length
 | [], n, _ => by
   rw [decN_n, List.length_nil, Nat.pow_zero]
   omega
 | c :: l, n, h => by
   have h1 := h c (.head _)
   have := decN_lt l (n * 10 + (c.toNat - 48)) fun x hx => h x (.tail _ hx)
   rw [decN_c, List.length_cons, Nat.pow_succ]
   refine Nat.lt_of_lt_of_le this ?_
   have h2 : n * 10 + (c.toNat - 48) + 1 ≤ (n + 1) * 10 := by omega
   calc (n * 10 + (c.toNat - 48) + 1) * 10 ^ l.length ≤ (n + 1) * 10 * 10 ^ l.length := Nat.mul_le_mul_right _ h2
     _ = (n + 1) * (10 ^ l.length * 10) := by rw [Nat.mul_assoc, Nat.mul_comm 10]
theorem decN_small {l : List UInt8} (h : digs l) (hl : l.length ≤ 15) : decN 0 l < 1000000000000000 := by
 have h1 := decN_lt l 0 h
 have h2 : 10 ^ l.length ≤ 10 ^ 15 := Nat.pow_le_pow_right (by decide) hl
 have h3 : (10 : Nat) ^ 15 = 1000000000000000 := by decide
 omega
theorem low46 : ∀ n : Fin 58, 46 ≤ n.val → IntKind.u8.wrap (BitVec.ofInt 8 (n.val : Int) ||| BitVec.ofInt 8 32).toNat = (n.val : Int) := by decide
theorem cut_dot {z : List UInt8} (h : (Lib.cut z [46]).2.2 = true) : z = (Lib.cut z [46]).1 ++ 46 :: (Lib.cut z [46]).2.1 := by
 unfold Lib.cut at h ⊢
 split at h
 · rename_i h0
   rw [if_pos h0]
   rcases Lib.index_spec z [46] with ⟨h1, _⟩ | ⟨i, h1, h2, h3, _⟩
   · omega
   · simp only [h1, Int.toNat_natCast, List.length_cons, List.length_nil]
     unfold Lib.occAt at h3
     cases hd : z.drop i with
     | nil => rw [hd] at h3; cases h3
     | cons c t =>
       rw [hd] at h3
       have hc : c = 46 := by
         have h4 : (46 : UInt8) = c := by simpa [List.isPrefixOf] using h3
         exact h4.symm
       have ht : z.drop (i + (0 + 1)) = t := by
         rw [← List.drop_drop, hd]; rfl
       rw [ht, ← hc, ← hd, List.take_append_drop]
 · cases h
/-- A float's form, taken apart. -/
theorem fformM_split {s a b : List UInt8} (h : fformM s = some (a, b)) : digs a ∧ digs b ∧ a ≠ [] ∧ b ≠ [] ∧ a.length + b.length ≤ 15 ∧ wholeM s = a ++ 46 :: b := by
 unfold fformM at h
 simp only at h
 split at h
 · rename_i hc
   simp only [Bool.and_eq_true, decide_eq_true_eq] at hc
   obtain ⟨h1, h2, h3, h4⟩ := hc
   simp only [Option.some.injEq, Prod.mk.injEq] at h
   obtain ⟨rfl, rfl⟩ := h
   have d1 := digitsM_digs h2
   have d2 := digitsM_digs h3
   refine ⟨d1.2, d2.2, by simpa using d1.1, by simpa using d2.1, by omega, ?_⟩
   exact cut_dot h1
 · cases h
end Go.SP
namespace Go.SP
theorem drop_tl {s r : List UInt8} {j : Nat} {c : UInt8} (h : s.drop j = c :: r) : s.drop (j + 1) = r := by
 rw [← List.drop_drop, h]; rfl
theorem drop_hd {s r : List UInt8} {j : Nat} {c : UInt8} (h : s.drop j = c :: r) : s[j]? = some c := by
 have : (s.drop j)[0]? = some c := by rw [h]; rfl
 simpa using this
/-- The second sign of a float's text: a digit, or the point. -/
theorem float_at1 (o : Nat) {s a b : List UInt8} (ha : digs a) (hne : a ≠ []) (hs : s.drop o = a ++ 46 :: b) : ∃ c, s[((o : Int) + 1).toNat]? = some c ∧ 46 ≤ c.toNat ∧ c.toNat ≤ 57 := by
 have e : ((o : Int) + 1).toNat = o + 1 := by omega
 rw [e]
 rcases a with _ | ⟨x, _ | ⟨y, a⟩⟩
 · exact absurd rfl hne
 · exact ⟨46, drop_hd (r := b) (drop_tl (c := x) (by simpa using hs)), by decide, by decide⟩
 · have := ha y (.tail _ (.head _))
   exact ⟨y, drop_hd (r := a ++ 46 :: b) (drop_tl (c := x) (by simpa using hs)), by omega, by omega⟩
end Go.SP
namespace Go.SP
open Ieee
theorem quot_some {k : Nat} {d e : Datum} (h1 : d.isNaN = false) (h2 : e.isNaN = false ∧ e.isInfinity = false ∧ e.isZero = false) : ∃ r, d.quotient k e = some r := by
 obtain ⟨h2, h3, h4⟩ := h2
 cases d with
 | nan s t => cases h1
 | infinity s => cases e with
   | nan s t => cases h2
   | infinity s => cases h3
   | number s m p => exact ⟨_, rfl⟩
 | number s m p => cases e with
   | nan s t => cases h2
   | infinity s => cases h3
   | number s' m' p' =>
     cases m' with
     | zero => cases h4
     | succ m' => exact ⟨_, rfl⟩
theorem read_rung {x : Nat} (h : x % 9223372036854775808 ≤ 9218868437227405312) : (double.read x).isNaN = false := by
 unfold Format.read
 simp only [show double.signWeight = 9223372036854775808 from by decide, show double.infRung = 9218868437227405312 from by decide]
 split
 · rfl
 · split
   · rfl
   · split
     · rfl
     · omega
theorem nearest_rung (m : Nat) : FloatKind.f64.nearest (m : Int) ≤ 9218868437227405312 := by
 unfold FloatKind.nearest FloatKind.encode
 have hn : decide ((m : Int) < 0) = false := by simp
 rw [hn]
 show double.nearest false m 0 ≤ _
 unfold Format.nearest
 split
 · decide
 · simp only [Format.word, Bool.false_eq_true, if_false]
   exact Nat.le_trans (Nat.min_le_right _ _) (by decide)
theorem neg_rung {x : Nat} (h : x ≤ 9218868437227405312) : Op.negFloat .f64 x % 9223372036854775808 = x := by
 have e : (9223372036854775808 : Nat) = 2 ^ 63 := by decide
 have e2 : (FloatKind.f64.format.exponentBits + FloatKind.f64.format.fractionBits) = 63 := by decide
 unfold Op.negFloat
 rw [e, e2, Nat.xor_mod_two_pow, Nat.mod_self, Nat.xor_zero, Nat.mod_eq_of_lt (by omega)]
theorem pow10_ok : ∀ n : Fin 15, (double.read (pow10B.getD n.val 0)).isNaN = false ∧ (double.read (pow10B.getD n.val 0)).isInfinity = false ∧ (double.read (pow10B.getD n.val 0)).isZero = false := by decide +kernel
theorem div_some (neg : Bool) (m n : Nat) (hn : n < 15) : ∃ r, FloatKind.f64.format.div (if neg then Op.negFloat .f64 (FloatKind.f64.nearest (m : Int)) else FloatKind.f64.nearest (m : Int)) (pow10B.getD n 0) = some r := by
 have h1 := nearest_rung m
 have h2 : (double.read (if neg then Op.negFloat .f64 (FloatKind.f64.nearest (m : Int)) else FloatKind.f64.nearest (m : Int))).isNaN = false := by
   apply read_rung
   cases neg with
   | true => rw [if_pos rfl, neg_rung h1]; exact h1
   | false => rw [if_neg (by decide), Nat.mod_eq_of_lt (by omega)]; exact h1
 obtain ⟨r, hr⟩ := quot_some (k := double.fractionBits + 2) h2 (pow10_ok ⟨n, hn⟩)
 exact ⟨double.write r, congrArg (Option.map double.write) hr⟩
end Go.SP
namespace Go.SP
theorem pow10_at {n : Nat} (h : n < 15) : pow10B[n]? = some (pow10B.getD n 0) := by
 have hl : n < pow10B.length := h
 rw [List.getD_eq_getElem?_getD, List.getElem?_eq_getElem hl]
 rfl
end Go.SP
namespace Go.Proofs.YthjdnhnbgjgbkaaGreatDoor
open Go.SW Go.SP Go.RowKit
theorem cpl_spec (w : World) (c : UInt8) (r : List UInt8) (hc : 48 ≤ c.toNat ∧ c.toNat ≤ 57) :
   Ret Tryz.prog 119 #[S (c :: r), S [105, 110, 102, 105, 110, 105, 116, 121]] w fun v w' => v = .int .i64 0 ∧ Ext w w' := by
 have hX := Ext.refl w
 refine enter Tryz.func119 rfl rfl rfl ?_
 refine ewp_seq ?_
 refine ewp_reg ?_
 refine ewl_run rfl (rn_assign rfl) ?_
 refine ewl_nil ?_
 refine thn_n ?_
 refine ewp_seq ?_
 refine ewp_reg ?_
 refine ewl_run rfl (rn_move rfl) ?_
 refine ewl_run rfl (rn_lenS rfl un9) ?_
 refine ewl_run rfl (rn_move rfl) ?_
 refine ewl_run rfl (rn_lenS rfl un9) ?_
 refine ewl_run rfl (rn_minI rfl rfl) ?_
 refine ewl_run rfl (rn_assign rfl) ?_
 refine ewl_nil ?_
 refine thn_n ?_
 refine ewp_seq ?_
 refine ewp_seq ?_
 refine ewp_reg ?_
 refine ewl_run rfl (rn_assign rfl) ?_
 refine ewl_nil ?_
 refine thn_n ?_
 refine ewp_block ?_
 refine ewp_loop (fun k σ ds w' => k = 1 ∧ ds = [] ∧ σ = (upd (upd (upd (upd SW.e0 0 (S (c :: r))) 1 (S [105, 110, 102, 105, 110, 105, 116, 121])) 5 (.int .i64 (if (((c :: r).length : Nat) : Int) < (([105, 110, 102, 105, 110, 105, 116, 121] : List UInt8).length : Int) then (((c :: r).length : Nat) : Int) else (([105, 110, 102, 105, 110, 105, 116, 121] : List UInt8).length : Int)))) 6 (.int .i64 0)) ∧ Ext w w') 1 (upd (upd (upd (upd SW.e0 0 (S (c :: r))) 1 (S [105, 110, 102, 105, 110, 105, 116, 121])) 5 (.int .i64 (if (((c :: r).length : Nat) : Int) < (([105, 110, 102, 105, 110, 105, 116, 121] : List UInt8).length : Int) then (((c :: r).length : Nat) : Int) else (([105, 110, 102, 105, 110, 105, 116, 121] : List UInt8).length : Int)))) 6 (.int .i64 0)) (le_upd (le_upd (le_upd (le_upd (le_e0 _) rfl) rfl) rfl) rfl) ⟨rfl, rfl, rfl, hX⟩ ?_
 rintro _ _ _ wl ⟨rfl, rfl, rfl, hX⟩
 refine ewp_seq ?_
 refine ewp_seq ?_
 refine ewp_reg ?_
 refine ewl_run rfl (rn_move rfl) ?_
 refine ewl_run rfl (rn_move rfl) ?_
 refine ewl_run rfl (rn_ltI rfl rfl) ?_
 refine ewl_nil ?_
 refine thn_n ?_
 refine ewp_if rfl (fun h1 => ?_) (fun h1 => ?_)
 refine ewp_skip ?_
 refine thn_n ?_
 refine ewp_seq ?_
 refine ewp_block ?_
 refine ewp_seq ?_
 refine ewp_reg ?_
 refine ewl_run rfl (rn_move rfl) ?_
 refine ewl_run rfl (rn_move rfl) ?_
 refine ewl_run rfl (rn_ixS (c := c) rfl rfl un9 (by decide) rfl) ?_
 refine ewl_run rfl (rn_assign rfl) ?_
 refine ewl_nil ?_
 refine thn_n ?_
 refine ewp_seq ?_
 refine ewp_seq ?_
 refine ewp_reg ?_
 refine ewl_run rfl (rn_move rfl) ?_
 refine ewl_run rfl (rn_leI rfl rfl) ?_
 refine ewl_run rfl (rn_move rfl) ?_
 refine ewl_split 23 rfl (fun h2 => ?_) (fun h2 => ?_)
 · exfalso
   have h9 := of_decide_eq_true h2; omega
 refine ewl_off rfl rfl rfl h2 ?_
 refine ewl_off rfl rfl rfl h2 ?_
 refine ewl_run rfl (rn_pickf rfl h2 rfl) ?_
 refine ewl_nil ?_
 refine thn_n ?_
 refine ewp_iff rfl rfl ?_
 refine ewp_skip ?_
 refine thn_n ?_
 refine ewp_seq ?_
 refine ewp_reg ?_
 refine ewl_run rfl (rn_move rfl) ?_
 refine ewl_run rfl (rn_move rfl) ?_
 refine ewl_run rfl (rn_move rfl) ?_
 refine ewl_run rfl (rn_ixS (c := 105) rfl rfl un9 (by decide) rfl) ?_
 refine ewl_run rfl (rn_neI rfl rfl) ?_
 refine ewl_nil ?_
 refine thn_n ?_
 refine ewp_if rfl (fun h3 => ?_) (fun h3 => ?_)
 refine ewp_seq ?_
 refine ewp_reg ?_
 refine ewl_run rfl (rn_move rfl) ?_
 refine ewl_run rfl (rn_assign rfl) ?_
 refine ewl_nil ?_
 refine thn_n ?_
 refine ewp_ret ?_
 refine blk_r ?_
 refine thn_r ?_
 refine lp_r ?_
 refine blk_r ?_
 refine thn_r ?_
 refine fn_r (resv rfl (rv_tmp rfl)) ?_
 exact ⟨rfl, hX⟩
 · exfalso
   exact absurd (show (c.toNat : Int) = 105 by simpa using h3) (by omega)
 · exfalso
   have h9 := of_decide_eq_false h1; revert h9; simp only [List.length_cons, List.length_nil]; split <;> omega
theorem special_pos (w : World) (c : UInt8) (r : List UInt8) (hc : 48 ≤ c.toNat ∧ c.toNat ≤ 57) :
   Ret Tryz.prog 104 #[S (c :: r)] w fun v w' => v = .tuple #[.float .f64 0, .int .i64 0, .bool false] ∧ Ext w w' := by
 have hX := Ext.refl w
 refine enter Tryz.func104 rfl rfl rfl ?_
 refine ewp_seq ?_
 refine ewp_reg ?_
 refine ewl_run rfl (rn_assign rfl) ?_
 refine ewl_run rfl (rn_assign rfl) ?_
 refine ewl_run rfl (rn_assign rfl) ?_
 refine ewl_nil ?_
 refine thn_n ?_
 refine ewp_seq ?_
 refine ewp_seq ?_
 refine ewp_reg ?_
 refine ewl_run rfl (rn_move rfl) ?_
 refine ewl_run rfl (rn_lenS rfl un9) ?_
 refine ewl_run rfl (rn_eqI rfl rfl) ?_
 refine ewl_nil ?_
 refine thn_n ?_
 refine ewp_if rfl (fun h1 => ?_) (fun h1 => ?_)
 · exfalso
   have h9 := (beq_iff_eq).1 h1; simp only [List.length_cons] at h9; omega
 refine ewp_skip ?_
 refine thn_n ?_
 refine ewp_seq ?_
 refine ewp_reg ?_
 refine ewl_run rfl (rn_assign rfl) ?_
 refine ewl_nil ?_
 refine thn_n ?_
 refine ewp_seq ?_
 refine ewp_reg ?_
 refine ewl_run rfl (rn_assign rfl) ?_
 refine ewl_nil ?_
 refine thn_n ?_
 refine ewp_seq ?_
 refine ewp_seq ?_
 refine ewp_reg ?_
 refine ewl_run rfl (rn_move rfl) ?_
 refine ewl_run rfl (rn_ixS (c := c) rfl rfl un9 (by decide) rfl) ?_
 refine ewl_nil ?_
 refine thn_n ?_
 refine ewp_block ?_
 refine ewp_seq ?_
 refine ewp_block ?_
 refine ewp_seq ?_
 refine ewp_block ?_
 refine ewp_seq ?_
 refine ewp_block ?_
 refine ewp_seq ?_
 refine ewp_seq ?_
 refine ewp_seq ?_
 refine ewp_seq ?_
 refine ewp_reg ?_
 refine ewl_run rfl (rn_eqI rfl rfl) ?_
 refine ewl_run rfl (rn_assign rfl) ?_
 refine ewl_nil ?_
 refine thn_n ?_
 refine ewp_if rfl (fun h2 => ?_) (fun h2 => ?_)
 · exfalso
   have h9 := (beq_iff_eq).1 h2; omega
 refine ewp_reg ?_
 refine ewl_run rfl (rn_eqI rfl rfl) ?_
 refine ewl_run rfl (rn_assign rfl) ?_
 refine ewl_nil ?_
 refine thn_n ?_
 refine ewp_if rfl (fun h3 => ?_) (fun h3 => ?_)
 · exfalso
   have h9 := (beq_iff_eq).1 h3; omega
 refine ewp_skip ?_
 refine thn_n ?_
 refine ewp_seq ?_
 refine ewp_seq ?_
 refine ewp_seq ?_
 refine ewp_reg ?_
 refine ewl_run rfl (rn_eqI rfl rfl) ?_
 refine ewl_run rfl (rn_assign rfl) ?_
 refine ewl_nil ?_
 refine thn_n ?_
 refine ewp_if rfl (fun h4 => ?_) (fun h4 => ?_)
 · exfalso
   have h9 := (beq_iff_eq).1 h4; omega
 refine ewp_reg ?_
 refine ewl_run rfl (rn_eqI rfl rfl) ?_
 refine ewl_run rfl (rn_assign rfl) ?_
 refine ewl_nil ?_
 refine thn_n ?_
 refine ewp_if rfl (fun h5 => ?_) (fun h5 => ?_)
 · exfalso
   have h9 := (beq_iff_eq).1 h5; omega
 refine ewp_skip ?_
 refine thn_n ?_
 refine ewp_seq ?_
 refine ewp_seq ?_
 refine ewp_reg ?_
 refine ewl_run rfl (rn_eqI rfl rfl) ?_
 refine ewl_run rfl (rn_assign rfl) ?_
 refine ewl_nil ?_
 refine thn_n ?_
 refine ewp_if rfl (fun h6 => ?_) (fun h6 => ?_)
 · exfalso
   have h9 := (beq_iff_eq).1 h6; omega
 refine ewp_reg ?_
 refine ewl_run rfl (rn_eqI rfl rfl) ?_
 refine ewl_run rfl (rn_assign rfl) ?_
 refine ewl_nil ?_
 refine thn_n ?_
 refine ewp_if rfl (fun h7 => ?_) (fun h7 => ?_)
 · exfalso
   have h9 := (beq_iff_eq).1 h7; omega
 refine ewp_skip ?_
 refine thn_n ?_
 refine ewp_exit ?_
 refine blk_o rfl ?_
 refine thn_e ?_
 refine blk_o rfl ?_
 refine thn_e ?_
 refine blk_o rfl ?_
 refine thn_e ?_
 refine blk_e ?_
 refine thn_n ?_
 refine ewp_seq ?_
 refine ewp_reg ?_
 refine ewl_run rfl (rn_assign rfl) ?_
 refine ewl_run rfl (rn_assign rfl) ?_
 refine ewl_run rfl (rn_assign rfl) ?_
 refine ewl_nil ?_
 refine thn_n ?_
 refine ewp_ret ?_
 refine fn_r (resv3 rfl (rv_tmp rfl) (rv_tmp rfl) (rv_tmp rfl)) ?_
 exact ⟨rfl, hX⟩
theorem special_neg (w : World) (c : UInt8) (r : List UInt8) (hc : 48 ≤ c.toNat ∧ c.toNat ≤ 57) :
   Ret Tryz.prog 104 #[S (45 :: c :: r)] w fun v w' => v = .tuple #[.float .f64 0, .int .i64 0, .bool false] ∧ Ext w w' := by
 have hX := Ext.refl w
 refine enter Tryz.func104 rfl rfl rfl ?_
 refine ewp_seq ?_
 refine ewp_reg ?_
 refine ewl_run rfl (rn_assign rfl) ?_
 refine ewl_run rfl (rn_assign rfl) ?_
 refine ewl_run rfl (rn_assign rfl) ?_
 refine ewl_nil ?_
 refine thn_n ?_
 refine ewp_seq ?_
 refine ewp_seq ?_
 refine ewp_reg ?_
 refine ewl_run rfl (rn_move rfl) ?_
 refine ewl_run rfl (rn_lenS rfl un9) ?_
 refine ewl_run rfl (rn_eqI rfl rfl) ?_
 refine ewl_nil ?_
 refine thn_n ?_
 refine ewp_if rfl (fun h1 => ?_) (fun h1 => ?_)
 · exfalso
   have h9 := (beq_iff_eq).1 h1; simp only [List.length_cons] at h9; omega
 refine ewp_skip ?_
 refine thn_n ?_
 refine ewp_seq ?_
 refine ewp_reg ?_
 refine ewl_run rfl (rn_assign rfl) ?_
 refine ewl_nil ?_
 refine thn_n ?_
 refine ewp_seq ?_
 refine ewp_reg ?_
 refine ewl_run rfl (rn_assign rfl) ?_
 refine ewl_nil ?_
 refine thn_n ?_
 refine ewp_seq ?_
 refine ewp_seq ?_
 refine ewp_reg ?_
 refine ewl_run rfl (rn_move rfl) ?_
 refine ewl_run rfl (rn_ixS (c := 45) rfl rfl un9 (by decide) rfl) ?_
 refine ewl_nil ?_
 refine thn_n ?_
 refine ewp_block ?_
 refine ewp_seq ?_
 refine ewp_block ?_
 refine ewp_seq ?_
 refine ewp_block ?_
 refine ewp_seq ?_
 refine ewp_block ?_
 refine ewp_seq ?_
 refine ewp_seq ?_
 refine ewp_seq ?_
 refine ewp_seq ?_
 refine ewp_reg ?_
 refine ewl_run rfl (rn_eqI rfl rfl) ?_
 refine ewl_run rfl (rn_assign rfl) ?_
 refine ewl_nil ?_
 refine thn_n ?_
 refine ewp_iff rfl rfl ?_
 refine ewp_reg ?_
 refine ewl_run rfl (rn_eqI rfl rfl) ?_
 refine ewl_run rfl (rn_assign rfl) ?_
 refine ewl_nil ?_
 refine thn_n ?_
 refine ewp_ift rfl rfl ?_
 refine ewp_exit ?_
 refine thn_e ?_
 refine thn_e ?_
 refine blk_e ?_
 refine thn_n ?_
 refine ewp_seq ?_
 refine ewp_seq ?_
 refine ewp_reg ?_
 refine ewl_run rfl (rn_move rfl) ?_
 refine ewl_run rfl (rn_ixS (c := 45) rfl rfl un9 (by decide) rfl) ?_
 refine ewl_run rfl (rn_eqI rfl rfl) ?_
 refine ewl_nil ?_
 refine thn_n ?_
 refine ewp_ift rfl rfl ?_
 refine ewp_reg ?_
 refine ewl_run rfl (rn_assign rfl) ?_
 refine ewl_nil ?_
 refine thn_n ?_
 refine ewp_seq ?_
 refine ewp_reg ?_
 refine ewl_run rfl (rn_assign rfl) ?_
 refine ewl_nil ?_
 refine thn_n ?_
 refine ewp_reg ?_
 refine ewl_run rfl (rn_move rfl) ?_
 refine ewl_run rfl (rn_slSfrom1 rfl rfl un9) ?_
 refine ewl_run rfl (rn_assign rfl) ?_
 refine ewl_nil ?_
 refine blk_n ?_
 refine thn_n ?_
 refine ewp_seq ?_
 refine ewp_seq ?_
 refine ewp_reg ?_
 refine ewl_run rfl (rn_move rfl) ?_
 refine ewl_ret rfl (en_call ent119 rfl rfl) (cpl_spec _ c r hc) ?_
 rintro _ w1 ⟨rfl, hE1⟩
 replace hX := hX.trans hE1
 have sz1 := hE1.size
 refine ewl_run rfl (rn_assign rfl) ?_
 refine ewl_nil ?_
 refine thn_n ?_
 refine ewp_seq ?_
 refine ewp_seq ?_
 refine ewp_reg ?_
 refine ewl_run rfl (rn_move rfl) ?_
 refine ewl_run rfl (rn_ltI rfl rfl) ?_
 refine ewl_run rfl (rn_move rfl) ?_
 refine ewl_off rfl rfl rfl rfl ?_
 refine ewl_off rfl rfl rfl rfl ?_
 refine ewl_run rfl (rn_pickf rfl rfl rfl) ?_
 refine ewl_nil ?_
 refine thn_n ?_
 refine ewp_iff rfl rfl ?_
 refine ewp_skip ?_
 refine thn_n ?_
 refine ewp_seq ?_
 refine ewp_reg ?_
 refine ewl_run rfl (rn_move rfl) ?_
 refine ewl_run rfl (rn_eqI rfl rfl) ?_
 refine ewl_run rfl (rn_move rfl) ?_
 refine ewl_grd rfl rfl rfl ?_
 refine ewl_run rfl (rn_move rfl) ?_
 refine ewl_grd rfl rfl rfl ?_
 refine ewl_run rfl (rn_eqI rfl rfl) ?_
 refine ewl_run rfl (rn_pickf rfl rfl rfl) ?_
 refine ewl_nil ?_
 refine thn_n ?_
 refine ewp_iff rfl rfl ?_
 refine ewp_skip ?_
 refine thn_n ?_
 refine ewp_exit ?_
 refine blk_o rfl ?_
 refine thn_e ?_
 refine blk_e ?_
 refine thn_n ?_
 refine ewp_seq ?_
 refine ewp_reg ?_
 refine ewl_run rfl (rn_assign rfl) ?_
 refine ewl_run rfl (rn_assign rfl) ?_
 refine ewl_run rfl (rn_assign rfl) ?_
 refine ewl_nil ?_
 refine thn_n ?_
 refine ewp_ret ?_
 refine fn_r (resv3 rfl (rv_tmp rfl) (rv_tmp rfl) (rv_tmp rfl)) ?_
 exact ⟨rfl, hX⟩
theorem lower_spec (w : World) (c : UInt8) (hc : 46 ≤ c.toNat ∧ c.toNat ≤ 57) :
   Ret Tryz.prog 93 #[.int .u8 c.toNat] w fun v w' => v = .int .u8 c.toNat ∧ Ext w w' := by
 have hX := Ext.refl w
 refine enter Tryz.func93 rfl rfl rfl ?_
 refine ewp_seq ?_
 refine ewp_reg ?_
 refine ewl_run rfl (rn_assign rfl) ?_
 refine ewl_nil ?_
 refine thn_n ?_
 refine ewp_seq ?_
 refine ewp_reg ?_
 refine ewl_run rfl (rn_move rfl) ?_
 refine ewl_run rfl (rn_orK (c.toNat : Int) rfl rfl (low46 ⟨c.toNat, by omega⟩ hc.1)) ?_
 refine ewl_run rfl (rn_assign rfl) ?_
 refine ewl_nil ?_
 refine thn_n ?_
 refine ewp_ret ?_
 refine fn_r (resv rfl (rv_tmp rfl)) ?_
 exact ⟨rfl, hX⟩
end Go.Proofs.YthjdnhnbgjgbkaaGreatDoor
