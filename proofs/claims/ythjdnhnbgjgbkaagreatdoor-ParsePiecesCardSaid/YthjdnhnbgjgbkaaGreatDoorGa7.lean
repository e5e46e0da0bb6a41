/- What the laws on parse rest on: contracts of the functions of parse and lex, for every world in which the listed package variables hold what the text lays. Part 7. -/
import Derived.Test.YthjdnhnbgjgbkaaGreatDoorGa6
import Derived.KernelRfl
import Derived.Test.YthjdnhnbgjgbkaaGreatDoorCards
import Derived.Test.YthjdnhnbgjgbkaaGreatDoorTie
import Derived.Lib.LaidU8
import Derived.Clock
import Derived.ProofKit
import Derived.Lay
import Derived.OpenShut
import Derived.Stop.Joined
import Derived.Deep.DeepHandedRow
set_option linter.unusedVariables false
set_option linter.unusedSimpArgs false
namespace Go.Proofs.YthjdnhnbgjgbkaaGreatDoor
open Go.SW Go.SP Go.RowKit
theorem readFloat_pos (w : World) (s : List UInt8) (a b : List UInt8) (ha : digs a) (hb : digs b) (hane : a ≠ []) (hbne : b ≠ []) (hab : a.length + b.length ≤ 15) (hs : s = (a ++ 46 :: b)) :
   Ret Tryz.prog 105 #[S s] w fun v w' => v = .tuple #[.int .u64 (decN 0 (a ++ b) : Int), .int .i64 (if decN 0 (a ++ b) = 0 then 0 else -(b.length : Int)), .bool false, .bool false, .bool false, .int .i64 (s.length : Int), .bool true] ∧ Ext w w' := by
 have hal : 1 ≤ a.length := List.length_pos_iff.2 hane
 have hbl : 1 ≤ b.length := List.length_pos_iff.2 hbne
 obtain ⟨a0, ar, hae⟩ : ∃ c r, a = c :: r := by
   cases a with
   | nil => exact absurd rfl hane
   | cons c r => exact ⟨c, r, rfl⟩
 obtain ⟨a1, ha1, ha1d⟩ := float_at1 (s := s) (b := b) 0 ha hane (by rw [hs]; rfl)
 have hX := Ext.refl w
 refine enter Tryz.func105 rfl rfl rfl ?_
 refine ewp_seq ?_
 refine ewp_reg ?_
 refine ewl_run rfl (rn_assign rfl) ?_
 refine ewl_run rfl (rn_assign rfl) ?_
 refine ewl_run rfl (rn_assign rfl) ?_
 refine ewl_run rfl (rn_assign rfl) ?_
 refine ewl_run rfl (rn_assign rfl) ?_
 refine ewl_run rfl (rn_assign rfl) ?_
 refine ewl_run rfl (rn_assign rfl) ?_
 refine ewl_nil ?_
 refine thn_n ?_
 refine ewp_scope ?_
 refine ewp_seq ?_
 refine ewp_reg ?_
 refine ewl_run rfl (rn_assign rfl) ?_
 refine ewl_nil ?_
 refine thn_n ?_
 refine ewp_seq ?_
 refine ewp_seq ?_
 refine ewp_reg ?_
 refine ewl_run rfl (rn_move rfl) ?_
 refine ewl_run rfl (rn_move rfl) ?_
 refine ewl_run rfl (rn_lenS rfl un9) ?_
 refine ewl_run rfl (rn_geI rfl rfl) ?_
 refine ewl_nil ?_
 refine thn_n ?_
 refine ewp_if rfl (fun h1 => ?_) (fun h1 => ?_)
 · exfalso
   have h9 := of_decide_eq_true h1; rw [hs] at h9; simp at h9; omega
 refine ewp_skip ?_
 refine thn_n ?_
 refine ewp_seq ?_
 refine ewp_seq ?_
 refine ewp_reg ?_
 refine ewl_run rfl (rn_move rfl) ?_
 refine ewl_run rfl (rn_move rfl) ?_
 refine ewl_run rfl (rn_ixS (c := a0) rfl rfl un9 (by decide) (by rw [hs, hae]; rfl)) ?_
 refine ewl_nil ?_
 refine thn_n ?_
 refine ewp_block ?_
 refine ewp_seq ?_
 refine ewp_reg ?_
 refine ewl_run rfl (rn_eqI rfl rfl) ?_
 refine ewl_run rfl (rn_assign rfl) ?_
 refine ewl_nil ?_
 refine thn_n ?_
 refine ewp_if rfl (fun h2 => ?_) (fun h2 => ?_)
 · exfalso
   have h9 := (beq_iff_eq).1 h2; have h8 := ha a0 (hae ▸ List.mem_cons_self); omega
 refine ewp_seq ?_
 refine ewp_reg ?_
 refine ewl_run rfl (rn_eqI rfl rfl) ?_
 refine ewl_run rfl (rn_assign rfl) ?_
 refine ewl_nil ?_
 refine thn_n ?_
 refine ewp_if rfl (fun h3 => ?_) (fun h3 => ?_)
 · exfalso
   have h9 := (beq_iff_eq).1 h3; have h8 := ha a0 (hae ▸ List.mem_cons_self); omega
 refine ewp_skip ?_
 refine blk_n ?_
 refine thn_n ?_
 refine ewp_seq ?_
 refine ewp_reg ?_
 refine ewl_run rfl (rn_assign rfl) ?_
 refine ewl_nil ?_
 refine thn_n ?_
 refine ewp_seq ?_
 refine ewp_reg ?_
 refine ewl_run rfl (rn_assign rfl) ?_
 refine ewl_nil ?_
 refine thn_n ?_
 refine ewp_seq ?_
 refine ewp_reg ?_
 refine ewl_run rfl (rn_assign rfl) ?_
 refine ewl_nil ?_
 refine thn_n ?_
 refine ewp_seq ?_
 refine ewp_seq ?_
 refine ewp_reg ?_
 refine ewl_run rfl (rn_move rfl) ?_
 refine ewl_run rfl (rn_addK (2) rfl rfl (by decide)) ?_
 refine ewl_run rfl (rn_move rfl) ?_
 refine ewl_run rfl (rn_lenS rfl un9) ?_
 refine ewl_run rfl (rn_ltI rfl rfl) ?_
 refine ewl_run rfl (rn_move rfl) ?_
 refine ewl_split 41 rfl (fun h4 => ?_) (fun h4 => ?_)
 refine ewl_grd rfl rfl h4 ?_
 refine ewl_run rfl (rn_move rfl) ?_
 refine ewl_grd rfl rfl h4 ?_
 refine ewl_run rfl (rn_move rfl) ?_
 refine ewl_grd rfl rfl h4 ?_
 refine ewl_run rfl (rn_ixS (c := a0) rfl rfl un9 (by decide) (by rw [hs, hae]; rfl)) ?_
 refine ewl_grd rfl rfl h4 ?_
 refine ewl_run rfl (rn_eqI rfl rfl) ?_
 refine ewl_run rfl (rn_pickt rfl h4 rfl) ?_
 refine ewl_run rfl (rn_move rfl) ?_
 refine ewl_split 47 rfl (fun h5 => ?_) (fun h5 => ?_)
 refine ewl_grd rfl rfl h5 ?_
 refine ewl_run rfl (rn_move rfl) ?_
 refine ewl_grd rfl rfl h5 ?_
 refine ewl_run rfl (rn_move rfl) ?_
 refine ewl_grd rfl rfl h5 ?_
 refine ewl_run rfl (rn_addK (1) rfl rfl (by decide)) ?_
 refine ewl_grd rfl rfl h5 ?_
 refine ewl_run rfl (rn_ixS (c := a1) rfl rfl un9 (by decide) ha1) ?_
 refine ewl_grd rfl rfl h5 ?_
 refine ewl_ret rfl (en_call ent93 rfl rfl) (lower_spec _ a1 ha1d) ?_
 rintro _ w1 ⟨rfl, hE1⟩
 replace hX := hX.trans hE1
 have sz1 := hE1.size
 refine ewl_grd rfl rfl h5 ?_
 refine ewl_run rfl (rn_eqI rfl rfl) ?_
 refine ewl_run rfl (rn_pickt rfl h5 rfl) ?_
 refine ewl_nil ?_
 refine thn_n ?_
 refine ewp_if rfl (fun h6 => ?_) (fun h6 => ?_)
 · exfalso
   have h9 := (beq_iff_eq).1 h6; omega
 refine ewp_skip ?_
 refine thn_n ?_
 refine ewp_seq ?_
 refine ewp_reg ?_
 refine ewl_run rfl (rn_assign rfl) ?_
 refine ewl_nil ?_
 refine thn_n ?_
 refine ewp_seq ?_
 refine ewp_reg ?_
 refine ewl_run rfl (rn_assign rfl) ?_
 refine ewl_nil ?_
 refine thn_n ?_
 refine ewp_seq ?_
 refine ewp_reg ?_
 refine ewl_run rfl (rn_assign rfl) ?_
 refine ewl_nil ?_
 refine thn_n ?_
 refine ewp_seq ?_
 refine ewp_reg ?_
 refine ewl_run rfl (rn_assign rfl) ?_
 refine ewl_nil ?_
 refine thn_n ?_
 refine ewp_seq ?_
 refine ewp_reg ?_
 refine ewl_run rfl (rn_assign rfl) ?_
 refine ewl_nil ?_
 refine thn_n ?_
 refine ewp_seq ?_
 refine ewp_label ?_
 refine thn_n ?_
 refine ewp_seq ?_
 refine ewp_block ?_
 refine ewp_loop (fun k σ ds w' => ∃ (j m nd : Nat) (dp : Int) (dot sd : Bool) (rest : List UInt8), k = rest.length ∧ ds = [] ∧ σ = (upd (upd (upd (upd (upd (upd (upd (upd (upd (upd (upd (upd (upd (upd (upd (upd SW.e0 0 (S s)) 2 (.int .u64 (m : Int))) 3 (.int .i64 0)) 4 (.bool false)) 5 (.bool false)) 6 (.bool false)) 7 (.int .i64 (j : Int))) 8 (.bool false)) 9 (.bool false)) 10 (.int .u64 10)) 11 (.int .i64 19)) 13 (.bool dot)) 14 (.bool sd)) 15 (.int .i64 (nd : Int))) 16 (.int .i64 (nd : Int))) 17 (.int .i64 dp)) ∧ s.drop j = rest ∧ j + rest.length = s.length ∧ FV b dot rest ∧ decN 0 (a ++ b) = decN m (noDot rest) ∧ (dot = true → dp = (nd : Int) - ((b.length : Int) - rest.length)) ∧ nd ≤ j ∧ -(j : Int) ≤ dp ∧ dp ≤ j ∧ (nd = 0 ↔ m = 0) ∧ (sd = true ∨ rest = a ++ 46 :: b) ∧ Ext w w') (a ++ 46 :: b).length (upd (upd (upd (upd (upd (upd (upd (upd (upd (upd (upd (upd (upd (upd (upd (upd SW.e0 0 (S s)) 2 (.int .u64 ((0 : Nat) : Int))) 3 (.int .i64 0)) 4 (.bool false)) 5 (.bool false)) 6 (.bool false)) 7 (.int .i64 ((0 : Nat) : Int))) 8 (.bool false)) 9 (.bool false)) 10 (.int .u64 10)) 11 (.int .i64 19)) 13 (.bool false)) 14 (.bool false)) 15 (.int .i64 ((0 : Nat) : Int))) 16 (.int .i64 ((0 : Nat) : Int))) 17 (.int .i64 0)) (le_upd (le_upd (le_upd (le_upd (le_upd (le_upd (le_upd (le_upd (le_upd (le_upd (le_upd (le_upd (le_upd (le_upd (le_upd (le_upd (le_e0 _) rfl) rfl) rfl) rfl) rfl) rfl) rfl) rfl) rfl) rfl) rfl) rfl) rfl) rfl) rfl) rfl) ⟨0, 0, 0, 0, false, false, a ++ 46 :: b, rfl, rfl, rfl, by rw [hs]; rfl, by rw [hs]; simp <;> omega, ⟨a, rfl, ha⟩, by rw [noDot_all ha hb], (fun h => by cases h), by omega, by omega, by omega, by simp, .inr rfl, hX⟩ ?_
 rintro _ _ _ wl ⟨j, m, nd, dp, dot, sd, rest, rfl, rfl, rfl, hdr, hjr, hfv, hdec, hdp, hnd, hd1, hd2, hnm, hsd, hX⟩
 have hml : m < 1000000000000000 := by have h1 := decN_mono (noDot rest) m; have h2 := decN_small (l := a ++ b) (fun x hx => (List.mem_append.1 hx).elim (ha x) (hb x)) (by rw [List.length_append]; exact hab); omega
 have hsl : s.length ≤ 17 := by rw [hs]; simp; omega
 refine ewp_seq ?_
 refine ewp_seq ?_
 refine ewp_reg ?_
 refine ewl_run rfl (rn_move rfl) ?_
 refine ewl_run rfl (rn_move rfl) ?_
 refine ewl_run rfl (rn_lenS rfl un9) ?_
 refine ewl_run rfl (rn_ltI rfl rfl) ?_
 refine ewl_nil ?_
 refine thn_n ?_
 refine ewp_if rfl (fun h7 => ?_) (fun h7 => ?_)
 refine ewp_skip ?_
 refine thn_n ?_
 refine ewp_seq ?_
 refine ewp_block ?_
 refine ewp_seq ?_
 refine ewp_seq ?_
 rcases rest with _ | ⟨c, r⟩
 · exfalso; have h9 := of_decide_eq_true h7; simp at hjr; omega
 have hcj : s[j]? = some c := drop_hd hdr
 have hcl := hfv.cons
 have hc46 : 46 ≤ c.toNat ∧ c.toNat ≤ 57 := hcl.elim (fun h => by rw [h.1]; decide) (fun h => by omega)
 refine ewp_reg ?_
 refine ewl_run rfl (rn_move rfl) ?_
 refine ewl_run rfl (rn_move rfl) ?_
 refine ewl_run rfl (rn_ixS (c := c) rfl rfl un9 (by omega) (by rw [Int.toNat_natCast]; exact hcj)) ?_
 refine ewl_run rfl (rn_assign rfl) ?_
 refine ewl_nil ?_
 refine thn_n ?_
 refine ewp_block ?_
 refine ewp_seq ?_
 refine ewp_reg ?_
 refine ewl_run rfl (rn_move rfl) ?_
 refine ewl_run rfl (rn_eqI rfl rfl) ?_
 refine ewl_run rfl (rn_eqBt un4 rfl rfl) ?_
 refine ewl_run rfl (rn_assign rfl) ?_
 refine ewl_nil ?_
 refine thn_n ?_
 refine ewp_if rfl (fun h8 => ?_) (fun h8 => ?_)
 · exfalso
   have h9 := (beq_iff_eq).1 h8; omega
 refine ewp_seq ?_
 refine ewp_reg ?_
 refine ewl_run rfl (rn_move rfl) ?_
 refine ewl_run rfl (rn_eqI rfl rfl) ?_
 refine ewl_run rfl (rn_eqBt un4 rfl rfl) ?_
 refine ewl_run rfl (rn_assign rfl) ?_
 refine ewl_nil ?_
 refine thn_n ?_
 refine ewp_if rfl (fun h9 => ?_) (fun h9 => ?_)
 refine ewp_seq ?_
 refine ewp_seq ?_
 have hc6 : (c.toNat : Int) = 46 := by simpa using h9
 obtain ⟨hc6, hdf, hrb⟩ : c = 46 ∧ dot = false ∧ r = b := hcl.elim id (fun h => by omega)
 replace hrb := hrb.symm
 subst hdf hrb hc6
 have hsd2 : sd = true := hsd.resolve_right (fun h => by cases a with | nil => exact hane rfl | cons x a => simp at h; have := ha x (.head _); rw [← h.1] at this; revert this; decide)
 refine ewp_reg ?_
 refine ewl_run rfl (rn_move rfl) ?_
 refine ewl_nil ?_
 refine thn_n ?_
 refine ewp_iff rfl rfl ?_
 refine ewp_skip ?_
 refine thn_n ?_
 refine ewp_seq ?_
 refine ewp_reg ?_
 refine ewl_run rfl (rn_assign rfl) ?_
 refine ewl_nil ?_
 refine thn_n ?_
 refine ewp_seq ?_
 refine ewp_reg ?_
 refine ewl_run rfl (rn_move rfl) ?_
 refine ewl_run rfl (rn_assign rfl) ?_
 refine ewl_nil ?_
 refine thn_n ?_
 refine ewp_exit ?_
 refine blk_o rfl ?_
 refine thn_e ?_
 refine blk_e ?_
 refine thn_n ?_
 refine ewp_reg ?_
 refine ewl_run rfl (rn_move rfl) ?_
 refine ewl_run rfl (rn_add rfl rfl ⟨by omega, by omega⟩) ?_
 refine ewl_run rfl (rn_assign rfl) ?_
 refine ewl_nil ?_
 refine lp_n b.length (upd (upd (upd (upd (upd (upd (upd (upd (upd (upd (upd (upd (upd (upd (upd (upd SW.e0 0 (S s)) 2 (.int .u64 (m : Int))) 3 (.int .i64 0)) 4 (.bool false)) 5 (.bool false)) 6 (.bool false)) 7 (.int .i64 ((j + 1 : Nat) : Int))) 8 (.bool false)) 9 (.bool false)) 10 (.int .u64 10)) 11 (.int .i64 19)) 13 (.bool true)) 14 (.bool sd)) 15 (.int .i64 (nd : Int))) 16 (.int .i64 (nd : Int))) 17 (.int .i64 (nd : Int))) (by simp) (le_upd (le_upd (le_upd (le_upd (le_upd (le_upd (le_upd (le_upd (le_upd (le_upd (le_upd (le_upd (le_upd (le_upd (le_upd (le_upd (le_e0 _) rfl) rfl) rfl) rfl) rfl) rfl) rfl) rfl) rfl) rfl) rfl) rfl) rfl) rfl) rfl) rfl) ⟨j + 1, m, nd, (nd : Int), true, sd, b, rfl, rfl, rfl, drop_tl hdr, by simp only [List.length_cons] at hjr; omega, ⟨hb, Nat.le_refl _⟩, by rw [hdec, noDot_dot], (fun _ => by omega), by omega, by omega, by omega, hnm, .inl hsd2, hX⟩
 refine ewp_seq ?_
 have hn6 : (c.toNat : Int) ≠ 46 := by simpa using h9
 obtain ⟨hcd, hfr⟩ : (48 ≤ c.toNat ∧ c.toNat ≤ 57) ∧ FV b dot r := hcl.elim (fun h => absurd (by rw [h.1]; rfl) hn6) id
 refine ewp_reg ?_
 refine ewl_run rfl (rn_move rfl) ?_
 refine ewl_run rfl (rn_leI rfl rfl) ?_
 refine ewl_run rfl (rn_move rfl) ?_
 refine ewl_split 79 rfl (fun h10 => ?_) (fun h10 => ?_)
 refine ewl_grd rfl rfl h10 ?_
 refine ewl_run rfl (rn_move rfl) ?_
 refine ewl_grd rfl rfl h10 ?_
 refine ewl_run rfl (rn_leI rfl rfl) ?_
 refine ewl_run rfl (rn_pickt rfl h10 rfl) ?_
 refine ewl_run rfl (rn_eqBt un4 rfl rfl) ?_
 refine ewl_run rfl (rn_assign rfl) ?_
 refine ewl_nil ?_
 refine thn_n ?_
 refine ewp_if rfl (fun h11 => ?_) (fun h11 => ?_)
 refine ewp_seq ?_
 refine ewp_reg ?_
 refine ewl_run rfl (rn_assign rfl) ?_
 refine ewl_nil ?_
 refine thn_n ?_
 refine ewp_seq ?_
 refine ewp_seq ?_
 refine ewp_reg ?_
 refine ewl_run rfl (rn_move rfl) ?_
 refine ewl_run rfl (rn_eqI rfl rfl) ?_
 refine ewl_run rfl (rn_move rfl) ?_
 refine ewl_split 86 rfl (fun h12 => ?_) (fun h12 => ?_)
 refine ewl_grd rfl rfl h12 ?_
 refine ewl_run rfl (rn_move rfl) ?_
 refine ewl_grd rfl rfl h12 ?_
 refine ewl_run rfl (rn_eqI rfl rfl) ?_
 refine ewl_run rfl (rn_pickt rfl h12 rfl) ?_
 refine ewl_nil ?_
 refine thn_n ?_
 refine ewp_if rfl (fun h13 => ?_) (fun h13 => ?_)
 refine ewp_seq ?_
 refine ewp_reg ?_
 refine ewl_run rfl (rn_move rfl) ?_
 refine ewl_run rfl (rn_sub rfl rfl ⟨by omega, by omega⟩) ?_
 refine ewl_run rfl (rn_assign rfl) ?_
 refine ewl_nil ?_
 refine thn_n ?_
 refine ewp_exit ?_
 refine thn_e ?_
 refine blk_o rfl ?_
 refine thn_e ?_
 refine blk_e ?_
 refine thn_n ?_
 refine ewp_reg ?_
 refine ewl_run rfl (rn_move rfl) ?_
 refine ewl_run rfl (rn_add rfl rfl ⟨by omega, by omega⟩) ?_
 refine ewl_run rfl (rn_assign rfl) ?_
 refine ewl_nil ?_
 have hm0 : m = 0 := hnm.1 (by have := h13; simp at this; omega)
 have hc0 : c.toNat = 48 := by have := h12; simp at this; omega
 refine lp_n r.length (upd (upd (upd (upd (upd (upd (upd (upd (upd (upd (upd (upd (upd (upd (upd (upd SW.e0 0 (S s)) 2 (.int .u64 (m : Int))) 3 (.int .i64 0)) 4 (.bool false)) 5 (.bool false)) 6 (.bool false)) 7 (.int .i64 ((j + 1 : Nat) : Int))) 8 (.bool false)) 9 (.bool false)) 10 (.int .u64 10)) 11 (.int .i64 19)) 13 (.bool dot)) 14 (.bool true)) 15 (.int .i64 (nd : Int))) 16 (.int .i64 (nd : Int))) 17 (.int .i64 (dp - 1))) (by simp) (le_upd (le_upd (le_upd (le_upd (le_upd (le_upd (le_upd (le_upd (le_upd (le_upd (le_upd (le_upd (le_upd (le_upd (le_upd (le_upd (le_e0 _) rfl) rfl) rfl) rfl) rfl) rfl) rfl) rfl) rfl) rfl) rfl) rfl) rfl) rfl) rfl) rfl) ⟨j + 1, m, nd, dp - 1, dot, true, r, rfl, rfl, rfl, drop_tl hdr, by simp only [List.length_cons] at hjr; omega, hfr, by rw [hdec, noDot_cons hcd, decN_c, hc0, hm0], (fun h => by have h1 := hdp h; simp only [List.length_cons] at h1; omega), by omega, by omega, by omega, hnm, .inl rfl, hX⟩
 refine ewp_skip ?_
 refine thn_n ?_
 refine ewp_seq ?_
 have hnz : ¬ (m * 10 + (c.toNat - 48) = 0) := by
   intro h9
   have hm9 : m = 0 := by omega
   have hn9 := hnm.2 hm9
   have h8 := h13
   simp at h8
   omega
 refine ewp_reg ?_
 refine ewl_run rfl (rn_move rfl) ?_
 refine ewl_run rfl (rn_add rfl rfl ⟨by omega, by omega⟩) ?_
 refine ewl_run rfl (rn_assign rfl) ?_
 refine ewl_nil ?_
 refine thn_n ?_
 refine ewp_seq ?_
 refine ewp_seq ?_
 refine ewp_reg ?_
 refine ewl_run rfl (rn_move rfl) ?_
 refine ewl_run rfl (rn_move rfl) ?_
 refine ewl_run rfl (rn_ltI rfl rfl) ?_
 refine ewl_nil ?_
 refine thn_n ?_
 refine ewp_if rfl (fun h14 => ?_) (fun h14 => ?_)
 refine ewp_seq ?_
 refine ewp_reg ?_
 refine ewl_run rfl (rn_move rfl) ?_
 refine ewl_run rfl (rn_move rfl) ?_
 refine ewl_run rfl (rn_mulK ((m : Int) * 10) rfl rfl (wrapU64 ⟨by omega, by omega⟩)) ?_
 refine ewl_run rfl (rn_assign rfl) ?_
 refine ewl_nil ?_
 refine thn_n ?_
 refine ewp_seq ?_
 refine ewp_reg ?_
 refine ewl_run rfl (rn_move rfl) ?_
 refine ewl_run rfl (rn_move rfl) ?_
 refine ewl_run rfl (rn_subK ((c.toNat : Int) - 48) rfl rfl (wrap8 ⟨by omega, by omega⟩)) ?_
 refine ewl_run rfl (rn_cvI (m := (c.toNat : Int) - 48) rfl cv5_33 (wrapU64 ⟨by omega, by omega⟩)) ?_
 refine ewl_run rfl (rn_addK ((m : Int) * 10 + ((c.toNat : Int) - 48)) rfl rfl (wrapU64 ⟨by omega, by omega⟩)) ?_
 refine ewl_run rfl (rn_assign rfl) ?_
 refine ewl_nil ?_
 refine thn_n ?_
 refine ewp_reg ?_
 refine ewl_run rfl (rn_move rfl) ?_
 refine ewl_run rfl (rn_add rfl rfl ⟨by omega, by omega⟩) ?_
 refine ewl_run rfl (rn_assign rfl) ?_
 refine ewl_nil ?_
 refine thn_n ?_
 refine ewp_exit ?_
 refine blk_o rfl ?_
 refine thn_e ?_
 refine blk_e ?_
 refine thn_n ?_
 refine ewp_reg ?_
 refine ewl_run rfl (rn_move rfl) ?_
 refine ewl_run rfl (rn_add rfl rfl ⟨by omega, by omega⟩) ?_
 refine ewl_run rfl (rn_assign rfl) ?_
 refine ewl_nil ?_
 have hme : (m : Int) * 10 + ((c.toNat : Int) - 48) = ((m * 10 + (c.toNat - 48) : Nat) : Int) := by omega
 refine lp_n r.length (upd (upd (upd (upd (upd (upd (upd (upd (upd (upd (upd (upd (upd (upd (upd (upd SW.e0 0 (S s)) 2 (.int .u64 ((m * 10 + (c.toNat - 48) : Nat) : Int))) 3 (.int .i64 0)) 4 (.bool false)) 5 (.bool false)) 6 (.bool false)) 7 (.int .i64 ((j + 1 : Nat) : Int))) 8 (.bool false)) 9 (.bool false)) 10 (.int .u64 10)) 11 (.int .i64 19)) 13 (.bool dot)) 14 (.bool true)) 15 (.int .i64 ((nd + 1 : Nat) : Int))) 16 (.int .i64 ((nd + 1 : Nat) : Int))) 17 (.int .i64 dp)) (by simp) (le_upd (le_upd (le_upd (le_upd (le_upd (le_upd (le_upd (le_upd (le_upd (le_upd (le_upd (le_upd (le_upd (le_upd (le_upd (le_upd (le_e0 _) rfl) (hme ▸ rfl)) rfl) rfl) rfl) rfl) rfl) rfl) rfl) rfl) rfl) rfl) rfl) rfl) rfl) rfl) ⟨j + 1, m * 10 + (c.toNat - 48), nd + 1, dp, dot, true, r, rfl, rfl, rfl, drop_tl hdr, by simp only [List.length_cons] at hjr; omega, hfr, by rw [hdec, noDot_cons hcd, decN_c], (fun h => by have h1 := hdp h; simp only [List.length_cons] at h1; omega), by omega, by omega, by omega, ⟨fun h => by omega, fun h => ?_⟩, .inl rfl, hX⟩
 exfalso
 have hz := hnz
 omega
 · exfalso
   have h9 := of_decide_eq_false h14; omega
 refine ewl_off rfl rfl rfl h12 ?_
 refine ewl_off rfl rfl rfl h12 ?_
 refine ewl_run rfl (rn_pickf rfl h12 rfl) ?_
 refine ewl_nil ?_
 refine thn_n ?_
 refine ewp_iff rfl rfl ?_
 refine ewp_skip ?_
 refine thn_n ?_
 refine ewp_seq ?_
 have hnz : ¬ (m * 10 + (c.toNat - 48) = 0) := by
   intro h9
   have hm9 : m = 0 := by omega
   have hn9 := hnm.2 hm9
   have h8 := h12
   simp at h8
   omega
 refine ewp_reg ?_
 refine ewl_run rfl (rn_move rfl) ?_
 refine ewl_run rfl (rn_add rfl rfl ⟨by omega, by omega⟩) ?_
 refine ewl_run rfl (rn_assign rfl) ?_
 refine ewl_nil ?_
 refine thn_n ?_
 refine ewp_seq ?_
 refine ewp_seq ?_
 refine ewp_reg ?_
 refine ewl_run rfl (rn_move rfl) ?_
 refine ewl_run rfl (rn_move rfl) ?_
 refine ewl_run rfl (rn_ltI rfl rfl) ?_
 refine ewl_nil ?_
 refine thn_n ?_
 refine ewp_if rfl (fun h15 => ?_) (fun h15 => ?_)
 refine ewp_seq ?_
 refine ewp_reg ?_
 refine ewl_run rfl (rn_move rfl) ?_
 refine ewl_run rfl (rn_move rfl) ?_
 refine ewl_run rfl (rn_mulK ((m : Int) * 10) rfl rfl (wrapU64 ⟨by omega, by omega⟩)) ?_
 refine ewl_run rfl (rn_assign rfl) ?_
 refine ewl_nil ?_
 refine thn_n ?_
 refine ewp_seq ?_
 refine ewp_reg ?_
 refine ewl_run rfl (rn_move rfl) ?_
 refine ewl_run rfl (rn_move rfl) ?_
 refine ewl_run rfl (rn_subK ((c.toNat : Int) - 48) rfl rfl (wrap8 ⟨by omega, by omega⟩)) ?_
 refine ewl_run rfl (rn_cvI (m := (c.toNat : Int) - 48) rfl cv5_33 (wrapU64 ⟨by omega, by omega⟩)) ?_
 refine ewl_run rfl (rn_addK ((m : Int) * 10 + ((c.toNat : Int) - 48)) rfl rfl (wrapU64 ⟨by omega, by omega⟩)) ?_
 refine ewl_run rfl (rn_assign rfl) ?_
 refine ewl_nil ?_
 refine thn_n ?_
 refine ewp_reg ?_
 refine ewl_run rfl (rn_move rfl) ?_
 refine ewl_run rfl (rn_add rfl rfl ⟨by omega, by omega⟩) ?_
 refine ewl_run rfl (rn_assign rfl) ?_
 refine ewl_nil ?_
 refine thn_n ?_
 refine ewp_exit ?_
 refine blk_o rfl ?_
 refine thn_e ?_
 refine blk_e ?_
 refine thn_n ?_
 refine ewp_reg ?_
 refine ewl_run rfl (rn_move rfl) ?_
 refine ewl_run rfl (rn_add rfl rfl ⟨by omega, by omega⟩) ?_
 refine ewl_run rfl (rn_assign rfl) ?_
 refine ewl_nil ?_
 have hme : (m : Int) * 10 + ((c.toNat : Int) - 48) = ((m * 10 + (c.toNat - 48) : Nat) : Int) := by omega
 refine lp_n r.length (upd (upd (upd (upd (upd (upd (upd (upd (upd (upd (upd (upd (upd (upd (upd (upd SW.e0 0 (S s)) 2 (.int .u64 ((m * 10 + (c.toNat - 48) : Nat) : Int))) 3 (.int .i64 0)) 4 (.bool false)) 5 (.bool false)) 6 (.bool false)) 7 (.int .i64 ((j + 1 : Nat) : Int))) 8 (.bool false)) 9 (.bool false)) 10 (.int .u64 10)) 11 (.int .i64 19)) 13 (.bool dot)) 14 (.bool true)) 15 (.int .i64 ((nd + 1 : Nat) : Int))) 16 (.int .i64 ((nd + 1 : Nat) : Int))) 17 (.int .i64 dp)) (by simp) (le_upd (le_upd (le_upd (le_upd (le_upd (le_upd (le_upd (le_upd (le_upd (le_upd (le_upd (le_upd (le_upd (le_upd (le_upd (le_upd (le_e0 _) rfl) (hme ▸ rfl)) rfl) rfl) rfl) rfl) rfl) rfl) rfl) rfl) rfl) rfl) rfl) rfl) rfl) rfl) ⟨j + 1, m * 10 + (c.toNat - 48), nd + 1, dp, dot, true, r, rfl, rfl, rfl, drop_tl hdr, by simp only [List.length_cons] at hjr; omega, hfr, by rw [hdec, noDot_cons hcd, decN_c], (fun h => by have h1 := hdp h; simp only [List.length_cons] at h1; omega), by omega, by omega, by omega, ⟨fun h => by omega, fun h => ?_⟩, .inl rfl, hX⟩
 exfalso
 have hz := hnz
 omega
 · exfalso
   have h9 := of_decide_eq_false h15; omega
 · exfalso
   have h9 := of_decide_eq_false h11; omega
 · exfalso
   have h9 := of_decide_eq_false h10; omega
 refine ewp_exit ?_
 refine thn_e ?_
 refine lp_e ?_
 refine blk_e ?_
 refine thn_n ?_
 refine ewp_seq ?_
 refine ewp_seq ?_
 have hrn : rest = [] := by cases rest with | nil => rfl | cons x r => exfalso; have h9 := of_decide_eq_false h7; simp only [List.length_cons] at hjr; omega
 subst hrn
 have hdt := hfv.nil
 subst hdt
 have hst : sd = true := hsd.resolve_right (fun h => by cases a <;> cases h)
 subst hst
 have hdp2 := hdp rfl
 simp only [List.length_nil] at hdp2 hjr
 have hM : decN 0 (a ++ b) = m := by rw [hdec]; exact decN_n m
 refine ewp_reg ?_
 refine ewl_run rfl (rn_move rfl) ?_
 refine ewl_run rfl (rn_nott rfl rfl) ?_
 refine ewl_nil ?_
 refine thn_n ?_
 refine ewp_iff rfl rfl ?_
 refine ewp_skip ?_
 refine thn_n ?_
 refine ewp_seq ?_
 refine ewp_seq ?_
 refine ewp_reg ?_
 refine ewl_run rfl (rn_move rfl) ?_
 refine ewl_run rfl (rn_nott rfl rfl) ?_
 refine ewl_nil ?_
 refine thn_n ?_
 refine ewp_iff rfl rfl ?_
 refine ewp_skip ?_
 refine thn_n ?_
 refine ewp_seq ?_
 refine ewp_seq ?_
 refine ewp_reg ?_
 refine ewl_run rfl (rn_move rfl) ?_
 refine ewl_run rfl (rn_eqI rfl rfl) ?_
 refine ewl_nil ?_
 refine thn_n ?_
 refine ewp_iff rfl rfl ?_
 refine ewp_skip ?_
 refine thn_n ?_
 refine ewp_seq ?_
 refine ewp_seq ?_
 refine ewp_reg ?_
 refine ewl_run rfl (rn_move rfl) ?_
 refine ewl_run rfl (rn_move rfl) ?_
 refine ewl_run rfl (rn_lenS rfl un9) ?_
 refine ewl_run rfl (rn_ltI rfl rfl) ?_
 refine ewl_run rfl (rn_move rfl) ?_
 refine ewl_split 154 rfl (fun h16 => ?_) (fun h16 => ?_)
 · exfalso
   have h9 := of_decide_eq_true h16; omega
 refine ewl_off rfl rfl rfl h16 ?_
 refine ewl_off rfl rfl rfl h16 ?_
 refine ewl_off rfl rfl rfl h16 ?_
 refine ewl_off rfl rfl rfl h16 ?_
 refine ewl_off rfl rfl rfl h16 ?_
 refine ewl_off rfl rfl rfl h16 ?_
 refine ewl_run rfl (rn_pickf rfl h16 rfl) ?_
 refine ewl_nil ?_
 refine thn_n ?_
 refine ewp_iff rfl rfl ?_
 refine ewp_seq ?_
 refine ewp_reg ?_
 refine ewl_run rfl (rn_move rfl) ?_
 refine ewl_run rfl (rn_eqI rfl rfl) ?_
 refine ewl_nil ?_
 refine thn_n ?_
 refine ewp_iff rfl rfl ?_
 refine ewp_skip ?_
 refine thn_n ?_
 refine ewp_seq ?_
 refine ewp_seq ?_
 refine ewp_reg ?_
 refine ewl_run rfl (rn_move rfl) ?_
 refine ewl_run rfl (rn_neI rfl rfl) ?_
 refine ewl_nil ?_
 refine thn_n ?_
 refine ewp_if rfl (fun h17 => ?_) (fun h17 => ?_)
 refine ewp_reg ?_
 refine ewl_run rfl (rn_move rfl) ?_
 refine ewl_run rfl (rn_move rfl) ?_
 refine ewl_run rfl (rn_sub rfl rfl ⟨by omega, by omega⟩) ?_
 refine ewl_run rfl (rn_assign rfl) ?_
 refine ewl_nil ?_
 refine thn_n ?_
 refine ewp_seq ?_
 refine ewp_seq ?_
 refine ewp_reg ?_
 refine ewl_run rfl (rn_move rfl) ?_
 refine ewl_run rfl (rn_move rfl) ?_
 refine ewl_off rfl rfl rfl rfl ?_
 refine ewl_off rfl rfl rfl rfl ?_
 refine ewl_off rfl rfl rfl rfl ?_
 refine ewl_off rfl rfl rfl rfl ?_
 refine ewl_off rfl rfl rfl rfl ?_
 refine ewl_run rfl (rn_pickf rfl rfl rfl) ?_
 refine ewl_nil ?_
 refine thn_n ?_
 refine ewp_iff rfl rfl ?_
 refine ewp_skip ?_
 refine thn_n ?_
 refine ewp_seq ?_
 refine ewp_reg ?_
 refine ewl_run rfl (rn_assign rfl) ?_
 refine ewl_nil ?_
 refine thn_n ?_
 refine ewp_ret ?_
 refine ngt_r ?_
 refine fn_r (resv7 rfl (rv_tmp rfl) (rv_tmp rfl) (rv_tmp rfl) (rv_tmp rfl) (rv_tmp rfl) (rv_tmp rfl) (rv_tmp rfl)) ?_
 exact ⟨by rw [if_neg (by rw [hM]; have h9 := h17; simp at h9; omega), hM, show dp - (nd : Int) = -(b.length : Int) by omega, show ((j : Nat) : Int) = (s.length : Int) by omega], hX⟩
 refine ewp_skip ?_
 refine thn_n ?_
 refine ewp_seq ?_
 refine ewp_seq ?_
 refine ewp_reg ?_
 refine ewl_run rfl (rn_move rfl) ?_
 refine ewl_run rfl (rn_move rfl) ?_
 refine ewl_off rfl rfl rfl rfl ?_
 refine ewl_off rfl rfl rfl rfl ?_
 refine ewl_off rfl rfl rfl rfl ?_
 refine ewl_off rfl rfl rfl rfl ?_
 refine ewl_off rfl rfl rfl rfl ?_
 refine ewl_run rfl (rn_pickf rfl rfl rfl) ?_
 refine ewl_nil ?_
 refine thn_n ?_
 refine ewp_iff rfl rfl ?_
 refine ewp_skip ?_
 refine thn_n ?_
 refine ewp_seq ?_
 refine ewp_reg ?_
 refine ewl_run rfl (rn_assign rfl) ?_
 refine ewl_nil ?_
 refine thn_n ?_
 refine ewp_ret ?_
 refine ngt_r ?_
 refine fn_r (resv7 rfl (rv_tmp rfl) (rv_tmp rfl) (rv_tmp rfl) (rv_tmp rfl) (rv_tmp rfl) (rv_tmp rfl) (rv_tmp rfl)) ?_
 exact ⟨by rw [if_pos (by rw [hM]; have h9 := h17; simp at h9; omega), hM, show ((j : Nat) : Int) = (s.length : Int) by omega], hX⟩
 refine ewl_off rfl rfl rfl h5 ?_
 refine ewl_off rfl rfl rfl h5 ?_
 refine ewl_off rfl rfl rfl h5 ?_
 refine ewl_off rfl rfl rfl h5 ?_
 refine ewl_off rfl rfl rfl h5 ?_
 refine ewl_off rfl rfl rfl h5 ?_
 refine ewl_run rfl (rn_pickf rfl h5 rfl) ?_
 refine ewl_nil ?_
 refine thn_n ?_
 refine ewp_iff rfl rfl ?_
 refine ewp_skip ?_
 refine thn_n ?_
 refine ewp_seq ?_
 refine ewp_reg ?_
 refine ewl_run rfl (rn_assign rfl) ?_
 refine ewl_nil ?_
 refine thn_n ?_
 refine ewp_seq ?_
 refine ewp_reg ?_
 refine ewl_run rfl (rn_assign rfl) ?_
 refine ewl_nil ?_
 refine thn_n ?_
 refine ewp_seq ?_
 refine ewp_reg ?_
 refine ewl_run rfl (rn_assign rfl) ?_
 refine ewl_nil ?_
 refine thn_n ?_
 refine ewp_seq ?_
 refine ewp_reg ?_
 refine ewl_run rfl (rn_assign rfl) ?_
 refine ewl_nil ?_
 refine thn_n ?_
 refine ewp_seq ?_
 refine ewp_reg ?_
 refine ewl_run rfl (rn_assign rfl) ?_
 refine ewl_nil ?_
 refine thn_n ?_
 refine ewp_seq ?_
 refine ewp_label ?_
 refine thn_n ?_
 refine ewp_seq ?_
 refine ewp_block ?_
 refine ewp_loop (fun k σ ds w' => ∃ (j m nd : Nat) (dp : Int) (dot sd : Bool) (rest : List UInt8), k = rest.length ∧ ds = [] ∧ σ = (upd (upd (upd (upd (upd (upd (upd (upd (upd (upd (upd (upd (upd (upd (upd (upd SW.e0 0 (S s)) 2 (.int .u64 (m : Int))) 3 (.int .i64 0)) 4 (.bool false)) 5 (.bool false)) 6 (.bool false)) 7 (.int .i64 (j : Int))) 8 (.bool false)) 9 (.bool false)) 10 (.int .u64 10)) 11 (.int .i64 19)) 13 (.bool dot)) 14 (.bool sd)) 15 (.int .i64 (nd : Int))) 16 (.int .i64 (nd : Int))) 17 (.int .i64 dp)) ∧ s.drop j = rest ∧ j + rest.length = s.length ∧ FV b dot rest ∧ decN 0 (a ++ b) = decN m (noDot rest) ∧ (dot = true → dp = (nd : Int) - ((b.length : Int) - rest.length)) ∧ nd ≤ j ∧ -(j : Int) ≤ dp ∧ dp ≤ j ∧ (nd = 0 ↔ m = 0) ∧ (sd = true ∨ rest = a ++ 46 :: b) ∧ Ext w w') (a ++ 46 :: b).length (upd (upd (upd (upd (upd (upd (upd (upd (upd (upd (upd (upd (upd (upd (upd (upd SW.e0 0 (S s)) 2 (.int .u64 ((0 : Nat) : Int))) 3 (.int .i64 0)) 4 (.bool false)) 5 (.bool false)) 6 (.bool false)) 7 (.int .i64 ((0 : Nat) : Int))) 8 (.bool false)) 9 (.bool false)) 10 (.int .u64 10)) 11 (.int .i64 19)) 13 (.bool false)) 14 (.bool false)) 15 (.int .i64 ((0 : Nat) : Int))) 16 (.int .i64 ((0 : Nat) : Int))) 17 (.int .i64 0)) (le_upd (le_upd (le_upd (le_upd (le_upd (le_upd (le_upd (le_upd (le_upd (le_upd (le_upd (le_upd (le_upd (le_upd (le_upd (le_upd (le_e0 _) rfl) rfl) rfl) rfl) rfl) rfl) rfl) rfl) rfl) rfl) rfl) rfl) rfl) rfl) rfl) rfl) ⟨0, 0, 0, 0, false, false, a ++ 46 :: b, rfl, rfl, rfl, by rw [hs]; rfl, by rw [hs]; simp <;> omega, ⟨a, rfl, ha⟩, by rw [noDot_all ha hb], (fun h => by cases h), by omega, by omega, by omega, by simp, .inr rfl, hX⟩ ?_
 rintro _ _ _ wl ⟨j, m, nd, dp, dot, sd, rest, rfl, rfl, rfl, hdr, hjr, hfv, hdec, hdp, hnd, hd1, hd2, hnm, hsd, hX⟩
 have hml : m < 1000000000000000 := by have h1 := decN_mono (noDot rest) m; have h2 := decN_small (l := a ++ b) (fun x hx => (List.mem_append.1 hx).elim (ha x) (hb x)) (by rw [List.length_append]; exact hab); omega
 have hsl : s.length ≤ 17 := by rw [hs]; simp; omega
 refine ewp_seq ?_
 refine ewp_seq ?_
 refine ewp_reg ?_
 refine ewl_run rfl (rn_move rfl) ?_
 refine ewl_run rfl (rn_move rfl) ?_
 refine ewl_run rfl (rn_lenS rfl un9) ?_
 refine ewl_run rfl (rn_ltI rfl rfl) ?_
 refine ewl_nil ?_
 refine thn_n ?_
 refine ewp_if rfl (fun h18 => ?_) (fun h18 => ?_)
 refine ewp_skip ?_
 refine thn_n ?_
 refine ewp_seq ?_
 refine ewp_block ?_
 refine ewp_seq ?_
 refine ewp_seq ?_
 rcases rest with _ | ⟨c, r⟩
 · exfalso; have h9 := of_decide_eq_true h18; simp at hjr; omega
 have hcj : s[j]? = some c := drop_hd hdr
 have hcl := hfv.cons
 have hc46 : 46 ≤ c.toNat ∧ c.toNat ≤ 57 := hcl.elim (fun h => by rw [h.1]; decide) (fun h => by omega)
 refine ewp_reg ?_
 refine ewl_run rfl (rn_move rfl) ?_
 refine ewl_run rfl (rn_move rfl) ?_
 refine ewl_run rfl (rn_ixS (c := c) rfl rfl un9 (by omega) (by rw [Int.toNat_natCast]; exact hcj)) ?_
 refine ewl_run rfl (rn_assign rfl) ?_
 refine ewl_nil ?_
 refine thn_n ?_
 refine ewp_block ?_
 refine ewp_seq ?_
 refine ewp_reg ?_
 refine ewl_run rfl (rn_move rfl) ?_
 refine ewl_run rfl (rn_eqI rfl rfl) ?_
 refine ewl_run rfl (rn_eqBt un4 rfl rfl) ?_
 refine ewl_run rfl (rn_assign rfl) ?_
 refine ewl_nil ?_
 refine thn_n ?_
 refine ewp_if rfl (fun h19 => ?_) (fun h19 => ?_)
 · exfalso
   have h9 := (beq_iff_eq).1 h19; omega
 refine ewp_seq ?_
 refine ewp_reg ?_
 refine ewl_run rfl (rn_move rfl) ?_
 refine ewl_run rfl (rn_eqI rfl rfl) ?_
 refine ewl_run rfl (rn_eqBt un4 rfl rfl) ?_
 refine ewl_run rfl (rn_assign rfl) ?_
 refine ewl_nil ?_
 refine thn_n ?_
 refine ewp_if rfl (fun h20 => ?_) (fun h20 => ?_)
 refine ewp_seq ?_
 refine ewp_seq ?_
 have hc6 : (c.toNat : Int) = 46 := by simpa using h20
 obtain ⟨hc6, hdf, hrb⟩ : c = 46 ∧ dot = false ∧ r = b := hcl.elim id (fun h => by omega)
 replace hrb := hrb.symm
 subst hdf hrb hc6
 have hsd2 : sd = true := hsd.resolve_right (fun h => by cases a with | nil => exact hane rfl | cons x a => simp at h; have := ha x (.head _); rw [← h.1] at this; revert this; decide)
 refine ewp_reg ?_
 refine ewl_run rfl (rn_move rfl) ?_
 refine ewl_nil ?_
 refine thn_n ?_
 refine ewp_iff rfl rfl ?_
 refine ewp_skip ?_
 refine thn_n ?_
 refine ewp_seq ?_
 refine ewp_reg ?_
 refine ewl_run rfl (rn_assign rfl) ?_
 refine ewl_nil ?_
 refine thn_n ?_
 refine ewp_seq ?_
 refine ewp_reg ?_
 refine ewl_run rfl (rn_move rfl) ?_
 refine ewl_run rfl (rn_assign rfl) ?_
 refine ewl_nil ?_
 refine thn_n ?_
 refine ewp_exit ?_
 refine blk_o rfl ?_
 refine thn_e ?_
 refine blk_e ?_
 refine thn_n ?_
 refine ewp_reg ?_
 refine ewl_run rfl (rn_move rfl) ?_
 refine ewl_run rfl (rn_add rfl rfl ⟨by omega, by omega⟩) ?_
 refine ewl_run rfl (rn_assign rfl) ?_
 refine ewl_nil ?_
 refine lp_n b.length (upd (upd (upd (upd (upd (upd (upd (upd (upd (upd (upd (upd (upd (upd (upd (upd SW.e0 0 (S s)) 2 (.int .u64 (m : Int))) 3 (.int .i64 0)) 4 (.bool false)) 5 (.bool false)) 6 (.bool false)) 7 (.int .i64 ((j + 1 : Nat) : Int))) 8 (.bool false)) 9 (.bool false)) 10 (.int .u64 10)) 11 (.int .i64 19)) 13 (.bool true)) 14 (.bool sd)) 15 (.int .i64 (nd : Int))) 16 (.int .i64 (nd : Int))) 17 (.int .i64 (nd : Int))) (by simp) (le_upd (le_upd (le_upd (le_upd (le_upd (le_upd (le_upd (le_upd (le_upd (le_upd (le_upd (le_upd (le_upd (le_upd (le_upd (le_upd (le_e0 _) rfl) rfl) rfl) rfl) rfl) rfl) rfl) rfl) rfl) rfl) rfl) rfl) rfl) rfl) rfl) rfl) ⟨j + 1, m, nd, (nd : Int), true, sd, b, rfl, rfl, rfl, drop_tl hdr, by simp only [List.length_cons] at hjr; omega, ⟨hb, Nat.le_refl _⟩, by rw [hdec, noDot_dot], (fun _ => by omega), by omega, by omega, by omega, hnm, .inl hsd2, hX⟩
 refine ewp_seq ?_
 have hn6 : (c.toNat : Int) ≠ 46 := by simpa using h20
 obtain ⟨hcd, hfr⟩ : (48 ≤ c.toNat ∧ c.toNat ≤ 57) ∧ FV b dot r := hcl.elim (fun h => absurd (by rw [h.1]; rfl) hn6) id
 refine ewp_reg ?_
 refine ewl_run rfl (rn_move rfl) ?_
 refine ewl_run rfl (rn_leI rfl rfl) ?_
 refine ewl_run rfl (rn_move rfl) ?_
 refine ewl_split 79 rfl (fun h21 => ?_) (fun h21 => ?_)
 refine ewl_grd rfl rfl h21 ?_
 refine ewl_run rfl (rn_move rfl) ?_
 refine ewl_grd rfl rfl h21 ?_
 refine ewl_run rfl (rn_leI rfl rfl) ?_
 refine ewl_run rfl (rn_pickt rfl h21 rfl) ?_
 refine ewl_run rfl (rn_eqBt un4 rfl rfl) ?_
 refine ewl_run rfl (rn_assign rfl) ?_
 refine ewl_nil ?_
 refine thn_n ?_
 refine ewp_if rfl (fun h22 => ?_) (fun h22 => ?_)
 refine ewp_seq ?_
 refine ewp_reg ?_
 refine ewl_run rfl (rn_assign rfl) ?_
 refine ewl_nil ?_
 refine thn_n ?_
 refine ewp_seq ?_
 refine ewp_seq ?_
 refine ewp_reg ?_
 refine ewl_run rfl (rn_move rfl) ?_
 refine ewl_run rfl (rn_eqI rfl rfl) ?_
 refine ewl_run rfl (rn_move rfl) ?_
 refine ewl_split 86 rfl (fun h23 => ?_) (fun h23 => ?_)
 refine ewl_grd rfl rfl h23 ?_
 refine ewl_run rfl (rn_move rfl) ?_
 refine ewl_grd rfl rfl h23 ?_
 refine ewl_run rfl (rn_eqI rfl rfl) ?_
 refine ewl_run rfl (rn_pickt rfl h23 rfl) ?_
 refine ewl_nil ?_
 refine thn_n ?_
 refine ewp_if rfl (fun h24 => ?_) (fun h24 => ?_)
 refine ewp_seq ?_
 refine ewp_reg ?_
 refine ewl_run rfl (rn_move rfl) ?_
 refine ewl_run rfl (rn_sub rfl rfl ⟨by omega, by omega⟩) ?_
 refine ewl_run rfl (rn_assign rfl) ?_
 refine ewl_nil ?_
 refine thn_n ?_
 refine ewp_exit ?_
 refine thn_e ?_
 refine blk_o rfl ?_
 refine thn_e ?_
 refine blk_e ?_
 refine thn_n ?_
 refine ewp_reg ?_
 refine ewl_run rfl (rn_move rfl) ?_
 refine ewl_run rfl (rn_add rfl rfl ⟨by omega, by omega⟩) ?_
 refine ewl_run rfl (rn_assign rfl) ?_
 refine ewl_nil ?_
 have hm0 : m = 0 := hnm.1 (by have := h24; simp at this; omega)
 have hc0 : c.toNat = 48 := by have := h23; simp at this; omega
 refine lp_n r.length (upd (upd (upd (upd (upd (upd (upd (upd (upd (upd (upd (upd (upd (upd (upd (upd SW.e0 0 (S s)) 2 (.int .u64 (m : Int))) 3 (.int .i64 0)) 4 (.bool false)) 5 (.bool false)) 6 (.bool false)) 7 (.int .i64 ((j + 1 : Nat) : Int))) 8 (.bool false)) 9 (.bool false)) 10 (.int .u64 10)) 11 (.int .i64 19)) 13 (.bool dot)) 14 (.bool true)) 15 (.int .i64 (nd : Int))) 16 (.int .i64 (nd : Int))) 17 (.int .i64 (dp - 1))) (by simp) (le_upd (le_upd (le_upd (le_upd (le_upd (le_upd (le_upd (le_upd (le_upd (le_upd (le_upd (le_upd (le_upd (le_upd (le_upd (le_upd (le_e0 _) rfl) rfl) rfl) rfl) rfl) rfl) rfl) rfl) rfl) rfl) rfl) rfl) rfl) rfl) rfl) rfl) ⟨j + 1, m, nd, dp - 1, dot, true, r, rfl, rfl, rfl, drop_tl hdr, by simp only [List.length_cons] at hjr; omega, hfr, by rw [hdec, noDot_cons hcd, decN_c, hc0, hm0], (fun h => by have h1 := hdp h; simp only [List.length_cons] at h1; omega), by omega, by omega, by omega, hnm, .inl rfl, hX⟩
 refine ewp_skip ?_
 refine thn_n ?_
 refine ewp_seq ?_
 have hnz : ¬ (m * 10 + (c.toNat - 48) = 0) := by
   intro h9
   have hm9 : m = 0 := by omega
   have hn9 := hnm.2 hm9
   have h8 := h24
   simp at h8
   omega
 refine ewp_reg ?_
 refine ewl_run rfl (rn_move rfl) ?_
 refine ewl_run rfl (rn_add rfl rfl ⟨by omega, by omega⟩) ?_
 refine ewl_run rfl (rn_assign rfl) ?_
 refine ewl_nil ?_
 refine thn_n ?_
 refine ewp_seq ?_
 refine ewp_seq ?_
 refine ewp_reg ?_
 refine ewl_run rfl (rn_move rfl) ?_
 refine ewl_run rfl (rn_move rfl) ?_
 refine ewl_run rfl (rn_ltI rfl rfl) ?_
 refine ewl_nil ?_
 refine thn_n ?_
 refine ewp_if rfl (fun h25 => ?_) (fun h25 => ?_)
 refine ewp_seq ?_
 refine ewp_reg ?_
 refine ewl_run rfl (rn_move rfl) ?_
 refine ewl_run rfl (rn_move rfl) ?_
 refine ewl_run rfl (rn_mulK ((m : Int) * 10) rfl rfl (wrapU64 ⟨by omega, by omega⟩)) ?_
 refine ewl_run rfl (rn_assign rfl) ?_
 refine ewl_nil ?_
 refine thn_n ?_
 refine ewp_seq ?_
 refine ewp_reg ?_
 refine ewl_run rfl (rn_move rfl) ?_
 refine ewl_run rfl (rn_move rfl) ?_
 refine ewl_run rfl (rn_subK ((c.toNat : Int) - 48) rfl rfl (wrap8 ⟨by omega, by omega⟩)) ?_
 refine ewl_run rfl (rn_cvI (m := (c.toNat : Int) - 48) rfl cv5_33 (wrapU64 ⟨by omega, by omega⟩)) ?_
 refine ewl_run rfl (rn_addK ((m : Int) * 10 + ((c.toNat : Int) - 48)) rfl rfl (wrapU64 ⟨by omega, by omega⟩)) ?_
 refine ewl_run rfl (rn_assign rfl) ?_
 refine ewl_nil ?_
 refine thn_n ?_
 refine ewp_reg ?_
 refine ewl_run rfl (rn_move rfl) ?_
 refine ewl_run rfl (rn_add rfl rfl ⟨by omega, by omega⟩) ?_
 refine ewl_run rfl (rn_assign rfl) ?_
 refine ewl_nil ?_
 refine thn_n ?_
 refine ewp_exit ?_
 refine blk_o rfl ?_
 refine thn_e ?_
 refine blk_e ?_
 refine thn_n ?_
 refine ewp_reg ?_
 refine ewl_run rfl (rn_move rfl) ?_
 refine ewl_run rfl (rn_add rfl rfl ⟨by omega, by omega⟩) ?_
 refine ewl_run rfl (rn_assign rfl) ?_
 refine ewl_nil ?_
 have hme : (m : Int) * 10 + ((c.toNat : Int) - 48) = ((m * 10 + (c.toNat - 48) : Nat) : Int) := by omega
 refine lp_n r.length (upd (upd (upd (upd (upd (upd (upd (upd (upd (upd (upd (upd (upd (upd (upd (upd SW.e0 0 (S s)) 2 (.int .u64 ((m * 10 + (c.toNat - 48) : Nat) : Int))) 3 (.int .i64 0)) 4 (.bool false)) 5 (.bool false)) 6 (.bool false)) 7 (.int .i64 ((j + 1 : Nat) : Int))) 8 (.bool false)) 9 (.bool false)) 10 (.int .u64 10)) 11 (.int .i64 19)) 13 (.bool dot)) 14 (.bool true)) 15 (.int .i64 ((nd + 1 : Nat) : Int))) 16 (.int .i64 ((nd + 1 : Nat) : Int))) 17 (.int .i64 dp)) (by simp) (le_upd (le_upd (le_upd (le_upd (le_upd (le_upd (le_upd (le_upd (le_upd (le_upd (le_upd (le_upd (le_upd (le_upd (le_upd (le_upd (le_e0 _) rfl) (hme ▸ rfl)) rfl) rfl) rfl) rfl) rfl) rfl) rfl) rfl) rfl) rfl) rfl) rfl) rfl) rfl) ⟨j + 1, m * 10 + (c.toNat - 48), nd + 1, dp, dot, true, r, rfl, rfl, rfl, drop_tl hdr, by simp only [List.length_cons] at hjr; omega, hfr, by rw [hdec, noDot_cons hcd, decN_c], (fun h => by have h1 := hdp h; simp only [List.length_cons] at h1; omega), by omega, by omega, by omega, ⟨fun h => by omega, fun h => ?_⟩, .inl rfl, hX⟩
 exfalso
 have hz := hnz
 omega
 · exfalso
   have h9 := of_decide_eq_false h25; omega
 refine ewl_off rfl rfl rfl h23 ?_
 refine ewl_off rfl rfl rfl h23 ?_
 refine ewl_run rfl (rn_pickf rfl h23 rfl) ?_
 refine ewl_nil ?_
 refine thn_n ?_
 refine ewp_iff rfl rfl ?_
 refine ewp_skip ?_
 refine thn_n ?_
 refine ewp_seq ?_
 have hnz : ¬ (m * 10 + (c.toNat - 48) = 0) := by
   intro h9
   have hm9 : m = 0 := by omega
   have hn9 := hnm.2 hm9
   have h8 := h23
   simp at h8
   omega
 refine ewp_reg ?_
 refine ewl_run rfl (rn_move rfl) ?_
 refine ewl_run rfl (rn_add rfl rfl ⟨by omega, by omega⟩) ?_
 refine ewl_run rfl (rn_assign rfl) ?_
 refine ewl_nil ?_
 refine thn_n ?_
 refine ewp_seq ?_
 refine ewp_seq ?_
 refine ewp_reg ?_
 refine ewl_run rfl (rn_move rfl) ?_
 refine ewl_run rfl (rn_move rfl) ?_
 refine ewl_run rfl (rn_ltI rfl rfl) ?_
 refine ewl_nil ?_
 refine thn_n ?_
 refine ewp_if rfl (fun h26 => ?_) (fun h26 => ?_)
 refine ewp_seq ?_
 refine ewp_reg ?_
 refine ewl_run rfl (rn_move rfl) ?_
 refine ewl_run rfl (rn_move rfl) ?_
 refine ewl_run rfl (rn_mulK ((m : Int) * 10) rfl rfl (wrapU64 ⟨by omega, by omega⟩)) ?_
 refine ewl_run rfl (rn_assign rfl) ?_
 refine ewl_nil ?_
 refine thn_n ?_
 refine ewp_seq ?_
 refine ewp_reg ?_
 refine ewl_run rfl (rn_move rfl) ?_
 refine ewl_run rfl (rn_move rfl) ?_
 refine ewl_run rfl (rn_subK ((c.toNat : Int) - 48) rfl rfl (wrap8 ⟨by omega, by omega⟩)) ?_
 refine ewl_run rfl (rn_cvI (m := (c.toNat : Int) - 48) rfl cv5_33 (wrapU64 ⟨by omega, by omega⟩)) ?_
 refine ewl_run rfl (rn_addK ((m : Int) * 10 + ((c.toNat : Int) - 48)) rfl rfl (wrapU64 ⟨by omega, by omega⟩)) ?_
 refine ewl_run rfl (rn_assign rfl) ?_
 refine ewl_nil ?_
 refine thn_n ?_
 refine ewp_reg ?_
 refine ewl_run rfl (rn_move rfl) ?_
 refine ewl_run rfl (rn_add rfl rfl ⟨by omega, by omega⟩) ?_
 refine ewl_run rfl (rn_assign rfl) ?_
 refine ewl_nil ?_
 refine thn_n ?_
 refine ewp_exit ?_
 refine blk_o rfl ?_
 refine thn_e ?_
 refine blk_e ?_
 refine thn_n ?_
 refine ewp_reg ?_
 refine ewl_run rfl (rn_move rfl) ?_
 refine ewl_run rfl (rn_add rfl rfl ⟨by omega, by omega⟩) ?_
 refine ewl_run rfl (rn_assign rfl) ?_
 refine ewl_nil ?_
 have hme : (m : Int) * 10 + ((c.toNat : Int) - 48) = ((m * 10 + (c.toNat - 48) : Nat) : Int) := by omega
 refine lp_n r.length (upd (upd (upd (upd (upd (upd (upd (upd (upd (upd (upd (upd (upd (upd (upd (upd SW.e0 0 (S s)) 2 (.int .u64 ((m * 10 + (c.toNat - 48) : Nat) : Int))) 3 (.int .i64 0)) 4 (.bool false)) 5 (.bool false)) 6 (.bool false)) 7 (.int .i64 ((j + 1 : Nat) : Int))) 8 (.bool false)) 9 (.bool false)) 10 (.int .u64 10)) 11 (.int .i64 19)) 13 (.bool dot)) 14 (.bool true)) 15 (.int .i64 ((nd + 1 : Nat) : Int))) 16 (.int .i64 ((nd + 1 : Nat) : Int))) 17 (.int .i64 dp)) (by simp) (le_upd (le_upd (le_upd (le_upd (le_upd (le_upd (le_upd (le_upd (le_upd (le_upd (le_upd (le_upd (le_upd (le_upd (le_upd (le_upd (le_e0 _) rfl) (hme ▸ rfl)) rfl) rfl) rfl) rfl) rfl) rfl) rfl) rfl) rfl) rfl) rfl) rfl) rfl) rfl) ⟨j + 1, m * 10 + (c.toNat - 48), nd + 1, dp, dot, true, r, rfl, rfl, rfl, drop_tl hdr, by simp only [List.length_cons] at hjr; omega, hfr, by rw [hdec, noDot_cons hcd, decN_c], (fun h => by have h1 := hdp h; simp only [List.length_cons] at h1; omega), by omega, by omega, by omega, ⟨fun h => by omega, fun h => ?_⟩, .inl rfl, hX⟩
 exfalso
 have hz := hnz
 omega
 · exfalso
   have h9 := of_decide_eq_false h26; omega
 · exfalso
   have h9 := of_decide_eq_false h22; omega
 · exfalso
   have h9 := of_decide_eq_false h21; omega
 refine ewp_exit ?_
 refine thn_e ?_
 refine lp_e ?_
 refine blk_e ?_
 refine thn_n ?_
 refine ewp_seq ?_
 refine ewp_seq ?_
 have hrn : rest = [] := by cases rest with | nil => rfl | cons x r => exfalso; have h9 := of_decide_eq_false h18; simp only [List.length_cons] at hjr; omega
 subst hrn
 have hdt := hfv.nil
 subst hdt
 have hst : sd = true := hsd.resolve_right (fun h => by cases a <;> cases h)
 subst hst
 have hdp2 := hdp rfl
 simp only [List.length_nil] at hdp2 hjr
 have hM : decN 0 (a ++ b) = m := by rw [hdec]; exact decN_n m
 refine ewp_reg ?_
 refine ewl_run rfl (rn_move rfl) ?_
 refine ewl_run rfl (rn_nott rfl rfl) ?_
 refine ewl_nil ?_
 refine thn_n ?_
 refine ewp_iff rfl rfl ?_
 refine ewp_skip ?_
 refine thn_n ?_
 refine ewp_seq ?_
 refine ewp_seq ?_
 refine ewp_reg ?_
 refine ewl_run rfl (rn_move rfl) ?_
 refine ewl_run rfl (rn_nott rfl rfl) ?_
 refine ewl_nil ?_
 refine thn_n ?_
 refine ewp_iff rfl rfl ?_
 refine ewp_skip ?_
 refine thn_n ?_
 refine ewp_seq ?_
 refine ewp_seq ?_
 refine ewp_reg ?_
 refine ewl_run rfl (rn_move rfl) ?_
 refine ewl_run rfl (rn_eqI rfl rfl) ?_
 refine ewl_nil ?_
 refine thn_n ?_
 refine ewp_iff rfl rfl ?_
 refine ewp_skip ?_
 refine thn_n ?_
 refine ewp_seq ?_
 refine ewp_seq ?_
 refine ewp_reg ?_
 refine ewl_run rfl (rn_move rfl) ?_
 refine ewl_run rfl (rn_move rfl) ?_
 refine ewl_run rfl (rn_lenS rfl un9) ?_
 refine ewl_run rfl (rn_ltI rfl rfl) ?_
 refine ewl_run rfl (rn_move rfl) ?_
 refine ewl_split 154 rfl (fun h27 => ?_) (fun h27 => ?_)
 · exfalso
   have h9 := of_decide_eq_true h27; omega
 refine ewl_off rfl rfl rfl h27 ?_
 refine ewl_off rfl rfl rfl h27 ?_
 refine ewl_off rfl rfl rfl h27 ?_
 refine ewl_off rfl rfl rfl h27 ?_
 refine ewl_off rfl rfl rfl h27 ?_
 refine ewl_off rfl rfl rfl h27 ?_
 refine ewl_run rfl (rn_pickf rfl h27 rfl) ?_
 refine ewl_nil ?_
 refine thn_n ?_
 refine ewp_iff rfl rfl ?_
 refine ewp_seq ?_
 refine ewp_reg ?_
 refine ewl_run rfl (rn_move rfl) ?_
 refine ewl_run rfl (rn_eqI rfl rfl) ?_
 refine ewl_nil ?_
 refine thn_n ?_
 refine ewp_iff rfl rfl ?_
 refine ewp_skip ?_
 refine thn_n ?_
 refine ewp_seq ?_
 refine ewp_seq ?_
 refine ewp_reg ?_
 refine ewl_run rfl (rn_move rfl) ?_
 refine ewl_run rfl (rn_neI rfl rfl) ?_
 refine ewl_nil ?_
 refine thn_n ?_
 refine ewp_if rfl (fun h28 => ?_) (fun h28 => ?_)
 refine ewp_reg ?_
 refine ewl_run rfl (rn_move rfl) ?_
 refine ewl_run rfl (rn_move rfl) ?_
 refine ewl_run rfl (rn_sub rfl rfl ⟨by omega, by omega⟩) ?_
 refine ewl_run rfl (rn_assign rfl) ?_
 refine ewl_nil ?_
 refine thn_n ?_
 refine ewp_seq ?_
 refine ewp_seq ?_
 refine ewp_reg ?_
 refine ewl_run rfl (rn_move rfl) ?_
 refine ewl_run rfl (rn_move rfl) ?_
 refine ewl_off rfl rfl rfl rfl ?_
 refine ewl_off rfl rfl rfl rfl ?_
 refine ewl_off rfl rfl rfl rfl ?_
 refine ewl_off rfl rfl rfl rfl ?_
 refine ewl_off rfl rfl rfl rfl ?_
 refine ewl_run rfl (rn_pickf rfl rfl rfl) ?_
 refine ewl_nil ?_
 refine thn_n ?_
 refine ewp_iff rfl rfl ?_
 refine ewp_skip ?_
 refine thn_n ?_
 refine ewp_seq ?_
 refine ewp_reg ?_
 refine ewl_run rfl (rn_assign rfl) ?_
 refine ewl_nil ?_
 refine thn_n ?_
 refine ewp_ret ?_
 refine ngt_r ?_
 refine fn_r (resv7 rfl (rv_tmp rfl) (rv_tmp rfl) (rv_tmp rfl) (rv_tmp rfl) (rv_tmp rfl) (rv_tmp rfl) (rv_tmp rfl)) ?_
 exact ⟨by rw [if_neg (by rw [hM]; have h9 := h28; simp at h9; omega), hM, show dp - (nd : Int) = -(b.length : Int) by omega, show ((j : Nat) : Int) = (s.length : Int) by omega], hX⟩
 refine ewp_skip ?_
 refine thn_n ?_
 refine ewp_seq ?_
 refine ewp_seq ?_
 refine ewp_reg ?_
 refine ewl_run rfl (rn_move rfl) ?_
 refine ewl_run rfl (rn_move rfl) ?_
 refine ewl_off rfl rfl rfl rfl ?_
 refine ewl_off rfl rfl rfl rfl ?_
 refine ewl_off rfl rfl rfl rfl ?_
 refine ewl_off rfl rfl rfl rfl ?_
 refine ewl_off rfl rfl rfl rfl ?_
 refine ewl_run rfl (rn_pickf rfl rfl rfl) ?_
 refine ewl_nil ?_
 refine thn_n ?_
 refine ewp_iff rfl rfl ?_
 refine ewp_skip ?_
 refine thn_n ?_
 refine ewp_seq ?_
 refine ewp_reg ?_
 refine ewl_run rfl (rn_assign rfl) ?_
 refine ewl_nil ?_
 refine thn_n ?_
 refine ewp_ret ?_
 refine ngt_r ?_
 refine fn_r (resv7 rfl (rv_tmp rfl) (rv_tmp rfl) (rv_tmp rfl) (rv_tmp rfl) (rv_tmp rfl) (rv_tmp rfl) (rv_tmp rfl)) ?_
 exact ⟨by rw [if_pos (by rw [hM]; have h9 := h28; simp at h9; omega), hM, show ((j : Nat) : Int) = (s.length : Int) by omega], hX⟩
 · exfalso
   have h9 := of_decide_eq_false h4; rw [hs] at h9; simp at h9; omega
theorem readFloat_neg (w : World) (s : List UInt8) (a b : List UInt8) (ha : digs a) (hb : digs b) (hane : a ≠ []) (hbne : b ≠ []) (hab : a.length + b.length ≤ 15) (hs : s = (45 :: (a ++ 46 :: b))) :
   Ret Tryz.prog 105 #[S s] w fun v w' => v = .tuple #[.int .u64 (decN 0 (a ++ b) : Int), .int .i64 (if decN 0 (a ++ b) = 0 then 0 else -(b.length : Int)), .bool true, .bool false, .bool false, .int .i64 (s.length : Int), .bool true] ∧ Ext w w' := by
 have hal : 1 ≤ a.length := List.length_pos_iff.2 hane
 have hbl : 1 ≤ b.length := List.length_pos_iff.2 hbne
 obtain ⟨a0, ar, hae⟩ : ∃ c r, a = c :: r := by
   cases a with
   | nil => exact absurd rfl hane
   | cons c r => exact ⟨c, r, rfl⟩
 obtain ⟨a1, ha1, ha1d⟩ := float_at1 (s := s) (b := b) 1 ha hane (by rw [hs]; rfl)
 have hX := Ext.refl w
 refine enter Tryz.func105 rfl rfl rfl ?_
 refine ewp_seq ?_
 refine ewp_reg ?_
 refine ewl_run rfl (rn_assign rfl) ?_
 refine ewl_run rfl (rn_assign rfl) ?_
 refine ewl_run rfl (rn_assign rfl) ?_
 refine ewl_run rfl (rn_assign rfl) ?_
 refine ewl_run rfl (rn_assign rfl) ?_
 refine ewl_run rfl (rn_assign rfl) ?_
 refine ewl_run rfl (rn_assign rfl) ?_
 refine ewl_nil ?_
 refine thn_n ?_
 refine ewp_scope ?_
 refine ewp_seq ?_
 refine ewp_reg ?_
 refine ewl_run rfl (rn_assign rfl) ?_
 refine ewl_nil ?_
 refine thn_n ?_
 refine ewp_seq ?_
 refine ewp_seq ?_
 refine ewp_reg ?_
 refine ewl_run rfl (rn_move rfl) ?_
 refine ewl_run rfl (rn_move rfl) ?_
 refine ewl_run rfl (rn_lenS rfl un9) ?_
 refine ewl_run rfl (rn_geI rfl rfl) ?_
 refine ewl_nil ?_
 refine thn_n ?_
 refine ewp_if rfl (fun h1 => ?_) (fun h1 => ?_)
 · exfalso
   have h9 := of_decide_eq_true h1; rw [hs] at h9; simp at h9; omega
 refine ewp_skip ?_
 refine thn_n ?_
 refine ewp_seq ?_
 refine ewp_seq ?_
 refine ewp_reg ?_
 refine ewl_run rfl (rn_move rfl) ?_
 refine ewl_run rfl (rn_move rfl) ?_
 refine ewl_run rfl (rn_ixS (c := 45) rfl rfl un9 (by decide) (by rw [hs]; rfl)) ?_
 refine ewl_nil ?_
 refine thn_n ?_
 refine ewp_block ?_
 refine ewp_seq ?_
 refine ewp_reg ?_
 refine ewl_run rfl (rn_eqI rfl rfl) ?_
 refine ewl_run rfl (rn_assign rfl) ?_
 refine ewl_nil ?_
 refine thn_n ?_
 refine ewp_iff rfl rfl ?_
 refine ewp_seq ?_
 refine ewp_reg ?_
 refine ewl_run rfl (rn_eqI rfl rfl) ?_
 refine ewl_run rfl (rn_assign rfl) ?_
 refine ewl_nil ?_
 refine thn_n ?_
 refine ewp_ift rfl rfl ?_
 refine ewp_seq ?_
 refine ewp_reg ?_
 refine ewl_run rfl (rn_move rfl) ?_
 refine ewl_run rfl (rn_addK (1) rfl rfl (by decide)) ?_
 refine ewl_run rfl (rn_assign rfl) ?_
 refine ewl_nil ?_
 refine thn_n ?_
 refine ewp_reg ?_
 refine ewl_run rfl (rn_assign rfl) ?_
 refine ewl_nil ?_
 refine blk_n ?_
 refine thn_n ?_
 refine ewp_seq ?_
 refine ewp_reg ?_
 refine ewl_run rfl (rn_assign rfl) ?_
 refine ewl_nil ?_
 refine thn_n ?_
 refine ewp_seq ?_
 refine ewp_reg ?_
 refine ewl_run rfl (rn_assign rfl) ?_
 refine ewl_nil ?_
 refine thn_n ?_
 refine ewp_seq ?_
 refine ewp_reg ?_
 refine ewl_run rfl (rn_assign rfl) ?_
 refine ewl_nil ?_
 refine thn_n ?_
 refine ewp_seq ?_
 refine ewp_seq ?_
 refine ewp_reg ?_
 refine ewl_run rfl (rn_move rfl) ?_
 refine ewl_run rfl (rn_addK (3) rfl rfl (by decide)) ?_
 refine ewl_run rfl (rn_move rfl) ?_
 refine ewl_run rfl (rn_lenS rfl un9) ?_
 refine ewl_run rfl (rn_ltI rfl rfl) ?_
 refine ewl_run rfl (rn_move rfl) ?_
 refine ewl_split 41 rfl (fun h2 => ?_) (fun h2 => ?_)
 refine ewl_grd rfl rfl h2 ?_
 refine ewl_run rfl (rn_move rfl) ?_
 refine ewl_grd rfl rfl h2 ?_
 refine ewl_run rfl (rn_move rfl) ?_
 refine ewl_grd rfl rfl h2 ?_
 refine ewl_run rfl (rn_ixS (c := a0) rfl rfl un9 (by decide) (by rw [hs, hae]; rfl)) ?_
 refine ewl_grd rfl rfl h2 ?_
 refine ewl_run rfl (rn_eqI rfl rfl) ?_
 refine ewl_run rfl (rn_pickt rfl h2 rfl) ?_
 refine ewl_run rfl (rn_move rfl) ?_
 refine ewl_split 47 rfl (fun h3 => ?_) (fun h3 => ?_)
 refine ewl_grd rfl rfl h3 ?_
 refine ewl_run rfl (rn_move rfl) ?_
 refine ewl_grd rfl rfl h3 ?_
 refine ewl_run rfl (rn_move rfl) ?_
 refine ewl_grd rfl rfl h3 ?_
 refine ewl_run rfl (rn_addK (2) rfl rfl (by decide)) ?_
 refine ewl_grd rfl rfl h3 ?_
 refine ewl_run rfl (rn_ixS (c := a1) rfl rfl un9 (by decide) ha1) ?_
 refine ewl_grd rfl rfl h3 ?_
 refine ewl_ret rfl (en_call ent93 rfl rfl) (lower_spec _ a1 ha1d) ?_
 rintro _ w1 ⟨rfl, hE1⟩
 replace hX := hX.trans hE1
 have sz1 := hE1.size
 refine ewl_grd rfl rfl h3 ?_
 refine ewl_run rfl (rn_eqI rfl rfl) ?_
 refine ewl_run rfl (rn_pickt rfl h3 rfl) ?_
 refine ewl_nil ?_
 refine thn_n ?_
 refine ewp_if rfl (fun h4 => ?_) (fun h4 => ?_)
 · exfalso
   have h9 := (beq_iff_eq).1 h4; omega
 refine ewp_skip ?_
 refine thn_n ?_
 refine ewp_seq ?_
 refine ewp_reg ?_
 refine ewl_run rfl (rn_assign rfl) ?_
 refine ewl_nil ?_
 refine thn_n ?_
 refine ewp_seq ?_
 refine ewp_reg ?_
 refine ewl_run rfl (rn_assign rfl) ?_
 refine ewl_nil ?_
 refine thn_n ?_
 refine ewp_seq ?_
 refine ewp_reg ?_
 refine ewl_run rfl (rn_assign rfl) ?_
 refine ewl_nil ?_
 refine thn_n ?_
 refine ewp_seq ?_
 refine ewp_reg ?_
 refine ewl_run rfl (rn_assign rfl) ?_
 refine ewl_nil ?_
 refine thn_n ?_
 refine ewp_seq ?_
 refine ewp_reg ?_
 refine ewl_run rfl (rn_assign rfl) ?_
 refine ewl_nil ?_
 refine thn_n ?_
 refine ewp_seq ?_
 refine ewp_label ?_
 refine thn_n ?_
 refine ewp_seq ?_
 refine ewp_block ?_
 refine ewp_loop (fun k σ ds w' => ∃ (j m nd : Nat) (dp : Int) (dot sd : Bool) (rest : List UInt8), k = rest.length ∧ ds = [] ∧ σ = (upd (upd (upd (upd (upd (upd (upd (upd (upd (upd (upd (upd (upd (upd (upd (upd SW.e0 0 (S s)) 2 (.int .u64 (m : Int))) 3 (.int .i64 0)) 4 (.bool true)) 5 (.bool false)) 6 (.bool false)) 7 (.int .i64 (j : Int))) 8 (.bool false)) 9 (.bool false)) 10 (.int .u64 10)) 11 (.int .i64 19)) 13 (.bool dot)) 14 (.bool sd)) 15 (.int .i64 (nd : Int))) 16 (.int .i64 (nd : Int))) 17 (.int .i64 dp)) ∧ s.drop j = rest ∧ j + rest.length = s.length ∧ FV b dot rest ∧ decN 0 (a ++ b) = decN m (noDot rest) ∧ (dot = true → dp = (nd : Int) - ((b.length : Int) - rest.length)) ∧ nd ≤ j ∧ -(j : Int) ≤ dp ∧ dp ≤ j ∧ (nd = 0 ↔ m = 0) ∧ (sd = true ∨ rest = a ++ 46 :: b) ∧ Ext w w') (a ++ 46 :: b).length (upd (upd (upd (upd (upd (upd (upd (upd (upd (upd (upd (upd (upd (upd (upd (upd SW.e0 0 (S s)) 2 (.int .u64 ((0 : Nat) : Int))) 3 (.int .i64 0)) 4 (.bool true)) 5 (.bool false)) 6 (.bool false)) 7 (.int .i64 ((1 : Nat) : Int))) 8 (.bool false)) 9 (.bool false)) 10 (.int .u64 10)) 11 (.int .i64 19)) 13 (.bool false)) 14 (.bool false)) 15 (.int .i64 ((0 : Nat) : Int))) 16 (.int .i64 ((0 : Nat) : Int))) 17 (.int .i64 0)) (le_upd (le_upd (le_upd (le_upd (le_upd (le_upd (le_upd (le_upd (le_upd (le_upd (le_upd (le_upd (le_upd (le_upd (le_upd (le_upd (le_e0 _) rfl) rfl) rfl) rfl) rfl) rfl) rfl) rfl) rfl) rfl) rfl) rfl) rfl) rfl) rfl) rfl) ⟨1, 0, 0, 0, false, false, a ++ 46 :: b, rfl, rfl, rfl, by rw [hs]; rfl, by rw [hs]; simp <;> omega, ⟨a, rfl, ha⟩, by rw [noDot_all ha hb], (fun h => by cases h), by omega, by omega, by omega, by simp, .inr rfl, hX⟩ ?_
 rintro _ _ _ wl ⟨j, m, nd, dp, dot, sd, rest, rfl, rfl, rfl, hdr, hjr, hfv, hdec, hdp, hnd, hd1, hd2, hnm, hsd, hX⟩
 have hml : m < 1000000000000000 := by have h1 := decN_mono (noDot rest) m; have h2 := decN_small (l := a ++ b) (fun x hx => (List.mem_append.1 hx).elim (ha x) (hb x)) (by rw [List.length_append]; exact hab); omega
 have hsl : s.length ≤ 17 := by rw [hs]; simp; omega
 refine ewp_seq ?_
 refine ewp_seq ?_
 refine ewp_reg ?_
 refine ewl_run rfl (rn_move rfl) ?_
 refine ewl_run rfl (rn_move rfl) ?_
 refine ewl_run rfl (rn_lenS rfl un9) ?_
 refine ewl_run rfl (rn_ltI rfl rfl) ?_
 refine ewl_nil ?_
 refine thn_n ?_
 refine ewp_if rfl (fun h5 => ?_) (fun h5 => ?_)
 refine ewp_skip ?_
 refine thn_n ?_
 refine ewp_seq ?_
 refine ewp_block ?_
 refine ewp_seq ?_
 refine ewp_seq ?_
 rcases rest with _ | ⟨c, r⟩
 · exfalso; have h9 := of_decide_eq_true h5; simp at hjr; omega
 have hcj : s[j]? = some c := drop_hd hdr
 have hcl := hfv.cons
 have hc46 : 46 ≤ c.toNat ∧ c.toNat ≤ 57 := hcl.elim (fun h => by rw [h.1]; decide) (fun h => by omega)
 refine ewp_reg ?_
 refine ewl_run rfl (rn_move rfl) ?_
 refine ewl_run rfl (rn_move rfl) ?_
 refine ewl_run rfl (rn_ixS (c := c) rfl rfl un9 (by omega) (by rw [Int.toNat_natCast]; exact hcj)) ?_
 refine ewl_run rfl (rn_assign rfl) ?_
 refine ewl_nil ?_
 refine thn_n ?_
 refine ewp_block ?_
 refine ewp_seq ?_
 refine ewp_reg ?_
 refine ewl_run rfl (rn_move rfl) ?_
 refine ewl_run rfl (rn_eqI rfl rfl) ?_
 refine ewl_run rfl (rn_eqBt un4 rfl rfl) ?_
 refine ewl_run rfl (rn_assign rfl) ?_
 refine ewl_nil ?_
 refine thn_n ?_
 refine ewp_if rfl (fun h6 => ?_) (fun h6 => ?_)
 · exfalso
   have h9 := (beq_iff_eq).1 h6; omega
 refine ewp_seq ?_
 refine ewp_reg ?_
 refine ewl_run rfl (rn_move rfl) ?_
 refine ewl_run rfl (rn_eqI rfl rfl) ?_
 refine ewl_run rfl (rn_eqBt un4 rfl rfl) ?_
 refine ewl_run rfl (rn_assign rfl) ?_
 refine ewl_nil ?_
 refine thn_n ?_
 refine ewp_if rfl (fun h7 => ?_) (fun h7 => ?_)
 refine ewp_seq ?_
 refine ewp_seq ?_
 have hc6 : (c.toNat : Int) = 46 := by simpa using h7
 obtain ⟨hc6, hdf, hrb⟩ : c = 46 ∧ dot = false ∧ r = b := hcl.elim id (fun h => by omega)
 replace hrb := hrb.symm
 subst hdf hrb hc6
 have hsd2 : sd = true := hsd.resolve_right (fun h => by cases a with | nil => exact hane rfl | cons x a => simp at h; have := ha x (.head _); rw [← h.1] at this; revert this; decide)
 refine ewp_reg ?_
 refine ewl_run rfl (rn_move rfl) ?_
 refine ewl_nil ?_
 refine thn_n ?_
 refine ewp_iff rfl rfl ?_
 refine ewp_skip ?_
 refine thn_n ?_
 refine ewp_seq ?_
 refine ewp_reg ?_
 refine ewl_run rfl (rn_assign rfl) ?_
 refine ewl_nil ?_
 refine thn_n ?_
 refine ewp_seq ?_
 refine ewp_reg ?_
 refine ewl_run rfl (rn_move rfl) ?_
 refine ewl_run rfl (rn_assign rfl) ?_
 refine ewl_nil ?_
 refine thn_n ?_
 refine ewp_exit ?_
 refine blk_o rfl ?_
 refine thn_e ?_
 refine blk_e ?_
 refine thn_n ?_
 refine ewp_reg ?_
 refine ewl_run rfl (rn_move rfl) ?_
 refine ewl_run rfl (rn_add rfl rfl ⟨by omega, by omega⟩) ?_
 refine ewl_run rfl (rn_assign rfl) ?_
 refine ewl_nil ?_
 refine lp_n b.length (upd (upd (upd (upd (upd (upd (upd (upd (upd (upd (upd (upd (upd (upd (upd (upd SW.e0 0 (S s)) 2 (.int .u64 (m : Int))) 3 (.int .i64 0)) 4 (.bool true)) 5 (.bool false)) 6 (.bool false)) 7 (.int .i64 ((j + 1 : Nat) : Int))) 8 (.bool false)) 9 (.bool false)) 10 (.int .u64 10)) 11 (.int .i64 19)) 13 (.bool true)) 14 (.bool sd)) 15 (.int .i64 (nd : Int))) 16 (.int .i64 (nd : Int))) 17 (.int .i64 (nd : Int))) (by simp) (le_upd (le_upd (le_upd (le_upd (le_upd (le_upd (le_upd (le_upd (le_upd (le_upd (le_upd (le_upd (le_upd (le_upd (le_upd (le_upd (le_e0 _) rfl) rfl) rfl) rfl) rfl) rfl) rfl) rfl) rfl) rfl) rfl) rfl) rfl) rfl) rfl) rfl) ⟨j + 1, m, nd, (nd : Int), true, sd, b, rfl, rfl, rfl, drop_tl hdr, by simp only [List.length_cons] at hjr; omega, ⟨hb, Nat.le_refl _⟩, by rw [hdec, noDot_dot], (fun _ => by omega), by omega, by omega, by omega, hnm, .inl hsd2, hX⟩
 refine ewp_seq ?_
 have hn6 : (c.toNat : Int) ≠ 46 := by simpa using h7
 obtain ⟨hcd, hfr⟩ : (48 ≤ c.toNat ∧ c.toNat ≤ 57) ∧ FV b dot r := hcl.elim (fun h => absurd (by rw [h.1]; rfl) hn6) id
 refine ewp_reg ?_
 refine ewl_run rfl (rn_move rfl) ?_
 refine ewl_run rfl (rn_leI rfl rfl) ?_
 refine ewl_run rfl (rn_move rfl) ?_
 refine ewl_split 79 rfl (fun h8 => ?_) (fun h8 => ?_)
 refine ewl_grd rfl rfl h8 ?_
 refine ewl_run rfl (rn_move rfl) ?_
 refine ewl_grd rfl rfl h8 ?_
 refine ewl_run rfl (rn_leI rfl rfl) ?_
 refine ewl_run rfl (rn_pickt rfl h8 rfl) ?_
 refine ewl_run rfl (rn_eqBt un4 rfl rfl) ?_
 refine ewl_run rfl (rn_assign rfl) ?_
 refine ewl_nil ?_
 refine thn_n ?_
 refine ewp_if rfl (fun h9 => ?_) (fun h9 => ?_)
 refine ewp_seq ?_
 refine ewp_reg ?_
 refine ewl_run rfl (rn_assign rfl) ?_
 refine ewl_nil ?_
 refine thn_n ?_
 refine ewp_seq ?_
 refine ewp_seq ?_
 refine ewp_reg ?_
 refine ewl_run rfl (rn_move rfl) ?_
 refine ewl_run rfl (rn_eqI rfl rfl) ?_
 refine ewl_run rfl (rn_move rfl) ?_
 refine ewl_split 86 rfl (fun h10 => ?_) (fun h10 => ?_)
 refine ewl_grd rfl rfl h10 ?_
 refine ewl_run rfl (rn_move rfl) ?_
 refine ewl_grd rfl rfl h10 ?_
 refine ewl_run rfl (rn_eqI rfl rfl) ?_
 refine ewl_run rfl (rn_pickt rfl h10 rfl) ?_
 refine ewl_nil ?_
 refine thn_n ?_
 refine ewp_if rfl (fun h11 => ?_) (fun h11 => ?_)
 refine ewp_seq ?_
 refine ewp_reg ?_
 refine ewl_run rfl (rn_move rfl) ?_
 refine ewl_run rfl (rn_sub rfl rfl ⟨by omega, by omega⟩) ?_
 refine ewl_run rfl (rn_assign rfl) ?_
 refine ewl_nil ?_
 refine thn_n ?_
 refine ewp_exit ?_
 refine thn_e ?_
 refine blk_o rfl ?_
 refine thn_e ?_
 refine blk_e ?_
 refine thn_n ?_
 refine ewp_reg ?_
 refine ewl_run rfl (rn_move rfl) ?_
 refine ewl_run rfl (rn_add rfl rfl ⟨by omega, by omega⟩) ?_
 refine ewl_run rfl (rn_assign rfl) ?_
 refine ewl_nil ?_
 have hm0 : m = 0 := hnm.1 (by have := h11; simp at this; omega)
 have hc0 : c.toNat = 48 := by have := h10; simp at this; omega
 refine lp_n r.length (upd (upd (upd (upd (upd (upd (upd (upd (upd (upd (upd (upd (upd (upd (upd (upd SW.e0 0 (S s)) 2 (.int .u64 (m : Int))) 3 (.int .i64 0)) 4 (.bool true)) 5 (.bool false)) 6 (.bool false)) 7 (.int .i64 ((j + 1 : Nat) : Int))) 8 (.bool false)) 9 (.bool false)) 10 (.int .u64 10)) 11 (.int .i64 19)) 13 (.bool dot)) 14 (.bool true)) 15 (.int .i64 (nd : Int))) 16 (.int .i64 (nd : Int))) 17 (.int .i64 (dp - 1))) (by simp) (le_upd (le_upd (le_upd (le_upd (le_upd (le_upd (le_upd (le_upd (le_upd (le_upd (le_upd (le_upd (le_upd (le_upd (le_upd (le_upd (le_e0 _) rfl) rfl) rfl) rfl) rfl) rfl) rfl) rfl) rfl) rfl) rfl) rfl) rfl) rfl) rfl) rfl) ⟨j + 1, m, nd, dp - 1, dot, true, r, rfl, rfl, rfl, drop_tl hdr, by simp only [List.length_cons] at hjr; omega, hfr, by rw [hdec, noDot_cons hcd, decN_c, hc0, hm0], (fun h => by have h1 := hdp h; simp only [List.length_cons] at h1; omega), by omega, by omega, by omega, hnm, .inl rfl, hX⟩
 refine ewp_skip ?_
 refine thn_n ?_
 refine ewp_seq ?_
 have hnz : ¬ (m * 10 + (c.toNat - 48) = 0) := by
   intro h9
   have hm9 : m = 0 := by omega
   have hn9 := hnm.2 hm9
   have h8 := h11
   simp at h8
   omega
 refine ewp_reg ?_
 refine ewl_run rfl (rn_move rfl) ?_
 refine ewl_run rfl (rn_add rfl rfl ⟨by omega, by omega⟩) ?_
 refine ewl_run rfl (rn_assign rfl) ?_
 refine ewl_nil ?_
 refine thn_n ?_
 refine ewp_seq ?_
 refine ewp_seq ?_
 refine ewp_reg ?_
 refine ewl_run rfl (rn_move rfl) ?_
 refine ewl_run rfl (rn_move rfl) ?_
 refine ewl_run rfl (rn_ltI rfl rfl) ?_
 refine ewl_nil ?_
 refine thn_n ?_
 refine ewp_if rfl (fun h12 => ?_) (fun h12 => ?_)
 refine ewp_seq ?_
 refine ewp_reg ?_
 refine ewl_run rfl (rn_move rfl) ?_
 refine ewl_run rfl (rn_move rfl) ?_
 refine ewl_run rfl (rn_mulK ((m : Int) * 10) rfl rfl (wrapU64 ⟨by omega, by omega⟩)) ?_
 refine ewl_run rfl (rn_assign rfl) ?_
 refine ewl_nil ?_
 refine thn_n ?_
 refine ewp_seq ?_
 refine ewp_reg ?_
 refine ewl_run rfl (rn_move rfl) ?_
 refine ewl_run rfl (rn_move rfl) ?_
 refine ewl_run rfl (rn_subK ((c.toNat : Int) - 48) rfl rfl (wrap8 ⟨by omega, by omega⟩)) ?_
 refine ewl_run rfl (rn_cvI (m := (c.toNat : Int) - 48) rfl cv5_33 (wrapU64 ⟨by omega, by omega⟩)) ?_
 refine ewl_run rfl (rn_addK ((m : Int) * 10 + ((c.toNat : Int) - 48)) rfl rfl (wrapU64 ⟨by omega, by omega⟩)) ?_
 refine ewl_run rfl (rn_assign rfl) ?_
 refine ewl_nil ?_
 refine thn_n ?_
 refine ewp_reg ?_
 refine ewl_run rfl (rn_move rfl) ?_
 refine ewl_run rfl (rn_add rfl rfl ⟨by omega, by omega⟩) ?_
 refine ewl_run rfl (rn_assign rfl) ?_
 refine ewl_nil ?_
 refine thn_n ?_
 refine ewp_exit ?_
 refine blk_o rfl ?_
 refine thn_e ?_
 refine blk_e ?_
 refine thn_n ?_
 refine ewp_reg ?_
 refine ewl_run rfl (rn_move rfl) ?_
 refine ewl_run rfl (rn_add rfl rfl ⟨by omega, by omega⟩) ?_
 refine ewl_run rfl (rn_assign rfl) ?_
 refine ewl_nil ?_
 have hme : (m : Int) * 10 + ((c.toNat : Int) - 48) = ((m * 10 + (c.toNat - 48) : Nat) : Int) := by omega
 refine lp_n r.length (upd (upd (upd (upd (upd (upd (upd (upd (upd (upd (upd (upd (upd (upd (upd (upd SW.e0 0 (S s)) 2 (.int .u64 ((m * 10 + (c.toNat - 48) : Nat) : Int))) 3 (.int .i64 0)) 4 (.bool true)) 5 (.bool false)) 6 (.bool false)) 7 (.int .i64 ((j + 1 : Nat) : Int))) 8 (.bool false)) 9 (.bool false)) 10 (.int .u64 10)) 11 (.int .i64 19)) 13 (.bool dot)) 14 (.bool true)) 15 (.int .i64 ((nd + 1 : Nat) : Int))) 16 (.int .i64 ((nd + 1 : Nat) : Int))) 17 (.int .i64 dp)) (by simp) (le_upd (le_upd (le_upd (le_upd (le_upd (le_upd (le_upd (le_upd (le_upd (le_upd (le_upd (le_upd (le_upd (le_upd (le_upd (le_upd (le_e0 _) rfl) (hme ▸ rfl)) rfl) rfl) rfl) rfl) rfl) rfl) rfl) rfl) rfl) rfl) rfl) rfl) rfl) rfl) ⟨j + 1, m * 10 + (c.toNat - 48), nd + 1, dp, dot, true, r, rfl, rfl, rfl, drop_tl hdr, by simp only [List.length_cons] at hjr; omega, hfr, by rw [hdec, noDot_cons hcd, decN_c], (fun h => by have h1 := hdp h; simp only [List.length_cons] at h1; omega), by omega, by omega, by omega, ⟨fun h => by omega, fun h => ?_⟩, .inl rfl, hX⟩
 exfalso
 have hz := hnz
 omega
 · exfalso
   have h9 := of_decide_eq_false h12; omega
 refine ewl_off rfl rfl rfl h10 ?_
 refine ewl_off rfl rfl rfl h10 ?_
 refine ewl_run rfl (rn_pickf rfl h10 rfl) ?_
 refine ewl_nil ?_
 refine thn_n ?_
 refine ewp_iff rfl rfl ?_
 refine ewp_skip ?_
 refine thn_n ?_
 refine ewp_seq ?_
 have hnz : ¬ (m * 10 + (c.toNat - 48) = 0) := by
   intro h9
   have hm9 : m = 0 := by omega
   have hn9 := hnm.2 hm9
   have h8 := h10
   simp at h8
   omega
 refine ewp_reg ?_
 refine ewl_run rfl (rn_move rfl) ?_
 refine ewl_run rfl (rn_add rfl rfl ⟨by omega, by omega⟩) ?_
 refine ewl_run rfl (rn_assign rfl) ?_
 refine ewl_nil ?_
 refine thn_n ?_
 refine ewp_seq ?_
 refine ewp_seq ?_
 refine ewp_reg ?_
 refine ewl_run rfl (rn_move rfl) ?_
 refine ewl_run rfl (rn_move rfl) ?_
 refine ewl_run rfl (rn_ltI rfl rfl) ?_
 refine ewl_nil ?_
 refine thn_n ?_
 refine ewp_if rfl (fun h13 => ?_) (fun h13 => ?_)
 refine ewp_seq ?_
 refine ewp_reg ?_
 refine ewl_run rfl (rn_move rfl) ?_
 refine ewl_run rfl (rn_move rfl) ?_
 refine ewl_run rfl (rn_mulK ((m : Int) * 10) rfl rfl (wrapU64 ⟨by omega, by omega⟩)) ?_
 refine ewl_run rfl (rn_assign rfl) ?_
 refine ewl_nil ?_
 refine thn_n ?_
 refine ewp_seq ?_
 refine ewp_reg ?_
 refine ewl_run rfl (rn_move rfl) ?_
 refine ewl_run rfl (rn_move rfl) ?_
 refine ewl_run rfl (rn_subK ((c.toNat : Int) - 48) rfl rfl (wrap8 ⟨by omega, by omega⟩)) ?_
 refine ewl_run rfl (rn_cvI (m := (c.toNat : Int) - 48) rfl cv5_33 (wrapU64 ⟨by omega, by omega⟩)) ?_
 refine ewl_run rfl (rn_addK ((m : Int) * 10 + ((c.toNat : Int) - 48)) rfl rfl (wrapU64 ⟨by omega, by omega⟩)) ?_
 refine ewl_run rfl (rn_assign rfl) ?_
 refine ewl_nil ?_
 refine thn_n ?_
 refine ewp_reg ?_
 refine ewl_run rfl (rn_move rfl) ?_
 refine ewl_run rfl (rn_add rfl rfl ⟨by omega, by omega⟩) ?_
 refine ewl_run rfl (rn_assign rfl) ?_
 refine ewl_nil ?_
 refine thn_n ?_
 refine ewp_exit ?_
 refine blk_o rfl ?_
 refine thn_e ?_
 refine blk_e ?_
 refine thn_n ?_
 refine ewp_reg ?_
 refine ewl_run rfl (rn_move rfl) ?_
 refine ewl_run rfl (rn_add rfl rfl ⟨by omega, by omega⟩) ?_
 refine ewl_run rfl (rn_assign rfl) ?_
 refine ewl_nil ?_
 have hme : (m : Int) * 10 + ((c.toNat : Int) - 48) = ((m * 10 + (c.toNat - 48) : Nat) : Int) := by omega
 refine lp_n r.length (upd (upd (upd (upd (upd (upd (upd (upd (upd (upd (upd (upd (upd (upd (upd (upd SW.e0 0 (S s)) 2 (.int .u64 ((m * 10 + (c.toNat - 48) : Nat) : Int))) 3 (.int .i64 0)) 4 (.bool true)) 5 (.bool false)) 6 (.bool false)) 7 (.int .i64 ((j + 1 : Nat) : Int))) 8 (.bool false)) 9 (.bool false)) 10 (.int .u64 10)) 11 (.int .i64 19)) 13 (.bool dot)) 14 (.bool true)) 15 (.int .i64 ((nd + 1 : Nat) : Int))) 16 (.int .i64 ((nd + 1 : Nat) : Int))) 17 (.int .i64 dp)) (by simp) (le_upd (le_upd (le_upd (le_upd (le_upd (le_upd (le_upd (le_upd (le_upd (le_upd (le_upd (le_upd (le_upd (le_upd (le_upd (le_upd (le_e0 _) rfl) (hme ▸ rfl)) rfl) rfl) rfl) rfl) rfl) rfl) rfl) rfl) rfl) rfl) rfl) rfl) rfl) rfl) ⟨j + 1, m * 10 + (c.toNat - 48), nd + 1, dp, dot, true, r, rfl, rfl, rfl, drop_tl hdr, by simp only [List.length_cons] at hjr; omega, hfr, by rw [hdec, noDot_cons hcd, decN_c], (fun h => by have h1 := hdp h; simp only [List.length_cons] at h1; omega), by omega, by omega, by omega, ⟨fun h => by omega, fun h => ?_⟩, .inl rfl, hX⟩
 exfalso
 have hz := hnz
 omega
 · exfalso
   have h9 := of_decide_eq_false h13; omega
 · exfalso
   have h9 := of_decide_eq_false h9; omega
 · exfalso
   have h9 := of_decide_eq_false h8; omega
 refine ewp_exit ?_
 refine thn_e ?_
 refine lp_e ?_
 refine blk_e ?_
 refine thn_n ?_
 refine ewp_seq ?_
 refine ewp_seq ?_
 have hrn : rest = [] := by cases rest with | nil => rfl | cons x r => exfalso; have h9 := of_decide_eq_false h5; simp only [List.length_cons] at hjr; omega
 subst hrn
 have hdt := hfv.nil
 subst hdt
 have hst : sd = true := hsd.resolve_right (fun h => by cases a <;> cases h)
 subst hst
 have hdp2 := hdp rfl
 simp only [List.length_nil] at hdp2 hjr
 have hM : decN 0 (a ++ b) = m := by rw [hdec]; exact decN_n m
 refine ewp_reg ?_
 refine ewl_run rfl (rn_move rfl) ?_
 refine ewl_run rfl (rn_nott rfl rfl) ?_
 refine ewl_nil ?_
 refine thn_n ?_
 refine ewp_iff rfl rfl ?_
 refine ewp_skip ?_
 refine thn_n ?_
 refine ewp_seq ?_
 refine ewp_seq ?_
 refine ewp_reg ?_
 refine ewl_run rfl (rn_move rfl) ?_
 refine ewl_run rfl (rn_nott rfl rfl) ?_
 refine ewl_nil ?_
 refine thn_n ?_
 refine ewp_iff rfl rfl ?_
 refine ewp_skip ?_
 refine thn_n ?_
 refine ewp_seq ?_
 refine ewp_seq ?_
 refine ewp_reg ?_
 refine ewl_run rfl (rn_move rfl) ?_
 refine ewl_run rfl (rn_eqI rfl rfl) ?_
 refine ewl_nil ?_
 refine thn_n ?_
 refine ewp_iff rfl rfl ?_
 refine ewp_skip ?_
 refine thn_n ?_
 refine ewp_seq ?_
 refine ewp_seq ?_
 refine ewp_reg ?_
 refine ewl_run rfl (rn_move rfl) ?_
 refine ewl_run rfl (rn_move rfl) ?_
 refine ewl_run rfl (rn_lenS rfl un9) ?_
 refine ewl_run rfl (rn_ltI rfl rfl) ?_
 refine ewl_run rfl (rn_move rfl) ?_
 refine ewl_split 154 rfl (fun h14 => ?_) (fun h14 => ?_)
 · exfalso
   have h9 := of_decide_eq_true h14; omega
 refine ewl_off rfl rfl rfl h14 ?_
 refine ewl_off rfl rfl rfl h14 ?_
 refine ewl_off rfl rfl rfl h14 ?_
 refine ewl_off rfl rfl rfl h14 ?_
 refine ewl_off rfl rfl rfl h14 ?_
 refine ewl_off rfl rfl rfl h14 ?_
 refine ewl_run rfl (rn_pickf rfl h14 rfl) ?_
 refine ewl_nil ?_
 refine thn_n ?_
 refine ewp_iff rfl rfl ?_
 refine ewp_seq ?_
 refine ewp_reg ?_
 refine ewl_run rfl (rn_move rfl) ?_
 refine ewl_run rfl (rn_eqI rfl rfl) ?_
 refine ewl_nil ?_
 refine thn_n ?_
 refine ewp_iff rfl rfl ?_
 refine ewp_skip ?_
 refine thn_n ?_
 refine ewp_seq ?_
 refine ewp_seq ?_
 refine ewp_reg ?_
 refine ewl_run rfl (rn_move rfl) ?_
 refine ewl_run rfl (rn_neI rfl rfl) ?_
 refine ewl_nil ?_
 refine thn_n ?_
 refine ewp_if rfl (fun h15 => ?_) (fun h15 => ?_)
 refine ewp_reg ?_
 refine ewl_run rfl (rn_move rfl) ?_
 refine ewl_run rfl (rn_move rfl) ?_
 refine ewl_run rfl (rn_sub rfl rfl ⟨by omega, by omega⟩) ?_
 refine ewl_run rfl (rn_assign rfl) ?_
 refine ewl_nil ?_
 refine thn_n ?_
 refine ewp_seq ?_
 refine ewp_seq ?_
 refine ewp_reg ?_
 refine ewl_run rfl (rn_move rfl) ?_
 refine ewl_run rfl (rn_move rfl) ?_
 refine ewl_off rfl rfl rfl rfl ?_
 refine ewl_off rfl rfl rfl rfl ?_
 refine ewl_off rfl rfl rfl rfl ?_
 refine ewl_off rfl rfl rfl rfl ?_
 refine ewl_off rfl rfl rfl rfl ?_
 refine ewl_run rfl (rn_pickf rfl rfl rfl) ?_
 refine ewl_nil ?_
 refine thn_n ?_
 refine ewp_iff rfl rfl ?_
 refine ewp_skip ?_
 refine thn_n ?_
 refine ewp_seq ?_
 refine ewp_reg ?_
 refine ewl_run rfl (rn_assign rfl) ?_
 refine ewl_nil ?_
 refine thn_n ?_
 refine ewp_ret ?_
 refine ngt_r ?_
 refine fn_r (resv7 rfl (rv_tmp rfl) (rv_tmp rfl) (rv_tmp rfl) (rv_tmp rfl) (rv_tmp rfl) (rv_tmp rfl) (rv_tmp rfl)) ?_
 exact ⟨by rw [if_neg (by rw [hM]; have h9 := h15; simp at h9; omega), hM, show dp - (nd : Int) = -(b.length : Int) by omega, show ((j : Nat) : Int) = (s.length : Int) by omega], hX⟩
 refine ewp_skip ?_
 refine thn_n ?_
 refine ewp_seq ?_
 refine ewp_seq ?_
 refine ewp_reg ?_
 refine ewl_run rfl (rn_move rfl) ?_
 refine ewl_run rfl (rn_move rfl) ?_
 refine ewl_off rfl rfl rfl rfl ?_
 refine ewl_off rfl rfl rfl rfl ?_
 refine ewl_off rfl rfl rfl rfl ?_
 refine ewl_off rfl rfl rfl rfl ?_
 refine ewl_off rfl rfl rfl rfl ?_
 refine ewl_run rfl (rn_pickf rfl rfl rfl) ?_
 refine ewl_nil ?_
 refine thn_n ?_
 refine ewp_iff rfl rfl ?_
 refine ewp_skip ?_
 refine thn_n ?_
 refine ewp_seq ?_
 refine ewp_reg ?_
 refine ewl_run rfl (rn_assign rfl) ?_
 refine ewl_nil ?_
 refine thn_n ?_
 refine ewp_ret ?_
 refine ngt_r ?_
 refine fn_r (resv7 rfl (rv_tmp rfl) (rv_tmp rfl) (rv_tmp rfl) (rv_tmp rfl) (rv_tmp rfl) (rv_tmp rfl) (rv_tmp rfl)) ?_
 exact ⟨by rw [if_pos (by rw [hM]; have h9 := h15; simp at h9; omega), hM, show ((j : Nat) : Int) = (s.length : Int) by omega], hX⟩
 refine ewl_off rfl rfl rfl h3 ?_
 refine ewl_off rfl rfl rfl h3 ?_
 refine ewl_off rfl rfl rfl h3 ?_
 refine ewl_off rfl rfl rfl h3 ?_
 refine ewl_off rfl rfl rfl h3 ?_
 refine ewl_off rfl rfl rfl h3 ?_
 refine ewl_run rfl (rn_pickf rfl h3 rfl) ?_
 refine ewl_nil ?_
 refine thn_n ?_
 refine ewp_iff rfl rfl ?_
 refine ewp_skip ?_
 refine thn_n ?_
 refine ewp_seq ?_
 refine ewp_reg ?_
 refine ewl_run rfl (rn_assign rfl) ?_
 refine ewl_nil ?_
 refine thn_n ?_
 refine ewp_seq ?_
 refine ewp_reg ?_
 refine ewl_run rfl (rn_assign rfl) ?_
 refine ewl_nil ?_
 refine thn_n ?_
 refine ewp_seq ?_
 refine ewp_reg ?_
 refine ewl_run rfl (rn_assign rfl) ?_
 refine ewl_nil ?_
 refine thn_n ?_
 refine ewp_seq ?_
 refine ewp_reg ?_
 refine ewl_run rfl (rn_assign rfl) ?_
 refine ewl_nil ?_
 refine thn_n ?_
 refine ewp_seq ?_
 refine ewp_reg ?_
 refine ewl_run rfl (rn_assign rfl) ?_
 refine ewl_nil ?_
 refine thn_n ?_
 refine ewp_seq ?_
 refine ewp_label ?_
 refine thn_n ?_
 refine ewp_seq ?_
 refine ewp_block ?_
 refine ewp_loop (fun k σ ds w' => ∃ (j m nd : Nat) (dp : Int) (dot sd : Bool) (rest : List UInt8), k = rest.length ∧ ds = [] ∧ σ = (upd (upd (upd (upd (upd (upd (upd (upd (upd (upd (upd (upd (upd (upd (upd (upd SW.e0 0 (S s)) 2 (.int .u64 (m : Int))) 3 (.int .i64 0)) 4 (.bool true)) 5 (.bool false)) 6 (.bool false)) 7 (.int .i64 (j : Int))) 8 (.bool false)) 9 (.bool false)) 10 (.int .u64 10)) 11 (.int .i64 19)) 13 (.bool dot)) 14 (.bool sd)) 15 (.int .i64 (nd : Int))) 16 (.int .i64 (nd : Int))) 17 (.int .i64 dp)) ∧ s.drop j = rest ∧ j + rest.length = s.length ∧ FV b dot rest ∧ decN 0 (a ++ b) = decN m (noDot rest) ∧ (dot = true → dp = (nd : Int) - ((b.length : Int) - rest.length)) ∧ nd ≤ j ∧ -(j : Int) ≤ dp ∧ dp ≤ j ∧ (nd = 0 ↔ m = 0) ∧ (sd = true ∨ rest = a ++ 46 :: b) ∧ Ext w w') (a ++ 46 :: b).length (upd (upd (upd (upd (upd (upd (upd (upd (upd (upd (upd (upd (upd (upd (upd (upd SW.e0 0 (S s)) 2 (.int .u64 ((0 : Nat) : Int))) 3 (.int .i64 0)) 4 (.bool true)) 5 (.bool false)) 6 (.bool false)) 7 (.int .i64 ((1 : Nat) : Int))) 8 (.bool false)) 9 (.bool false)) 10 (.int .u64 10)) 11 (.int .i64 19)) 13 (.bool false)) 14 (.bool false)) 15 (.int .i64 ((0 : Nat) : Int))) 16 (.int .i64 ((0 : Nat) : Int))) 17 (.int .i64 0)) (le_upd (le_upd (le_upd (le_upd (le_upd (le_upd (le_upd (le_upd (le_upd (le_upd (le_upd (le_upd (le_upd (le_upd (le_upd (le_upd (le_e0 _) rfl) rfl) rfl) rfl) rfl) rfl) rfl) rfl) rfl) rfl) rfl) rfl) rfl) rfl) rfl) rfl) ⟨1, 0, 0, 0, false, false, a ++ 46 :: b, rfl, rfl, rfl, by rw [hs]; rfl, by rw [hs]; simp <;> omega, ⟨a, rfl, ha⟩, by rw [noDot_all ha hb], (fun h => by cases h), by omega, by omega, by omega, by simp, .inr rfl, hX⟩ ?_
 rintro _ _ _ wl ⟨j, m, nd, dp, dot, sd, rest, rfl, rfl, rfl, hdr, hjr, hfv, hdec, hdp, hnd, hd1, hd2, hnm, hsd, hX⟩
 have hml : m < 1000000000000000 := by have h1 := decN_mono (noDot rest) m; have h2 := decN_small (l := a ++ b) (fun x hx => (List.mem_append.1 hx).elim (ha x) (hb x)) (by rw [List.length_append]; exact hab); omega
 have hsl : s.length ≤ 17 := by rw [hs]; simp; omega
 refine ewp_seq ?_
 refine ewp_seq ?_
 refine ewp_reg ?_
 refine ewl_run rfl (rn_move rfl) ?_
 refine ewl_run rfl (rn_move rfl) ?_
 refine ewl_run rfl (rn_lenS rfl un9) ?_
 refine ewl_run rfl (rn_ltI rfl rfl) ?_
 refine ewl_nil ?_
 refine thn_n ?_
 refine ewp_if rfl (fun h16 => ?_) (fun h16 => ?_)
 refine ewp_skip ?_
 refine thn_n ?_
 refine ewp_seq ?_
 refine ewp_block ?_
 refine ewp_seq ?_
 refine ewp_seq ?_
 rcases rest with _ | ⟨c, r⟩
 · exfalso; have h9 := of_decide_eq_true h16; simp at hjr; omega
 have hcj : s[j]? = some c := drop_hd hdr
 have hcl := hfv.cons
 have hc46 : 46 ≤ c.toNat ∧ c.toNat ≤ 57 := hcl.elim (fun h => by rw [h.1]; decide) (fun h => by omega)
 refine ewp_reg ?_
 refine ewl_run rfl (rn_move rfl) ?_
 refine ewl_run rfl (rn_move rfl) ?_
 refine ewl_run rfl (rn_ixS (c := c) rfl rfl un9 (by omega) (by rw [Int.toNat_natCast]; exact hcj)) ?_
 refine ewl_run rfl (rn_assign rfl) ?_
 refine ewl_nil ?_
 refine thn_n ?_
 refine ewp_block ?_
 refine ewp_seq ?_
 refine ewp_reg ?_
 refine ewl_run rfl (rn_move rfl) ?_
 refine ewl_run rfl (rn_eqI rfl rfl) ?_
 refine ewl_run rfl (rn_eqBt un4 rfl rfl) ?_
 refine ewl_run rfl (rn_assign rfl) ?_
 refine ewl_nil ?_
 refine thn_n ?_
 refine ewp_if rfl (fun h17 => ?_) (fun h17 => ?_)
 · exfalso
   have h9 := (beq_iff_eq).1 h17; omega
 refine ewp_seq ?_
 refine ewp_reg ?_
 refine ewl_run rfl (rn_move rfl) ?_
 refine ewl_run rfl (rn_eqI rfl rfl) ?_
 refine ewl_run rfl (rn_eqBt un4 rfl rfl) ?_
 refine ewl_run rfl (rn_assign rfl) ?_
 refine ewl_nil ?_
 refine thn_n ?_
 refine ewp_if rfl (fun h18 => ?_) (fun h18 => ?_)
 refine ewp_seq ?_
 refine ewp_seq ?_
 have hc6 : (c.toNat : Int) = 46 := by simpa using h18
 obtain ⟨hc6, hdf, hrb⟩ : c = 46 ∧ dot = false ∧ r = b := hcl.elim id (fun h => by omega)
 replace hrb := hrb.symm
 subst hdf hrb hc6
 have hsd2 : sd = true := hsd.resolve_right (fun h => by cases a with | nil => exact hane rfl | cons x a => simp at h; have := ha x (.head _); rw [← h.1] at this; revert this; decide)
 refine ewp_reg ?_
 refine ewl_run rfl (rn_move rfl) ?_
 refine ewl_nil ?_
 refine thn_n ?_
 refine ewp_iff rfl rfl ?_
 refine ewp_skip ?_
 refine thn_n ?_
 refine ewp_seq ?_
 refine ewp_reg ?_
 refine ewl_run rfl (rn_assign rfl) ?_
 refine ewl_nil ?_
 refine thn_n ?_
 refine ewp_seq ?_
 refine ewp_reg ?_
 refine ewl_run rfl (rn_move rfl) ?_
 refine ewl_run rfl (rn_assign rfl) ?_
 refine ewl_nil ?_
 refine thn_n ?_
 refine ewp_exit ?_
 refine blk_o rfl ?_
 refine thn_e ?_
 refine blk_e ?_
 refine thn_n ?_
 refine ewp_reg ?_
 refine ewl_run rfl (rn_move rfl) ?_
 refine ewl_run rfl (rn_add rfl rfl ⟨by omega, by omega⟩) ?_
 refine ewl_run rfl (rn_assign rfl) ?_
 refine ewl_nil ?_
 refine lp_n b.length (upd (upd (upd (upd (upd (upd (upd (upd (upd (upd (upd (upd (upd (upd (upd (upd SW.e0 0 (S s)) 2 (.int .u64 (m : Int))) 3 (.int .i64 0)) 4 (.bool true)) 5 (.bool false)) 6 (.bool false)) 7 (.int .i64 ((j + 1 : Nat) : Int))) 8 (.bool false)) 9 (.bool false)) 10 (.int .u64 10)) 11 (.int .i64 19)) 13 (.bool true)) 14 (.bool sd)) 15 (.int .i64 (nd : Int))) 16 (.int .i64 (nd : Int))) 17 (.int .i64 (nd : Int))) (by simp) (le_upd (le_upd (le_upd (le_upd (le_upd (le_upd (le_upd (le_upd (le_upd (le_upd (le_upd (le_upd (le_upd (le_upd (le_upd (le_upd (le_e0 _) rfl) rfl) rfl) rfl) rfl) rfl) rfl) rfl) rfl) rfl) rfl) rfl) rfl) rfl) rfl) rfl) ⟨j + 1, m, nd, (nd : Int), true, sd, b, rfl, rfl, rfl, drop_tl hdr, by simp only [List.length_cons] at hjr; omega, ⟨hb, Nat.le_refl _⟩, by rw [hdec, noDot_dot], (fun _ => by omega), by omega, by omega, by omega, hnm, .inl hsd2, hX⟩
 refine ewp_seq ?_
 have hn6 : (c.toNat : Int) ≠ 46 := by simpa using h18
 obtain ⟨hcd, hfr⟩ : (48 ≤ c.toNat ∧ c.toNat ≤ 57) ∧ FV b dot r := hcl.elim (fun h => absurd (by rw [h.1]; rfl) hn6) id
 refine ewp_reg ?_
 refine ewl_run rfl (rn_move rfl) ?_
 refine ewl_run rfl (rn_leI rfl rfl) ?_
 refine ewl_run rfl (rn_move rfl) ?_
 refine ewl_split 79 rfl (fun h19 => ?_) (fun h19 => ?_)
 refine ewl_grd rfl rfl h19 ?_
 refine ewl_run rfl (rn_move rfl) ?_
 refine ewl_grd rfl rfl h19 ?_
 refine ewl_run rfl (rn_leI rfl rfl) ?_
 refine ewl_run rfl (rn_pickt rfl h19 rfl) ?_
 refine ewl_run rfl (rn_eqBt un4 rfl rfl) ?_
 refine ewl_run rfl (rn_assign rfl) ?_
 refine ewl_nil ?_
 refine thn_n ?_
 refine ewp_if rfl (fun h20 => ?_) (fun h20 => ?_)
 refine ewp_seq ?_
 refine ewp_reg ?_
 refine ewl_run rfl (rn_assign rfl) ?_
 refine ewl_nil ?_
 refine thn_n ?_
 refine ewp_seq ?_
 refine ewp_seq ?_
 refine ewp_reg ?_
 refine ewl_run rfl (rn_move rfl) ?_
 refine ewl_run rfl (rn_eqI rfl rfl) ?_
 refine ewl_run rfl (rn_move rfl) ?_
 refine ewl_split 86 rfl (fun h21 => ?_) (fun h21 => ?_)
 refine ewl_grd rfl rfl h21 ?_
 refine ewl_run rfl (rn_move rfl) ?_
 refine ewl_grd rfl rfl h21 ?_
 refine ewl_run rfl (rn_eqI rfl rfl) ?_
 refine ewl_run rfl (rn_pickt rfl h21 rfl) ?_
 refine ewl_nil ?_
 refine thn_n ?_
 refine ewp_if rfl (fun h22 => ?_) (fun h22 => ?_)
 refine ewp_seq ?_
 refine ewp_reg ?_
 refine ewl_run rfl (rn_move rfl) ?_
 refine ewl_run rfl (rn_sub rfl rfl ⟨by omega, by omega⟩) ?_
 refine ewl_run rfl (rn_assign rfl) ?_
 refine ewl_nil ?_
 refine thn_n ?_
 refine ewp_exit ?_
 refine thn_e ?_
 refine blk_o rfl ?_
 refine thn_e ?_
 refine blk_e ?_
 refine thn_n ?_
 refine ewp_reg ?_
 refine ewl_run rfl (rn_move rfl) ?_
 refine ewl_run rfl (rn_add rfl rfl ⟨by omega, by omega⟩) ?_
 refine ewl_run rfl (rn_assign rfl) ?_
 refine ewl_nil ?_
 have hm0 : m = 0 := hnm.1 (by have := h22; simp at this; omega)
 have hc0 : c.toNat = 48 := by have := h21; simp at this; omega
 refine lp_n r.length (upd (upd (upd (upd (upd (upd (upd (upd (upd (upd (upd (upd (upd (upd (upd (upd SW.e0 0 (S s)) 2 (.int .u64 (m : Int))) 3 (.int .i64 0)) 4 (.bool true)) 5 (.bool false)) 6 (.bool false)) 7 (.int .i64 ((j + 1 : Nat) : Int))) 8 (.bool false)) 9 (.bool false)) 10 (.int .u64 10)) 11 (.int .i64 19)) 13 (.bool dot)) 14 (.bool true)) 15 (.int .i64 (nd : Int))) 16 (.int .i64 (nd : Int))) 17 (.int .i64 (dp - 1))) (by simp) (le_upd (le_upd (le_upd (le_upd (le_upd (le_upd (le_upd (le_upd (le_upd (le_upd (le_upd (le_upd (le_upd (le_upd (le_upd (le_upd (le_e0 _) rfl) rfl) rfl) rfl) rfl) rfl) rfl) rfl) rfl) rfl) rfl) rfl) rfl) rfl) rfl) rfl) ⟨j + 1, m, nd, dp - 1, dot, true, r, rfl, rfl, rfl, drop_tl hdr, by simp only [List.length_cons] at hjr; omega, hfr, by rw [hdec, noDot_cons hcd, decN_c, hc0, hm0], (fun h => by have h1 := hdp h; simp only [List.length_cons] at h1; omega), by omega, by omega, by omega, hnm, .inl rfl, hX⟩
 refine ewp_skip ?_
 refine thn_n ?_
 refine ewp_seq ?_
 have hnz : ¬ (m * 10 + (c.toNat - 48) = 0) := by
   intro h9
   have hm9 : m = 0 := by omega
   have hn9 := hnm.2 hm9
   have h8 := h22
   simp at h8
   omega
 refine ewp_reg ?_
 refine ewl_run rfl (rn_move rfl) ?_
 refine ewl_run rfl (rn_add rfl rfl ⟨by omega, by omega⟩) ?_
 refine ewl_run rfl (rn_assign rfl) ?_
 refine ewl_nil ?_
 refine thn_n ?_
 refine ewp_seq ?_
 refine ewp_seq ?_
 refine ewp_reg ?_
 refine ewl_run rfl (rn_move rfl) ?_
 refine ewl_run rfl (rn_move rfl) ?_
 refine ewl_run rfl (rn_ltI rfl rfl) ?_
 refine ewl_nil ?_
 refine thn_n ?_
 refine ewp_if rfl (fun h23 => ?_) (fun h23 => ?_)
 refine ewp_seq ?_
 refine ewp_reg ?_
 refine ewl_run rfl (rn_move rfl) ?_
 refine ewl_run rfl (rn_move rfl) ?_
 refine ewl_run rfl (rn_mulK ((m : Int) * 10) rfl rfl (wrapU64 ⟨by omega, by omega⟩)) ?_
 refine ewl_run rfl (rn_assign rfl) ?_
 refine ewl_nil ?_
 refine thn_n ?_
 refine ewp_seq ?_
 refine ewp_reg ?_
 refine ewl_run rfl (rn_move rfl) ?_
 refine ewl_run rfl (rn_move rfl) ?_
 refine ewl_run rfl (rn_subK ((c.toNat : Int) - 48) rfl rfl (wrap8 ⟨by omega, by omega⟩)) ?_
 refine ewl_run rfl (rn_cvI (m := (c.toNat : Int) - 48) rfl cv5_33 (wrapU64 ⟨by omega, by omega⟩)) ?_
 refine ewl_run rfl (rn_addK ((m : Int) * 10 + ((c.toNat : Int) - 48)) rfl rfl (wrapU64 ⟨by omega, by omega⟩)) ?_
 refine ewl_run rfl (rn_assign rfl) ?_
 refine ewl_nil ?_
 refine thn_n ?_
 refine ewp_reg ?_
 refine ewl_run rfl (rn_move rfl) ?_
 refine ewl_run rfl (rn_add rfl rfl ⟨by omega, by omega⟩) ?_
 refine ewl_run rfl (rn_assign rfl) ?_
 refine ewl_nil ?_
 refine thn_n ?_
 refine ewp_exit ?_
 refine blk_o rfl ?_
 refine thn_e ?_
 refine blk_e ?_
 refine thn_n ?_
 refine ewp_reg ?_
 refine ewl_run rfl (rn_move rfl) ?_
 refine ewl_run rfl (rn_add rfl rfl ⟨by omega, by omega⟩) ?_
 refine ewl_run rfl (rn_assign rfl) ?_
 refine ewl_nil ?_
 have hme : (m : Int) * 10 + ((c.toNat : Int) - 48) = ((m * 10 + (c.toNat - 48) : Nat) : Int) := by omega
 refine lp_n r.length (upd (upd (upd (upd (upd (upd (upd (upd (upd (upd (upd (upd (upd (upd (upd (upd SW.e0 0 (S s)) 2 (.int .u64 ((m * 10 + (c.toNat - 48) : Nat) : Int))) 3 (.int .i64 0)) 4 (.bool true)) 5 (.bool false)) 6 (.bool false)) 7 (.int .i64 ((j + 1 : Nat) : Int))) 8 (.bool false)) 9 (.bool false)) 10 (.int .u64 10)) 11 (.int .i64 19)) 13 (.bool dot)) 14 (.bool true)) 15 (.int .i64 ((nd + 1 : Nat) : Int))) 16 (.int .i64 ((nd + 1 : Nat) : Int))) 17 (.int .i64 dp)) (by simp) (le_upd (le_upd (le_upd (le_upd (le_upd (le_upd (le_upd (le_upd (le_upd (le_upd (le_upd (le_upd (le_upd (le_upd (le_upd (le_upd (le_e0 _) rfl) (hme ▸ rfl)) rfl) rfl) rfl) rfl) rfl) rfl) rfl) rfl) rfl) rfl) rfl) rfl) rfl) rfl) ⟨j + 1, m * 10 + (c.toNat - 48), nd + 1, dp, dot, true, r, rfl, rfl, rfl, drop_tl hdr, by simp only [List.length_cons] at hjr; omega, hfr, by rw [hdec, noDot_cons hcd, decN_c], (fun h => by have h1 := hdp h; simp only [List.length_cons] at h1; omega), by omega, by omega, by omega, ⟨fun h => by omega, fun h => ?_⟩, .inl rfl, hX⟩
 exfalso
 have hz := hnz
 omega
 · exfalso
   have h9 := of_decide_eq_false h23; omega
 refine ewl_off rfl rfl rfl h21 ?_
 refine ewl_off rfl rfl rfl h21 ?_
 refine ewl_run rfl (rn_pickf rfl h21 rfl) ?_
 refine ewl_nil ?_
 refine thn_n ?_
 refine ewp_iff rfl rfl ?_
 refine ewp_skip ?_
 refine thn_n ?_
 refine ewp_seq ?_
 have hnz : ¬ (m * 10 + (c.toNat - 48) = 0) := by
   intro h9
   have hm9 : m = 0 := by omega
   have hn9 := hnm.2 hm9
   have h8 := h21
   simp at h8
   omega
 refine ewp_reg ?_
 refine ewl_run rfl (rn_move rfl) ?_
 refine ewl_run rfl (rn_add rfl rfl ⟨by omega, by omega⟩) ?_
 refine ewl_run rfl (rn_assign rfl) ?_
 refine ewl_nil ?_
 refine thn_n ?_
 refine ewp_seq ?_
 refine ewp_seq ?_
 refine ewp_reg ?_
 refine ewl_run rfl (rn_move rfl) ?_
 refine ewl_run rfl (rn_move rfl) ?_
 refine ewl_run rfl (rn_ltI rfl rfl) ?_
 refine ewl_nil ?_
 refine thn_n ?_
 refine ewp_if rfl (fun h24 => ?_) (fun h24 => ?_)
 refine ewp_seq ?_
 refine ewp_reg ?_
 refine ewl_run rfl (rn_move rfl) ?_
 refine ewl_run rfl (rn_move rfl) ?_
 refine ewl_run rfl (rn_mulK ((m : Int) * 10) rfl rfl (wrapU64 ⟨by omega, by omega⟩)) ?_
 refine ewl_run rfl (rn_assign rfl) ?_
 refine ewl_nil ?_
 refine thn_n ?_
 refine ewp_seq ?_
 refine ewp_reg ?_
 refine ewl_run rfl (rn_move rfl) ?_
 refine ewl_run rfl (rn_move rfl) ?_
 refine ewl_run rfl (rn_subK ((c.toNat : Int) - 48) rfl rfl (wrap8 ⟨by omega, by omega⟩)) ?_
 refine ewl_run rfl (rn_cvI (m := (c.toNat : Int) - 48) rfl cv5_33 (wrapU64 ⟨by omega, by omega⟩)) ?_
 refine ewl_run rfl (rn_addK ((m : Int) * 10 + ((c.toNat : Int) - 48)) rfl rfl (wrapU64 ⟨by omega, by omega⟩)) ?_
 refine ewl_run rfl (rn_assign rfl) ?_
 refine ewl_nil ?_
 refine thn_n ?_
 refine ewp_reg ?_
 refine ewl_run rfl (rn_move rfl) ?_
 refine ewl_run rfl (rn_add rfl rfl ⟨by omega, by omega⟩) ?_
 refine ewl_run rfl (rn_assign rfl) ?_
 refine ewl_nil ?_
 refine thn_n ?_
 refine ewp_exit ?_
 refine blk_o rfl ?_
 refine thn_e ?_
 refine blk_e ?_
 refine thn_n ?_
 refine ewp_reg ?_
 refine ewl_run rfl (rn_move rfl) ?_
 refine ewl_run rfl (rn_add rfl rfl ⟨by omega, by omega⟩) ?_
 refine ewl_run rfl (rn_assign rfl) ?_
 refine ewl_nil ?_
 have hme : (m : Int) * 10 + ((c.toNat : Int) - 48) = ((m * 10 + (c.toNat - 48) : Nat) : Int) := by omega
 refine lp_n r.length (upd (upd (upd (upd (upd (upd (upd (upd (upd (upd (upd (upd (upd (upd (upd (upd SW.e0 0 (S s)) 2 (.int .u64 ((m * 10 + (c.toNat - 48) : Nat) : Int))) 3 (.int .i64 0)) 4 (.bool true)) 5 (.bool false)) 6 (.bool false)) 7 (.int .i64 ((j + 1 : Nat) : Int))) 8 (.bool false)) 9 (.bool false)) 10 (.int .u64 10)) 11 (.int .i64 19)) 13 (.bool dot)) 14 (.bool true)) 15 (.int .i64 ((nd + 1 : Nat) : Int))) 16 (.int .i64 ((nd + 1 : Nat) : Int))) 17 (.int .i64 dp)) (by simp) (le_upd (le_upd (le_upd (le_upd (le_upd (le_upd (le_upd (le_upd (le_upd (le_upd (le_upd (le_upd (le_upd (le_upd (le_upd (le_upd (le_e0 _) rfl) (hme ▸ rfl)) rfl) rfl) rfl) rfl) rfl) rfl) rfl) rfl) rfl) rfl) rfl) rfl) rfl) rfl) ⟨j + 1, m * 10 + (c.toNat - 48), nd + 1, dp, dot, true, r, rfl, rfl, rfl, drop_tl hdr, by simp only [List.length_cons] at hjr; omega, hfr, by rw [hdec, noDot_cons hcd, decN_c], (fun h => by have h1 := hdp h; simp only [List.length_cons] at h1; omega), by omega, by omega, by omega, ⟨fun h => by omega, fun h => ?_⟩, .inl rfl, hX⟩
 exfalso
 have hz := hnz
 omega
 · exfalso
   have h9 := of_decide_eq_false h24; omega
 · exfalso
   have h9 := of_decide_eq_false h20; omega
 · exfalso
   have h9 := of_decide_eq_false h19; omega
 refine ewp_exit ?_
 refine thn_e ?_
 refine lp_e ?_
 refine blk_e ?_
 refine thn_n ?_
 refine ewp_seq ?_
 refine ewp_seq ?_
 have hrn : rest = [] := by cases rest with | nil => rfl | cons x r => exfalso; have h9 := of_decide_eq_false h16; simp only [List.length_cons] at hjr; omega
 subst hrn
 have hdt := hfv.nil
 subst hdt
 have hst : sd = true := hsd.resolve_right (fun h => by cases a <;> cases h)
 subst hst
 have hdp2 := hdp rfl
 simp only [List.length_nil] at hdp2 hjr
 have hM : decN 0 (a ++ b) = m := by rw [hdec]; exact decN_n m
 refine ewp_reg ?_
 refine ewl_run rfl (rn_move rfl) ?_
 refine ewl_run rfl (rn_nott rfl rfl) ?_
 refine ewl_nil ?_
 refine thn_n ?_
 refine ewp_iff rfl rfl ?_
 refine ewp_skip ?_
 refine thn_n ?_
 refine ewp_seq ?_
 refine ewp_seq ?_
 refine ewp_reg ?_
 refine ewl_run rfl (rn_move rfl) ?_
 refine ewl_run rfl (rn_nott rfl rfl) ?_
 refine ewl_nil ?_
 refine thn_n ?_
 refine ewp_iff rfl rfl ?_
 refine ewp_skip ?_
 refine thn_n ?_
 refine ewp_seq ?_
 refine ewp_seq ?_
 refine ewp_reg ?_
 refine ewl_run rfl (rn_move rfl) ?_
 refine ewl_run rfl (rn_eqI rfl rfl) ?_
 refine ewl_nil ?_
 refine thn_n ?_
 refine ewp_iff rfl rfl ?_
 refine ewp_skip ?_
 refine thn_n ?_
 refine ewp_seq ?_
 refine ewp_seq ?_
 refine ewp_reg ?_
 refine ewl_run rfl (rn_move rfl) ?_
 refine ewl_run rfl (rn_move rfl) ?_
 refine ewl_run rfl (rn_lenS rfl un9) ?_
 refine ewl_run rfl (rn_ltI rfl rfl) ?_
 refine ewl_run rfl (rn_move rfl) ?_
 refine ewl_split 154 rfl (fun h25 => ?_) (fun h25 => ?_)
 · exfalso
   have h9 := of_decide_eq_true h25; omega
 refine ewl_off rfl rfl rfl h25 ?_
 refine ewl_off rfl rfl rfl h25 ?_
 refine ewl_off rfl rfl rfl h25 ?_
 refine ewl_off rfl rfl rfl h25 ?_
 refine ewl_off rfl rfl rfl h25 ?_
 refine ewl_off rfl rfl rfl h25 ?_
 refine ewl_run rfl (rn_pickf rfl h25 rfl) ?_
 refine ewl_nil ?_
 refine thn_n ?_
 refine ewp_iff rfl rfl ?_
 refine ewp_seq ?_
 refine ewp_reg ?_
 refine ewl_run rfl (rn_move rfl) ?_
 refine ewl_run rfl (rn_eqI rfl rfl) ?_
 refine ewl_nil ?_
 refine thn_n ?_
 refine ewp_iff rfl rfl ?_
 refine ewp_skip ?_
 refine thn_n ?_
 refine ewp_seq ?_
 refine ewp_seq ?_
 refine ewp_reg ?_
 refine ewl_run rfl (rn_move rfl) ?_
 refine ewl_run rfl (rn_neI rfl rfl) ?_
 refine ewl_nil ?_
 refine thn_n ?_
 refine ewp_if rfl (fun h26 => ?_) (fun h26 => ?_)
 refine ewp_reg ?_
 refine ewl_run rfl (rn_move rfl) ?_
 refine ewl_run rfl (rn_move rfl) ?_
 refine ewl_run rfl (rn_sub rfl rfl ⟨by omega, by omega⟩) ?_
 refine ewl_run rfl (rn_assign rfl) ?_
 refine ewl_nil ?_
 refine thn_n ?_
 refine ewp_seq ?_
 refine ewp_seq ?_
 refine ewp_reg ?_
 refine ewl_run rfl (rn_move rfl) ?_
 refine ewl_run rfl (rn_move rfl) ?_
 refine ewl_off rfl rfl rfl rfl ?_
 refine ewl_off rfl rfl rfl rfl ?_
 refine ewl_off rfl rfl rfl rfl ?_
 refine ewl_off rfl rfl rfl rfl ?_
 refine ewl_off rfl rfl rfl rfl ?_
 refine ewl_run rfl (rn_pickf rfl rfl rfl) ?_
 refine ewl_nil ?_
 refine thn_n ?_
 refine ewp_iff rfl rfl ?_
 refine ewp_skip ?_
 refine thn_n ?_
 refine ewp_seq ?_
 refine ewp_reg ?_
 refine ewl_run rfl (rn_assign rfl) ?_
 refine ewl_nil ?_
 refine thn_n ?_
 refine ewp_ret ?_
 refine ngt_r ?_
 refine fn_r (resv7 rfl (rv_tmp rfl) (rv_tmp rfl) (rv_tmp rfl) (rv_tmp rfl) (rv_tmp rfl) (rv_tmp rfl) (rv_tmp rfl)) ?_
 exact ⟨by rw [if_neg (by rw [hM]; have h9 := h26; simp at h9; omega), hM, show dp - (nd : Int) = -(b.length : Int) by omega, show ((j : Nat) : Int) = (s.length : Int) by omega], hX⟩
 refine ewp_skip ?_
 refine thn_n ?_
 refine ewp_seq ?_
 refine ewp_seq ?_
 refine ewp_reg ?_
 refine ewl_run rfl (rn_move rfl) ?_
 refine ewl_run rfl (rn_move rfl) ?_
 refine ewl_off rfl rfl rfl rfl ?_
 refine ewl_off rfl rfl rfl rfl ?_
 refine ewl_off rfl rfl rfl rfl ?_
 refine ewl_off rfl rfl rfl rfl ?_
 refine ewl_off rfl rfl rfl rfl ?_
 refine ewl_run rfl (rn_pickf rfl rfl rfl) ?_
 refine ewl_nil ?_
 refine thn_n ?_
 refine ewp_iff rfl rfl ?_
 refine ewp_skip ?_
 refine thn_n ?_
 refine ewp_seq ?_
 refine ewp_reg ?_
 refine ewl_run rfl (rn_assign rfl) ?_
 refine ewl_nil ?_
 refine thn_n ?_
 refine ewp_ret ?_
 refine ngt_r ?_
 refine fn_r (resv7 rfl (rv_tmp rfl) (rv_tmp rfl) (rv_tmp rfl) (rv_tmp rfl) (rv_tmp rfl) (rv_tmp rfl) (rv_tmp rfl)) ?_
 exact ⟨by rw [if_pos (by rw [hM]; have h9 := h26; simp at h9; omega), hM, show ((j : Nat) : Int) = (s.length : Int) by omega], hX⟩
 · exfalso
   have h9 := of_decide_eq_false h2; rw [hs] at h9; simp at h9; omega
end Go.Proofs.YthjdnhnbgjgbkaaGreatDoor
namespace Go.Proofs.YthjdnhnbgjgbkaaGreatDoor
open Go.SW Go.SP Go.RowKit
theorem ex114n : Extern.findNext Tryz.f114 = none := by kernel_rfl
theorem ex114f : Extern.find Tryz.f114 = some Extern.MathFloatBits.float64frombits := by kernel_rfl
theorem cvf33_88 : cvF Tryz.prog 33 88 = some .f64 := by kernel_rfl
theorem exact_spec (w : World) (hG : Gl w) (m n : Nat) (neg : Bool) (hm : m < 1000000000000000) (hn : 1 ≤ n ∧ n ≤ 14) :
   Ret Tryz.prog 115 #[.int .u64 (m : Int), .int .i64 (-(n : Int)), .bool neg] w fun v w' => v = .tuple #[.float .f64 ((FloatKind.f64.format.div (if neg then Op.negFloat .f64 (FloatKind.f64.nearest (m : Int)) else FloatKind.f64.nearest (m : Int)) (pow10B.getD n 0)).getD 0), .bool true] ∧ Ext w w' := by
 obtain ⟨pb, po, pn, pc, hp1, hp2, hp3⟩ := hG.pow10
 have hX := Ext.refl w
 refine enter Tryz.func115 rfl rfl rfl ?_
 refine ewp_seq ?_
 refine ewp_reg ?_
 refine ewl_run rfl (rn_assign rfl) ?_
 refine ewl_run rfl (rn_assign rfl) ?_
 refine ewl_nil ?_
 refine thn_n ?_
 refine ewp_seq ?_
 refine ewp_seq ?_
 refine ewp_reg ?_
 refine ewl_run rfl (rn_move rfl) ?_
 refine ewl_run rfl (rn_fa rfl fl142_0) ?_
 refine ewl_run rfl (rn_loadv rfl ti81 (hG.ext hX).finfo) ?_
 refine ewl_run rfl (rn_shrK 0 rfl rfl (by decide) (by rw [show min (52 : Int).toNat IntKind.u64.bits = 52 by decide, fdiv_nat, Nat.div_eq_of_lt (by omega)]; rfl)) ?_
 refine ewl_run rfl (rn_neI rfl rfl) ?_
 refine ewl_nil ?_
 refine thn_n ?_
 refine ewp_iff rfl rfl ?_
 refine ewp_skip ?_
 refine thn_n ?_
 refine ewp_seq ?_
 refine ewp_reg ?_
 refine ewl_run rfl (rn_move rfl) ?_
 refine ewl_run rfl (rn_cvF rfl cvf33_88) ?_
 refine ewl_run rfl (rn_assign rfl) ?_
 refine ewl_nil ?_
 refine thn_n ?_
 refine ewp_seq ?_
 refine ewp_seq ?_
 refine ewp_reg ?_
 refine ewl_run rfl (rn_move rfl) ?_
 refine ewl_nil ?_
 refine thn_n ?_
 refine ewp_if rfl (fun h1 => ?_) (fun h1 => ?_)
 refine ewp_reg ?_
 refine ewl_run rfl (rn_move rfl) ?_
 refine ewl_run rfl (rn_negF rfl) ?_
 refine ewl_run rfl (rn_assign rfl) ?_
 refine ewl_nil ?_
 refine thn_n ?_
 refine ewp_seq ?_
 refine ewp_block ?_
 refine ewp_seq ?_
 refine ewp_reg ?_
 refine ewl_run rfl (rn_move rfl) ?_
 refine ewl_run rfl (rn_eqI rfl rfl) ?_
 refine ewl_run rfl (rn_assign rfl) ?_
 refine ewl_nil ?_
 refine thn_n ?_
 refine ewp_if rfl (fun h2 => ?_) (fun h2 => ?_)
 · exfalso
   have h9 := (beq_iff_eq).1 h2; omega
 refine ewp_seq ?_
 refine ewp_reg ?_
 refine ewl_run rfl (rn_move rfl) ?_
 refine ewl_run rfl (rn_gtI rfl rfl) ?_
 refine ewl_run rfl (rn_move rfl) ?_
 refine ewl_split 25 rfl (fun h3 => ?_) (fun h3 => ?_)
 · exfalso
   have h9 := of_decide_eq_true h3; omega
 refine ewl_off rfl rfl rfl h3 ?_
 refine ewl_off rfl rfl rfl h3 ?_
 refine ewl_run rfl (rn_pickf rfl h3 rfl) ?_
 refine ewl_run rfl (rn_assign rfl) ?_
 refine ewl_nil ?_
 refine thn_n ?_
 refine ewp_iff rfl rfl ?_
 refine ewp_seq ?_
 refine ewp_reg ?_
 refine ewl_run rfl (rn_move rfl) ?_
 refine ewl_run rfl (rn_ltI rfl rfl) ?_
 refine ewl_run rfl (rn_move rfl) ?_
 refine ewl_split 53 rfl (fun h4 => ?_) (fun h4 => ?_)
 refine ewl_grd rfl rfl h4 ?_
 refine ewl_run rfl (rn_move rfl) ?_
 refine ewl_grd rfl rfl h4 ?_
 refine ewl_run rfl (rn_geI rfl rfl) ?_
 refine ewl_run rfl (rn_pickt rfl h4 rfl) ?_
 refine ewl_run rfl (rn_assign rfl) ?_
 refine ewl_nil ?_
 refine thn_n ?_
 refine ewp_if rfl (fun h5 => ?_) (fun h5 => ?_)
 refine ewp_seq ?_
 obtain ⟨r, hr⟩ := div_some neg m n (by omega)
 rw [h1] at hr
 simp only [Bool.false_eq_true, if_true, if_false] at hr
 have hpn := pow10_at (show n < 15 by omega)
 refine ewp_reg ?_
 refine ewl_run rfl (rn_move rfl) ?_
 refine ewl_run rfl (rn_loadv rfl ti181 (cell_ext hp1 hX)) ?_
 refine ewl_run rfl (rn_move rfl) ?_
 refine ewl_run rfl (rn_negK (n : Int) rfl (by rw [wrapI64 ⟨by omega, by omega⟩]; omega)) ?_
 refine ewl_run rfl (rn_ixc (i := n) rfl rfl sl181 (by omega)) ?_
 refine ewl_run rfl (rn_loadv rfl ti88 (by rw [Nat.mul_one]; exact cell_ext (hp3 n _ hpn) hX)) ?_
 refine ewl_run rfl (rn_quoF rfl rfl hr) ?_
 refine ewl_run rfl (rn_assign rfl) ?_
 refine ewl_run rfl (rn_assign rfl) ?_
 refine ewl_nil ?_
 refine thn_n ?_
 refine ewp_ret ?_
 refine blk_r ?_
 refine thn_r ?_
 refine fn_r (resv2 rfl (rv_tmp rfl) (rv_tmp rfl)) ?_
 refine ⟨?_, hX⟩
 rw [h1]
 simp only [Bool.false_eq_true, if_true, if_false]
 rw [hr]; rfl
 · exfalso
   have h9 := of_decide_eq_false h5; omega
 · exfalso
   have h9 := of_decide_eq_false h4; omega
 refine ewp_skip ?_
 refine thn_n ?_
 refine ewp_seq ?_
 refine ewp_block ?_
 refine ewp_seq ?_
 refine ewp_reg ?_
 refine ewl_run rfl (rn_move rfl) ?_
 refine ewl_run rfl (rn_eqI rfl rfl) ?_
 refine ewl_run rfl (rn_assign rfl) ?_
 refine ewl_nil ?_
 refine thn_n ?_
 refine ewp_if rfl (fun h6 => ?_) (fun h6 => ?_)
 · exfalso
   have h9 := (beq_iff_eq).1 h6; omega
 refine ewp_seq ?_
 refine ewp_reg ?_
 refine ewl_run rfl (rn_move rfl) ?_
 refine ewl_run rfl (rn_gtI rfl rfl) ?_
 refine ewl_run rfl (rn_move rfl) ?_
 refine ewl_split 25 rfl (fun h7 => ?_) (fun h7 => ?_)
 · exfalso
   have h9 := of_decide_eq_true h7; omega
 refine ewl_off rfl rfl rfl h7 ?_
 refine ewl_off rfl rfl rfl h7 ?_
 refine ewl_run rfl (rn_pickf rfl h7 rfl) ?_
 refine ewl_run rfl (rn_assign rfl) ?_
 refine ewl_nil ?_
 refine thn_n ?_
 refine ewp_iff rfl rfl ?_
 refine ewp_seq ?_
 refine ewp_reg ?_
 refine ewl_run rfl (rn_move rfl) ?_
 refine ewl_run rfl (rn_ltI rfl rfl) ?_
 refine ewl_run rfl (rn_move rfl) ?_
 refine ewl_split 53 rfl (fun h8 => ?_) (fun h8 => ?_)
 refine ewl_grd rfl rfl h8 ?_
 refine ewl_run rfl (rn_move rfl) ?_
 refine ewl_grd rfl rfl h8 ?_
 refine ewl_run rfl (rn_geI rfl rfl) ?_
 refine ewl_run rfl (rn_pickt rfl h8 rfl) ?_
 refine ewl_run rfl (rn_assign rfl) ?_
 refine ewl_nil ?_
 refine thn_n ?_
 refine ewp_if rfl (fun h9 => ?_) (fun h9 => ?_)
 refine ewp_seq ?_
 obtain ⟨r, hr⟩ := div_some neg m n (by omega)
 rw [h1] at hr
 simp only [Bool.false_eq_true, if_true, if_false] at hr
 have hpn := pow10_at (show n < 15 by omega)
 refine ewp_reg ?_
 refine ewl_run rfl (rn_move rfl) ?_
 refine ewl_run rfl (rn_loadv rfl ti181 (cell_ext hp1 hX)) ?_
 refine ewl_run rfl (rn_move rfl) ?_
 refine ewl_run rfl (rn_negK (n : Int) rfl (by rw [wrapI64 ⟨by omega, by omega⟩]; omega)) ?_
 refine ewl_run rfl (rn_ixc (i := n) rfl rfl sl181 (by omega)) ?_
 refine ewl_run rfl (rn_loadv rfl ti88 (by rw [Nat.mul_one]; exact cell_ext (hp3 n _ hpn) hX)) ?_
 refine ewl_run rfl (rn_quoF rfl rfl hr) ?_
 refine ewl_run rfl (rn_assign rfl) ?_
 refine ewl_run rfl (rn_assign rfl) ?_
 refine ewl_nil ?_
 refine thn_n ?_
 refine ewp_ret ?_
 refine blk_r ?_
 refine thn_r ?_
 refine fn_r (resv2 rfl (rv_tmp rfl) (rv_tmp rfl)) ?_
 refine ⟨?_, hX⟩
 rw [h1]
 simp only [Bool.false_eq_true, if_true, if_false]
 rw [hr]; rfl
 · exfalso
   have h9 := of_decide_eq_false h9; omega
 · exfalso
   have h9 := of_decide_eq_false h8; omega
theorem bool2_spec (w : World) (neg : Bool) :
   Ret Tryz.prog 113 #[.bool neg] w fun v w' => v = .int .u64 (if neg then 1 else 0) ∧ Ext w w' := by
 have hX := Ext.refl w
 refine enter Tryz.func113 rfl rfl rfl ?_
 refine ewp_seq ?_
 refine ewp_reg ?_
 refine ewl_run rfl (rn_assign rfl) ?_
 refine ewl_nil ?_
 refine thn_n ?_
 refine ewp_seq ?_
 refine ewp_seq ?_
 refine ewp_reg ?_
 refine ewl_run rfl (rn_move rfl) ?_
 refine ewl_nil ?_
 refine thn_n ?_
 refine ewp_if rfl (fun h1 => ?_) (fun h1 => ?_)
 refine ewp_seq ?_
 refine ewp_reg ?_
 refine ewl_run rfl (rn_assign rfl) ?_
 refine ewl_nil ?_
 refine thn_n ?_
 refine ewp_ret ?_
 refine thn_r ?_
 refine fn_r (resv rfl (rv_tmp rfl)) ?_
 exact ⟨by rw [h1]; rfl, hX⟩
 refine ewp_skip ?_
 refine thn_n ?_
 refine ewp_seq ?_
 refine ewp_reg ?_
 refine ewl_run rfl (rn_assign rfl) ?_
 refine ewl_nil ?_
 refine thn_n ?_
 refine ewp_ret ?_
 refine fn_r (resv rfl (rv_tmp rfl)) ?_
 exact ⟨by rw [h1]; rfl, hX⟩
theorem special_any (w : World) (s a b : List UInt8) (neg : Bool) (ha : digs a) (hane : a ≠ []) (hs : s = if neg then 45 :: (a ++ 46 :: b) else a ++ 46 :: b) :
   Ret Tryz.prog 104 #[S s] w fun v w' => v = .tuple #[.float .f64 0, .int .i64 0, .bool false] ∧ Ext w w' := by
 cases a with
 | nil => exact absurd rfl hane
 | cons c r =>
   have hc := ha c (.head _)
   cases neg with
   | true => rw [hs]; exact special_neg w c (r ++ 46 :: b) hc
   | false => rw [hs]; exact special_pos w c (r ++ 46 :: b) hc
theorem readFloat_any (w : World) (s a b : List UInt8) (neg : Bool) (ha : digs a) (hb : digs b) (hane : a ≠ []) (hbne : b ≠ []) (hab : a.length + b.length ≤ 15) (hs : s = if neg then 45 :: (a ++ 46 :: b) else a ++ 46 :: b) :
   Ret Tryz.prog 105 #[S s] w fun v w' => v = .tuple #[.int .u64 (decN 0 (a ++ b) : Int), .int .i64 (if decN 0 (a ++ b) = 0 then 0 else -(b.length : Int)), .bool neg, .bool false, .bool false, .int .i64 (s.length : Int), .bool true] ∧ Ext w w' := by
 cases neg with
 | true => exact readFloat_neg w s a b ha hb hane hbne hab hs
 | false => exact readFloat_pos w s a b ha hb hane hbne hab hs
theorem atof64_spec (w : World) (hG : Gl w) (s : List UInt8) (a b : List UInt8) (ha : digs a) (hb : digs b) (hane : a ≠ []) (hbne : b ≠ []) (hab : a.length + b.length ≤ 15) (neg : Bool) (hs : s = if neg then 45 :: (a ++ 46 :: b) else a ++ 46 :: b) :
   Ret Tryz.prog 99 #[S s] w fun v w' => v = .tuple #[.float .f64 (fvalM neg a b), .int .i64 (s.length : Int), .nilIface] ∧ Ext w w' := by
 have hal : 1 ≤ a.length := List.length_pos_iff.2 hane
 have hbl : 1 ≤ b.length := List.length_pos_iff.2 hbne
 have hML := decN_small (l := a ++ b) (fun x hx => (List.mem_append.1 hx).elim (ha x) (hb x)) (by rw [List.length_append]; exact hab)
 have hX := Ext.refl w
 refine enter Tryz.func99 rfl rfl rfl ?_
 refine ewp_seq ?_
 refine ewp_reg ?_
 refine ewl_run rfl (rn_assign rfl) ?_
 refine ewl_run rfl (rn_assign rfl) ?_
 refine ewl_run rfl (rn_assign rfl) ?_
 refine ewl_nil ?_
 refine thn_n ?_
 refine ewp_seq ?_
 refine ewp_seq ?_
 refine ewp_reg ?_
 refine ewl_run rfl (rn_move rfl) ?_
 refine ewl_ret rfl (en_call ent104 rfl rfl) (special_any _ s a b neg ha hane hs) ?_
 rintro _ w1 ⟨rfl, hE1⟩
 replace hX := hX.trans hE1
 have sz1 := hE1.size
 refine ewl_run rfl (rn_move rfl) ?_
 refine ewl_run rfl (rn_exs rfl rfl) ?_
 refine ewl_run rfl (rn_exs rfl rfl) ?_
 refine ewl_run rfl (rn_exs rfl rfl) ?_
 refine ewl_run rfl (rn_assign rfl) ?_
 refine ewl_run rfl (rn_assign rfl) ?_
 refine ewl_run rfl (rn_assign rfl) ?_
 refine ewl_nil ?_
 refine thn_n ?_
 refine ewp_seq ?_
 refine ewp_reg ?_
 refine ewl_run rfl (rn_move rfl) ?_
 refine ewl_nil ?_
 refine thn_n ?_
 refine ewp_iff rfl rfl ?_
 refine ewp_skip ?_
 refine thn_n ?_
 refine ewp_seq ?_
 refine ewp_reg ?_
 refine ewl_run rfl (rn_move rfl) ?_
 refine ewl_ret rfl (en_call ent105 rfl rfl) (readFloat_any _ s a b neg ha hb hane hbne hab hs) ?_
 rintro _ w2 ⟨rfl, hE2⟩
 replace hX := hX.trans hE2
 have sz2 := hE2.size
 refine ewl_run rfl (rn_move rfl) ?_
 refine ewl_run rfl (rn_exs rfl rfl) ?_
 refine ewl_run rfl (rn_exs rfl rfl) ?_
 refine ewl_run rfl (rn_exs rfl rfl) ?_
 refine ewl_run rfl (rn_exs rfl rfl) ?_
 refine ewl_run rfl (rn_exs rfl rfl) ?_
 refine ewl_run rfl (rn_exs rfl rfl) ?_
 refine ewl_run rfl (rn_exs rfl rfl) ?_
 refine ewl_run rfl (rn_assign rfl) ?_
 refine ewl_run rfl (rn_assign rfl) ?_
 refine ewl_run rfl (rn_assign rfl) ?_
 refine ewl_run rfl (rn_assign rfl) ?_
 refine ewl_run rfl (rn_assign rfl) ?_
 refine ewl_run rfl (rn_assign rfl) ?_
 refine ewl_run rfl (rn_assign rfl) ?_
 refine ewl_nil ?_
 refine thn_n ?_
 refine ewp_seq ?_
 refine ewp_seq ?_
 refine ewp_reg ?_
 refine ewl_run rfl (rn_move rfl) ?_
 refine ewl_run rfl (rn_nott rfl rfl) ?_
 refine ewl_nil ?_
 refine thn_n ?_
 refine ewp_iff rfl rfl ?_
 refine ewp_skip ?_
 refine thn_n ?_
 refine ewp_seq ?_
 refine ewp_seq ?_
 refine ewp_reg ?_
 refine ewl_run rfl (rn_move rfl) ?_
 refine ewl_nil ?_
 refine thn_n ?_
 refine ewp_iff rfl rfl ?_
 refine ewp_skip ?_
 refine thn_n ?_
 refine ewp_seq ?_
 refine ewp_seq ?_
 refine ewp_reg ?_
 refine ewl_run rfl (rn_loadv rfl ti4 (hG.ext hX).optimize) ?_
 refine ewl_nil ?_
 refine thn_n ?_
 refine ewp_ift rfl rfl ?_
 refine ewp_seq ?_
 refine ewp_reg ?_
 refine ewl_run rfl (rn_move rfl) ?_
 refine ewl_ret rfl (en_call ent113 rfl rfl) (bool2_spec _ neg) ?_
 rintro _ w3 ⟨rfl, hE3⟩
 replace hX := hX.trans hE3
 have sz3 := hE3.size
 refine ewl_run rfl (rn_shlK (if neg then 9223372036854775808 else 0) rfl rfl (by decide) (by cases neg <;> decide)) ?_
 refine ewl_run rfl (rn_assign rfl) ?_
 refine ewl_nil ?_
 refine thn_n ?_
 refine ewp_seq ?_
 refine ewp_seq ?_
 refine ewp_reg ?_
 refine ewl_run rfl (rn_move rfl) ?_
 refine ewl_run rfl (rn_eqI rfl rfl) ?_
 refine ewl_nil ?_
 refine thn_n ?_
 refine ewp_if rfl (fun h1 => ?_) (fun h1 => ?_)
 refine ewp_seq ?_
 refine ewp_reg ?_
 refine ewl_run rfl (rn_move rfl) ?_
 refine ewl_run rfl (rn_orK (if neg then 9223372036854775808 else 0) rfl rfl (by cases neg <;> decide)) ?_
 refine ewl_run rfl (rn_ext Tryz.func114 rfl rfl ex114n ex114f rfl rfl rfl) ?_
 refine ewl_run rfl (rn_move rfl) ?_
 refine ewl_run rfl (rn_assign rfl) ?_
 refine ewl_run rfl (rn_assign rfl) ?_
 refine ewl_run rfl (rn_assign rfl) ?_
 refine ewl_nil ?_
 refine thn_n ?_
 refine ewp_ret ?_
 refine thn_r ?_
 refine thn_r ?_
 refine fn_r (resv3 rfl (rv_tmp rfl) (rv_tmp rfl) (rv_tmp rfl)) ?_
 have hM0 : decN 0 (a ++ b) = 0 := by have h9 := (beq_iff_eq).1 h1; omega
 exact ⟨by cases neg <;> simp [fvalM, hM0], hX⟩
 refine ewp_skip ?_
 refine thn_n ?_
 refine ewp_seq ?_
 refine ewp_seq ?_
 refine ewp_reg ?_
 refine ewl_run rfl (rn_move rfl) ?_
 refine ewl_run rfl (rn_gtI rfl rfl) ?_
 refine ewl_nil ?_
 refine thn_n ?_
 refine ewp_if rfl (fun h2 => ?_) (fun h2 => ?_)
 · exfalso
   have h9 := of_decide_eq_true h2; revert h9; split <;> omega
 refine ewp_skip ?_
 refine thn_n ?_
 refine ewp_seq ?_
 refine ewp_seq ?_
 refine ewp_reg ?_
 refine ewl_run rfl (rn_move rfl) ?_
 refine ewl_run rfl (rn_ltI rfl rfl) ?_
 refine ewl_nil ?_
 refine thn_n ?_
 refine ewp_if rfl (fun h3 => ?_) (fun h3 => ?_)
 · exfalso
   have h9 := of_decide_eq_true h3; revert h9; split <;> omega
 refine ewp_skip ?_
 refine thn_n ?_
 refine ewp_seq ?_
 refine ewp_seq ?_
 refine ewp_reg ?_
 refine ewl_run rfl (rn_move rfl) ?_
 refine ewl_run rfl (rn_notf rfl rfl) ?_
 refine ewl_nil ?_
 refine thn_n ?_
 refine ewp_ift rfl rfl ?_
 refine ewp_seq ?_
 refine ewp_reg ?_
 refine ewl_run rfl (rn_move rfl) ?_
 refine ewl_run rfl (rn_move rfl) ?_
 refine ewl_run rfl (rn_move rfl) ?_
 have hM0 : ¬ decN 0 (a ++ b) = 0 := by have h9 := h1; simp at h9; omega
 refine ewl_ret rfl (en_call ent115 rfl rfl) ((show (if decN 0 (a ++ b) = 0 then (0 : Int) else -(b.length : Int)) = -(b.length : Int) from if_neg hM0) ▸ exact_spec _ (hG.ext hX) (decN 0 (a ++ b)) b.length neg hML (by omega)) ?_
 rintro _ w4 ⟨rfl, hE4⟩
 replace hX := hX.trans hE4
 have sz4 := hE4.size
 refine ewl_run rfl (rn_move rfl) ?_
 refine ewl_run rfl (rn_exs rfl rfl) ?_
 refine ewl_run rfl (rn_exs rfl rfl) ?_
 refine ewl_run rfl (rn_assign rfl) ?_
 refine ewl_run rfl (rn_assign rfl) ?_
 refine ewl_nil ?_
 refine thn_n ?_
 refine ewp_seq ?_
 refine ewp_reg ?_
 refine ewl_run rfl (rn_move rfl) ?_
 refine ewl_nil ?_
 refine thn_n ?_
 refine ewp_ift rfl rfl ?_
 refine ewp_seq ?_
 refine ewp_reg ?_
 refine ewl_run rfl (rn_move rfl) ?_
 refine ewl_run rfl (rn_move rfl) ?_
 refine ewl_run rfl (rn_assign rfl) ?_
 refine ewl_run rfl (rn_assign rfl) ?_
 refine ewl_run rfl (rn_assign rfl) ?_
 refine ewl_nil ?_
 refine thn_n ?_
 refine ewp_ret ?_
 refine thn_r ?_
 refine thn_r ?_
 refine fn_r (resv3 rfl (rv_tmp rfl) (rv_tmp rfl) (rv_tmp rfl)) ?_
 exact ⟨by rw [fvalM, if_neg hM0], hX⟩
theorem parseFloatPrefix_spec (w : World) (hG : Gl w) (s : List UInt8) (a b : List UInt8) (ha : digs a) (hb : digs b) (hane : a ≠ []) (hbne : b ≠ []) (hab : a.length + b.length ≤ 15) (neg : Bool) (hs : s = if neg then 45 :: (a ++ 46 :: b) else a ++ 46 :: b) :
   Ret Tryz.prog 87 #[S s, .int .i64 64] w fun v w' => v = .tuple #[.float .f64 (fvalM neg a b), .int .i64 (s.length : Int), .nilIface] ∧ Ext w w' := by
 have hX := Ext.refl w
 refine enter Tryz.func87 rfl rfl rfl ?_
 refine ewp_seq ?_
 refine ewp_reg ?_
 refine ewl_run rfl (rn_assign rfl) ?_
 refine ewl_run rfl (rn_assign rfl) ?_
 refine ewl_run rfl (rn_assign rfl) ?_
 refine ewl_nil ?_
 refine thn_n ?_
 refine ewp_seq ?_
 refine ewp_seq ?_
 refine ewp_reg ?_
 refine ewl_run rfl (rn_move rfl) ?_
 refine ewl_run rfl (rn_eqI rfl rfl) ?_
 refine ewl_nil ?_
 refine thn_n ?_
 refine ewp_iff rfl rfl ?_
 refine ewp_skip ?_
 refine thn_n ?_
 refine ewp_seq ?_
 refine ewp_reg ?_
 refine ewl_run rfl (rn_move rfl) ?_
 refine ewl_ret rfl (en_call ent99 rfl rfl) (atof64_spec _ (hG.ext hX) s a b ha hb hane hbne hab neg hs) ?_
 rintro _ w1 ⟨rfl, hE1⟩
 replace hX := hX.trans hE1
 have sz1 := hE1.size
 refine ewl_run rfl (rn_exs rfl rfl) ?_
 refine ewl_run rfl (rn_exs rfl rfl) ?_
 refine ewl_run rfl (rn_exs rfl rfl) ?_
 refine ewl_run rfl (rn_assign rfl) ?_
 refine ewl_run rfl (rn_assign rfl) ?_
 refine ewl_run rfl (rn_assign rfl) ?_
 refine ewl_nil ?_
 refine thn_n ?_
 refine ewp_ret ?_
 refine fn_r (resv3 rfl (rv_tmp rfl) (rv_tmp rfl) (rv_tmp rfl)) ?_
 exact ⟨rfl, hX⟩
theorem parseFloatI_spec (w : World) (hG : Gl w) (s : List UInt8) (a b : List UInt8) (ha : digs a) (hb : digs b) (hane : a ≠ []) (hbne : b ≠ []) (hab : a.length + b.length ≤ 15) (neg : Bool) (hs : s = if neg then 45 :: (a ++ 46 :: b) else a ++ 46 :: b) :
   Ret Tryz.prog 68 #[S s, .int .i64 64] w fun v w' => v = .tuple #[.float .f64 (fvalM neg a b), .nilIface] ∧ Ext w w' := by
 have hX := Ext.refl w
 refine enter Tryz.func68 rfl rfl rfl ?_
 refine ewp_seq ?_
 refine ewp_reg ?_
 refine ewl_run rfl (rn_assign rfl) ?_
 refine ewl_run rfl (rn_assign rfl) ?_
 refine ewl_nil ?_
 refine thn_n ?_
 refine ewp_seq ?_
 refine ewp_reg ?_
 refine ewl_run rfl (rn_move rfl) ?_
 refine ewl_run rfl (rn_move rfl) ?_
 refine ewl_ret rfl (en_call ent87 rfl rfl) (parseFloatPrefix_spec _ (hG.ext hX) s a b ha hb hane hbne hab neg hs) ?_
 rintro _ w1 ⟨rfl, hE1⟩
 replace hX := hX.trans hE1
 have sz1 := hE1.size
 refine ewl_run rfl (rn_move rfl) ?_
 refine ewl_run rfl (rn_exs rfl rfl) ?_
 refine ewl_run rfl (rn_exs rfl rfl) ?_
 refine ewl_run rfl (rn_exs rfl rfl) ?_
 refine ewl_run rfl (rn_assign rfl) ?_
 refine ewl_run rfl (rn_assign rfl) ?_
 refine ewl_run rfl (rn_assign rfl) ?_
 refine ewl_nil ?_
 refine thn_n ?_
 refine ewp_seq ?_
 refine ewp_seq ?_
 refine ewp_reg ?_
 refine ewl_run rfl (rn_move rfl) ?_
 refine ewl_run rfl (rn_move rfl) ?_
 refine ewl_run rfl (rn_lenS rfl un9) ?_
 refine ewl_run rfl (rn_neI rfl rfl) ?_
 refine ewl_nil ?_
 refine thn_n ?_
 refine ewp_if rfl (fun h1 => ?_) (fun h1 => ?_)
 · exfalso
   simp at h1
 refine ewp_skip ?_
 refine thn_n ?_
 refine ewp_seq ?_
 refine ewp_reg ?_
 refine ewl_run rfl (rn_move rfl) ?_
 refine ewl_run rfl (rn_move rfl) ?_
 refine ewl_run rfl (rn_assign rfl) ?_
 refine ewl_run rfl (rn_assign rfl) ?_
 refine ewl_nil ?_
 refine thn_n ?_
 refine ewp_ret ?_
 refine fn_r (resv2 rfl (rv_tmp rfl) (rv_tmp rfl)) ?_
 exact ⟨rfl, hX⟩
theorem parseFloat_spec (w : World) (hG : Gl w) (s : List UInt8) (a b : List UInt8) (ha : digs a) (hb : digs b) (hane : a ≠ []) (hbne : b ≠ []) (hab : a.length + b.length ≤ 15) (neg : Bool) (hs : s = if neg then 45 :: (a ++ 46 :: b) else a ++ 46 :: b) :
   Ret Tryz.prog 58 #[S s, .int .i64 64] w fun v w' => v = .tuple #[.float .f64 (fvalM neg a b), .nilIface] ∧ Ext w w' := by
 have hX := Ext.refl w
 refine enter Tryz.func58 rfl rfl rfl ?_
 refine ewp_seq ?_
 refine ewp_reg ?_
 refine ewl_run rfl (rn_assign rfl) ?_
 refine ewl_run rfl (rn_assign rfl) ?_
 refine ewl_nil ?_
 refine thn_n ?_
 refine ewp_seq ?_
 refine ewp_reg ?_
 refine ewl_run rfl (rn_move rfl) ?_
 refine ewl_run rfl (rn_move rfl) ?_
 refine ewl_ret rfl (en_call ent68 rfl rfl) (parseFloatI_spec _ (hG.ext hX) s a b ha hb hane hbne hab neg hs) ?_
 rintro _ w1 ⟨rfl, hE1⟩
 replace hX := hX.trans hE1
 have sz1 := hE1.size
 refine ewl_run rfl (rn_move rfl) ?_
 refine ewl_run rfl (rn_exs rfl rfl) ?_
 refine ewl_run rfl (rn_exs rfl rfl) ?_
 refine ewl_run rfl (rn_assign rfl) ?_
 refine ewl_run rfl (rn_assign rfl) ?_
 refine ewl_nil ?_
 refine thn_n ?_
 refine ewp_seq ?_
 refine ewp_seq ?_
 refine ewp_reg ?_
 refine ewl_run rfl (rn_move rfl) ?_
 refine ewl_run rfl (rn_nilN0 ift83 rfl) ?_
 refine ewl_nil ?_
 refine thn_n ?_
 refine ewp_iff rfl rfl ?_
 refine ewp_skip ?_
 refine thn_n ?_
 refine ewp_seq ?_
 refine ewp_reg ?_
 refine ewl_run rfl (rn_move rfl) ?_
 refine ewl_run rfl (rn_assign rfl) ?_
 refine ewl_run rfl (rn_assign rfl) ?_
 refine ewl_nil ?_
 refine thn_n ?_
 refine ewp_ret ?_
 refine fn_r (resv2 rfl (rv_tmp rfl) (rv_tmp rfl)) ?_
 exact ⟨rfl, hX⟩
theorem pfs : PFS := fun w s a b hG hlen hf => by
 obtain ⟨h1, h2, h3, h4, h5, h6⟩ := fformM_split hf
 refine parseFloat_spec w hG s a b h1 h2 h3 h4 h5 (negM s) ?_
 rcases negM_split s with hn | ⟨r, rfl⟩
 · rw [hn, if_neg (by decide), ← h6, wholeM_pos hn]
 · rw [wholeM_neg] at h6
   rw [h6]; rfl
end Go.Proofs.YthjdnhnbgjgbkaaGreatDoor
namespace Go.Proofs.YthjdnhnbgjgbkaaGreatDoor
open Go.SW Go.SP Go.RowKit
theorem program (w : World) (hG : Gl w) (src : List UInt8) : Ret Tryz.prog 9 #[S src] w fun v w' => ProgR w w' v (progS src) := program_spec pfs w hG src
def t1B : List UInt8 := [40, 100, 101, 102, 32, 102, 32, 40, 102, 110, 32, 40, 120, 41, 32, 40, 43, 32, 120, 32, 49, 41, 41, 41]
def t2B : List UInt8 := [40, 100, 111, 32, 40, 108, 101, 116, 32, 49, 32, 50, 32, 51, 41, 41]
theorem t1_prog : progS t1B = (.cons 44 1 1 [102] 0 (.cons 7 1 8 [] 0 (.cons 22 1 13 [120] 0 .nil (.cons 8 1 16 [] 0 (.cons 5 1 17 [43] 0 .nil (.cons 5 1 19 [120] 0 .nil (.cons 1 1 21 [] 1 .nil .nil))) .nil)) .nil) .nil, 0, 0, 0) := by kernel_rfl
theorem t2_prog : progS t2B = (.nil, 1, 5, 10) := by kernel_rfl
def okP (src : List UInt8) : Bool := (progS src).2.2.2 == 0
end Go.Proofs.YthjdnhnbgjgbkaaGreatDoor
namespace Go.Proofs.YthjdnhnbgjgbkaaGreatDoor
open Go.SW Go.SP Go.RowKit
theorem ent9 : Ent Tryz.prog 9 := ent_of Tryz.func9 (by kernel_rfl) (by kernel_rfl)
theorem prog_t1 (w : World) (hG : Gl w) : Ret Tryz.prog 9 #[S t1B] w fun v w' => ProgR w w' v (.cons 44 1 1 [102] 0 (.cons 7 1 8 [] 0 (.cons 22 1 13 [120] 0 .nil (.cons 8 1 16 [] 0 (.cons 5 1 17 [43] 0 .nil (.cons 5 1 19 [120] 0 .nil (.cons 1 1 21 [] 1 .nil .nil))) .nil)) .nil) .nil, 0, 0, 0) := by
 have := program w hG t1B
 rwa [t1_prog] at this
theorem prog_t2 (w : World) (hG : Gl w) : Ret Tryz.prog 9 #[S t2B] w fun v w' => ProgR w w' v (.nil, 1, 5, 10) := by
 have := program w hG t2B
 rwa [t2_prog] at this
theorem pos25 : posT Tryz.prog 25 = true := by kernel_rfl
theorem parses_spec (w : World) (hG : Gl w) :
   Ret Tryz.prog 8 #[] w fun v w' => v = .bool true ∧ Ext w w' := by
 have hX := Ext.refl w
 refine enter Tryz.func8 rfl rfl rfl ?_
 refine ewp_seq ?_
 refine ewp_reg ?_
 refine ewl_run rfl (rn_assign rfl) ?_
 refine ewl_nil ?_
 refine thn_n ?_
 refine ewp_seq ?_
 refine ewp_reg ?_
 refine ewl_ret rfl (en_call ent9 rfl rfl) (prog_t1 _ (hG.ext hX)) ?_
 rintro _ w1 ⟨ra1, rc1, rfl, hN1, hE1⟩
 replace hX := hX.trans hE1
 have sz1 := hE1.size
 have hA1 := Ext.refl w1
 refine ewl_run rfl (rn_move rfl) ?_
 refine ewl_run rfl (rn_exs rfl rfl) ?_
 refine ewl_run rfl (rn_exs rfl rfl) ?_
 refine ewl_run rfl (rn_exs rfl rfl) ?_
 refine ewl_alloc rfl zr25 fun b1 w2 hb1 hE2 hs1 hz1 => ?_
 replace hX := hX.trans hE2
 replace hA1 := hA1.trans hE2
 refine ewl_run rfl (rn_assign rfl) ?_
 refine ewl_store rfl rfl rfl ti25 rfl hb1 rfl rfl fun w3 hb2 hC1 => ?_
 replace hX := hX.chg hC1 (by omega)
 replace hA1 := hA1.chg hC1 (by omega)
 have sz2 := hC1.size
 refine ewl_run rfl (rn_assign rfl) ?_
 refine ewl_nil ?_
 refine thn_n ?_
 refine ewp_seq ?_
 refine ewp_reg ?_
 refine ewl_ret rfl (en_call ent9 rfl rfl) (prog_t2 _ (hG.ext hX)) ?_
 rintro _ w4 ⟨ra2, rc2, rfl, hN2, hE3⟩
 replace hb2 := hb2.ext hE3
 replace hX := hX.trans hE3
 replace hA1 := hA1.trans hE3
 have sz3 := hE3.size
 refine ewl_run rfl (rn_move rfl) ?_
 refine ewl_run rfl (rn_exs rfl rfl) ?_
 refine ewl_run rfl (rn_exs rfl rfl) ?_
 refine ewl_run rfl (rn_exs rfl rfl) ?_
 refine ewl_alloc rfl zr25 fun b2 w5 hb3 hE4 hs2 hz2 => ?_
 replace hb2 := hb2.ext hE4
 replace hX := hX.trans hE4
 replace hA1 := hA1.trans hE4
 refine ewl_run rfl (rn_assign rfl) ?_
 refine ewl_store rfl rfl rfl ti25 rfl hb3 rfl rfl fun w6 hb4 hC2 => ?_
 replace hb2 := hb2.chg hC2 (by omega)
 replace hX := hX.chg hC2 (by omega)
 replace hA1 := hA1.chg hC2 (by omega)
 have sz4 := hC2.size
 refine ewl_run rfl (rn_assign rfl) ?_
 refine ewl_nil ?_
 refine thn_n ?_
 refine ewp_seq ?_
 have hT := (hN1.ext hA1)
 obtain ⟨c1, o1, l1, T1, ka1, kn1, kc1, r1, _, he1, hc1, hd1, hk1, _, _⟩ := hT.head
 cases he1
 obtain ⟨c2, o2, l2, T2, ka2, kn2, kc2, r2, _, he2, hc2, hd2, hk2, hr2, hn2⟩ := hk1.head
 cases he2
 obtain ⟨c3, o3, l3, T3, ka3, kn3, kc3, r3, _, he3, hc3, hd3, hk3, hr3, hn3⟩ := hk2.head
 cases he3
 obtain ⟨ka4, kn4, kc4, r4, hd4, _, _⟩ := hr3
 rw [hd4] at hd3
 simp only [Nd.len] at hn2 hn3
 refine ewp_reg ?_
 refine ewl_run rfl (rn_move rfl) ?_
 refine ewl_run rfl (rn_eqI rfl rfl) ?_
 refine ewl_run rfl (rn_move rfl) ?_
 refine ewl_grd rfl rfl rfl ?_
 refine ewl_run rfl (rn_move rfl) ?_
 refine ewl_grd rfl rfl rfl ?_
 refine ewl_run rfl (rn_len rfl sl23) ?_
 refine ewl_grd rfl rfl rfl ?_
 refine ewl_run rfl (rn_eqI rfl rfl) ?_
 refine ewl_run rfl (rn_pickt rfl rfl rfl) ?_
 refine ewl_run rfl (rn_move rfl) ?_
 refine ewl_grd rfl rfl rfl ?_
 refine ewl_run rfl (rn_move rfl) ?_
 refine ewl_grd rfl rfl rfl ?_
 refine ewl_run rfl (rn_ixc (i := 0) rfl rfl sl23 (by omega)) ?_
 refine ewl_grd rfl rfl rfl ?_
 refine ewl_run rfl (rn_fa rfl fl40_0) ?_
 refine ewl_grd rfl rfl rfl ?_
 refine ewl_run rfl (rn_loadd 0 rfl ti3 hc1 hd1 (by omega) rfl) ?_
 refine ewl_grd rfl rfl rfl ?_
 refine ewl_run rfl (rn_eqI rfl rfl) ?_
 refine ewl_run rfl (rn_pickt rfl rfl rfl) ?_
 refine ewl_run rfl (rn_move rfl) ?_
 refine ewl_grd rfl rfl rfl ?_
 refine ewl_run rfl (rn_move rfl) ?_
 refine ewl_grd rfl rfl rfl ?_
 refine ewl_run rfl (rn_ixc (i := 0) rfl rfl sl23 (by omega)) ?_
 refine ewl_grd rfl rfl rfl ?_
 refine ewl_run rfl (rn_fa rfl fl40_4) ?_
 refine ewl_grd rfl rfl rfl ?_
 refine ewl_run rfl (rn_loadd 5 rfl ti23 hc1 hd1 (by omega) rfl) ?_
 refine ewl_grd rfl rfl rfl ?_
 refine ewl_run rfl (rn_ixc (i := 0) rfl rfl sl23 (by omega)) ?_
 refine ewl_grd rfl rfl rfl ?_
 refine ewl_run rfl (rn_fa rfl fl40_4) ?_
 refine ewl_grd rfl rfl rfl ?_
 refine ewl_run rfl (rn_loadd 5 rfl ti23 hc2 hd2 (by omega) rfl) ?_
 refine ewl_grd rfl rfl rfl ?_
 refine ewl_run rfl (rn_ixc (i := 1) rfl rfl sl23 (by omega)) ?_
 refine ewl_grd rfl rfl rfl ?_
 refine ewl_run rfl (rn_fa rfl fl40_0) ?_
 refine ewl_grd rfl rfl rfl ?_
 refine ewl_run rfl (rn_loadd 6 rfl ti3 hc3 hd3 (by omega) rfl) ?_
 refine ewl_grd rfl rfl rfl ?_
 refine ewl_run rfl (rn_eqI rfl rfl) ?_
 refine ewl_run rfl (rn_pickt rfl rfl rfl) ?_
 refine ewl_run rfl (rn_move rfl) ?_
 refine ewl_grd rfl rfl rfl ?_
 refine ewl_run rfl (rn_move rfl) ?_
 refine ewl_grd rfl rfl rfl ?_
 refine ewl_run rfl (rn_eqI rfl rfl) ?_
 refine ewl_run rfl (rn_pickt rfl rfl rfl) ?_
 refine ewl_run rfl (rn_move rfl) ?_
 refine ewl_grd rfl rfl rfl ?_
 refine ewl_run rfl (rn_loada rfl ti25 hb4 rfl) ?_
 refine ewl_grd rfl rfl rfl ?_
 refine ewl_run rfl (rn_build rfl pl25 zr25 rfl) ?_
 refine ewl_grd rfl rfl rfl ?_
 refine ewl_run rfl (rn_eqPos pos25 rfl rfl) ?_
 refine ewl_run rfl (rn_pickt rfl rfl rfl) ?_
 refine ewl_run rfl (rn_assign rfl) ?_
 refine ewl_nil ?_
 refine thn_n ?_
 refine ewp_ret ?_
 refine fn_r (resv rfl (rv_tmp rfl)) ?_
 exact ⟨rfl, hX⟩
end Go.Proofs.YthjdnhnbgjgbkaaGreatDoor
namespace Go.Proofs.YthjdnhnbgjgbkaaGreatDoor
open Go.SW Go.SP Go.RowKit Go.Lib
section
variable {P : Program} {w : World}
theorem int_of_shape {g : Nat} {t : TypeId} {k : IntKind} {zero : Array Value} (h : w.ShapedOpen P) (hg : g < P.globals.size)
   (h0 : ((begin P (fun _ _ => 0) default).world.heap[g]?).bind Obj.row? = some (zero, t)) (hz : zero.size = 1)
   (hb : P.buildable t = true) (hc : P.cellTypes P.depth t = some [t]) (hu : P.underlying t = some (.int k)) : ∃ m, w.cell? ⟨g, 0, none⟩ = some (.int k m) := by
 obtain ⟨cs, hh, hs, hr⟩ := h.1 g zero t hg h0
 obtain ⟨ts, hts, _, hall⟩ := hr hb
 rw [hc] at hts
 cases hts
 have h1 : 0 < cs.size := by omega
 obtain ⟨u, hu', hok⟩ := hall 0 cs[0] (by simp [h1])
 have : u = t := by simpa using hu'.symm
 subst this
 have hcell : w.cell? ⟨g, 0, none⟩ = some cs[0] := by simp [World.cell?, hh, h1]
 rw [hcell]
 unfold Cell.ok at hok
 rw [hu] at hok
 cases hv : cs[0] with
 | int k' m =>
   rw [hv] at hok
   have hk : k' = k := by
     simp at hok
     exact hok.1
   exact ⟨m, by rw [hk]⟩
 | _ => rw [hv] at hok; simp at hok
theorem var_cell {n : String} {g : Nat} {cs : Array Value} (hg : P.globalNamed n = some g) (hv : w.var? P n = some cs) (o : Nat) : w.cell? ⟨g, o, none⟩ = cs.toList[o]? := by
 rw [World.var?_cell hg hv o, Array.getElem?_toList]
theorem bool_reads {n : String} {g : Nat} {t : TypeId} {b : Bool} (hn : P.globalNamed n = some g) (hy : (P.globals[g]?).map (·.type) = some t) (ht : P.underlying t = some .bool) (h : VarReads P w n (.lit (.bool b))) : w.cell? ⟨g, 0, none⟩ = some (.bool b) := by
 obtain ⟨g', t', cs, fuel, p, hg, hty, hvar, hd⟩ := h
 obtain rfl := Option.some.inj (hn.symm.trans hg)
 obtain rfl := Option.some.inj (hy.symm.trans hty)
 obtain ⟨b', hc, hx⟩ := DataW.trod_bool ht hd
 rw [var_cell hn hvar, hc]
 cases hx
 rfl
theorem iface_reads {n : String} {g : Nat} {t : TypeId} {ms} {d : DataW Unit} (hn : P.globalNamed n = some g) (hy : (P.globals[g]?).map (·.type) = some t) (ht : P.underlying t = some (.interface ms)) (h : VarReads P w n d) :
   ∃ v, w.cell? ⟨g, 0, none⟩ = some v ∧ (v = .nilIface ∨ ∃ te pe, v = .iface te pe) := by
 obtain ⟨g', t', cs, fuel, p, hg, hty, hvar, hd⟩ := h
 obtain rfl := Option.some.inj (hn.symm.trans hg)
 obtain rfl := Option.some.inj (hy.symm.trans hty)
 rw [var_cell hn hvar]
 cases fuel with
 | zero => simp [DataW.trod] at hd
 | succ fuel =>
   unfold DataW.trod at hd
   rw [ht] at hd
   generalize cs.toList = l at hd
   split at hd
   all_goals first
     | (rename_i heq; cases heq; done)
     | (rename_i h1 h2; cases h1; done)
     | (exact ⟨_, rfl, .inl rfl⟩)
     | (exact ⟨_, rfl, .inr ⟨_, _, rfl⟩⟩)
     | cases hd
theorem int0_reads {n : String} {g : Nat} {t : TypeId} {fs : Array Field} {f : Field} {k : IntKind} {z : Int} {ds : List (DataW Unit)} (hn : P.globalNamed n = some g) (hy : (P.globals[g]?).map (·.type) = some t) (ht : P.underlying t = some (.struct fs))
   (hf : fs[0]? = some f) (hfo : f.offset = 0) (hft : P.underlying f.type = some (.int k)) (hfc : P.cellsOf f.type = 1) (h : VarReads P w n (.agg (.lit (.int k z) :: ds))) : w.cell? ⟨g, 0, none⟩ = some (.int k z) := by
 obtain ⟨g', t', cs, fuel, p, hg, hty, hvar, hd⟩ := h
 obtain rfl := Option.some.inj (hn.symm.trans hg)
 obtain rfl := Option.some.inj (hy.symm.trans hty)
 obtain ⟨xs, m, rfl, hx, hl, hxl, hall⟩ := DataW.trod_struct ht hd
 have h0 := hall 0 f hf
 have e0 : xs.map (·.1) = .lit (.int k z) :: ds := by have := congrArg Prod.fst hx; simpa using this.symm
 cases xs with
 | nil => cases e0
 | cons x xs =>
   simp only [List.map_cons, List.cons.injEq] at e0
   obtain ⟨z', hz, hz2, _⟩ := DataW.trod_int hft (h0.trans (by rfl))
   rw [var_cell hn hvar]
   have hzz : z' = z := by
     have := hz2 ▸ e0.1
     simpa using this
   subst hzz
   rw [hfo, hfc, List.drop_zero] at hz
   cases hcs : cs.toList with
   | nil => rw [hcs] at hz; cases hz
   | cons c r => rw [hcs] at hz; simp at hz; simp [hz]
theorem floats_reads {n : String} {g : Nat} {t e : TypeId} {k : FloatKind} {l : List Nat} (hn : P.globalNamed n = some g) (hy : (P.globals[g]?).map (·.type) = some t) (ht : P.underlying t = some (.slice e)) (he : P.underlying e = some (.float k)) (hc : P.cellsOf e = 1)
   (hl : 0 < l.length) (h : VarReads P w n (.slice (l.map fun x => .lit (.float k x)) [])) : ∃ b off len cap, w.cell? ⟨g, 0, none⟩ = some (.slice (some ⟨b, off, none⟩) len cap) ∧ l.length ≤ len ∧ ∀ (j v : Nat), l[j]? = some v → w.cell? ⟨b, off + j, none⟩ = some (.float k v) := by
 obtain ⟨g', t', cs, fuel, p, hg, hty, hvar, hd⟩ := h
 obtain rfl := Option.some.inj (hn.symm.trans hg)
 obtain rfl := Option.some.inj (hy.symm.trans hty)
 rcases DataW.trod_slice ht hd with ⟨_, hx⟩ | ⟨a, len, cap, el, rs, m, rfl, hcs, hx, _, hlc, _, hel, helem, hsp, _⟩
 · cases hx
 have e0 := congrArg Prod.fst hx
 simp only [DataW.slice.injEq] at e0
 have hlen : len = l.length := by have := congrArg List.length e0.1; simp at this; omega
 have hcell : ∀ (j v : Nat), l[j]? = some v → w.cell? (a.add j) = some (.float k v) := by
   intro j v hv
   obtain ⟨hj, hjv⟩ := List.getElem?_eq_some_iff.1 hv
   have h1 := helem j (by omega)
   rw [hc, Nat.mul_one] at h1
   obtain ⟨b, hb⟩ : ∃ b, el[j]? = some b := ⟨el[j]'(by omega), List.getElem?_eq_getElem (by omega)⟩
   rw [hb] at h1
   obtain ⟨ce, hce, hte⟩ := Option.bind_eq_some_iff.1 h1
   have hb1 : b.1 = .lit (.float k v) := by
     have := congrArg (·[j]?) e0.1
     simp [hb, hv] at this
     exact this.symm
   have hce2 : ce = [.float k v] := by
     cases m with
     | zero => simp [DataW.trod] at hte
     | succ m =>
       unfold DataW.trod at hte
       rw [he] at hte
       split at hte <;> simp_all
       obtain ⟨⟨rfl, _⟩, rfl⟩ := hte
       simpa using hb1
   obtain ⟨_, _, hcc⟩ := World.cells?_some hce
   have h0 := hcc 0 (by omega)
   rw [hce2] at h0
   have e1 : (a.add j).add 0 = a.add j := by simp [Addr.add]
   rw [e1] at h0
   exact h0
 obtain ⟨R, o, sR⟩ := a
 obtain rfl : sR = none := by
   obtain ⟨v0, hv0⟩ : ∃ v, l[0]? = some v := ⟨l[0], List.getElem?_eq_getElem hl⟩
   have h00 := hcell 0 v0 hv0
   have : (Addr.add ⟨R, o, sR⟩ 0) = ⟨R, o, sR⟩ := by simp [Addr.add]
   rw [this] at h00
   exact Go.Proofs.cell_spot h00
 refine ⟨R, o, len, cap, ?_, by omega, fun j v hv => ?_⟩
 · rw [var_cell hn hvar, hcs]; rfl
 · have := hcell j v hv
   rwa [add_lit] at this
end
end Go.Proofs.YthjdnhnbgjgbkaaGreatDoor
namespace Go.Proofs.YthjdnhnbgjgbkaaGreatDoor
open Go.SW Go.SP Go.RowKit Go.Lib Go.ChangeShapes Go.WideShapes Go.ChangeAt
theorem own : ownKnob Tryz.prog.godebug = none := by kernel_rfl
def powAll : List Nat := [4607182418800017408, 4621819117588971520, 4636737291354636288, 4652007308841189376, 4666723172467343360, 4681608360884174848, 4696837146684686336, 4711630319722168320, 4726483295884279808, 4741671816366391296, 4756540486875873280, 4771362005757984768, 4786511204640096256, 4801453603149578240, 4816244402031689728, 4831355200913801216, 4846369599423283200, 4861130398305394688, 4876203697187506176, 4891288408196988160, 4906019910204099648, 4921056587992461136, 4936209963552724370]
theorem powAll_at {j v : Nat} (h : pow10B[j]? = some v) : powAll[j]? = some v := by
 have e : pow10B = powAll.take 15 := rfl
 rw [e, List.getElem?_take] at h
 split at h
 · exact h
 · cases h
abbrev laidL : List (String × DataW Unit) := Rows.parseCountsRow.laid
theorem gl_of {W : World} (h : laidMetH Tryz.prog laidL W) (hS : W.ShapedOpen Tryz.prog) : Gl W := by
 rw [MakeChecks.laidMetH_plain _ _ _ (by kernel_rfl)] at h
 refine ⟨?_, ?_, ?_, ?_, ?_⟩
 · exact int_of_shape (t := 3) (zero := #[.int .i64 0]) hS (of_decide_eq_true (by kernel_rfl)) (by kernel_rfl) (by kernel_rfl) (by kernel_rfl) (by kernel_rfl) Tryz.underlying3
 · obtain ⟨ms, hm⟩ := ifT_spec (show ifT Tryz.prog 83 = true by kernel_rfl)
   exact iface_reads (t := 83) (by kernel_rfl) (by kernel_rfl) hm (laidMet.reads (d := Rows.laid_strconv_ErrRange) h (.tail _ (.tail _ (.tail _ (.tail _ (.tail _ (.tail _ (.tail _ (.tail _ (.tail _ (.tail _ (.head _))))))))))))
 · exact bool_reads (t := 4) (by kernel_rfl) (by kernel_rfl) Tryz.underlying4 (laidMet.reads h (.tail _ (.tail _ (.tail _ (.tail _ (.head _))))))
 · exact int0_reads (t := 142) (by kernel_rfl) (by kernel_rfl) (fs := Tryz.prog.fieldsOf 142) (by kernel_rfl) (f := (Tryz.prog.fieldsOf 142)[0]!) (by kernel_rfl) (by kernel_rfl) (by kernel_rfl) (by kernel_rfl)
     (laidMet.reads h (.tail _ (.tail _ (.tail _ (.head _)))))
 · obtain ⟨b, off, n, c, h1, h2, h3⟩ := floats_reads (l := powAll) (by kernel_rfl) (by kernel_rfl) (t := 181) (e := 88) (by kernel_rfl) (by kernel_rfl) (by kernel_rfl) (by decide) (laidMet.reads (d := Rows.laid_internal_strconv_float64pow10) h (.tail _ (.tail _ (.tail _ (.tail _ (.tail _ (.tail _ (.head _))))))))
   exact ⟨b, off, n, c, h1, Nat.le_trans (by decide) h2, fun j v hv => h3 j v (powAll_at hv)⟩
end Go.Proofs.YthjdnhnbgjgbkaaGreatDoor
