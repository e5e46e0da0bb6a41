/- The law ParseTops holds: for all numbers the law function returns true; conditions: the listed package variables hold what the text lays. -/
import Derived.Test.YthjdnhnbgjgbkaaGreatDoorGa7
set_option linter.unusedVariables false
set_option linter.unusedSimpArgs false
namespace Go.Proofs.YthjdnhnbgjgbkaaGreatDoor
open Go.SW Go.SP Go.RowKit
theorem rem_nat (z : Int) (m : Nat) (hm : 0 < m) : ∃ i : Nat, i < m ∧ (IntKind.u64.wrap z).tmod (m : Int) = (i : Int) := by
  have h0 : 0 ≤ IntKind.u64.wrap z := by rw [IntKind.wrap_u64]; omega
  refine ⟨((IntKind.u64.wrap z) % (m : Int)).toNat, ?_, ?_⟩
  · have h1 := Int.emod_lt_of_pos (IntKind.u64.wrap z) (show (0 : Int) < m by omega)
    have h2 := Int.emod_nonneg (IntKind.u64.wrap z) (show (m : Int) ≠ 0 by omega)
    omega
  · rw [Int.tmod_eq_emod_of_nonneg h0]
    have h2 := Int.emod_nonneg (IntKind.u64.wrap z) (show (m : Int) ≠ 0 by omega)
    omega
/-! Counts. -/
def cwB : List (List UInt8) := [[108, 101, 116], [105, 102], [115, 101, 113], [116, 117, 112, 108, 101], [114, 97, 105, 115, 101], [116, 114, 97, 110, 115, 97, 99, 116], [120], [67, 111, 110], [99, 97, 115, 101], [116, 114, 121]]
def cLo : List Nat := [3, 3, 1, 2, 1, 1, 1, 1, 2, 2]
def cHi : List Nat := [3, 3, 1048576, 8, 1, 1, 8, 8, 1048576, 1048576]
def cntT (i : Nat) : Nat → List UInt8
  | 0 => [40, 100, 111, 32, 40] ++ cwB.getD i []
  | k + 1 => cntT i k ++ (if decide ((8 : Int) ≤ (i : Int)) && decide ((0 : Int) < (k : Int)) then [32, 40, 95, 32, 49, 41] else [32, 121])
def cntOk (i n : Nat) : Bool := okP (cntT i n ++ [41, 41]) == (decide (((cLo.getD i 0 : Nat) : Int) ≤ (n : Int)) && decide ((n : Int) ≤ ((cHi.getD i 0 : Nat) : Int)))
theorem cnt_all : (List.range 10).all (fun i => (List.range 12).all fun n => cntOk i n) = true := by kernel_rfl
theorem cnt_ok {i n : Nat} (hi : i < 10) (hn : n < 12) : okP (cntT i n ++ [41, 41]) = (decide (((cLo.getD i 0 : Nat) : Int) ≤ (n : Int)) && decide ((n : Int) ≤ ((cHi.getD i 0 : Nat) : Int))) := by
  have h := List.all_eq_true.1 (List.all_eq_true.1 cnt_all i (List.mem_range.2 hi)) n (List.mem_range.2 hn)
  exact (beq_iff_eq).1 h
theorem cnt_len (i : Nat) (hi : i < 10) : ∀ k, (cntT i k).length ≤ 20 + 6 * k
  | 0 => by
    have h : ∀ i : Fin 10, ([40, 100, 111, 32, 40] ++ cwB.getD i.val []).length ≤ 20 := by decide
    exact h ⟨i, hi⟩
  | k + 1 => by
    have ih := cnt_len i hi k
    unfold cntT
    split <;> (rw [List.length_append]; simp only [List.length_cons, List.length_nil]; omega)
theorem cw_len {i : Nat} (hi : i < 10) : (cwB.getD i []).length ≤ 20 := by
  have h : ∀ i : Fin 10, (cwB.getD i.val []).length ≤ 20 := by decide
  exact h ⟨i, hi⟩
theorem cw_at {i : Nat} (hi : i < 10) : (cwB.map S)[0 + i * 1]? = some (S (cwB.getD i [])) := by
  have : i < cwB.length := hi
  rw [Nat.zero_add, Nat.mul_one, List.getElem?_map, List.getD_eq_getElem?_getD, List.getElem?_eq_getElem this]; rfl
def intC (l : List Nat) : List Value := l.map fun (n : Nat) => Value.int .i64 (n : Int)
theorem int_at {l : List Nat} {i : Nat} (hi : i < l.length) : (intC l)[0 + i * 1]? = some (.int .i64 ((l.getD i 0 : Nat) : Int)) := by
  rw [Nat.zero_add, Nat.mul_one, intC, List.getElem?_map, List.getD_eq_getElem?_getD, List.getElem?_eq_getElem hi]; rfl
theorem str_at {l : List (List UInt8)} {i : Nat} (hi : i < l.length) : (l.map S)[0 + i * 1]? = some (S (l.getD i [])) := by
  rw [Nat.zero_add, Nat.mul_one, List.getElem?_map, List.getD_eq_getElem?_getD, List.getElem?_eq_getElem hi]; rfl
/-! Tops. -/
def twB : List (List UInt8) := [[100, 101, 102], [114, 101, 99], [114, 111, 111, 116], [100, 111], [100, 97, 116, 97], [102, 110], [120]]
def tpB : List (List (List UInt8)) := [[[97], [49], [49], [49], [49], [49]], [[97], [40, 102, 110, 32, 40, 120, 41, 32, 49, 41], [49], [49], [49], [49]], [[97], [105, 110, 116], [49], [49], [49], [49]], [[49], [49], [49], [49], [49], [49]], [[116], [40, 39, 97, 32, 39, 98, 41], [40, 65, 32, 39, 97, 41], [40, 66, 41], [40, 67, 41], [40, 68, 32, 116, 41]], [[40, 120, 41], [49], [49], [49], [49], [49]], [[49], [49], [49], [49], [49], [49]]]
def topT (i : Nat) : Nat → List UInt8
  | 0 => [40] ++ twB.getD i []
  | k + 1 => topT i k ++ [32] ++ (tpB.getD i []).getD k []
def topR (i : Nat) (n : Nat) : Bool := match i with
  | 0 => (n : Int) == 2
  | 1 => (n : Int) == 2
  | 2 => (n : Int) == 3
  | 3 => (n : Int) == 1
  | 4 => decide ((3 : Int) ≤ (n : Int))
  | _ => false
theorem top_all : (List.range 7).all (fun i => (List.range 6).all fun n => okP (topT i n ++ [41]) == topR i n) = true := by kernel_rfl
theorem top_ok {i n : Nat} (hi : i < 7) (hn : n < 6) : okP (topT i n ++ [41]) = topR i n := by
  have h := List.all_eq_true.1 (List.all_eq_true.1 top_all i (List.mem_range.2 hi)) n (List.mem_range.2 hn)
  exact (beq_iff_eq).1 h
theorem top_len (i : Nat) (hi : i < 7) : ∀ k, k ≤ 6 → (topT i k).length ≤ 20 + 12 * k
  | 0, _ => by
    have h : ∀ i : Fin 7, ([40] ++ twB.getD i.val []).length ≤ 20 := by decide
    exact h ⟨i, hi⟩
  | k + 1, hk => by
    have ih := top_len i hi k (by omega)
    have h : ∀ (i : Fin 7) (k : Fin 6), ((tpB.getD i.val []).getD k.val []).length ≤ 11 := by decide
    have h2 := h ⟨i, hi⟩ ⟨k, by omega⟩
    unfold topT
    rw [List.length_append, List.length_append]
    simp only [List.length_cons, List.length_nil]
    simp only at h2
    omega
theorem tw_len {i : Nat} (hi : i < 7) : (twB.getD i []).length ≤ 20 := by
  have h : ∀ i : Fin 7, (twB.getD i.val []).length ≤ 20 := by decide
  exact h ⟨i, hi⟩
theorem tp_len2 {i k : Nat} (hi : i < 7) (hk : k < 6) : ((tpB.getD i []).getD k []).length ≤ 11 := by
  have h : ∀ (i : Fin 7) (k : Fin 6), ((tpB.getD i.val []).getD k.val []).length ≤ 11 := by decide
  exact h ⟨i, hi⟩ ⟨k, hk⟩
theorem tp_len {i : Nat} (hi : i < 7) : (tpB.getD i []).length = 6 := by
  have h : ∀ i : Fin 7, (tpB.getD i.val []).length = 6 := by decide
  exact h ⟨i, hi⟩
end Go.Proofs.YthjdnhnbgjgbkaaGreatDoor
namespace Go.Proofs.YthjdnhnbgjgbkaaGreatDoor
open Go.SW Go.SP Go.RowKit
theorem sl36 : sle Tryz.prog 36 = some (9, 1) := by kernel_rfl
theorem zr9 : zer Tryz.prog 9 = some [.string ⟨#[]⟩] := by kernel_rfl
theorem cv33_3 : cvI Tryz.prog 33 3 = some .i64 := by kernel_rfl
theorem ent8 : Ent Tryz.prog 8 := ent_of Tryz.func8 (by kernel_rfl) (by kernel_rfl)
theorem sl38 : sle Tryz.prog 38 = some (36, 1) := by kernel_rfl
theorem zr36 : zer Tryz.prog 36 = some [.slice none 0 0] := by kernel_rfl
theorem ti36 : tinfo Tryz.prog 36 = some (false, 1) := by kernel_rfl
theorem tops_spec (w : World) (hG : Gl w) (z1 : Int) (z2 : Int) :
    Ret Tryz.prog 7 #[.int .i64 z1, .int .i64 z2] w fun v w' => v = .bool true ∧ Ext w w' := by
  obtain ⟨i, hi, hiE⟩ := rem_nat z1 7 (by decide)
  obtain ⟨n, hn, hnE⟩ := rem_nat z2 6 (by decide)
  have htw := tw_len hi
  have hX := Ext.refl w
  refine enter Tryz.func7 rfl rfl rfl ?_
  refine ewp_seq ?_
  refine ewp_reg ?_
  refine ewl_run rfl (rn_assign rfl) ?_
  refine ewl_nil ?_
  refine thn_n ?_
  refine ewp_seq ?_
  refine ewp_reg ?_
  refine ewl_bs rfl rfl sl36 zr9 rfl rfl rfl rfl rfl fun b1 w1 hb1 hE1 hs1 hz1 => ?_
  replace hX := hX.trans hE1
  refine ewl_run rfl (rn_assign rfl) ?_
  refine ewl_nil ?_
  refine thn_n ?_
  refine ewp_seq ?_
  refine ewp_reg ?_
  refine ewl_run rfl (rn_move rfl) ?_
  refine ewl_run rfl (rn_cvI (m := IntKind.u64.wrap z1) rfl cv3_33 rfl) ?_
  refine ewl_run rfl (rn_move rfl) ?_
  refine ewl_run rfl (rn_len rfl sl36) ?_
  refine ewl_run rfl (rn_cvI (m := 7) rfl cv3_33 (by decide)) ?_
  refine ewl_run rfl (rn_remU (i : Int) rfl rfl (by decide) hiE) ?_
  refine ewl_run rfl (rn_cvI (m := (i : Int)) rfl cv33_3 (wrapI64 ⟨by omega, by omega⟩)) ?_
  refine ewl_run rfl (rn_assign rfl) ?_
  refine ewl_nil ?_
  refine thn_n ?_
  refine ewp_seq ?_
  refine ewp_reg ?_
  refine ewl_run rfl (rn_move rfl) ?_
  refine ewl_run rfl (rn_cvI (m := IntKind.u64.wrap z2) rfl cv3_33 rfl) ?_
  refine ewl_run rfl (rn_remU (n : Int) rfl rfl (by decide) hnE) ?_
  refine ewl_run rfl (rn_cvI (m := (n : Int)) rfl cv33_3 (wrapI64 ⟨by omega, by omega⟩)) ?_
  refine ewl_run rfl (rn_assign rfl) ?_
  refine ewl_nil ?_
  refine thn_n ?_
  refine ewp_seq ?_
  refine ewp_reg ?_
  refine ewl_bs rfl rfl sl36 zr9 rfl rfl rfl rfl rfl fun b2 w2 hb2 hE2 hs2 hz2 => ?_
  replace hb1 := hb1.ext hE2
  replace hX := hX.trans hE2
  refine ewl_bs rfl rfl sl36 zr9 rfl rfl rfl rfl rfl fun b3 w3 hb3 hE3 hs3 hz3 => ?_
  replace hb1 := hb1.ext hE3
  replace hb2 := hb2.ext hE3
  replace hX := hX.trans hE3
  refine ewl_bs rfl rfl sl36 zr9 rfl rfl rfl rfl rfl fun b4 w4 hb4 hE4 hs4 hz4 => ?_
  replace hb1 := hb1.ext hE4
  replace hb2 := hb2.ext hE4
  replace hb3 := hb3.ext hE4
  replace hX := hX.trans hE4
  refine ewl_bs rfl rfl sl36 zr9 rfl rfl rfl rfl rfl fun b5 w5 hb5 hE5 hs5 hz5 => ?_
  replace hb1 := hb1.ext hE5
  replace hb2 := hb2.ext hE5
  replace hb3 := hb3.ext hE5
  replace hb4 := hb4.ext hE5
  replace hX := hX.trans hE5
  refine ewl_bs rfl rfl sl36 zr9 rfl rfl rfl rfl rfl fun b6 w6 hb6 hE6 hs6 hz6 => ?_
  replace hb1 := hb1.ext hE6
  replace hb2 := hb2.ext hE6
  replace hb3 := hb3.ext hE6
  replace hb4 := hb4.ext hE6
  replace hb5 := hb5.ext hE6
  replace hX := hX.trans hE6
  refine ewl_bs rfl rfl sl36 zr9 rfl rfl rfl rfl rfl fun b7 w7 hb7 hE7 hs7 hz7 => ?_
  replace hb1 := hb1.ext hE7
  replace hb2 := hb2.ext hE7
  replace hb3 := hb3.ext hE7
  replace hb4 := hb4.ext hE7
  replace hb5 := hb5.ext hE7
  replace hb6 := hb6.ext hE7
  replace hX := hX.trans hE7
  refine ewl_bs rfl rfl sl36 zr9 rfl rfl rfl rfl rfl fun b8 w8 hb8 hE8 hs8 hz8 => ?_
  replace hb1 := hb1.ext hE8
  replace hb2 := hb2.ext hE8
  replace hb3 := hb3.ext hE8
  replace hb4 := hb4.ext hE8
  replace hb5 := hb5.ext hE8
  replace hb6 := hb6.ext hE8
  replace hb7 := hb7.ext hE8
  replace hX := hX.trans hE8
  refine ewl_bs rfl rfl sl38 zr36 rfl rfl rfl rfl rfl fun b9 w9 hb9 hE9 hs9 hz9 => ?_
  replace hb1 := hb1.ext hE9
  replace hb2 := hb2.ext hE9
  replace hb3 := hb3.ext hE9
  replace hb4 := hb4.ext hE9
  replace hb5 := hb5.ext hE9
  replace hb6 := hb6.ext hE9
  replace hb7 := hb7.ext hE9
  replace hb8 := hb8.ext hE9
  replace hX := hX.trans hE9
  refine ewl_run rfl (rn_assign rfl) ?_
  refine ewl_nil ?_
  refine thn_n ?_
  refine ewp_seq ?_
  refine ewp_reg ?_
  refine ewl_run rfl (rn_move rfl) ?_
  refine ewl_run rfl (rn_move rfl) ?_
  refine ewl_run rfl (rn_ixc (i := i) rfl rfl sl36 (by omega)) ?_
  refine ewl_run rfl (rn_load rfl ti9 (show Blk _ _ (twB.map S) _ from hb1) (str_at (show i < twB.length from hi))) ?_
  refine ewl_run rfl (rn_addS rfl rfl (by simp only [List.length_cons, List.length_nil, List.length_append]; omega)) ?_
  refine ewl_run rfl (rn_assign rfl) ?_
  refine ewl_nil ?_
  refine thn_n ?_
  refine ewp_seq ?_
  refine ewp_seq ?_
  refine ewp_reg ?_
  refine ewl_run rfl (rn_assign rfl) ?_
  refine ewl_nil ?_
  refine thn_n ?_
  refine ewp_block ?_
  obtain ⟨bi, hbi, hci⟩ : ∃ bi, Blk w9 bi ((tpB.getD i []).map S) 9 ∧ ([.slice (some ⟨b2, 0, none⟩) 6 6, .slice (some ⟨b3, 0, none⟩) 6 6, .slice (some ⟨b4, 0, none⟩) 6 6, .slice (some ⟨b5, 0, none⟩) 6 6, .slice (some ⟨b6, 0, none⟩) 6 6, .slice (some ⟨b7, 0, none⟩) 6 6, .slice (some ⟨b8, 0, none⟩) 6 6] : List Value)[0 + i * 1]? = some (.slice (some ⟨bi, 0, none⟩) 6 6) := by
    have h7 : i = 0 ∨ i = 1 ∨ i = 2 ∨ i = 3 ∨ i = 4 ∨ i = 5 ∨ i = 6 := by omega
    rcases h7 with rfl | rfl | rfl | rfl | rfl | rfl | rfl
    · exact ⟨b2, hb2, rfl⟩
    · exact ⟨b3, hb3, rfl⟩
    · exact ⟨b4, hb4, rfl⟩
    · exact ⟨b5, hb5, rfl⟩
    · exact ⟨b6, hb6, rfl⟩
    · exact ⟨b7, hb7, rfl⟩
    · exact ⟨b8, hb8, rfl⟩
  refine ewp_loop (fun kk σ ds w' => ∃ k : Nat, kk = n - k ∧ ds = [] ∧ σ = (upd (upd (upd (upd (upd SW.e0 6 (.int .i64 (i : Int))) 7 (.int .i64 (n : Int))) 8 (.slice (some ⟨b9, 0, none⟩) 7 7)) 9 (S (topT i k))) 10 (.int .i64 (k : Int))) ∧ k ≤ n ∧ Blk w' b9 [.slice (some ⟨b2, 0, none⟩) 6 6, .slice (some ⟨b3, 0, none⟩) 6 6, .slice (some ⟨b4, 0, none⟩) 6 6, .slice (some ⟨b5, 0, none⟩) 6 6, .slice (some ⟨b6, 0, none⟩) 6 6, .slice (some ⟨b7, 0, none⟩) 6 6, .slice (some ⟨b8, 0, none⟩) 6 6] 36 ∧ Blk w' bi ((tpB.getD i []).map S) 9 ∧ Ext w w') n (upd (upd (upd (upd (upd SW.e0 6 (.int .i64 (i : Int))) 7 (.int .i64 (n : Int))) 8 (.slice (some ⟨b9, 0, none⟩) 7 7)) 9 (S (topT i 0))) 10 (.int .i64 ((0 : Nat) : Int))) (le_upd (le_upd (le_upd (le_upd (le_upd (le_e0 _) rfl) rfl) rfl) rfl) rfl) ⟨0, rfl, rfl, rfl, by omega, hb9, hbi, hX⟩ ?_
  rintro _ _ _ wl ⟨k, rfl, rfl, rfl, hk, hl8, hli, hX⟩
  have hcl := top_len i hi k (by omega)
  have lt8 := hl8.lt
  have lti := hli.lt
  have szl := hX.size
  refine ewp_seq ?_
  refine ewp_seq ?_
  refine ewp_reg ?_
  refine ewl_run rfl (rn_move rfl) ?_
  refine ewl_run rfl (rn_move rfl) ?_
  refine ewl_run rfl (rn_ltI rfl rfl) ?_
  refine ewl_nil ?_
  refine thn_n ?_
  refine ewp_if rfl (fun h1 => ?_) (fun h1 => ?_)
  · -- True
    refine ewp_skip ?_
    refine thn_n ?_
    refine ewp_seq ?_
    refine ewp_block ?_
    have hkn : k < n := by have := of_decide_eq_true h1; omega
    have htl : ((tpB.getD i []).getD k []).length ≤ 11 := tp_len2 hi (by omega)
    refine ewp_reg ?_
    refine ewl_run rfl (rn_move rfl) ?_
    refine ewl_run rfl (rn_addS rfl rfl (by simp only [List.length_cons, List.length_nil, List.length_append]; omega)) ?_
    refine ewl_run rfl (rn_move rfl) ?_
    refine ewl_run rfl (rn_move rfl) ?_
    refine ewl_run rfl (rn_ixc (i := i) rfl rfl sl38 (by omega)) ?_
    refine ewl_run rfl (rn_load rfl ti36 hl8 hci) ?_
    refine ewl_run rfl (rn_move rfl) ?_
    refine ewl_run rfl (rn_ixc (i := k) rfl rfl sl36 (by omega)) ?_
    refine ewl_run rfl (rn_load rfl ti9 hli (str_at (by rw [tp_len hi]; omega))) ?_
    refine ewl_run rfl (rn_addS rfl rfl (by simp only [List.length_cons, List.length_nil, List.length_append]; omega)) ?_
    refine ewl_run rfl (rn_assign rfl) ?_
    refine ewl_nil ?_
    refine blk_n ?_
    refine thn_n ?_
    refine ewp_reg ?_
    refine ewl_run rfl (rn_move rfl) ?_
    refine ewl_run rfl (rn_add rfl rfl ⟨by omega, by omega⟩) ?_
    refine ewl_run rfl (rn_assign rfl) ?_
    refine ewl_nil ?_
    refine lp_n (n - (k + 1)) (upd (upd (upd (upd (upd SW.e0 6 (.int .i64 (i : Int))) 7 (.int .i64 (n : Int))) 8 (.slice (some ⟨b9, 0, none⟩) 7 7)) 9 (S (topT i (k + 1)))) 10 (.int .i64 ((k + 1 : Nat) : Int))) (by omega) (le_upd (le_upd (le_upd (le_upd (le_upd (le_e0 _) rfl) rfl) rfl) rfl) rfl) ⟨k + 1, rfl, rfl, rfl, by omega, hl8, hli, hX⟩
  · -- False
    refine ewp_exit ?_
    refine thn_e ?_
    refine lp_e ?_
    refine blk_e ?_
    refine thn_n ?_
    refine ewp_seq ?_
    obtain rfl : k = n := by have := of_decide_eq_false h1; omega
    refine ewp_reg ?_
    refine ewl_run rfl (rn_move rfl) ?_
    refine ewl_run rfl (rn_addS rfl rfl (by simp only [List.length_cons, List.length_nil, List.length_append]; omega)) ?_
    refine ewl_ret rfl (en_call ent9 rfl rfl) (program _ (hG.ext hX) (topT i k ++ [41])) ?_
    rintro _ w10 ⟨ra1, rc1, rfl, hN1, hE10⟩
    replace hl8 := hl8.ext hE10
    replace hli := hli.ext hE10
    replace hX := hX.trans hE10
    have sz1 := hE10.size
    refine ewl_run rfl (rn_move rfl) ?_
    refine ewl_run rfl (rn_exs rfl rfl) ?_
    refine ewl_run rfl (rn_exs rfl rfl) ?_
    refine ewl_run rfl (rn_exs rfl rfl) ?_
    refine ewl_alloc rfl zr25 fun b10 w11 hb10 hE11 hs10 hz10 => ?_
    replace hl8 := hl8.ext hE11
    replace hli := hli.ext hE11
    replace hX := hX.trans hE11
    refine ewl_run rfl (rn_assign rfl) ?_
    refine ewl_store rfl rfl rfl ti25 rfl hb10 rfl rfl fun w12 hb11 hC1 => ?_
    replace hl8 := hl8.chg hC1 (by omega)
    replace hli := hli.chg hC1 (by omega)
    replace hX := hX.chg hC1 (by omega)
    have sz2 := hC1.size
    refine ewl_run rfl (rn_assign rfl) ?_
    refine ewl_nil ?_
    refine thn_n ?_
    refine ewp_seq ?_
    have h7 : i = 0 ∨ i = 1 ∨ i = 2 ∨ i = 3 ∨ i = 4 ∨ i = 5 ∨ i = 6 := by omega
    rcases h7 with rfl | rfl | rfl | rfl | rfl | rfl | rfl
    · -- 0
      refine ewp_reg ?_
      refine ewl_run rfl (rn_move rfl) ?_
      refine ewl_run rfl (rn_eqI rfl rfl) ?_
      refine ewl_run rfl (rn_move rfl) ?_
      refine ewl_grd rfl rfl rfl ?_
      refine ewl_run rfl (rn_move rfl) ?_
      refine ewl_grd rfl rfl rfl ?_
      refine ewl_run rfl (rn_eqI rfl rfl) ?_
      refine ewl_run rfl (rn_pickt rfl rfl rfl) ?_
      refine ewl_run rfl (rn_move rfl) ?_
      refine ewl_split 68 rfl (fun h2 => ?_) (fun h2 => ?_)
      · -- True
        refine ewl_off rfl rfl rfl h2 ?_
        refine ewl_off rfl rfl rfl h2 ?_
        refine ewl_off rfl rfl rfl h2 ?_
        refine ewl_offu rfl rfl rfl ?_
        refine ewl_offu rfl rfl rfl ?_
        refine ewl_off rfl rfl rfl h2 ?_
        refine ewl_run rfl (rn_pickt rfl h2 rfl) ?_
        refine ewl_run rfl (rn_move rfl) ?_
        refine ewl_off rfl rfl rfl rfl ?_
        refine ewl_off rfl rfl rfl rfl ?_
        refine ewl_off rfl rfl rfl rfl ?_
        refine ewl_offu rfl rfl rfl ?_
        refine ewl_offu rfl rfl rfl ?_
        refine ewl_off rfl rfl rfl rfl ?_
        refine ewl_run rfl (rn_pickt rfl rfl rfl) ?_
        refine ewl_run rfl (rn_move rfl) ?_
        refine ewl_off rfl rfl rfl rfl ?_
        refine ewl_off rfl rfl rfl rfl ?_
        refine ewl_off rfl rfl rfl rfl ?_
        refine ewl_offu rfl rfl rfl ?_
        refine ewl_offu rfl rfl rfl ?_
        refine ewl_off rfl rfl rfl rfl ?_
        refine ewl_run rfl (rn_pickt rfl rfl rfl) ?_
        refine ewl_run rfl (rn_move rfl) ?_
        refine ewl_off rfl rfl rfl rfl ?_
        refine ewl_off rfl rfl rfl rfl ?_
        refine ewl_off rfl rfl rfl rfl ?_
        refine ewl_offu rfl rfl rfl ?_
        refine ewl_offu rfl rfl rfl ?_
        refine ewl_off rfl rfl rfl rfl ?_
        refine ewl_run rfl (rn_pickt rfl rfl rfl) ?_
        refine ewl_run rfl (rn_assign rfl) ?_
        refine ewl_nil ?_
        refine thn_n ?_
        refine ewp_seq ?_
        refine ewp_reg ?_
        refine ewl_ret rfl (en_call ent8 rfl rfl) (parses_spec _ (hG.ext hX)) ?_
        rintro _ w13 ⟨rfl, hE12⟩
        replace hl8 := hl8.ext hE12
        replace hli := hli.ext hE12
        replace hb11 := hb11.ext hE12
        replace hX := hX.trans hE12
        have sz3 := hE12.size
        refine ewl_run rfl (rn_move rfl) ?_
        refine ewl_grd rfl rfl rfl ?_
        refine ewl_run rfl (rn_move rfl) ?_
        refine ewl_grd rfl rfl rfl ?_
        refine ewl_run rfl (rn_eqI rfl rfl) ?_
        refine ewl_grd rfl rfl rfl ?_
        refine ewl_run rfl (rn_move rfl) ?_
        refine ewl_grd rfl rfl rfl ?_
        refine ewl_run rfl (rn_eqB un4 rfl rfl) ?_
        refine ewl_run rfl (rn_pickt rfl rfl rfl) ?_
        refine ewl_run rfl (rn_assign rfl) ?_
        refine ewl_nil ?_
        refine thn_n ?_
        refine ewp_ret ?_
        refine fn_r (resv rfl (rv_tmp rfl)) ?_
        refine ⟨congrArg Value.bool ?_, hX⟩
        have hq := top_ok hi hn
        rw [okP] at hq
        simp only [topR, h2] at hq
        simp [hq]
      · -- False
        refine ewl_grd rfl rfl h2 ?_
        refine ewl_run rfl (rn_move rfl) ?_
        refine ewl_grd rfl rfl h2 ?_
        refine ewl_run rfl (rn_eqI rfl rfl) ?_
        refine ewl_grd rfl rfl h2 ?_
        refine ewl_run rfl (rn_move rfl) ?_
        refine ewl_off rfl rfl rfl rfl ?_
        refine ewl_off rfl rfl rfl rfl ?_
        refine ewl_grd rfl rfl h2 ?_
        refine ewl_run rfl (rn_pickf rfl rfl rfl) ?_
        refine ewl_run rfl (rn_pickf rfl h2 rfl) ?_
        refine ewl_run rfl (rn_move rfl) ?_
        refine ewl_grd rfl rfl rfl ?_
        refine ewl_run rfl (rn_move rfl) ?_
        refine ewl_grd rfl rfl rfl ?_
        refine ewl_run rfl (rn_eqI rfl rfl) ?_
        refine ewl_grd rfl rfl rfl ?_
        refine ewl_run rfl (rn_move rfl) ?_
        refine ewl_off rfl rfl rfl rfl ?_
        refine ewl_off rfl rfl rfl rfl ?_
        refine ewl_grd rfl rfl rfl ?_
        refine ewl_run rfl (rn_pickf rfl rfl rfl) ?_
        refine ewl_run rfl (rn_pickf rfl rfl rfl) ?_
        refine ewl_run rfl (rn_move rfl) ?_
        refine ewl_grd rfl rfl rfl ?_
        refine ewl_run rfl (rn_move rfl) ?_
        refine ewl_grd rfl rfl rfl ?_
        refine ewl_run rfl (rn_eqI rfl rfl) ?_
        refine ewl_grd rfl rfl rfl ?_
        refine ewl_run rfl (rn_move rfl) ?_
        refine ewl_off rfl rfl rfl rfl ?_
        refine ewl_off rfl rfl rfl rfl ?_
        refine ewl_grd rfl rfl rfl ?_
        refine ewl_run rfl (rn_pickf rfl rfl rfl) ?_
        refine ewl_run rfl (rn_pickf rfl rfl rfl) ?_
        refine ewl_run rfl (rn_move rfl) ?_
        refine ewl_grd rfl rfl rfl ?_
        refine ewl_run rfl (rn_move rfl) ?_
        refine ewl_grd rfl rfl rfl ?_
        refine ewl_run rfl (rn_eqI rfl rfl) ?_
        refine ewl_grd rfl rfl rfl ?_
        refine ewl_run rfl (rn_move rfl) ?_
        refine ewl_off rfl rfl rfl rfl ?_
        refine ewl_off rfl rfl rfl rfl ?_
        refine ewl_grd rfl rfl rfl ?_
        refine ewl_run rfl (rn_pickf rfl rfl rfl) ?_
        refine ewl_run rfl (rn_pickf rfl rfl rfl) ?_
        refine ewl_run rfl (rn_assign rfl) ?_
        refine ewl_nil ?_
        refine thn_n ?_
        refine ewp_seq ?_
        refine ewp_reg ?_
        refine ewl_ret rfl (en_call ent8 rfl rfl) (parses_spec _ (hG.ext hX)) ?_
        rintro _ w14 ⟨rfl, hE13⟩
        replace hl8 := hl8.ext hE13
        replace hli := hli.ext hE13
        replace hb11 := hb11.ext hE13
        replace hX := hX.trans hE13
        have sz4 := hE13.size
        refine ewl_run rfl (rn_move rfl) ?_
        refine ewl_grd rfl rfl rfl ?_
        refine ewl_run rfl (rn_move rfl) ?_
        refine ewl_grd rfl rfl rfl ?_
        refine ewl_run rfl (rn_eqI rfl rfl) ?_
        refine ewl_grd rfl rfl rfl ?_
        refine ewl_run rfl (rn_move rfl) ?_
        refine ewl_grd rfl rfl rfl ?_
        refine ewl_run rfl (rn_eqB un4 rfl rfl) ?_
        refine ewl_run rfl (rn_pickt rfl rfl rfl) ?_
        refine ewl_run rfl (rn_assign rfl) ?_
        refine ewl_nil ?_
        refine thn_n ?_
        refine ewp_ret ?_
        refine fn_r (resv rfl (rv_tmp rfl)) ?_
        refine ⟨congrArg Value.bool ?_, hX⟩
        have hq := top_ok hi hn
        rw [okP] at hq
        simp only [topR, h2] at hq
        simp [hq]
    · -- 1
      refine ewp_reg ?_
      refine ewl_run rfl (rn_move rfl) ?_
      refine ewl_run rfl (rn_eqI rfl rfl) ?_
      refine ewl_run rfl (rn_move rfl) ?_
      refine ewl_off rfl rfl rfl rfl ?_
      refine ewl_off rfl rfl rfl rfl ?_
      refine ewl_run rfl (rn_pickf rfl rfl rfl) ?_
      refine ewl_run rfl (rn_move rfl) ?_
      refine ewl_grd rfl rfl rfl ?_
      refine ewl_run rfl (rn_move rfl) ?_
      refine ewl_grd rfl rfl rfl ?_
      refine ewl_run rfl (rn_eqI rfl rfl) ?_
      refine ewl_grd rfl rfl rfl ?_
      refine ewl_run rfl (rn_move rfl) ?_
      refine ewl_grd rfl rfl rfl ?_
      refine ewl_run rfl (rn_move rfl) ?_
      refine ewl_grd rfl rfl rfl ?_
      refine ewl_run rfl (rn_eqI rfl rfl) ?_
      refine ewl_grd rfl rfl rfl ?_
      refine ewl_run rfl (rn_pickt rfl rfl rfl) ?_
      refine ewl_run rfl (rn_pickf rfl rfl rfl) ?_
      refine ewl_run rfl (rn_move rfl) ?_
      refine ewl_split 76 rfl (fun h3 => ?_) (fun h3 => ?_)
      · -- True
        refine ewl_off rfl rfl rfl h3 ?_
        refine ewl_off rfl rfl rfl h3 ?_
        refine ewl_off rfl rfl rfl h3 ?_
        refine ewl_offu rfl rfl rfl ?_
        refine ewl_offu rfl rfl rfl ?_
        refine ewl_off rfl rfl rfl h3 ?_
        refine ewl_run rfl (rn_pickt rfl h3 rfl) ?_
        refine ewl_run rfl (rn_move rfl) ?_
        refine ewl_off rfl rfl rfl rfl ?_
        refine ewl_off rfl rfl rfl rfl ?_
        refine ewl_off rfl rfl rfl rfl ?_
        refine ewl_offu rfl rfl rfl ?_
        refine ewl_offu rfl rfl rfl ?_
        refine ewl_off rfl rfl rfl rfl ?_
        refine ewl_run rfl (rn_pickt rfl rfl rfl) ?_
        refine ewl_run rfl (rn_move rfl) ?_
        refine ewl_off rfl rfl rfl rfl ?_
        refine ewl_off rfl rfl rfl rfl ?_
        refine ewl_off rfl rfl rfl rfl ?_
        refine ewl_offu rfl rfl rfl ?_
        refine ewl_offu rfl rfl rfl ?_
        refine ewl_off rfl rfl rfl rfl ?_
        refine ewl_run rfl (rn_pickt rfl rfl rfl) ?_
        refine ewl_run rfl (rn_assign rfl) ?_
        refine ewl_nil ?_
        refine thn_n ?_
        refine ewp_seq ?_
        refine ewp_reg ?_
        refine ewl_ret rfl (en_call ent8 rfl rfl) (parses_spec _ (hG.ext hX)) ?_
        rintro _ w15 ⟨rfl, hE14⟩
        replace hl8 := hl8.ext hE14
        replace hli := hli.ext hE14
        replace hb11 := hb11.ext hE14
        replace hX := hX.trans hE14
        have sz5 := hE14.size
        refine ewl_run rfl (rn_move rfl) ?_
        refine ewl_grd rfl rfl rfl ?_
        refine ewl_run rfl (rn_move rfl) ?_
        refine ewl_grd rfl rfl rfl ?_
        refine ewl_run rfl (rn_eqI rfl rfl) ?_
        refine ewl_grd rfl rfl rfl ?_
        refine ewl_run rfl (rn_move rfl) ?_
        refine ewl_grd rfl rfl rfl ?_
        refine ewl_run rfl (rn_eqB un4 rfl rfl) ?_
        refine ewl_run rfl (rn_pickt rfl rfl rfl) ?_
        refine ewl_run rfl (rn_assign rfl) ?_
        refine ewl_nil ?_
        refine thn_n ?_
        refine ewp_ret ?_
        refine fn_r (resv rfl (rv_tmp rfl)) ?_
        refine ⟨congrArg Value.bool ?_, hX⟩
        have hq := top_ok hi hn
        rw [okP] at hq
        simp only [topR, h3] at hq
        simp [hq]
      · -- False
        refine ewl_grd rfl rfl h3 ?_
        refine ewl_run rfl (rn_move rfl) ?_
        refine ewl_grd rfl rfl h3 ?_
        refine ewl_run rfl (rn_eqI rfl rfl) ?_
        refine ewl_grd rfl rfl h3 ?_
        refine ewl_run rfl (rn_move rfl) ?_
        refine ewl_off rfl rfl rfl rfl ?_
        refine ewl_off rfl rfl rfl rfl ?_
        refine ewl_grd rfl rfl h3 ?_
        refine ewl_run rfl (rn_pickf rfl rfl rfl) ?_
        refine ewl_run rfl (rn_pickf rfl h3 rfl) ?_
        refine ewl_run rfl (rn_move rfl) ?_
        refine ewl_grd rfl rfl rfl ?_
        refine ewl_run rfl (rn_move rfl) ?_
        refine ewl_grd rfl rfl rfl ?_
        refine ewl_run rfl (rn_eqI rfl rfl) ?_
        refine ewl_grd rfl rfl rfl ?_
        refine ewl_run rfl (rn_move rfl) ?_
        refine ewl_off rfl rfl rfl rfl ?_
        refine ewl_off rfl rfl rfl rfl ?_
        refine ewl_grd rfl rfl rfl ?_
        refine ewl_run rfl (rn_pickf rfl rfl rfl) ?_
        refine ewl_run rfl (rn_pickf rfl rfl rfl) ?_
        refine ewl_run rfl (rn_move rfl) ?_
        refine ewl_grd rfl rfl rfl ?_
        refine ewl_run rfl (rn_move rfl) ?_
        refine ewl_grd rfl rfl rfl ?_
        refine ewl_run rfl (rn_eqI rfl rfl) ?_
        refine ewl_grd rfl rfl rfl ?_
        refine ewl_run rfl (rn_move rfl) ?_
        refine ewl_off rfl rfl rfl rfl ?_
        refine ewl_off rfl rfl rfl rfl ?_
        refine ewl_grd rfl rfl rfl ?_
        refine ewl_run rfl (rn_pickf rfl rfl rfl) ?_
        refine ewl_run rfl (rn_pickf rfl rfl rfl) ?_
        refine ewl_run rfl (rn_assign rfl) ?_
        refine ewl_nil ?_
        refine thn_n ?_
        refine ewp_seq ?_
        refine ewp_reg ?_
        refine ewl_ret rfl (en_call ent8 rfl rfl) (parses_spec _ (hG.ext hX)) ?_
        rintro _ w16 ⟨rfl, hE15⟩
        replace hl8 := hl8.ext hE15
        replace hli := hli.ext hE15
        replace hb11 := hb11.ext hE15
        replace hX := hX.trans hE15
        have sz6 := hE15.size
        refine ewl_run rfl (rn_move rfl) ?_
        refine ewl_grd rfl rfl rfl ?_
        refine ewl_run rfl (rn_move rfl) ?_
        refine ewl_grd rfl rfl rfl ?_
        refine ewl_run rfl (rn_eqI rfl rfl) ?_
        refine ewl_grd rfl rfl rfl ?_
        refine ewl_run rfl (rn_move rfl) ?_
        refine ewl_grd rfl rfl rfl ?_
        refine ewl_run rfl (rn_eqB un4 rfl rfl) ?_
        refine ewl_run rfl (rn_pickt rfl rfl rfl) ?_
        refine ewl_run rfl (rn_assign rfl) ?_
        refine ewl_nil ?_
        refine thn_n ?_
        refine ewp_ret ?_
        refine fn_r (resv rfl (rv_tmp rfl)) ?_
        refine ⟨congrArg Value.bool ?_, hX⟩
        have hq := top_ok hi hn
        rw [okP] at hq
        simp only [topR, h3] at hq
        simp [hq]
    · -- 2
      refine ewp_reg ?_
      refine ewl_run rfl (rn_move rfl) ?_
      refine ewl_run rfl (rn_eqI rfl rfl) ?_
      refine ewl_run rfl (rn_move rfl) ?_
      refine ewl_off rfl rfl rfl rfl ?_
      refine ewl_off rfl rfl rfl rfl ?_
      refine ewl_run rfl (rn_pickf rfl rfl rfl) ?_
      refine ewl_run rfl (rn_move rfl) ?_
      refine ewl_grd rfl rfl rfl ?_
      refine ewl_run rfl (rn_move rfl) ?_
      refine ewl_grd rfl rfl rfl ?_
      refine ewl_run rfl (rn_eqI rfl rfl) ?_
      refine ewl_grd rfl rfl rfl ?_
      refine ewl_run rfl (rn_move rfl) ?_
      refine ewl_off rfl rfl rfl rfl ?_
      refine ewl_off rfl rfl rfl rfl ?_
      refine ewl_grd rfl rfl rfl ?_
      refine ewl_run rfl (rn_pickf rfl rfl rfl) ?_
      refine ewl_run rfl (rn_pickf rfl rfl rfl) ?_
      refine ewl_run rfl (rn_move rfl) ?_
      refine ewl_grd rfl rfl rfl ?_
      refine ewl_run rfl (rn_move rfl) ?_
      refine ewl_grd rfl rfl rfl ?_
      refine ewl_run rfl (rn_eqI rfl rfl) ?_
      refine ewl_grd rfl rfl rfl ?_
      refine ewl_run rfl (rn_move rfl) ?_
      refine ewl_grd rfl rfl rfl ?_
      refine ewl_run rfl (rn_move rfl) ?_
      refine ewl_grd rfl rfl rfl ?_
      refine ewl_run rfl (rn_eqI rfl rfl) ?_
      refine ewl_grd rfl rfl rfl ?_
      refine ewl_run rfl (rn_pickt rfl rfl rfl) ?_
      refine ewl_run rfl (rn_pickf rfl rfl rfl) ?_
      refine ewl_run rfl (rn_move rfl) ?_
      refine ewl_split 84 rfl (fun h4 => ?_) (fun h4 => ?_)
      · -- True
        refine ewl_off rfl rfl rfl h4 ?_
        refine ewl_off rfl rfl rfl h4 ?_
        refine ewl_off rfl rfl rfl h4 ?_
        refine ewl_offu rfl rfl rfl ?_
        refine ewl_offu rfl rfl rfl ?_
        refine ewl_off rfl rfl rfl h4 ?_
        refine ewl_run rfl (rn_pickt rfl h4 rfl) ?_
        refine ewl_run rfl (rn_move rfl) ?_
        refine ewl_off rfl rfl rfl rfl ?_
        refine ewl_off rfl rfl rfl rfl ?_
        refine ewl_off rfl rfl rfl rfl ?_
        refine ewl_offu rfl rfl rfl ?_
        refine ewl_offu rfl rfl rfl ?_
        refine ewl_off rfl rfl rfl rfl ?_
        refine ewl_run rfl (rn_pickt rfl rfl rfl) ?_
        refine ewl_run rfl (rn_assign rfl) ?_
        refine ewl_nil ?_
        refine thn_n ?_
        refine ewp_seq ?_
        refine ewp_reg ?_
        refine ewl_ret rfl (en_call ent8 rfl rfl) (parses_spec _ (hG.ext hX)) ?_
        rintro _ w17 ⟨rfl, hE16⟩
        replace hl8 := hl8.ext hE16
        replace hli := hli.ext hE16
        replace hb11 := hb11.ext hE16
        replace hX := hX.trans hE16
        have sz7 := hE16.size
        refine ewl_run rfl (rn_move rfl) ?_
        refine ewl_grd rfl rfl rfl ?_
        refine ewl_run rfl (rn_move rfl) ?_
        refine ewl_grd rfl rfl rfl ?_
        refine ewl_run rfl (rn_eqI rfl rfl) ?_
        refine ewl_grd rfl rfl rfl ?_
        refine ewl_run rfl (rn_move rfl) ?_
        refine ewl_grd rfl rfl rfl ?_
        refine ewl_run rfl (rn_eqB un4 rfl rfl) ?_
        refine ewl_run rfl (rn_pickt rfl rfl rfl) ?_
        refine ewl_run rfl (rn_assign rfl) ?_
        refine ewl_nil ?_
        refine thn_n ?_
        refine ewp_ret ?_
        refine fn_r (resv rfl (rv_tmp rfl)) ?_
        refine ⟨congrArg Value.bool ?_, hX⟩
        have hq := top_ok hi hn
        rw [okP] at hq
        simp only [topR, h4] at hq
        simp [hq]
      · -- False
        refine ewl_grd rfl rfl h4 ?_
        refine ewl_run rfl (rn_move rfl) ?_
        refine ewl_grd rfl rfl h4 ?_
        refine ewl_run rfl (rn_eqI rfl rfl) ?_
        refine ewl_grd rfl rfl h4 ?_
        refine ewl_run rfl (rn_move rfl) ?_
        refine ewl_off rfl rfl rfl rfl ?_
        refine ewl_off rfl rfl rfl rfl ?_
        refine ewl_grd rfl rfl h4 ?_
        refine ewl_run rfl (rn_pickf rfl rfl rfl) ?_
        refine ewl_run rfl (rn_pickf rfl h4 rfl) ?_
        refine ewl_run rfl (rn_move rfl) ?_
        refine ewl_grd rfl rfl rfl ?_
        refine ewl_run rfl (rn_move rfl) ?_
        refine ewl_grd rfl rfl rfl ?_
        refine ewl_run rfl (rn_eqI rfl rfl) ?_
        refine ewl_grd rfl rfl rfl ?_
        refine ewl_run rfl (rn_move rfl) ?_
        refine ewl_off rfl rfl rfl rfl ?_
        refine ewl_off rfl rfl rfl rfl ?_
        refine ewl_grd rfl rfl rfl ?_
        refine ewl_run rfl (rn_pickf rfl rfl rfl) ?_
        refine ewl_run rfl (rn_pickf rfl rfl rfl) ?_
        refine ewl_run rfl (rn_assign rfl) ?_
        refine ewl_nil ?_
        refine thn_n ?_
        refine ewp_seq ?_
        refine ewp_reg ?_
        refine ewl_ret rfl (en_call ent8 rfl rfl) (parses_spec _ (hG.ext hX)) ?_
        rintro _ w18 ⟨rfl, hE17⟩
        replace hl8 := hl8.ext hE17
        replace hli := hli.ext hE17
        replace hb11 := hb11.ext hE17
        replace hX := hX.trans hE17
        have sz8 := hE17.size
        refine ewl_run rfl (rn_move rfl) ?_
        refine ewl_grd rfl rfl rfl ?_
        refine ewl_run rfl (rn_move rfl) ?_
        refine ewl_grd rfl rfl rfl ?_
        refine ewl_run rfl (rn_eqI rfl rfl) ?_
        refine ewl_grd rfl rfl rfl ?_
        refine ewl_run rfl (rn_move rfl) ?_
        refine ewl_grd rfl rfl rfl ?_
        refine ewl_run rfl (rn_eqB un4 rfl rfl) ?_
        refine ewl_run rfl (rn_pickt rfl rfl rfl) ?_
        refine ewl_run rfl (rn_assign rfl) ?_
        refine ewl_nil ?_
        refine thn_n ?_
        refine ewp_ret ?_
        refine fn_r (resv rfl (rv_tmp rfl)) ?_
        refine ⟨congrArg Value.bool ?_, hX⟩
        have hq := top_ok hi hn
        rw [okP] at hq
        simp only [topR, h4] at hq
        simp [hq]
    · -- 3
      refine ewp_reg ?_
      refine ewl_run rfl (rn_move rfl) ?_
      refine ewl_run rfl (rn_eqI rfl rfl) ?_
      refine ewl_run rfl (rn_move rfl) ?_
      refine ewl_off rfl rfl rfl rfl ?_
      refine ewl_off rfl rfl rfl rfl ?_
      refine ewl_run rfl (rn_pickf rfl rfl rfl) ?_
      refine ewl_run rfl (rn_move rfl) ?_
      refine ewl_grd rfl rfl rfl ?_
      refine ewl_run rfl (rn_move rfl) ?_
      refine ewl_grd rfl rfl rfl ?_
      refine ewl_run rfl (rn_eqI rfl rfl) ?_
      refine ewl_grd rfl rfl rfl ?_
      refine ewl_run rfl (rn_move rfl) ?_
      refine ewl_off rfl rfl rfl rfl ?_
      refine ewl_off rfl rfl rfl rfl ?_
      refine ewl_grd rfl rfl rfl ?_
      refine ewl_run rfl (rn_pickf rfl rfl rfl) ?_
      refine ewl_run rfl (rn_pickf rfl rfl rfl) ?_
      refine ewl_run rfl (rn_move rfl) ?_
      refine ewl_grd rfl rfl rfl ?_
      refine ewl_run rfl (rn_move rfl) ?_
      refine ewl_grd rfl rfl rfl ?_
      refine ewl_run rfl (rn_eqI rfl rfl) ?_
      refine ewl_grd rfl rfl rfl ?_
      refine ewl_run rfl (rn_move rfl) ?_
      refine ewl_off rfl rfl rfl rfl ?_
      refine ewl_off rfl rfl rfl rfl ?_
      refine ewl_grd rfl rfl rfl ?_
      refine ewl_run rfl (rn_pickf rfl rfl rfl) ?_
      refine ewl_run rfl (rn_pickf rfl rfl rfl) ?_
      refine ewl_run rfl (rn_move rfl) ?_
      refine ewl_grd rfl rfl rfl ?_
      refine ewl_run rfl (rn_move rfl) ?_
      refine ewl_grd rfl rfl rfl ?_
      refine ewl_run rfl (rn_eqI rfl rfl) ?_
      refine ewl_grd rfl rfl rfl ?_
      refine ewl_run rfl (rn_move rfl) ?_
      refine ewl_grd rfl rfl rfl ?_
      refine ewl_run rfl (rn_move rfl) ?_
      refine ewl_grd rfl rfl rfl ?_
      refine ewl_run rfl (rn_eqI rfl rfl) ?_
      refine ewl_grd rfl rfl rfl ?_
      refine ewl_run rfl (rn_pickt rfl rfl rfl) ?_
      refine ewl_run rfl (rn_pickf rfl rfl rfl) ?_
      refine ewl_run rfl (rn_move rfl) ?_
      refine ewl_split 92 rfl (fun h5 => ?_) (fun h5 => ?_)
      · -- True
        refine ewl_off rfl rfl rfl h5 ?_
        refine ewl_off rfl rfl rfl h5 ?_
        refine ewl_off rfl rfl rfl h5 ?_
        refine ewl_offu rfl rfl rfl ?_
        refine ewl_offu rfl rfl rfl ?_
        refine ewl_off rfl rfl rfl h5 ?_
        refine ewl_run rfl (rn_pickt rfl h5 rfl) ?_
        refine ewl_run rfl (rn_assign rfl) ?_
        refine ewl_nil ?_
        refine thn_n ?_
        refine ewp_seq ?_
        refine ewp_reg ?_
        refine ewl_ret rfl (en_call ent8 rfl rfl) (parses_spec _ (hG.ext hX)) ?_
        rintro _ w19 ⟨rfl, hE18⟩
        replace hl8 := hl8.ext hE18
        replace hli := hli.ext hE18
        replace hb11 := hb11.ext hE18
        replace hX := hX.trans hE18
        have sz9 := hE18.size
        refine ewl_run rfl (rn_move rfl) ?_
        refine ewl_grd rfl rfl rfl ?_
        refine ewl_run rfl (rn_move rfl) ?_
        refine ewl_grd rfl rfl rfl ?_
        refine ewl_run rfl (rn_eqI rfl rfl) ?_
        refine ewl_grd rfl rfl rfl ?_
        refine ewl_run rfl (rn_move rfl) ?_
        refine ewl_grd rfl rfl rfl ?_
        refine ewl_run rfl (rn_eqB un4 rfl rfl) ?_
        refine ewl_run rfl (rn_pickt rfl rfl rfl) ?_
        refine ewl_run rfl (rn_assign rfl) ?_
        refine ewl_nil ?_
        refine thn_n ?_
        refine ewp_ret ?_
        refine fn_r (resv rfl (rv_tmp rfl)) ?_
        refine ⟨congrArg Value.bool ?_, hX⟩
        have hq := top_ok hi hn
        rw [okP] at hq
        simp only [topR, h5] at hq
        simp [hq]
      · -- False
        refine ewl_grd rfl rfl h5 ?_
        refine ewl_run rfl (rn_move rfl) ?_
        refine ewl_grd rfl rfl h5 ?_
        refine ewl_run rfl (rn_eqI rfl rfl) ?_
        refine ewl_grd rfl rfl h5 ?_
        refine ewl_run rfl (rn_move rfl) ?_
        refine ewl_off rfl rfl rfl rfl ?_
        refine ewl_off rfl rfl rfl rfl ?_
        refine ewl_grd rfl rfl h5 ?_
        refine ewl_run rfl (rn_pickf rfl rfl rfl) ?_
        refine ewl_run rfl (rn_pickf rfl h5 rfl) ?_
        refine ewl_run rfl (rn_assign rfl) ?_
        refine ewl_nil ?_
        refine thn_n ?_
        refine ewp_seq ?_
        refine ewp_reg ?_
        refine ewl_ret rfl (en_call ent8 rfl rfl) (parses_spec _ (hG.ext hX)) ?_
        rintro _ w20 ⟨rfl, hE19⟩
        replace hl8 := hl8.ext hE19
        replace hli := hli.ext hE19
        replace hb11 := hb11.ext hE19
        replace hX := hX.trans hE19
        have sz10 := hE19.size
        refine ewl_run rfl (rn_move rfl) ?_
        refine ewl_grd rfl rfl rfl ?_
        refine ewl_run rfl (rn_move rfl) ?_
        refine ewl_grd rfl rfl rfl ?_
        refine ewl_run rfl (rn_eqI rfl rfl) ?_
        refine ewl_grd rfl rfl rfl ?_
        refine ewl_run rfl (rn_move rfl) ?_
        refine ewl_grd rfl rfl rfl ?_
        refine ewl_run rfl (rn_eqB un4 rfl rfl) ?_
        refine ewl_run rfl (rn_pickt rfl rfl rfl) ?_
        refine ewl_run rfl (rn_assign rfl) ?_
        refine ewl_nil ?_
        refine thn_n ?_
        refine ewp_ret ?_
        refine fn_r (resv rfl (rv_tmp rfl)) ?_
        refine ⟨congrArg Value.bool ?_, hX⟩
        have hq := top_ok hi hn
        rw [okP] at hq
        simp only [topR, h5] at hq
        simp [hq]
    · -- 4
      refine ewp_reg ?_
      refine ewl_run rfl (rn_move rfl) ?_
      refine ewl_run rfl (rn_eqI rfl rfl) ?_
      refine ewl_run rfl (rn_move rfl) ?_
      refine ewl_off rfl rfl rfl rfl ?_
      refine ewl_off rfl rfl rfl rfl ?_
      refine ewl_run rfl (rn_pickf rfl rfl rfl) ?_
      refine ewl_run rfl (rn_move rfl) ?_
      refine ewl_grd rfl rfl rfl ?_
      refine ewl_run rfl (rn_move rfl) ?_
      refine ewl_grd rfl rfl rfl ?_
      refine ewl_run rfl (rn_eqI rfl rfl) ?_
      refine ewl_grd rfl rfl rfl ?_
      refine ewl_run rfl (rn_move rfl) ?_
      refine ewl_off rfl rfl rfl rfl ?_
      refine ewl_off rfl rfl rfl rfl ?_
      refine ewl_grd rfl rfl rfl ?_
      refine ewl_run rfl (rn_pickf rfl rfl rfl) ?_
      refine ewl_run rfl (rn_pickf rfl rfl rfl) ?_
      refine ewl_run rfl (rn_move rfl) ?_
      refine ewl_grd rfl rfl rfl ?_
      refine ewl_run rfl (rn_move rfl) ?_
      refine ewl_grd rfl rfl rfl ?_
      refine ewl_run rfl (rn_eqI rfl rfl) ?_
      refine ewl_grd rfl rfl rfl ?_
      refine ewl_run rfl (rn_move rfl) ?_
      refine ewl_off rfl rfl rfl rfl ?_
      refine ewl_off rfl rfl rfl rfl ?_
      refine ewl_grd rfl rfl rfl ?_
      refine ewl_run rfl (rn_pickf rfl rfl rfl) ?_
      refine ewl_run rfl (rn_pickf rfl rfl rfl) ?_
      refine ewl_run rfl (rn_move rfl) ?_
      refine ewl_grd rfl rfl rfl ?_
      refine ewl_run rfl (rn_move rfl) ?_
      refine ewl_grd rfl rfl rfl ?_
      refine ewl_run rfl (rn_eqI rfl rfl) ?_
      refine ewl_grd rfl rfl rfl ?_
      refine ewl_run rfl (rn_move rfl) ?_
      refine ewl_off rfl rfl rfl rfl ?_
      refine ewl_off rfl rfl rfl rfl ?_
      refine ewl_grd rfl rfl rfl ?_
      refine ewl_run rfl (rn_pickf rfl rfl rfl) ?_
      refine ewl_run rfl (rn_pickf rfl rfl rfl) ?_
      refine ewl_run rfl (rn_move rfl) ?_
      refine ewl_grd rfl rfl rfl ?_
      refine ewl_run rfl (rn_move rfl) ?_
      refine ewl_grd rfl rfl rfl ?_
      refine ewl_run rfl (rn_eqI rfl rfl) ?_
      refine ewl_grd rfl rfl rfl ?_
      refine ewl_run rfl (rn_move rfl) ?_
      refine ewl_grd rfl rfl rfl ?_
      refine ewl_run rfl (rn_move rfl) ?_
      refine ewl_grd rfl rfl rfl ?_
      refine ewl_run rfl (rn_geI rfl rfl) ?_
      refine ewl_grd rfl rfl rfl ?_
      refine ewl_run rfl (rn_pickt rfl rfl rfl) ?_
      refine ewl_run rfl (rn_pickf rfl rfl rfl) ?_
      refine ewl_run rfl (rn_assign rfl) ?_
      refine ewl_nil ?_
      refine thn_n ?_
      refine ewp_seq ?_
      refine ewp_reg ?_
      refine ewl_ret rfl (en_call ent8 rfl rfl) (parses_spec _ (hG.ext hX)) ?_
      rintro _ w21 ⟨rfl, hE20⟩
      replace hl8 := hl8.ext hE20
      replace hli := hli.ext hE20
      replace hb11 := hb11.ext hE20
      replace hX := hX.trans hE20
      have sz11 := hE20.size
      refine ewl_run rfl (rn_move rfl) ?_
      refine ewl_grd rfl rfl rfl ?_
      refine ewl_run rfl (rn_move rfl) ?_
      refine ewl_grd rfl rfl rfl ?_
      refine ewl_run rfl (rn_eqI rfl rfl) ?_
      refine ewl_grd rfl rfl rfl ?_
      refine ewl_run rfl (rn_move rfl) ?_
      refine ewl_grd rfl rfl rfl ?_
      refine ewl_run rfl (rn_eqB un4 rfl rfl) ?_
      refine ewl_run rfl (rn_pickt rfl rfl rfl) ?_
      refine ewl_run rfl (rn_assign rfl) ?_
      refine ewl_nil ?_
      refine thn_n ?_
      refine ewp_ret ?_
      refine fn_r (resv rfl (rv_tmp rfl)) ?_
      refine ⟨congrArg Value.bool ?_, hX⟩
      have hq := top_ok hi hn
      rw [okP] at hq
      simp only [topR] at hq
      simp [hq]
    · -- 5
      refine ewp_reg ?_
      refine ewl_run rfl (rn_move rfl) ?_
      refine ewl_run rfl (rn_eqI rfl rfl) ?_
      refine ewl_run rfl (rn_move rfl) ?_
      refine ewl_off rfl rfl rfl rfl ?_
      refine ewl_off rfl rfl rfl rfl ?_
      refine ewl_run rfl (rn_pickf rfl rfl rfl) ?_
      refine ewl_run rfl (rn_move rfl) ?_
      refine ewl_grd rfl rfl rfl ?_
      refine ewl_run rfl (rn_move rfl) ?_
      refine ewl_grd rfl rfl rfl ?_
      refine ewl_run rfl (rn_eqI rfl rfl) ?_
      refine ewl_grd rfl rfl rfl ?_
      refine ewl_run rfl (rn_move rfl) ?_
      refine ewl_off rfl rfl rfl rfl ?_
      refine ewl_off rfl rfl rfl rfl ?_
      refine ewl_grd rfl rfl rfl ?_
      refine ewl_run rfl (rn_pickf rfl rfl rfl) ?_
      refine ewl_run rfl (rn_pickf rfl rfl rfl) ?_
      refine ewl_run rfl (rn_move rfl) ?_
      refine ewl_grd rfl rfl rfl ?_
      refine ewl_run rfl (rn_move rfl) ?_
      refine ewl_grd rfl rfl rfl ?_
      refine ewl_run rfl (rn_eqI rfl rfl) ?_
      refine ewl_grd rfl rfl rfl ?_
      refine ewl_run rfl (rn_move rfl) ?_
      refine ewl_off rfl rfl rfl rfl ?_
      refine ewl_off rfl rfl rfl rfl ?_
      refine ewl_grd rfl rfl rfl ?_
      refine ewl_run rfl (rn_pickf rfl rfl rfl) ?_
      refine ewl_run rfl (rn_pickf rfl rfl rfl) ?_
      refine ewl_run rfl (rn_move rfl) ?_
      refine ewl_grd rfl rfl rfl ?_
      refine ewl_run rfl (rn_move rfl) ?_
      refine ewl_grd rfl rfl rfl ?_
      refine ewl_run rfl (rn_eqI rfl rfl) ?_
      refine ewl_grd rfl rfl rfl ?_
      refine ewl_run rfl (rn_move rfl) ?_
      refine ewl_off rfl rfl rfl rfl ?_
      refine ewl_off rfl rfl rfl rfl ?_
      refine ewl_grd rfl rfl rfl ?_
      refine ewl_run rfl (rn_pickf rfl rfl rfl) ?_
      refine ewl_run rfl (rn_pickf rfl rfl rfl) ?_
      refine ewl_run rfl (rn_move rfl) ?_
      refine ewl_grd rfl rfl rfl ?_
      refine ewl_run rfl (rn_move rfl) ?_
      refine ewl_grd rfl rfl rfl ?_
      refine ewl_run rfl (rn_eqI rfl rfl) ?_
      refine ewl_grd rfl rfl rfl ?_
      refine ewl_run rfl (rn_move rfl) ?_
      refine ewl_off rfl rfl rfl rfl ?_
      refine ewl_off rfl rfl rfl rfl ?_
      refine ewl_grd rfl rfl rfl ?_
      refine ewl_run rfl (rn_pickf rfl rfl rfl) ?_
      refine ewl_run rfl (rn_pickf rfl rfl rfl) ?_
      refine ewl_run rfl (rn_assign rfl) ?_
      refine ewl_nil ?_
      refine thn_n ?_
      refine ewp_seq ?_
      refine ewp_reg ?_
      refine ewl_ret rfl (en_call ent8 rfl rfl) (parses_spec _ (hG.ext hX)) ?_
      rintro _ w22 ⟨rfl, hE21⟩
      replace hl8 := hl8.ext hE21
      replace hli := hli.ext hE21
      replace hb11 := hb11.ext hE21
      replace hX := hX.trans hE21
      have sz12 := hE21.size
      refine ewl_run rfl (rn_move rfl) ?_
      refine ewl_grd rfl rfl rfl ?_
      refine ewl_run rfl (rn_move rfl) ?_
      refine ewl_grd rfl rfl rfl ?_
      refine ewl_run rfl (rn_eqI rfl rfl) ?_
      refine ewl_grd rfl rfl rfl ?_
      refine ewl_run rfl (rn_move rfl) ?_
      refine ewl_grd rfl rfl rfl ?_
      refine ewl_run rfl (rn_eqB un4 rfl rfl) ?_
      refine ewl_run rfl (rn_pickt rfl rfl rfl) ?_
      refine ewl_run rfl (rn_assign rfl) ?_
      refine ewl_nil ?_
      refine thn_n ?_
      refine ewp_ret ?_
      refine fn_r (resv rfl (rv_tmp rfl)) ?_
      refine ⟨congrArg Value.bool ?_, hX⟩
      have hq := top_ok hi hn
      rw [okP] at hq
      simp only [topR] at hq
      simp [hq]
    · -- 6
      refine ewp_reg ?_
      refine ewl_run rfl (rn_move rfl) ?_
      refine ewl_run rfl (rn_eqI rfl rfl) ?_
      refine ewl_run rfl (rn_move rfl) ?_
      refine ewl_off rfl rfl rfl rfl ?_
      refine ewl_off rfl rfl rfl rfl ?_
      refine ewl_run rfl (rn_pickf rfl rfl rfl) ?_
      refine ewl_run rfl (rn_move rfl) ?_
      refine ewl_grd rfl rfl rfl ?_
      refine ewl_run rfl (rn_move rfl) ?_
      refine ewl_grd rfl rfl rfl ?_
      refine ewl_run rfl (rn_eqI rfl rfl) ?_
      refine ewl_grd rfl rfl rfl ?_
      refine ewl_run rfl (rn_move rfl) ?_
      refine ewl_off rfl rfl rfl rfl ?_
      refine ewl_off rfl rfl rfl rfl ?_
      refine ewl_grd rfl rfl rfl ?_
      refine ewl_run rfl (rn_pickf rfl rfl rfl) ?_
      refine ewl_run rfl (rn_pickf rfl rfl rfl) ?_
      refine ewl_run rfl (rn_move rfl) ?_
      refine ewl_grd rfl rfl rfl ?_
      refine ewl_run rfl (rn_move rfl) ?_
      refine ewl_grd rfl rfl rfl ?_
      refine ewl_run rfl (rn_eqI rfl rfl) ?_
      refine ewl_grd rfl rfl rfl ?_
      refine ewl_run rfl (rn_move rfl) ?_
      refine ewl_off rfl rfl rfl rfl ?_
      refine ewl_off rfl rfl rfl rfl ?_
      refine ewl_grd rfl rfl rfl ?_
      refine ewl_run rfl (rn_pickf rfl rfl rfl) ?_
      refine ewl_run rfl (rn_pickf rfl rfl rfl) ?_
      refine ewl_run rfl (rn_move rfl) ?_
      refine ewl_grd rfl rfl rfl ?_
      refine ewl_run rfl (rn_move rfl) ?_
      refine ewl_grd rfl rfl rfl ?_
      refine ewl_run rfl (rn_eqI rfl rfl) ?_
      refine ewl_grd rfl rfl rfl ?_
      refine ewl_run rfl (rn_move rfl) ?_
      refine ewl_off rfl rfl rfl rfl ?_
      refine ewl_off rfl rfl rfl rfl ?_
      refine ewl_grd rfl rfl rfl ?_
      refine ewl_run rfl (rn_pickf rfl rfl rfl) ?_
      refine ewl_run rfl (rn_pickf rfl rfl rfl) ?_
      refine ewl_run rfl (rn_move rfl) ?_
      refine ewl_grd rfl rfl rfl ?_
      refine ewl_run rfl (rn_move rfl) ?_
      refine ewl_grd rfl rfl rfl ?_
      refine ewl_run rfl (rn_eqI rfl rfl) ?_
      refine ewl_grd rfl rfl rfl ?_
      refine ewl_run rfl (rn_move rfl) ?_
      refine ewl_off rfl rfl rfl rfl ?_
      refine ewl_off rfl rfl rfl rfl ?_
      refine ewl_grd rfl rfl rfl ?_
      refine ewl_run rfl (rn_pickf rfl rfl rfl) ?_
      refine ewl_run rfl (rn_pickf rfl rfl rfl) ?_
      refine ewl_run rfl (rn_assign rfl) ?_
      refine ewl_nil ?_
      refine thn_n ?_
      refine ewp_seq ?_
      refine ewp_reg ?_
      refine ewl_ret rfl (en_call ent8 rfl rfl) (parses_spec _ (hG.ext hX)) ?_
      rintro _ w23 ⟨rfl, hE22⟩
      replace hl8 := hl8.ext hE22
      replace hli := hli.ext hE22
      replace hb11 := hb11.ext hE22
      replace hX := hX.trans hE22
      have sz13 := hE22.size
      refine ewl_run rfl (rn_move rfl) ?_
      refine ewl_grd rfl rfl rfl ?_
      refine ewl_run rfl (rn_move rfl) ?_
      refine ewl_grd rfl rfl rfl ?_
      refine ewl_run rfl (rn_eqI rfl rfl) ?_
      refine ewl_grd rfl rfl rfl ?_
      refine ewl_run rfl (rn_move rfl) ?_
      refine ewl_grd rfl rfl rfl ?_
      refine ewl_run rfl (rn_eqB un4 rfl rfl) ?_
      refine ewl_run rfl (rn_pickt rfl rfl rfl) ?_
      refine ewl_run rfl (rn_assign rfl) ?_
      refine ewl_nil ?_
      refine thn_n ?_
      refine ewp_ret ?_
      refine fn_r (resv rfl (rv_tmp rfl)) ?_
      refine ⟨congrArg Value.bool ?_, hX⟩
      have hq := top_ok hi hn
      rw [okP] at hq
      simp only [topR] at hq
      simp [hq]
end Go.Proofs.YthjdnhnbgjgbkaaGreatDoor
namespace Go.Proofs.YthjdnhnbgjgbkaaGreatDoor.Tops
open Go.SW Go.SP Go.RowKit Go.Lib Go.ChangeShapes Go.WideShapes Go.ChangeAt
set_option maxRecDepth 100000 in
theorem contract (H : Type) (enc : TypeId × Value → H) (W : World) (base : Nat) (args : Array Value) (ds gs : List (DataW H)) (before : List MemPlace)
    (hval : ∀ (j : Nat) t v, Tryz.f7.params[j]? = some t → args[j]? = some v → Value.okWide Tryz.prog W .any base t v)
    (hW : DataW.Whole enc Tryz.prog Tryz.f7.params.toList Rows.parseTopsSpec.vars false W args.toList ds gs before) (hL : laidMetH Tryz.prog Rows.parseTopsRow.laid W) (hS : W.ShapedOpen Tryz.prog) :
    Calls Tryz.prog 7 args W fun e W' => ∃ v, e = .returned v ∧ Rows.parseTopsSpec.post enc Tryz.prog Tryz.f7 false true false false W args v W' := by
  have hW' := hW
  obtain ⟨p, q, hA0, hV, rfl, hfz, hnd⟩ := hW
  have hA : DataW.TrodAll enc Tryz.prog W 0 (fun _ => true) true Tryz.f7.params.toList args.toList ds p := hA0
  rw [Tryz.params7] at hA hval
  obtain ⟨v0, vs0, d0, ds0, p0, q0, hargs, rfl, rfl, h0, r0⟩ := trodAll_cons hA
  obtain ⟨v1, vs1, d1, ds1, p1, q1, hargs1, rfl, rfl, h1, r1⟩ := trodAll_cons r0
  obtain ⟨rfl, rfl, rfl⟩ := trodAll_nil r1
  obtain rfl : args = #[v0, v1] := by
    obtain ⟨l⟩ := args
    exact congrArg Array.mk (hargs.trans (congrArg _ hargs1))
  obtain ⟨rfl, rfl⟩ := trodVars_none hV
  obtain ⟨x, rfl, rfl, rfl, wx⟩ := open_int Tryz.underlying3 (hval 0 3 v0 rfl rfl) h0
  obtain ⟨y, rfl, rfl, rfl, wy⟩ := open_int Tryz.underlying3 (hval 1 3 v1 rfl rfl) h1
  clear hA0
  simp only [List.append_nil] at hW'
  refine Calls.mono (tops_spec W (gl_of hL hS) x y) ?_
  rintro e W' ⟨v, rfl, rfl, hb⟩
  exact ⟨_, rfl, _, _, _, [], [], [], hW', trodAll_cons_mk (shut_bool Tryz.underlying4 _) trodAll_mk0, trodAll_cons_mk (shut_int Tryz.underlying3 wx) (trodAll_cons_mk (shut_int Tryz.underlying3 wy) trodAll_mk0), rfl, hb.frame _, fun h => by cases h⟩
noncomputable def lw (os : Os) : World := World.laidAll Tryz.prog os Rows.parseTopsRow.laid
theorem laid_met (os : Os) : laidMetH Tryz.prog Rows.parseTopsRow.laid ((lw os).forCall (fun _ _ => 0) ⟨#[], #[.int .i64 0, .int .i64 0], []⟩).memory := by
  rw [MakeChecks.laidMetH_plain _ _ _ (by kernel_rfl)]
  exact laidMet_laidAll _ (by kernel_rfl) (by kernel_rfl)
theorem reads (os : Os) {H : Type} (enc : TypeId × Value → H) : ∃ places, DataW.whole enc Tryz.prog ((lw os).forCall (fun _ _ => 0) ⟨#[], #[.int .i64 0, .int .i64 0], []⟩).memory Tryz.f7.params.toList Rows.parseTopsSpec.vars false #[Value.int .i64 0, Value.int .i64 0].toList 8 = some ([.lit (.int .i64 0), .lit (.int .i64 0)], [], places) :=
  ⟨[], by kernel_rfl⟩
set_option maxRecDepth 100000 in
theorem lifted (os : Os) (started : os.Started) (H : Type) (enc : TypeId × Value → H) (F : Stop.Interp) :
    ReturnsInHanded {} Tryz.checked os 7 .any ((OpenSpec.ofChange Rows.parseTopsSpec).preRow enc Tryz.prog Tryz.f7 Rows.parseTopsRow.domain false Rows.parseTopsRow.laid) (((OpenSpec.ofChange Rows.parseTopsSpec).at F).post enc Tryz.prog Tryz.f7 false true false false) := by
  obtain ⟨places, hx⟩ := reads os enc
  refine returnsInHanded_of_row (C := Tryz.checked) (s := OpenSpec.ofChange Rows.parseTopsSpec) own started (by kernel_rfl) Tryz.func7
    ⟨lw os, fun _ _ => 0, ⟨#[], #[.int .i64 0, .int .i64 0], []⟩, World.laidAll_os _ _ _, World.shaped_of_ZipB (by kernel_rfl) (by kernel_rfl), rfl, (Input.okWide_of_okWideB (by kernel_rfl)).2,
      OpenSpec.preRow_of_cond 8 hx (by kernel_rfl) (fun k hk => by cases hk) (by kernel_rfl) (laid_met os), by simp [Assume.holds]⟩ ?_
  intro W base args ds gs before hval hW _ _ _ hL hS _
  exact contract H enc W base args ds gs before hval hW hL hS
theorem said : Rows.ParseTopsSaid :=
  OpenClaim.holds_of_cond 7 Tryz.f7 rfl rfl rfl rfl rfl rfl rfl ⟨rfl, rfl, rfl, rfl, rfl⟩ rfl rfl rfl rfl rfl (by kernel_rfl) Tryz.func7 (by kernel_rfl)
    (of_decide_eq_true (by kernel_rfl)) (by unfold Func.isWrapper; first | (rw [if_pos (by decide +kernel)]; kernel_rfl) | (rw [if_neg (by decide +kernel)]; exact ⟨rfl, rfl⟩))
    (fun os started H enc _ F => by rw [OpenClaim.pre_eq_preRow]; exact lifted os started H enc F)
theorem plain (f : FuncId) (fn : Func) (hf : Tryz.pinned.checked.prog.funcNamed Rows.parseTopsRow.func = some f) (hfn : Tryz.pinned.checked.prog.funcs[f]? = some fn) :
    true = Tryz.pinned.checked.prog.looks [] ∧ ∀ (j : Nat) t, fn.params[j]? = some t → Tryz.pinned.checked.prog.wantsStandIn t = false := by
  obtain rfl : f = 7 := Option.some.inj ((show Tryz.prog.funcNamed Rows.parseTopsRow.func = some 7 by kernel_rfl).symm.trans hf) |>.symm
  obtain rfl : fn = Tryz.f7 := (Option.some.inj (Tryz.func7.symm.trans hfn)).symm
  refine ⟨by kernel_rfl, fun j t ht => ?_⟩
  rw [Tryz.params7] at ht
  obtain rfl : t = 3 := by simpa using Array.mem_of_getElem? ht
  exact (show Tryz.prog.wantsStandIn 3 = false by kernel_rfl)
end Go.Proofs.YthjdnhnbgjgbkaaGreatDoor.Tops
namespace Go.Proofs.YthjdnhnbgjgbkaaGreatDoor
theorem tops_card : Rows.ParseTopsCardSaid :=
  Claim7.holds_tied_plain_at .later [] _ _ _ _ Tops.said (fun _ h => by cases h) (by kernel_rfl) (fun _ h => by cases h) parseTops_row_tie rfl ⟨rfl, rfl⟩ (by kernel_rfl) rfl Tops.plain (by kernel_rfl)
end Go.Proofs.YthjdnhnbgjgbkaaGreatDoor
