/- The law ParseDeep holds: for all numbers the law function returns true; conditions: the listed package variables hold what the text lays. -/
import Derived.Test.YthjdnhnbgjgbkaaGreatDoorGa7
set_option linter.unusedVariables false
set_option linter.unusedSimpArgs false
namespace Go.Proofs.YthjdnhnbgjgbkaaGreatDoor
open Go.SW Go.SP Go.RowKit
theorem rem_nat (z : Int) (m : Nat) (hm : 0 < m) : ∃ i : Nat, i < m ∧ (IntKind.u64.wrap z).tmod (m : Int) = (i : Int) := by
  have h0 : 0 ≤ IntKind.u64.wrap z := by rw [IntKind.wrap_u64]; omega
  refine ⟨((IntKind.u64.wrap z) % (m : Int)).toNat, ?_, ?_⟩
  · have h1 := Int.emod_lt_of_pos (IntKind.u64.wrap z) (show (0 : Int) < m by omega)
    have h2 := Int.emod_nonneg (IntKind.u64.wrap z) (show (m : Int) ≠ 0 by omega)
    omega
  · rw [Int.tmod_eq_emod_of_nonneg h0]
    have h2 := Int.emod_nonneg (IntKind.u64.wrap z) (show (m : Int) ≠ 0 by omega)
    omega
/-! Counts. -/
def cwB : List (List UInt8) := [[108, 101, 116], [105, 102], [115, 101, 113], [116, 117, 112, 108, 101], [114, 97, 105, 115, 101], [116, 114, 97, 110, 115, 97, 99, 116], [120], [67, 111, 110], [99, 97, 115, 101], [116, 114, 121]]
def cLo : List Nat := [3, 3, 1, 2, 1, 1, 1, 1, 2, 2]
def cHi : List Nat := [3, 3, 1048576, 8, 1, 1, 8, 8, 1048576, 1048576]
def cntT (i : Nat) : Nat → List UInt8
  | 0 => [40, 100, 111, 32, 40] ++ cwB.getD i []
  | k + 1 => cntT i k ++ (if decide ((8 : Int) ≤ (i : Int)) && decide ((0 : Int) < (k : Int)) then [32, 40, 95, 32, 49, 41] else [32, 121])
def cntOk (i n : Nat) : Bool := okP (cntT i n ++ [41, 41]) == (decide (((cLo.getD i 0 : Nat) : Int) ≤ (n : Int)) && decide ((n : Int) ≤ ((cHi.getD i 0 : Nat) : Int)))
theorem cnt_all : (List.range 10).all (fun i => (List.range 12).all fun n => cntOk i n) = true := by kernel_rfl
theorem cnt_ok {i n : Nat} (hi : i < 10) (hn : n < 12) : okP (cntT i n ++ [41, 41]) = (decide (((cLo.getD i 0 : Nat) : Int) ≤ (n : Int)) && decide ((n : Int) ≤ ((cHi.getD i 0 : Nat) : Int))) := by
  have h := List.all_eq_true.1 (List.all_eq_true.1 cnt_all i (List.mem_range.2 hi)) n (List.mem_range.2 hn)
  exact (beq_iff_eq).1 h
theorem cnt_len (i : Nat) (hi : i < 10) : ∀ k, (cntT i k).length ≤ 20 + 6 * k
  | 0 => by
    have h : ∀ i : Fin 10, ([40, 100, 111, 32, 40] ++ cwB.getD i.val []).length ≤ 20 := by decide
    exact h ⟨i, hi⟩
  | k + 1 => by
    have ih := cnt_len i hi k
    unfold cntT
    split <;> (rw [List.length_append]; simp only [List.length_cons, List.length_nil]; omega)
theorem cw_len {i : Nat} (hi : i < 10) : (cwB.getD i []).length ≤ 20 := by
  have h : ∀ i : Fin 10, (cwB.getD i.val []).length ≤ 20 := by decide
  exact h ⟨i, hi⟩
theorem cw_at {i : Nat} (hi : i < 10) : (cwB.map S)[0 + i * 1]? = some (S (cwB.getD i [])) := by
  have : i < cwB.length := hi
  rw [Nat.zero_add, Nat.mul_one, List.getElem?_map, List.getD_eq_getElem?_getD, List.getElem?_eq_getElem this]; rfl
def intC (l : List Nat) : List Value := l.map fun (n : Nat) => Value.int .i64 (n : Int)
theorem int_at {l : List Nat} {i : Nat} (hi : i < l.length) : (intC l)[0 + i * 1]? = some (.int .i64 ((l.getD i 0 : Nat) : Int)) := by
  rw [Nat.zero_add, Nat.mul_one, intC, List.getElem?_map, List.getD_eq_getElem?_getD, List.getElem?_eq_getElem hi]; rfl
theorem str_at {l : List (List UInt8)} {i : Nat} (hi : i < l.length) : (l.map S)[0 + i * 1]? = some (S (l.getD i [])) := by
  rw [Nat.zero_add, Nat.mul_one, List.getElem?_map, List.getD_eq_getElem?_getD, List.getElem?_eq_getElem hi]; rfl
/-! Tops. -/
def twB : List (List UInt8) := [[100, 101, 102], [114, 101, 99], [114, 111, 111, 116], [100, 111], [100, 97, 116, 97], [102, 110], [120]]
def tpB : List (List (List UInt8)) := [[[97], [49], [49], [49], [49], [49]], [[97], [40, 102, 110, 32, 40, 120, 41, 32, 49, 41], [49], [49], [49], [49]], [[97], [105, 110, 116], [49], [49], [49], [49]], [[49], [49], [49], [49], [49], [49]], [[116], [40, 39, 97, 32, 39, 98, 41], [40, 65, 32, 39, 97, 41], [40, 66, 41], [40, 67, 41], [40, 68, 32, 116, 41]], [[40, 120, 41], [49], [49], [49], [49], [49]], [[49], [49], [49], [49], [49], [49]]]
def topT (i : Nat) : Nat → List UInt8
  | 0 => [40] ++ twB.getD i []
  | k + 1 => topT i k ++ [32] ++ (tpB.getD i []).getD k []
def topR (i : Nat) (n : Nat) : Bool := match i with
  | 0 => (n : Int) == 2
  | 1 => (n : Int) == 2
  | 2 => (n : Int) == 3
  | 3 => (n : Int) == 1
  | 4 => decide ((3 : Int) ≤ (n : Int))
  | _ => false
theorem top_all : (List.range 7).all (fun i => (List.range 6).all fun n => okP (topT i n ++ [41]) == topR i n) = true := by kernel_rfl
theorem top_ok {i n : Nat} (hi : i < 7) (hn : n < 6) : okP (topT i n ++ [41]) = topR i n := by
  have h := List.all_eq_true.1 (List.all_eq_true.1 top_all i (List.mem_range.2 hi)) n (List.mem_range.2 hn)
  exact (beq_iff_eq).1 h
theorem top_len (i : Nat) (hi : i < 7) : ∀ k, k ≤ 6 → (topT i k).length ≤ 20 + 12 * k
  | 0, _ => by
    have h : ∀ i : Fin 7, ([40] ++ twB.getD i.val []).length ≤ 20 := by decide
    exact h ⟨i, hi⟩
  | k + 1, hk => by
    have ih := top_len i hi k (by omega)
    have h : ∀ (i : Fin 7) (k : Fin 6), ((tpB.getD i.val []).getD k.val []).length ≤ 11 := by decide
    have h2 := h ⟨i, hi⟩ ⟨k, by omega⟩
    unfold topT
    rw [List.length_append, List.length_append]
    simp only [List.length_cons, List.length_nil]
    simp only at h2
    omega
theorem tw_len {i : Nat} (hi : i < 7) : (twB.getD i []).length ≤ 20 := by
  have h : ∀ i : Fin 7, (twB.getD i.val []).length ≤ 20 := by decide
  exact h ⟨i, hi⟩
theorem tp_len2 {i k : Nat} (hi : i < 7) (hk : k < 6) : ((tpB.getD i []).getD k []).length ≤ 11 := by
  have h : ∀ (i : Fin 7) (k : Fin 6), ((tpB.getD i.val []).getD k.val []).length ≤ 11 := by decide
  exact h ⟨i, hi⟩ ⟨k, hk⟩
theorem tp_len {i : Nat} (hi : i < 7) : (tpB.getD i []).length = 6 := by
  have h : ∀ i : Fin 7, (tpB.getD i.val []).length = 6 := by decide
  exact h ⟨i, hi⟩
end Go.Proofs.YthjdnhnbgjgbkaaGreatDoor
namespace Go.Proofs.YthjdnhnbgjgbkaaGreatDoor
open Go.SW Go.SP Go.RowKit
def dpS : Nat → List UInt8
  | 0 => [40, 100, 111, 32]
  | k + 1 => dpS k ++ [40, 115, 101, 113, 32]
def dpC : Nat → List UInt8
  | 0 => [41]
  | k + 1 => dpC k ++ [41]
def dpE (k e : Nat) : List UInt8 := if e == 1 then dpC k ++ [41] else if e == 2 then (dpC k).take ((dpC k).length - 1) else dpC k
/-- k: one less than the depth. -/
def dpT (k e : Nat) : List UInt8 := [10] ++ dpS k ++ [49] ++ dpE k e
def dpCol (k e : Nat) : Nat := if Nat.ble 200 k then 1000 else if e == 1 then (dpS k).length + 1 + (dpE k e).length else 1
def dpOk (k e : Nat) : Bool :=
  let p := progS (dpT k e)
  ((p.2.2.2 == 0) == (Nat.ble k 199 && e == 0)) && (p.2.2.2 == 0 || (p.2.2.2 == 10 && (p.2.1 == 2 && p.2.2.1 == (dpCol k e : Int))))
theorem dp_all : (List.range 10).all (fun i => (List.range 3).all fun e => dpOk (194 + i) e) = true := by kernel_rfl
theorem dp_ok {k e : Nat} (h1 : 194 ≤ k) (h2 : k < 204) (he : e < 3) : dpOk k e = true := by
  have h := List.all_eq_true.1 (List.all_eq_true.1 dp_all (k - 194) (List.mem_range.2 (by omega))) e (List.mem_range.2 he)
  rwa [show 194 + (k - 194) = k by omega] at h
theorem dpS_len : ∀ k, (dpS k).length = 4 + 5 * k
  | 0 => rfl
  | k + 1 => by rw [dpS, List.length_append, dpS_len k]; simp only [List.length_cons, List.length_nil]; omega
theorem dpC_len : ∀ k, (dpC k).length = k + 1
  | 0 => rfl
  | k + 1 => by rw [dpC, List.length_append, dpC_len k]; rfl
theorem program_eq (w : World) (hG : Gl w) (src t : List UInt8) (h : src = t) : Ret Tryz.prog 9 #[S src] w fun v w' => ProgR w w' v (progS t) := h ▸ program w hG src
theorem rn_neB {P : Program} {σ : Env} {w : World} {ty t t' : TypeId} {x y : Operand} {a b : Bool} (ht : P.underlying t = some .bool) (hx : ev σ x = some (.bool a)) (hy : ev σ y = some (.bool b)) : Runs P σ (.binOp .neq t x y t') ty w (.bool (a != b)) w := by
  have e : (Op.equal t (.bool a) (.bool b)).run P w = .ok (a == b) w := by
    show (Op.equalIn (Op.maxDepth - 1 + 1) t _ _).run P w = _
    simp [Op.equalIn, run_underlying ht]
  exact fun ρ _ _ _ _ hρ => by simp [execOp, hρ _ _ hx, hρ _ _ hy, eqGuard, binOp, e, bne]
end Go.Proofs.YthjdnhnbgjgbkaaGreatDoor
namespace Go.Proofs.YthjdnhnbgjgbkaaGreatDoor
open Go.SW Go.SP Go.RowKit
theorem cv33_3 : cvI Tryz.prog 33 3 = some .i64 := by kernel_rfl
theorem ent8 : Ent Tryz.prog 8 := ent_of Tryz.func8 (by kernel_rfl) (by kernel_rfl)
theorem deep_spec (w : World) (hG : Gl w) (z1 : Int) (z2 : Int) :
    Ret Tryz.prog 4 #[.int .i64 z1, .int .i64 z2] w fun v w' => v = .bool true ∧ Ext w w' := by
  obtain ⟨r, hr, hrE⟩ := rem_nat z1 10 (by decide)
  obtain ⟨x, hx, hxE⟩ := rem_nat z2 3 (by decide)
  have hX := Ext.refl w
  refine enter Tryz.func4 rfl rfl rfl ?_
  refine ewp_seq ?_
  refine ewp_reg ?_
  refine ewl_run rfl (rn_assign rfl) ?_
  refine ewl_nil ?_
  refine thn_n ?_
  refine ewp_seq ?_
  refine ewp_reg ?_
  refine ewl_run rfl (rn_move rfl) ?_
  refine ewl_run rfl (rn_cvI (m := IntKind.u64.wrap z1) rfl cv3_33 rfl) ?_
  refine ewl_run rfl (rn_remU (r : Int) rfl rfl (by decide) hrE) ?_
  refine ewl_run rfl (rn_cvI (m := (r : Int)) rfl cv33_3 (wrapI64 ⟨by omega, by omega⟩)) ?_
  refine ewl_run rfl (rn_add rfl rfl ⟨by omega, by omega⟩) ?_
  refine ewl_run rfl (rn_move rfl) ?_
  refine ewl_run rfl (rn_cvI (m := IntKind.u64.wrap z2) rfl cv3_33 rfl) ?_
  refine ewl_run rfl (rn_remU (x : Int) rfl rfl (by decide) hxE) ?_
  refine ewl_run rfl (rn_cvI (m := (x : Int)) rfl cv33_3 (wrapI64 ⟨by omega, by omega⟩)) ?_
  refine ewl_run rfl (rn_assign rfl) ?_
  refine ewl_run rfl (rn_assign rfl) ?_
  refine ewl_nil ?_
  refine thn_n ?_
  refine ewp_seq ?_
  refine ewp_reg ?_
  refine ewl_run rfl (rn_assign rfl) ?_
  refine ewl_run rfl (rn_assign rfl) ?_
  refine ewl_nil ?_
  refine thn_n ?_
  refine ewp_seq ?_
  refine ewp_seq ?_
  refine ewp_reg ?_
  refine ewl_run rfl (rn_assign rfl) ?_
  refine ewl_nil ?_
  refine thn_n ?_
  refine ewp_block ?_
  refine ewp_loop (fun kk σ ds w' => ∃ k : Nat, kk = 194 + r - k ∧ ds = [] ∧ σ = (upd (upd (upd (upd (upd SW.e0 0 (.int .i64 (195 + (r : Int)))) 1 (.int .i64 (x : Int))) 5 (S (dpS k))) 6 (S (dpC k))) 7 (.int .i64 ((k : Int) + 1))) ∧ k ≤ 194 + r ∧ Ext w w') (194 + r) (upd (upd (upd (upd (upd SW.e0 0 (.int .i64 (195 + (r : Int)))) 1 (.int .i64 (x : Int))) 5 (S (dpS 0))) 6 (S (dpC 0))) 7 (.int .i64 (((0 : Nat) : Int) + 1))) (le_upd (le_upd (le_upd (le_upd (le_upd (le_e0 _) rfl) rfl) rfl) rfl) rfl) ⟨0, rfl, rfl, rfl, by omega, hX⟩ ?_
  rintro _ _ _ wl ⟨k, rfl, rfl, rfl, hk, hX⟩
  have hl1 := dpS_len k
  have hl2 := dpC_len k
  have szl := hX.size
  refine ewp_seq ?_
  refine ewp_seq ?_
  refine ewp_reg ?_
  refine ewl_run rfl (rn_move rfl) ?_
  refine ewl_run rfl (rn_move rfl) ?_
  refine ewl_run rfl (rn_ltI rfl rfl) ?_
  refine ewl_nil ?_
  refine thn_n ?_
  refine ewp_if rfl (fun h1 => ?_) (fun h1 => ?_)
  · -- True
    refine ewp_skip ?_
    refine thn_n ?_
    refine ewp_seq ?_
    refine ewp_block ?_
    refine ewp_reg ?_
    refine ewl_run rfl (rn_move rfl) ?_
    refine ewl_run rfl (rn_addS rfl rfl (by simp only [List.length_cons, List.length_nil, List.length_append, List.length_take]; omega)) ?_
    refine ewl_run rfl (rn_move rfl) ?_
    refine ewl_run rfl (rn_addS rfl rfl (by simp only [List.length_cons, List.length_nil, List.length_append, List.length_take]; omega)) ?_
    refine ewl_run rfl (rn_assign rfl) ?_
    refine ewl_run rfl (rn_assign rfl) ?_
    refine ewl_nil ?_
    refine blk_n ?_
    refine thn_n ?_
    refine ewp_reg ?_
    refine ewl_run rfl (rn_move rfl) ?_
    refine ewl_run rfl (rn_add rfl rfl ⟨by omega, by omega⟩) ?_
    refine ewl_run rfl (rn_assign rfl) ?_
    refine ewl_nil ?_
    refine lp_n (194 + r - (k + 1)) (upd (upd (upd (upd (upd SW.e0 0 (.int .i64 (195 + (r : Int)))) 1 (.int .i64 (x : Int))) 5 (S (dpS (k + 1)))) 6 (S (dpC (k + 1)))) 7 (.int .i64 (((k + 1 : Nat) : Int) + 1))) (by have := of_decide_eq_true h1; omega) (le_upd (le_upd (le_upd (le_upd (le_upd (le_e0 _) rfl) rfl) rfl) rfl) rfl) ⟨k + 1, rfl, rfl, rfl, by have := of_decide_eq_true h1; omega, hX⟩
  · -- False
    refine ewp_exit ?_
    refine thn_e ?_
    refine lp_e ?_
    refine blk_e ?_
    refine thn_n ?_
    refine ewp_seq ?_
    refine ewp_seq ?_
    obtain rfl : k = 194 + r := by have := of_decide_eq_false h1; omega
    refine ewp_reg ?_
    refine ewl_run rfl (rn_move rfl) ?_
    refine ewl_nil ?_
    refine thn_n ?_
    refine ewp_block ?_
    refine ewp_seq ?_
    refine ewp_reg ?_
    refine ewl_run rfl (rn_eqI rfl rfl) ?_
    refine ewl_run rfl (rn_assign rfl) ?_
    refine ewl_nil ?_
    refine thn_n ?_
    refine ewp_if rfl (fun h2 => ?_) (fun h2 => ?_)
    · -- True
      obtain rfl : x = 1 := by have := (beq_iff_eq).1 h2; omega
      refine ewp_reg ?_
      refine ewl_run rfl (rn_move rfl) ?_
      refine ewl_run rfl (rn_addS rfl rfl (by simp only [List.length_cons, List.length_nil, List.length_append, List.length_take]; omega)) ?_
      refine ewl_run rfl (rn_assign rfl) ?_
      refine ewl_nil ?_
      refine blk_n ?_
      refine thn_n ?_
      refine ewp_seq ?_
      refine ewp_reg ?_
      refine ewl_run rfl (rn_move rfl) ?_
      refine ewl_run rfl (rn_addS rfl rfl (by simp only [List.length_cons, List.length_nil, List.length_append, List.length_take]; omega)) ?_
      refine ewl_run rfl (rn_addS rfl rfl (by simp only [List.length_cons, List.length_nil, List.length_append, List.length_take]; omega)) ?_
      refine ewl_run rfl (rn_move rfl) ?_
      refine ewl_run rfl (rn_addS rfl rfl (by simp only [List.length_cons, List.length_nil, List.length_append, List.length_take]; omega)) ?_
      refine ewl_ret rfl (en_call ent9 rfl rfl) (program_eq _ (hG.ext hX) _ (dpT (194 + r) 1) (rfl)) ?_
      rintro _ w1 ⟨ra1, rc1, rfl, hN1, hE1⟩
      replace hX := hX.trans hE1
      have sz1 := hE1.size
      refine ewl_run rfl (rn_move rfl) ?_
      refine ewl_run rfl (rn_exs rfl rfl) ?_
      refine ewl_run rfl (rn_exs rfl rfl) ?_
      refine ewl_run rfl (rn_exs rfl rfl) ?_
      refine ewl_alloc rfl zr25 fun b1 w2 hb1 hE2 hs1 hz1 => ?_
      replace hX := hX.trans hE2
      refine ewl_run rfl (rn_assign rfl) ?_
      refine ewl_store rfl rfl rfl ti25 rfl hb1 rfl rfl fun w3 hb2 hC1 => ?_
      replace hX := hX.chg hC1 (by omega)
      have sz2 := hC1.size
      refine ewl_run rfl (rn_assign rfl) ?_
      refine ewl_nil ?_
      refine thn_n ?_
      refine ewp_seq ?_
      refine ewp_seq ?_
      have hok := dp_ok (k := 194 + r) (e := 1) (by omega) (by omega) (by omega)
      rw [dpOk, Bool.and_eq_true] at hok
      obtain ⟨hq1, hq2⟩ := hok
      replace hq1 := (beq_iff_eq).1 hq1
      rcases Nat.lt_or_ge r 6 with hr6 | hr6
      · -- no deeper than 200
        have h58 : decide ((195 + (r : Int)) ≤ 200) = true := by simp; omega
        have h77 : decide ((200 : Int) < 195 + (r : Int)) = false := by simp; omega
        have hE : ((progS (dpT (194 + r) 1)).2.2.2 == 0) = false := by rw [hq1, show Nat.ble (194 + r) 199 = true by rw [Nat.ble_eq]; omega]; rfl
        rw [hE, Bool.false_or, Bool.and_eq_true, Bool.and_eq_true] at hq2
        obtain ⟨hq10, hqL, hqC⟩ := hq2
        replace hq10 := (beq_iff_eq).1 hq10
        replace hqL := (beq_iff_eq).1 hqL
        replace hqC := (beq_iff_eq).1 hqC
        refine ewp_reg ?_
        refine ewl_ret rfl (en_call ent8 rfl rfl) (parses_spec _ (hG.ext hX)) ?_
        rintro _ w4 ⟨rfl, hE3⟩
        replace hb2 := hb2.ext hE3
        replace hX := hX.trans hE3
        have sz3 := hE3.size
        refine ewl_run rfl (rn_nott rfl rfl) ?_
        refine ewl_run rfl (rn_move rfl) ?_
        refine ewl_grd rfl rfl rfl ?_
        refine ewl_run rfl (rn_move rfl) ?_
        refine ewl_grd rfl rfl rfl ?_
        refine ewl_run rfl (rn_eqI rfl rfl) ?_
        refine ewl_grd rfl rfl rfl ?_
        refine ewl_run rfl (rn_move rfl) ?_
        refine ewl_grd rfl rfl rfl ?_
        refine ewl_run rfl (rn_leI rfl rfl) ?_
        refine ewl_grd rfl rfl rfl ?_
        refine ewl_run rfl (rn_move rfl) ?_
        refine ewl_grd rfl rfl h58 ?_
        refine ewl_run rfl (rn_move rfl) ?_
        refine ewl_grd rfl rfl h58 ?_
        refine ewl_run rfl (rn_eqI rfl rfl) ?_
        refine ewl_grd rfl rfl rfl ?_
        refine ewl_run rfl (rn_pickt rfl h58 rfl) ?_
        refine ewl_grd rfl rfl rfl ?_
        refine ewl_run rfl (rn_neB un4 rfl rfl) ?_
        refine ewl_run rfl (rn_pickf rfl rfl rfl) ?_
        refine ewl_run rfl (rn_move rfl) ?_
        refine ewl_grd rfl rfl (by rw [hE]; rfl) ?_
        refine ewl_run rfl (rn_move rfl) ?_
        refine ewl_grd rfl rfl (by rw [hE]; rfl) ?_
        refine ewl_run rfl (rn_neI rfl rfl) ?_
        refine ewl_grd rfl rfl (by rw [hE]; rfl) ?_
        refine ewl_run rfl (rn_move rfl) ?_
        refine ewl_grd rfl rfl (by rw [bne, hE]; try rfl) ?_
        refine ewl_run rfl (rn_move rfl) ?_
        refine ewl_grd rfl rfl (by rw [bne, hE]; try rfl) ?_
        refine ewl_run rfl (rn_neI rfl rfl) ?_
        refine ewl_grd rfl rfl (by rw [hE]; rfl) ?_
        refine ewl_run rfl (rn_pickt rfl (by rw [bne, hE]; try rfl) rfl) ?_
        refine ewl_run rfl (rn_pickf rfl (by rw [hE]; rfl) rfl) ?_
        refine ewl_nil ?_
        refine thn_n ?_
        refine ewp_iff rfl (by rw [hq10]; rfl) ?_
        refine ewp_skip ?_
        refine thn_n ?_
        refine ewp_seq ?_
        refine ewp_seq ?_
        refine ewp_reg ?_
        refine ewl_run rfl (rn_move rfl) ?_
        refine ewl_run rfl (rn_eqI rfl rfl) ?_
        refine ewl_nil ?_
        refine thn_n ?_
        refine ewp_iff rfl hE ?_
        refine ewp_skip ?_
        refine thn_n ?_
        refine ewp_seq ?_
        refine ewp_reg ?_
        refine ewl_run rfl (rn_build rfl pl25 zr25 rfl) ?_
        refine ewl_alloc rfl zr25 fun b2 w5 hb3 hE4 hs2 hz2 => ?_
        replace hb2 := hb2.ext hE4
        replace hX := hX.trans hE4
        refine ewl_store rfl rfl rfl ti25 rfl hb3 rfl rfl fun w6 hb4 hC2 => ?_
        replace hb2 := hb2.chg hC2 (by omega)
        replace hX := hX.chg hC2 (by omega)
        have sz4 := hC2.size
        refine ewl_nil ?_
        refine thn_n ?_
        refine ewp_seq ?_
        refine ewp_seq ?_
        refine ewp_reg ?_
        refine ewl_run rfl (rn_move rfl) ?_
        refine ewl_run rfl (rn_gtI rfl rfl) ?_
        refine ewl_nil ?_
        refine thn_n ?_
        refine ewp_iff rfl h77 ?_
        refine ewp_seq ?_
        refine ewp_reg ?_
        refine ewl_run rfl (rn_move rfl) ?_
        refine ewl_run rfl (rn_eqI rfl rfl) ?_
        refine ewl_nil ?_
        refine thn_n ?_
        refine ewp_ift rfl rfl ?_
        refine ewp_reg ?_
        refine ewl_run rfl (rn_move rfl) ?_
        refine ewl_run rfl (rn_lenS rfl un9) ?_
        refine ewl_run rfl (rn_add rfl rfl ⟨by omega, by omega⟩) ?_
        refine ewl_run rfl (rn_move rfl) ?_
        refine ewl_run rfl (rn_lenS rfl un9) ?_
        refine ewl_run rfl (rn_add rfl rfl ⟨by simp only [List.length_append, List.length_cons, List.length_nil]; omega, by simp only [List.length_append, List.length_cons, List.length_nil]; omega⟩) ?_
        refine ewl_run rfl (rn_fa rfl fl25_1) ?_
        refine ewl_store rfl rfl rfl ti3 rfl hb4 rfl rfl fun w7 hb5 hC3 => ?_
        replace hb2 := hb2.chg hC3 (by omega)
        replace hX := hX.chg hC3 (by omega)
        have sz5 := hC3.size
        refine ewl_nil ?_
        refine thn_n ?_
        refine ewp_seq ?_
        refine ewp_reg ?_
        refine ewl_run rfl (rn_loada rfl ti25 hb2 rfl) ?_
        refine ewl_run rfl (rn_loada rfl ti25 hb5 rfl) ?_
        refine ewl_run rfl (rn_eqPos pos25 rfl rfl) ?_
        refine ewl_run rfl (rn_assign rfl) ?_
        refine ewl_nil ?_
        refine thn_n ?_
        refine ewp_ret ?_
        refine fn_r (resv rfl (rv_tmp rfl)) ?_
        have hcol : ((dpCol (194 + r) 1 : Nat) : Int) = (((dpS (194 + r)).length : Int) + 1 + ((dpC (194 + r) ++ [41]).length : Int)) := by rw [dpCol, if_neg (by rw [Nat.ble_eq]; omega)]; simp only [show ((1 : Nat) == 1) = true from rfl, if_true, dpE]; simp
        exact ⟨congrArg Value.bool (by rw [hqL, hqC, hcol]; simp), hX⟩
      · -- too deep
        have h58 : decide ((195 + (r : Int)) ≤ 200) = false := by simp; omega
        have h77 : decide ((200 : Int) < 195 + (r : Int)) = true := by simp; omega
        have hE : ((progS (dpT (194 + r) 1)).2.2.2 == 0) = false := by rw [hq1, show Nat.ble (194 + r) 199 = false by rw [Bool.eq_false_iff, ne_eq, Nat.ble_eq]; omega]; rfl
        rw [hE, Bool.false_or, Bool.and_eq_true, Bool.and_eq_true] at hq2
        obtain ⟨hq10, hqL, hqC⟩ := hq2
        replace hq10 := (beq_iff_eq).1 hq10
        replace hqL := (beq_iff_eq).1 hqL
        replace hqC := (beq_iff_eq).1 hqC
        refine ewp_reg ?_
        refine ewl_ret rfl (en_call ent8 rfl rfl) (parses_spec _ (hG.ext hX)) ?_
        rintro _ w8 ⟨rfl, hE5⟩
        replace hb2 := hb2.ext hE5
        replace hX := hX.trans hE5
        have sz6 := hE5.size
        refine ewl_run rfl (rn_nott rfl rfl) ?_
        refine ewl_run rfl (rn_move rfl) ?_
        refine ewl_grd rfl rfl rfl ?_
        refine ewl_run rfl (rn_move rfl) ?_
        refine ewl_grd rfl rfl rfl ?_
        refine ewl_run rfl (rn_eqI rfl rfl) ?_
        refine ewl_grd rfl rfl rfl ?_
        refine ewl_run rfl (rn_move rfl) ?_
        refine ewl_grd rfl rfl rfl ?_
        refine ewl_run rfl (rn_leI rfl rfl) ?_
        refine ewl_grd rfl rfl rfl ?_
        refine ewl_run rfl (rn_move rfl) ?_
        refine ewl_off rfl rfl rfl h58 ?_
        refine ewl_off rfl rfl rfl h58 ?_
        refine ewl_grd rfl rfl rfl ?_
        refine ewl_run rfl (rn_pickf rfl h58 rfl) ?_
        refine ewl_grd rfl rfl rfl ?_
        refine ewl_run rfl (rn_neB un4 rfl rfl) ?_
        refine ewl_run rfl (rn_pickf rfl rfl rfl) ?_
        refine ewl_run rfl (rn_move rfl) ?_
        refine ewl_grd rfl rfl (by rw [hE]; rfl) ?_
        refine ewl_run rfl (rn_move rfl) ?_
        refine ewl_grd rfl rfl (by rw [hE]; rfl) ?_
        refine ewl_run rfl (rn_neI rfl rfl) ?_
        refine ewl_grd rfl rfl (by rw [hE]; rfl) ?_
        refine ewl_run rfl (rn_move rfl) ?_
        refine ewl_grd rfl rfl (by rw [bne, hE]; try rfl) ?_
        refine ewl_run rfl (rn_move rfl) ?_
        refine ewl_grd rfl rfl (by rw [bne, hE]; try rfl) ?_
        refine ewl_run rfl (rn_neI rfl rfl) ?_
        refine ewl_grd rfl rfl (by rw [hE]; rfl) ?_
        refine ewl_run rfl (rn_pickt rfl (by rw [bne, hE]; try rfl) rfl) ?_
        refine ewl_run rfl (rn_pickf rfl (by rw [hE]; rfl) rfl) ?_
        refine ewl_nil ?_
        refine thn_n ?_
        refine ewp_iff rfl (by rw [hq10]; rfl) ?_
        refine ewp_skip ?_
        refine thn_n ?_
        refine ewp_seq ?_
        refine ewp_seq ?_
        refine ewp_reg ?_
        refine ewl_run rfl (rn_move rfl) ?_
        refine ewl_run rfl (rn_eqI rfl rfl) ?_
        refine ewl_nil ?_
        refine thn_n ?_
        refine ewp_iff rfl hE ?_
        refine ewp_skip ?_
        refine thn_n ?_
        refine ewp_seq ?_
        refine ewp_reg ?_
        refine ewl_run rfl (rn_build rfl pl25 zr25 rfl) ?_
        refine ewl_alloc rfl zr25 fun b3 w9 hb6 hE6 hs3 hz3 => ?_
        replace hb2 := hb2.ext hE6
        replace hX := hX.trans hE6
        refine ewl_store rfl rfl rfl ti25 rfl hb6 rfl rfl fun w10 hb7 hC4 => ?_
        replace hb2 := hb2.chg hC4 (by omega)
        replace hX := hX.chg hC4 (by omega)
        have sz7 := hC4.size
        refine ewl_nil ?_
        refine thn_n ?_
        refine ewp_seq ?_
        refine ewp_seq ?_
        refine ewp_reg ?_
        refine ewl_run rfl (rn_move rfl) ?_
        refine ewl_run rfl (rn_gtI rfl rfl) ?_
        refine ewl_nil ?_
        refine thn_n ?_
        refine ewp_ift rfl h77 ?_
        refine ewp_reg ?_
        refine ewl_run rfl (rn_fa rfl fl25_1) ?_
        refine ewl_store rfl rfl rfl ti3 rfl hb7 rfl rfl fun w11 hb8 hC5 => ?_
        replace hb2 := hb2.chg hC5 (by omega)
        replace hX := hX.chg hC5 (by omega)
        have sz8 := hC5.size
        refine ewl_nil ?_
        refine thn_n ?_
        refine ewp_seq ?_
        refine ewp_reg ?_
        refine ewl_run rfl (rn_loada rfl ti25 hb2 rfl) ?_
        refine ewl_run rfl (rn_loada rfl ti25 hb8 rfl) ?_
        refine ewl_run rfl (rn_eqPos pos25 rfl rfl) ?_
        refine ewl_run rfl (rn_assign rfl) ?_
        refine ewl_nil ?_
        refine thn_n ?_
        refine ewp_ret ?_
        refine fn_r (resv rfl (rv_tmp rfl)) ?_
        have hcol : ((dpCol (194 + r) 1 : Nat) : Int) = 1000 := by rw [dpCol, if_pos (by rw [Nat.ble_eq]; omega)]; rfl
        exact ⟨congrArg Value.bool (by rw [hqL, hqC, hcol]; simp), hX⟩
    · -- False
      refine ewp_seq ?_
      refine ewp_reg ?_
      refine ewl_run rfl (rn_eqI rfl rfl) ?_
      refine ewl_run rfl (rn_assign rfl) ?_
      refine ewl_nil ?_
      refine thn_n ?_
      refine ewp_if rfl (fun h3 => ?_) (fun h3 => ?_)
      · -- True
        obtain rfl : x = 2 := by have := (beq_iff_eq).1 h3; omega
        refine ewp_reg ?_
        refine ewl_run rfl (rn_move rfl) ?_
        refine ewl_run rfl (rn_move rfl) ?_
        refine ewl_run rfl (rn_lenS rfl un9) ?_
        refine ewl_run rfl (rn_sub rfl rfl ⟨by omega, by omega⟩) ?_
        refine ewl_run rfl (rn_slSto rfl rfl un9 ⟨by omega, by omega⟩) ?_
        refine ewl_run rfl (rn_assign rfl) ?_
        refine ewl_nil ?_
        refine blk_n ?_
        refine thn_n ?_
        refine ewp_seq ?_
        refine ewp_reg ?_
        refine ewl_run rfl (rn_move rfl) ?_
        refine ewl_run rfl (rn_addS rfl rfl (by simp only [List.length_cons, List.length_nil, List.length_append, List.length_take]; omega)) ?_
        refine ewl_run rfl (rn_addS rfl rfl (by simp only [List.length_cons, List.length_nil, List.length_append, List.length_take]; omega)) ?_
        refine ewl_run rfl (rn_move rfl) ?_
        refine ewl_run rfl (rn_addS rfl rfl (by simp only [List.length_cons, List.length_nil, List.length_append, List.length_take]; omega)) ?_
        refine ewl_ret rfl (en_call ent9 rfl rfl) (program_eq _ (hG.ext hX) _ (dpT (194 + r) 2) (by rw [dpT, dpE]; simp only [show ((2 : Nat) == 1) = false from rfl, show ((2 : Nat) == 2) = true from rfl, Bool.false_eq_true, if_false, if_true]; rw [show (((dpC (194 + r)).length : Int) - 1).toNat = (dpC (194 + r)).length - 1 by omega])) ?_
        rintro _ w12 ⟨ra2, rc2, rfl, hN2, hE7⟩
        replace hX := hX.trans hE7
        have sz9 := hE7.size
        refine ewl_run rfl (rn_move rfl) ?_
        refine ewl_run rfl (rn_exs rfl rfl) ?_
        refine ewl_run rfl (rn_exs rfl rfl) ?_
        refine ewl_run rfl (rn_exs rfl rfl) ?_
        refine ewl_alloc rfl zr25 fun b4 w13 hb9 hE8 hs4 hz4 => ?_
        replace hX := hX.trans hE8
        refine ewl_run rfl (rn_assign rfl) ?_
        refine ewl_store rfl rfl rfl ti25 rfl hb9 rfl rfl fun w14 hb10 hC6 => ?_
        replace hX := hX.chg hC6 (by omega)
        have sz10 := hC6.size
        refine ewl_run rfl (rn_assign rfl) ?_
        refine ewl_nil ?_
        refine thn_n ?_
        refine ewp_seq ?_
        refine ewp_seq ?_
        have hok := dp_ok (k := 194 + r) (e := 2) (by omega) (by omega) (by omega)
        rw [dpOk, Bool.and_eq_true] at hok
        obtain ⟨hq1, hq2⟩ := hok
        replace hq1 := (beq_iff_eq).1 hq1
        rcases Nat.lt_or_ge r 6 with hr6 | hr6
        · -- no deeper than 200
          have h58 : decide ((195 + (r : Int)) ≤ 200) = true := by simp; omega
          have h77 : decide ((200 : Int) < 195 + (r : Int)) = false := by simp; omega
          have hE : ((progS (dpT (194 + r) 2)).2.2.2 == 0) = false := by rw [hq1, show Nat.ble (194 + r) 199 = true by rw [Nat.ble_eq]; omega]; rfl
          rw [hE, Bool.false_or, Bool.and_eq_true, Bool.and_eq_true] at hq2
          obtain ⟨hq10, hqL, hqC⟩ := hq2
          replace hq10 := (beq_iff_eq).1 hq10
          replace hqL := (beq_iff_eq).1 hqL
          replace hqC := (beq_iff_eq).1 hqC
          refine ewp_reg ?_
          refine ewl_ret rfl (en_call ent8 rfl rfl) (parses_spec _ (hG.ext hX)) ?_
          rintro _ w15 ⟨rfl, hE9⟩
          replace hb10 := hb10.ext hE9
          replace hX := hX.trans hE9
          have sz11 := hE9.size
          refine ewl_run rfl (rn_nott rfl rfl) ?_
          refine ewl_run rfl (rn_move rfl) ?_
          refine ewl_grd rfl rfl rfl ?_
          refine ewl_run rfl (rn_move rfl) ?_
          refine ewl_grd rfl rfl rfl ?_
          refine ewl_run rfl (rn_eqI rfl rfl) ?_
          refine ewl_grd rfl rfl rfl ?_
          refine ewl_run rfl (rn_move rfl) ?_
          refine ewl_grd rfl rfl rfl ?_
          refine ewl_run rfl (rn_leI rfl rfl) ?_
          refine ewl_grd rfl rfl rfl ?_
          refine ewl_run rfl (rn_move rfl) ?_
          refine ewl_grd rfl rfl h58 ?_
          refine ewl_run rfl (rn_move rfl) ?_
          refine ewl_grd rfl rfl h58 ?_
          refine ewl_run rfl (rn_eqI rfl rfl) ?_
          refine ewl_grd rfl rfl rfl ?_
          refine ewl_run rfl (rn_pickt rfl h58 rfl) ?_
          refine ewl_grd rfl rfl rfl ?_
          refine ewl_run rfl (rn_neB un4 rfl rfl) ?_
          refine ewl_run rfl (rn_pickf rfl rfl rfl) ?_
          refine ewl_run rfl (rn_move rfl) ?_
          refine ewl_grd rfl rfl (by rw [hE]; rfl) ?_
          refine ewl_run rfl (rn_move rfl) ?_
          refine ewl_grd rfl rfl (by rw [hE]; rfl) ?_
          refine ewl_run rfl (rn_neI rfl rfl) ?_
          refine ewl_grd rfl rfl (by rw [hE]; rfl) ?_
          refine ewl_run rfl (rn_move rfl) ?_
          refine ewl_grd rfl rfl (by rw [bne, hE]; try rfl) ?_
          refine ewl_run rfl (rn_move rfl) ?_
          refine ewl_grd rfl rfl (by rw [bne, hE]; try rfl) ?_
          refine ewl_run rfl (rn_neI rfl rfl) ?_
          refine ewl_grd rfl rfl (by rw [hE]; rfl) ?_
          refine ewl_run rfl (rn_pickt rfl (by rw [bne, hE]; try rfl) rfl) ?_
          refine ewl_run rfl (rn_pickf rfl (by rw [hE]; rfl) rfl) ?_
          refine ewl_nil ?_
          refine thn_n ?_
          refine ewp_iff rfl (by rw [hq10]; rfl) ?_
          refine ewp_skip ?_
          refine thn_n ?_
          refine ewp_seq ?_
          refine ewp_seq ?_
          refine ewp_reg ?_
          refine ewl_run rfl (rn_move rfl) ?_
          refine ewl_run rfl (rn_eqI rfl rfl) ?_
          refine ewl_nil ?_
          refine thn_n ?_
          refine ewp_iff rfl hE ?_
          refine ewp_skip ?_
          refine thn_n ?_
          refine ewp_seq ?_
          refine ewp_reg ?_
          refine ewl_run rfl (rn_build rfl pl25 zr25 rfl) ?_
          refine ewl_alloc rfl zr25 fun b5 w16 hb11 hE10 hs5 hz5 => ?_
          replace hb10 := hb10.ext hE10
          replace hX := hX.trans hE10
          refine ewl_store rfl rfl rfl ti25 rfl hb11 rfl rfl fun w17 hb12 hC7 => ?_
          replace hb10 := hb10.chg hC7 (by omega)
          replace hX := hX.chg hC7 (by omega)
          have sz12 := hC7.size
          refine ewl_nil ?_
          refine thn_n ?_
          refine ewp_seq ?_
          refine ewp_seq ?_
          refine ewp_reg ?_
          refine ewl_run rfl (rn_move rfl) ?_
          refine ewl_run rfl (rn_gtI rfl rfl) ?_
          refine ewl_nil ?_
          refine thn_n ?_
          refine ewp_iff rfl h77 ?_
          refine ewp_seq ?_
          refine ewp_reg ?_
          refine ewl_run rfl (rn_move rfl) ?_
          refine ewl_run rfl (rn_eqI rfl rfl) ?_
          refine ewl_nil ?_
          refine thn_n ?_
          refine ewp_iff rfl rfl ?_
          refine ewp_skip ?_
          refine thn_n ?_
          refine ewp_seq ?_
          refine ewp_reg ?_
          refine ewl_run rfl (rn_loada rfl ti25 hb10 rfl) ?_
          refine ewl_run rfl (rn_loada rfl ti25 hb12 rfl) ?_
          refine ewl_run rfl (rn_eqPos pos25 rfl rfl) ?_
          refine ewl_run rfl (rn_assign rfl) ?_
          refine ewl_nil ?_
          refine thn_n ?_
          refine ewp_ret ?_
          refine fn_r (resv rfl (rv_tmp rfl)) ?_
          have hcol : ((dpCol (194 + r) 2 : Nat) : Int) = 1 := by rw [dpCol, if_neg (by rw [Nat.ble_eq]; omega)]; rfl
          exact ⟨congrArg Value.bool (by rw [hqL, hqC, hcol]; simp), hX⟩
        · -- too deep
          have h58 : decide ((195 + (r : Int)) ≤ 200) = false := by simp; omega
          have h77 : decide ((200 : Int) < 195 + (r : Int)) = true := by simp; omega
          have hE : ((progS (dpT (194 + r) 2)).2.2.2 == 0) = false := by rw [hq1, show Nat.ble (194 + r) 199 = false by rw [Bool.eq_false_iff, ne_eq, Nat.ble_eq]; omega]; rfl
          rw [hE, Bool.false_or, Bool.and_eq_true, Bool.and_eq_true] at hq2
          obtain ⟨hq10, hqL, hqC⟩ := hq2
          replace hq10 := (beq_iff_eq).1 hq10
          replace hqL := (beq_iff_eq).1 hqL
          replace hqC := (beq_iff_eq).1 hqC
          refine ewp_reg ?_
          refine ewl_ret rfl (en_call ent8 rfl rfl) (parses_spec _ (hG.ext hX)) ?_
          rintro _ w18 ⟨rfl, hE11⟩
          replace hb10 := hb10.ext hE11
          replace hX := hX.trans hE11
          have sz13 := hE11.size
          refine ewl_run rfl (rn_nott rfl rfl) ?_
          refine ewl_run rfl (rn_move rfl) ?_
          refine ewl_grd rfl rfl rfl ?_
          refine ewl_run rfl (rn_move rfl) ?_
          refine ewl_grd rfl rfl rfl ?_
          refine ewl_run rfl (rn_eqI rfl rfl) ?_
          refine ewl_grd rfl rfl rfl ?_
          refine ewl_run rfl (rn_move rfl) ?_
          refine ewl_grd rfl rfl rfl ?_
          refine ewl_run rfl (rn_leI rfl rfl) ?_
          refine ewl_grd rfl rfl rfl ?_
          refine ewl_run rfl (rn_move rfl) ?_
          refine ewl_off rfl rfl rfl h58 ?_
          refine ewl_off rfl rfl rfl h58 ?_
          refine ewl_grd rfl rfl rfl ?_
          refine ewl_run rfl (rn_pickf rfl h58 rfl) ?_
          refine ewl_grd rfl rfl rfl ?_
          refine ewl_run rfl (rn_neB un4 rfl rfl) ?_
          refine ewl_run rfl (rn_pickf rfl rfl rfl) ?_
          refine ewl_run rfl (rn_move rfl) ?_
          refine ewl_grd rfl rfl (by rw [hE]; rfl) ?_
          refine ewl_run rfl (rn_move rfl) ?_
          refine ewl_grd rfl rfl (by rw [hE]; rfl) ?_
          refine ewl_run rfl (rn_neI rfl rfl) ?_
          refine ewl_grd rfl rfl (by rw [hE]; rfl) ?_
          refine ewl_run rfl (rn_move rfl) ?_
          refine ewl_grd rfl rfl (by rw [bne, hE]; try rfl) ?_
          refine ewl_run rfl (rn_move rfl) ?_
          refine ewl_grd rfl rfl (by rw [bne, hE]; try rfl) ?_
          refine ewl_run rfl (rn_neI rfl rfl) ?_
          refine ewl_grd rfl rfl (by rw [hE]; rfl) ?_
          refine ewl_run rfl (rn_pickt rfl (by rw [bne, hE]; try rfl) rfl) ?_
          refine ewl_run rfl (rn_pickf rfl (by rw [hE]; rfl) rfl) ?_
          refine ewl_nil ?_
          refine thn_n ?_
          refine ewp_iff rfl (by rw [hq10]; rfl) ?_
          refine ewp_skip ?_
          refine thn_n ?_
          refine ewp_seq ?_
          refine ewp_seq ?_
          refine ewp_reg ?_
          refine ewl_run rfl (rn_move rfl) ?_
          refine ewl_run rfl (rn_eqI rfl rfl) ?_
          refine ewl_nil ?_
          refine thn_n ?_
          refine ewp_iff rfl hE ?_
          refine ewp_skip ?_
          refine thn_n ?_
          refine ewp_seq ?_
          refine ewp_reg ?_
          refine ewl_run rfl (rn_build rfl pl25 zr25 rfl) ?_
          refine ewl_alloc rfl zr25 fun b6 w19 hb13 hE12 hs6 hz6 => ?_
          replace hb10 := hb10.ext hE12
          replace hX := hX.trans hE12
          refine ewl_store rfl rfl rfl ti25 rfl hb13 rfl rfl fun w20 hb14 hC8 => ?_
          replace hb10 := hb10.chg hC8 (by omega)
          replace hX := hX.chg hC8 (by omega)
          have sz14 := hC8.size
          refine ewl_nil ?_
          refine thn_n ?_
          refine ewp_seq ?_
          refine ewp_seq ?_
          refine ewp_reg ?_
          refine ewl_run rfl (rn_move rfl) ?_
          refine ewl_run rfl (rn_gtI rfl rfl) ?_
          refine ewl_nil ?_
          refine thn_n ?_
          refine ewp_ift rfl h77 ?_
          refine ewp_reg ?_
          refine ewl_run rfl (rn_fa rfl fl25_1) ?_
          refine ewl_store rfl rfl rfl ti3 rfl hb14 rfl rfl fun w21 hb15 hC9 => ?_
          replace hb10 := hb10.chg hC9 (by omega)
          replace hX := hX.chg hC9 (by omega)
          have sz15 := hC9.size
          refine ewl_nil ?_
          refine thn_n ?_
          refine ewp_seq ?_
          refine ewp_reg ?_
          refine ewl_run rfl (rn_loada rfl ti25 hb10 rfl) ?_
          refine ewl_run rfl (rn_loada rfl ti25 hb15 rfl) ?_
          refine ewl_run rfl (rn_eqPos pos25 rfl rfl) ?_
          refine ewl_run rfl (rn_assign rfl) ?_
          refine ewl_nil ?_
          refine thn_n ?_
          refine ewp_ret ?_
          refine fn_r (resv rfl (rv_tmp rfl)) ?_
          have hcol : ((dpCol (194 + r) 2 : Nat) : Int) = 1000 := by rw [dpCol, if_pos (by rw [Nat.ble_eq]; omega)]; rfl
          exact ⟨congrArg Value.bool (by rw [hqL, hqC, hcol]; simp), hX⟩
      · -- False
        refine ewp_skip ?_
        refine blk_n ?_
        refine thn_n ?_
        refine ewp_seq ?_
        have h8 : (x : Int) ≠ 1 := by simpa using h2
        have h9 : (x : Int) ≠ 2 := by simpa using h3
        obtain rfl : x = 0 := by omega
        refine ewp_reg ?_
        refine ewl_run rfl (rn_move rfl) ?_
        refine ewl_run rfl (rn_addS rfl rfl (by simp only [List.length_cons, List.length_nil, List.length_append, List.length_take]; omega)) ?_
        refine ewl_run rfl (rn_addS rfl rfl (by simp only [List.length_cons, List.length_nil, List.length_append, List.length_take]; omega)) ?_
        refine ewl_run rfl (rn_move rfl) ?_
        refine ewl_run rfl (rn_addS rfl rfl (by simp only [List.length_cons, List.length_nil, List.length_append, List.length_take]; omega)) ?_
        refine ewl_ret rfl (en_call ent9 rfl rfl) (program_eq _ (hG.ext hX) _ (dpT (194 + r) 0) (rfl)) ?_
        rintro _ w22 ⟨ra3, rc3, rfl, hN3, hE13⟩
        replace hX := hX.trans hE13
        have sz16 := hE13.size
        refine ewl_run rfl (rn_move rfl) ?_
        refine ewl_run rfl (rn_exs rfl rfl) ?_
        refine ewl_run rfl (rn_exs rfl rfl) ?_
        refine ewl_run rfl (rn_exs rfl rfl) ?_
        refine ewl_alloc rfl zr25 fun b7 w23 hb16 hE14 hs7 hz7 => ?_
        replace hX := hX.trans hE14
        refine ewl_run rfl (rn_assign rfl) ?_
        refine ewl_store rfl rfl rfl ti25 rfl hb16 rfl rfl fun w24 hb17 hC10 => ?_
        replace hX := hX.chg hC10 (by omega)
        have sz17 := hC10.size
        refine ewl_run rfl (rn_assign rfl) ?_
        refine ewl_nil ?_
        refine thn_n ?_
        refine ewp_seq ?_
        refine ewp_seq ?_
        have hok := dp_ok (k := 194 + r) (e := 0) (by omega) (by omega) (by omega)
        rw [dpOk, Bool.and_eq_true] at hok
        obtain ⟨hq1, hq2⟩ := hok
        replace hq1 := (beq_iff_eq).1 hq1
        rcases Nat.lt_or_ge r 6 with hr6 | hr6
        · -- no deeper than 200
          have h58 : decide ((195 + (r : Int)) ≤ 200) = true := by simp; omega
          have h77 : decide ((200 : Int) < 195 + (r : Int)) = false := by simp; omega
          have hE : ((progS (dpT (194 + r) 0)).2.2.2 == 0) = true := by rw [hq1, show Nat.ble (194 + r) 199 = true by rw [Nat.ble_eq]; omega]; rfl
          refine ewp_reg ?_
          refine ewl_ret rfl (en_call ent8 rfl rfl) (parses_spec _ (hG.ext hX)) ?_
          rintro _ w25 ⟨rfl, hE15⟩
          replace hb17 := hb17.ext hE15
          replace hX := hX.trans hE15
          have sz18 := hE15.size
          refine ewl_run rfl (rn_nott rfl rfl) ?_
          refine ewl_run rfl (rn_move rfl) ?_
          refine ewl_grd rfl rfl rfl ?_
          refine ewl_run rfl (rn_move rfl) ?_
          refine ewl_grd rfl rfl rfl ?_
          refine ewl_run rfl (rn_eqI rfl rfl) ?_
          refine ewl_grd rfl rfl rfl ?_
          refine ewl_run rfl (rn_move rfl) ?_
          refine ewl_grd rfl rfl rfl ?_
          refine ewl_run rfl (rn_leI rfl rfl) ?_
          refine ewl_grd rfl rfl rfl ?_
          refine ewl_run rfl (rn_move rfl) ?_
          refine ewl_grd rfl rfl h58 ?_
          refine ewl_run rfl (rn_move rfl) ?_
          refine ewl_grd rfl rfl h58 ?_
          refine ewl_run rfl (rn_eqI rfl rfl) ?_
          refine ewl_grd rfl rfl rfl ?_
          refine ewl_run rfl (rn_pickt rfl h58 rfl) ?_
          refine ewl_grd rfl rfl rfl ?_
          refine ewl_run rfl (rn_neB un4 rfl rfl) ?_
          refine ewl_run rfl (rn_pickf rfl rfl rfl) ?_
          refine ewl_run rfl (rn_move rfl) ?_
          refine ewl_grd rfl rfl (by rw [hE]; rfl) ?_
          refine ewl_run rfl (rn_move rfl) ?_
          refine ewl_grd rfl rfl (by rw [hE]; rfl) ?_
          refine ewl_run rfl (rn_neI rfl rfl) ?_
          refine ewl_grd rfl rfl (by rw [hE]; rfl) ?_
          refine ewl_run rfl (rn_move rfl) ?_
          refine ewl_off rfl rfl rfl (by rw [bne, hE]; try rfl) ?_
          refine ewl_off rfl rfl rfl (by rw [bne, hE]; try rfl) ?_
          refine ewl_grd rfl rfl (by rw [hE]; rfl) ?_
          refine ewl_run rfl (rn_pickf rfl (by rw [bne, hE]; try rfl) rfl) ?_
          refine ewl_run rfl (rn_pickf rfl (by rw [hE]; rfl) rfl) ?_
          refine ewl_nil ?_
          refine thn_n ?_
          refine ewp_iff rfl rfl ?_
          refine ewp_skip ?_
          refine thn_n ?_
          refine ewp_seq ?_
          refine ewp_seq ?_
          refine ewp_reg ?_
          refine ewl_run rfl (rn_move rfl) ?_
          refine ewl_run rfl (rn_eqI rfl rfl) ?_
          refine ewl_nil ?_
          refine thn_n ?_
          refine ewp_ift rfl hE ?_
          refine ewp_seq ?_
          refine ewp_reg ?_
          refine ewl_run rfl (rn_assign rfl) ?_
          refine ewl_nil ?_
          refine thn_n ?_
          refine ewp_ret ?_
          refine thn_r ?_
          refine fn_r (resv rfl (rv_tmp rfl)) ?_
          exact ⟨rfl, hX⟩
        · -- too deep
          have h58 : decide ((195 + (r : Int)) ≤ 200) = false := by simp; omega
          have h77 : decide ((200 : Int) < 195 + (r : Int)) = true := by simp; omega
          have hE : ((progS (dpT (194 + r) 0)).2.2.2 == 0) = false := by rw [hq1, show Nat.ble (194 + r) 199 = false by rw [Bool.eq_false_iff, ne_eq, Nat.ble_eq]; omega]; rfl
          rw [hE, Bool.false_or, Bool.and_eq_true, Bool.and_eq_true] at hq2
          obtain ⟨hq10, hqL, hqC⟩ := hq2
          replace hq10 := (beq_iff_eq).1 hq10
          replace hqL := (beq_iff_eq).1 hqL
          replace hqC := (beq_iff_eq).1 hqC
          refine ewp_reg ?_
          refine ewl_ret rfl (en_call ent8 rfl rfl) (parses_spec _ (hG.ext hX)) ?_
          rintro _ w26 ⟨rfl, hE16⟩
          replace hb17 := hb17.ext hE16
          replace hX := hX.trans hE16
          have sz19 := hE16.size
          refine ewl_run rfl (rn_nott rfl rfl) ?_
          refine ewl_run rfl (rn_move rfl) ?_
          refine ewl_grd rfl rfl rfl ?_
          refine ewl_run rfl (rn_move rfl) ?_
          refine ewl_grd rfl rfl rfl ?_
          refine ewl_run rfl (rn_eqI rfl rfl) ?_
          refine ewl_grd rfl rfl rfl ?_
          refine ewl_run rfl (rn_move rfl) ?_
          refine ewl_grd rfl rfl rfl ?_
          refine ewl_run rfl (rn_leI rfl rfl) ?_
          refine ewl_grd rfl rfl rfl ?_
          refine ewl_run rfl (rn_move rfl) ?_
          refine ewl_off rfl rfl rfl h58 ?_
          refine ewl_off rfl rfl rfl h58 ?_
          refine ewl_grd rfl rfl rfl ?_
          refine ewl_run rfl (rn_pickf rfl h58 rfl) ?_
          refine ewl_grd rfl rfl rfl ?_
          refine ewl_run rfl (rn_neB un4 rfl rfl) ?_
          refine ewl_run rfl (rn_pickf rfl rfl rfl) ?_
          refine ewl_run rfl (rn_move rfl) ?_
          refine ewl_grd rfl rfl (by rw [hE]; rfl) ?_
          refine ewl_run rfl (rn_move rfl) ?_
          refine ewl_grd rfl rfl (by rw [hE]; rfl) ?_
          refine ewl_run rfl (rn_neI rfl rfl) ?_
          refine ewl_grd rfl rfl (by rw [hE]; rfl) ?_
          refine ewl_run rfl (rn_move rfl) ?_
          refine ewl_grd rfl rfl (by rw [bne, hE]; try rfl) ?_
          refine ewl_run rfl (rn_move rfl) ?_
          refine ewl_grd rfl rfl (by rw [bne, hE]; try rfl) ?_
          refine ewl_run rfl (rn_neI rfl rfl) ?_
          refine ewl_grd rfl rfl (by rw [hE]; rfl) ?_
          refine ewl_run rfl (rn_pickt rfl (by rw [bne, hE]; try rfl) rfl) ?_
          refine ewl_run rfl (rn_pickf rfl (by rw [hE]; rfl) rfl) ?_
          refine ewl_nil ?_
          refine thn_n ?_
          refine ewp_iff rfl (by rw [hq10]; rfl) ?_
          refine ewp_skip ?_
          refine thn_n ?_
          refine ewp_seq ?_
          refine ewp_seq ?_
          refine ewp_reg ?_
          refine ewl_run rfl (rn_move rfl) ?_
          refine ewl_run rfl (rn_eqI rfl rfl) ?_
          refine ewl_nil ?_
          refine thn_n ?_
          refine ewp_iff rfl hE ?_
          refine ewp_skip ?_
          refine thn_n ?_
          refine ewp_seq ?_
          refine ewp_reg ?_
          refine ewl_run rfl (rn_build rfl pl25 zr25 rfl) ?_
          refine ewl_alloc rfl zr25 fun b8 w27 hb18 hE17 hs8 hz8 => ?_
          replace hb17 := hb17.ext hE17
          replace hX := hX.trans hE17
          refine ewl_store rfl rfl rfl ti25 rfl hb18 rfl rfl fun w28 hb19 hC11 => ?_
          replace hb17 := hb17.chg hC11 (by omega)
          replace hX := hX.chg hC11 (by omega)
          have sz20 := hC11.size
          refine ewl_nil ?_
          refine thn_n ?_
          refine ewp_seq ?_
          refine ewp_seq ?_
          refine ewp_reg ?_
          refine ewl_run rfl (rn_move rfl) ?_
          refine ewl_run rfl (rn_gtI rfl rfl) ?_
          refine ewl_nil ?_
          refine thn_n ?_
          refine ewp_ift rfl h77 ?_
          refine ewp_reg ?_
          refine ewl_run rfl (rn_fa rfl fl25_1) ?_
          refine ewl_store rfl rfl rfl ti3 rfl hb19 rfl rfl fun w29 hb20 hC12 => ?_
          replace hb17 := hb17.chg hC12 (by omega)
          replace hX := hX.chg hC12 (by omega)
          have sz21 := hC12.size
          refine ewl_nil ?_
          refine thn_n ?_
          refine ewp_seq ?_
          refine ewp_reg ?_
          refine ewl_run rfl (rn_loada rfl ti25 hb17 rfl) ?_
          refine ewl_run rfl (rn_loada rfl ti25 hb20 rfl) ?_
          refine ewl_run rfl (rn_eqPos pos25 rfl rfl) ?_
          refine ewl_run rfl (rn_assign rfl) ?_
          refine ewl_nil ?_
          refine thn_n ?_
          refine ewp_ret ?_
          refine fn_r (resv rfl (rv_tmp rfl)) ?_
          have hcol : ((dpCol (194 + r) 0 : Nat) : Int) = 1000 := by rw [dpCol, if_pos (by rw [Nat.ble_eq]; omega)]; rfl
          exact ⟨congrArg Value.bool (by rw [hqL, hqC, hcol]; simp), hX⟩
end Go.Proofs.YthjdnhnbgjgbkaaGreatDoor
namespace Go.Proofs.YthjdnhnbgjgbkaaGreatDoor.Deep
open Go.SW Go.SP Go.RowKit Go.Lib Go.ChangeShapes Go.WideShapes Go.ChangeAt
set_option maxRecDepth 100000 in
theorem contract (H : Type) (enc : TypeId × Value → H) (W : World) (base : Nat) (args : Array Value) (ds gs : List (DataW H)) (before : List MemPlace)
    (hval : ∀ (j : Nat) t v, Tryz.f4.params[j]? = some t → args[j]? = some v → Value.okWide Tryz.prog W .any base t v)
    (hW : DataW.Whole enc Tryz.prog Tryz.f4.params.toList Rows.parseDeepSpec.vars false W args.toList ds gs before) (hL : laidMetH Tryz.prog Rows.parseDeepRow.laid W) (hS : W.ShapedOpen Tryz.prog) :
    Calls Tryz.prog 4 args W fun e W' => ∃ v, e = .returned v ∧ Rows.parseDeepSpec.post enc Tryz.prog Tryz.f4 false true false false W args v W' := by
  have hW' := hW
  obtain ⟨p, q, hA0, hV, rfl, hfz, hnd⟩ := hW
  have hA : DataW.TrodAll enc Tryz.prog W 0 (fun _ => true) true Tryz.f4.params.toList args.toList ds p := hA0
  rw [Tryz.params4] at hA hval
  obtain ⟨v0, vs0, d0, ds0, p0, q0, hargs, rfl, rfl, h0, r0⟩ := trodAll_cons hA
  obtain ⟨v1, vs1, d1, ds1, p1, q1, hargs1, rfl, rfl, h1, r1⟩ := trodAll_cons r0
  obtain ⟨rfl, rfl, rfl⟩ := trodAll_nil r1
  obtain rfl : args = #[v0, v1] := by
    obtain ⟨l⟩ := args
    exact congrArg Array.mk (hargs.trans (congrArg _ hargs1))
  obtain ⟨rfl, rfl⟩ := trodVars_none hV
  obtain ⟨x, rfl, rfl, rfl, wx⟩ := open_int Tryz.underlying3 (hval 0 3 v0 rfl rfl) h0
  obtain ⟨y, rfl, rfl, rfl, wy⟩ := open_int Tryz.underlying3 (hval 1 3 v1 rfl rfl) h1
  clear hA0
  simp only [List.append_nil] at hW'
  refine Calls.mono (deep_spec W (gl_of hL hS) x y) ?_
  rintro e W' ⟨v, rfl, rfl, hb⟩
  exact ⟨_, rfl, _, _, _, [], [], [], hW', trodAll_cons_mk (shut_bool Tryz.underlying4 _) trodAll_mk0, trodAll_cons_mk (shut_int Tryz.underlying3 wx) (trodAll_cons_mk (shut_int Tryz.underlying3 wy) trodAll_mk0), rfl, hb.frame _, fun h => by cases h⟩
noncomputable def lw (os : Os) : World := World.laidAll Tryz.prog os Rows.parseDeepRow.laid
theorem laid_met (os : Os) : laidMetH Tryz.prog Rows.parseDeepRow.laid ((lw os).forCall (fun _ _ => 0) ⟨#[], #[.int .i64 0, .int .i64 0], []⟩).memory := by
  rw [MakeChecks.laidMetH_plain _ _ _ (by kernel_rfl)]
  exact laidMet_laidAll _ (by kernel_rfl) (by kernel_rfl)
theorem reads (os : Os) {H : Type} (enc : TypeId × Value → H) : ∃ places, DataW.whole enc Tryz.prog ((lw os).forCall (fun _ _ => 0) ⟨#[], #[.int .i64 0, .int .i64 0], []⟩).memory Tryz.f4.params.toList Rows.parseDeepSpec.vars false #[Value.int .i64 0, Value.int .i64 0].toList 8 = some ([.lit (.int .i64 0), .lit (.int .i64 0)], [], places) :=
  ⟨[], by kernel_rfl⟩
set_option maxRecDepth 100000 in
theorem lifted (os : Os) (started : os.Started) (H : Type) (enc : TypeId × Value → H) (F : Stop.Interp) :
    ReturnsInHanded {} Tryz.checked os 4 .any ((OpenSpec.ofChange Rows.parseDeepSpec).preRow enc Tryz.prog Tryz.f4 Rows.parseDeepRow.domain false Rows.parseDeepRow.laid) (((OpenSpec.ofChange Rows.parseDeepSpec).at F).post enc Tryz.prog Tryz.f4 false true false false) := by
  obtain ⟨places, hx⟩ := reads os enc
  refine returnsInHanded_of_row (C := Tryz.checked) (s := OpenSpec.ofChange Rows.parseDeepSpec) own started (by kernel_rfl) Tryz.func4
    ⟨lw os, fun _ _ => 0, ⟨#[], #[.int .i64 0, .int .i64 0], []⟩, World.laidAll_os _ _ _, World.shaped_of_ZipB (by kernel_rfl) (by kernel_rfl), rfl, (Input.okWide_of_okWideB (by kernel_rfl)).2,
      OpenSpec.preRow_of_cond 8 hx (by kernel_rfl) (fun k hk => by cases hk) (by kernel_rfl) (laid_met os), by simp [Assume.holds]⟩ ?_
  intro W base args ds gs before hval hW _ _ _ hL hS _
  exact contract H enc W base args ds gs before hval hW hL hS
theorem said : Rows.ParseDeepSaid :=
  OpenClaim.holds_of_cond 4 Tryz.f4 rfl rfl rfl rfl rfl rfl rfl ⟨rfl, rfl, rfl, rfl, rfl⟩ rfl rfl rfl rfl rfl (by kernel_rfl) Tryz.func4 (by kernel_rfl)
    (of_decide_eq_true (by kernel_rfl)) (by unfold Func.isWrapper; first | (rw [if_pos (by decide +kernel)]; kernel_rfl) | (rw [if_neg (by decide +kernel)]; exact ⟨rfl, rfl⟩))
    (fun os started H enc _ F => by rw [OpenClaim.pre_eq_preRow]; exact lifted os started H enc F)
theorem plain (f : FuncId) (fn : Func) (hf : Tryz.pinned.checked.prog.funcNamed Rows.parseDeepRow.func = some f) (hfn : Tryz.pinned.checked.prog.funcs[f]? = some fn) :
    true = Tryz.pinned.checked.prog.looks [] ∧ ∀ (j : Nat) t, fn.params[j]? = some t → Tryz.pinned.checked.prog.wantsStandIn t = false := by
  obtain rfl : f = 4 := Option.some.inj ((show Tryz.prog.funcNamed Rows.parseDeepRow.func = some 4 by kernel_rfl).symm.trans hf) |>.symm
  obtain rfl : fn = Tryz.f4 := (Option.some.inj (Tryz.func4.symm.trans hfn)).symm
  refine ⟨by kernel_rfl, fun j t ht => ?_⟩
  rw [Tryz.params4] at ht
  obtain rfl : t = 3 := by simpa using Array.mem_of_getElem? ht
  exact (show Tryz.prog.wantsStandIn 3 = false by kernel_rfl)
end Go.Proofs.YthjdnhnbgjgbkaaGreatDoor.Deep
namespace Go.Proofs.YthjdnhnbgjgbkaaGreatDoor
theorem deep_card : Rows.ParseDeepCardSaid :=
  Claim7.holds_tied_plain_at .later [] _ _ _ _ Deep.said (fun _ h => by cases h) (by kernel_rfl) (fun _ h => by cases h) parseDeep_row_tie rfl ⟨rfl, rfl⟩ (by kernel_rfl) rfl Deep.plain (by kernel_rfl)
end Go.Proofs.YthjdnhnbgjgbkaaGreatDoor
