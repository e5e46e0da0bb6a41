/- What the laws on parse rest on: contracts of the functions of parse and lex, for every world in which the listed package variables hold what the text lays. Part 5. -/
import Derived.Test.YthjdnhnbgjgbkaaGreatDoorGa4
import Derived.Laws.IdiomStrings
import Derived.Laws.BytesArg
import Derived.Lib.SlTrimSet
import Derived.Lib.Strings
import Derived.Lib.IndexMore
import GoSem.Core.Float
import GoSem.Op.Unary
import GoSem.Op.Equal
import Derived.Lib.ConvBytes
import Derived.Laws.Externs
import Derived.Scope
import Derived.Laws.StructEq
import Derived.Laws.FloatArith
set_option linter.unusedVariables false
set_option linter.unusedSimpArgs false
namespace Go.Proofs.YthjdnhnbgjgbkaaGreatDoor
open Go.SW Go.SP Go.RowKit
def ProgR (w w' : World) (v : Value) (p : Nd × Int × Int × Int) : Prop :=
 ∃ ra rc, v = .tuple #[.slice ra p.1.len rc, .agg #[.int .i64 p.2.1, .int .i64 p.2.2.1], .int .i64 p.2.2.2] ∧ NdS (fun b => w.heap.size ≤ b) w' ra p.1.len rc p.1 ∧ Ext w w'
theorem program_err (n : Nat) (w : World) (hG : Gl w) (src : List UInt8) (e : Int × Int × Int) (hcd : (e.2.2 != 0) = true) (hs : ∀ w1, Gl w1 → Ret Tryz.prog 13 #[S src] w1 fun v w' => v = .tuple #[.slice none 0 0, .agg #[.int .i64 e.1, .int .i64 e.2.1], .int .i64 e.2.2] ∧ Ext w1 w') :
   Ret Tryz.prog 9 #[S src] w fun v w' => ProgR w w' v (progM (n + 1) (.error e)) := by
 have hX := Ext.refl w
 refine enterD (l := [S src]) Tryz.func9 rfl rfl rfl ?_
 refine ewp_seq ?_
 refine ewp_reg ?_
 refine ewl_alloc rfl zr23 fun b1 w1 hb1 hE1 hs1 hz1 => ?_
 replace hX := hX.trans hE1
 refine ewl_alloc rfl zr25 fun b2 w2 hb2 hE2 hs2 hz2 => ?_
 replace hb1 := hb1.ext hE2
 replace hX := hX.trans hE2
 refine ewl_alloc rfl zr26 fun b3 w3 hb3 hE3 hs3 hz3 => ?_
 replace hb1 := hb1.ext hE3
 replace hb2 := hb2.ext hE3
 replace hX := hX.trans hE3
 refine ewl_nil ?_
 refine thn_n ?_
 refine ewp_seq ?_
 refine ewp_reg ?_
 refine ewl_run rfl (rn_move rfl) ?_
 refine ewl_ret rfl (en_call ent13 rfl rfl) (hs _ (hG.ext hX)) ?_
 rintro _ w4 ⟨rfl, hE4⟩
 replace hb1 := hb1.ext hE4
 replace hb2 := hb2.ext hE4
 replace hb3 := hb3.ext hE4
 replace hX := hX.trans hE4
 have sz1 := hE4.size
 refine ewl_run rfl (rn_move rfl) ?_
 refine ewl_run rfl (rn_exs rfl rfl) ?_
 refine ewl_run rfl (rn_exs rfl rfl) ?_
 refine ewl_run rfl (rn_exs rfl rfl) ?_
 refine ewl_run rfl (rn_assign rfl) ?_
 refine ewl_store rfl rfl rfl ti25 rfl hb2 rfl rfl fun w5 hb4 hC1 => ?_
 replace hb1 := hb1.chg hC1 (by omega)
 replace hb3 := hb3.chg hC1 (by omega)
 replace hX := hX.chg hC1 (by omega)
 have sz2 := hC1.size
 refine ewl_store rfl rfl rfl ti26 rfl hb3 rfl rfl fun w6 hb5 hC2 => ?_
 replace hb1 := hb1.chg hC2 (by omega)
 replace hb4 := hb4.chg hC2 (by omega)
 replace hX := hX.chg hC2 (by omega)
 have sz3 := hC2.size
 refine ewl_nil ?_
 refine thn_n ?_
 refine ewp_seq ?_
 refine ewp_seq ?_
 refine ewp_reg ?_
 refine ewl_run rfl (rn_load rfl ti26 hb5 rfl) ?_
 refine ewl_run rfl (rn_neI rfl rfl) ?_
 refine ewl_nil ?_
 refine thn_n ?_
 refine ewp_if rfl (fun h1 => ?_) (fun h1 => ?_)
 refine ewp_seq ?_
 refine ewp_nop ?_
 refine ewp_drawt mixed (Keeps w6 []) (.br 0 (.br 1 (.br 2 (.br 3 (.br 4 .fin .fin) .fin) .fin) (.br 2 (.br 1 (.br 3 (.br 4 .fin .fin) .fin) (.br 3 (.br 1 (.br 4 .fin .fin) .fin) .fin)) .fin)) (.br 1 (.br 0 (.br 2 (.br 3 (.br 4 .fin .fin) .fin) .fin) (.br 2 (.br 0 (.br 3 (.br 4 .fin .fin) .fin) .fin) .fin)) (.br 2 (.br 0 (.br 1 (.br 3 (.br 4 .fin .fin) .fin) (.br 3 (.br 1 (.br 4 .fin .fin) .fin) .fin)) (.br 1 (.br 0 (.br 3 (.br 4 .fin .fin) .fin) .fin) .fin)) .fin))) (by kernel_rfl) (by kernel_rfl) (by kernel_rfl) fun w7 hE5 hz4 => ?_
 have hKp : Keeps w6 [] w7 := Keeps.nil _ _
 refine ⟨hKp, ?_⟩
 replace hb1 := hb1.ext hE5
 replace hb4 := hb4.ext hE5
 replace hb5 := hb5.ext hE5
 replace hX := hX.trans hE5
 refine ewt_br rfl ?_ ?_
 refine ewl_run rfl (rn_loada rfl ti25 hb4 rfl) ?_
 refine ewl_nil (onwt_n hKp ?_)
 refine ewt_br rfl ?_ ?_
 refine ewl_run rfl (rn_load rfl ti26 hb5 rfl) ?_
 refine ewl_nil (onwt_n hKp ?_)
 refine ewt_br rfl ?_ ewt_none
 refine ewl_store rfl rfl rfl ti23 rfl hb1 rfl rfl fun w8 hb6 hC3 => ?_
 replace hb4 := hb4.chg hC3 (by omega)
 replace hb5 := hb5.chg hC3 (by omega)
 replace hX := hX.chg hC3 (by omega)
 replace hKp := hKp.chg hC3 (fun _ h => by cases h)
 have sz4 := hC3.size
 refine ewl_nil (onwt_n hKp ?_)
 refine ewt_br rfl ?_ ewt_none
 refine ewl_store rfl rfl rfl ti25 rfl hb4 rfl rfl fun w9 hb7 hC4 => ?_
 replace hb6 := hb6.chg hC4 (by omega)
 replace hb5 := hb5.chg hC4 (by omega)
 replace hX := hX.chg hC4 (by omega)
 replace hKp := hKp.chg hC4 (fun _ h => by cases h)
 have sz5 := hC4.size
 refine ewl_nil (onwt_n hKp ?_)
 refine ewt_br rfl ?_ ewt_none
 refine ewl_store rfl rfl rfl ti26 rfl hb5 rfl rfl fun w10 hb8 hC5 => ?_
 replace hb6 := hb6.chg hC5 (by omega)
 replace hb7 := hb7.chg hC5 (by omega)
 replace hX := hX.chg hC5 (by omega)
 replace hKp := hKp.chg hC5 (fun _ h => by cases h)
 have sz6 := hC5.size
 refine ewl_nil (onwt_n hKp ?_)
 refine ewt_fin ?_
 refine thn_n ?_
 refine ewp_ret ?_
 refine thn_r ?_
 exact fun tmps hσ => leaves_out hσ (resv3 rfl (rv_cell rfl ti23 hb6 rfl) (rv_cella rfl ti25 hb7 rfl) (rv_cell rfl ti26 hb8 rfl)) ⟨_, rfl, none, 0, rfl, NdS.nil _ _ _ _, hX⟩
 refine ewt_br rfl ?_ ?_
 refine ewl_store rfl rfl rfl ti23 rfl hb1 rfl rfl fun w11 hb9 hC6 => ?_
 replace hb4 := hb4.chg hC6 (by omega)
 replace hb5 := hb5.chg hC6 (by omega)
 replace hX := hX.chg hC6 (by omega)
 replace hKp := hKp.chg hC6 (fun _ h => by cases h)
 have sz7 := hC6.size
 refine ewl_nil (onwt_n hKp ?_)
 refine ewt_br rfl ?_ ?_
 refine ewl_run rfl (rn_load rfl ti26 hb5 rfl) ?_
 refine ewl_nil (onwt_n hKp ?_)
 refine ewt_br rfl ?_ ewt_none
 refine ewl_store rfl rfl rfl ti25 rfl hb4 rfl rfl fun w12 hb10 hC7 => ?_
 replace hb9 := hb9.chg hC7 (by omega)
 replace hb5 := hb5.chg hC7 (by omega)
 replace hX := hX.chg hC7 (by omega)
 replace hKp := hKp.chg hC7 (fun _ h => by cases h)
 have sz8 := hC7.size
 refine ewl_nil (onwt_n hKp ?_)
 refine ewt_br rfl ?_ ewt_none
 refine ewl_store rfl rfl rfl ti26 rfl hb5 rfl rfl fun w13 hb11 hC8 => ?_
 replace hb9 := hb9.chg hC8 (by omega)
 replace hb10 := hb10.chg hC8 (by omega)
 replace hX := hX.chg hC8 (by omega)
 replace hKp := hKp.chg hC8 (fun _ h => by cases h)
 have sz9 := hC8.size
 refine ewl_nil (onwt_n hKp ?_)
 refine ewt_fin ?_
 refine thn_n ?_
 refine ewp_ret ?_
 refine thn_r ?_
 exact fun tmps hσ => leaves_out hσ (resv3 rfl (rv_cell rfl ti23 hb9 rfl) (rv_cella rfl ti25 hb10 rfl) (rv_cell rfl ti26 hb11 rfl)) ⟨_, rfl, none, 0, rfl, NdS.nil _ _ _ _, hX⟩
 refine ewt_br rfl ?_ ?_
 refine ewl_store rfl rfl rfl ti25 rfl hb4 rfl rfl fun w14 hb12 hC9 => ?_
 replace hb9 := hb9.chg hC9 (by omega)
 replace hb5 := hb5.chg hC9 (by omega)
 replace hX := hX.chg hC9 (by omega)
 replace hKp := hKp.chg hC9 (fun _ h => by cases h)
 have sz10 := hC9.size
 refine ewl_nil (onwt_n hKp ?_)
 refine ewt_br rfl ?_ ewt_none
 refine ewl_run rfl (rn_load rfl ti26 hb5 rfl) ?_
 refine ewl_nil (onwt_n hKp ?_)
 refine ewt_br rfl ?_ ewt_none
 refine ewl_store rfl rfl rfl ti26 rfl hb5 rfl rfl fun w15 hb13 hC10 => ?_
 replace hb9 := hb9.chg hC10 (by omega)
 replace hb12 := hb12.chg hC10 (by omega)
 replace hX := hX.chg hC10 (by omega)
 replace hKp := hKp.chg hC10 (fun _ h => by cases h)
 have sz11 := hC10.size
 refine ewl_nil (onwt_n hKp ?_)
 refine ewt_fin ?_
 refine thn_n ?_
 refine ewp_ret ?_
 refine thn_r ?_
 exact fun tmps hσ => leaves_out hσ (resv3 rfl (rv_cell rfl ti23 hb9 rfl) (rv_cella rfl ti25 hb12 rfl) (rv_cell rfl ti26 hb13 rfl)) ⟨_, rfl, none, 0, rfl, NdS.nil _ _ _ _, hX⟩
 exact ewt_none
 exact ewt_none
 refine ewt_br rfl ?_ ?_
 refine ewl_run rfl (rn_load rfl ti26 hb5 rfl) ?_
 refine ewl_nil (onwt_n hKp ?_)
 refine ewt_br rfl ?_ ?_
 refine ewl_run rfl (rn_loada rfl ti25 hb4 rfl) ?_
 refine ewl_nil (onwt_n hKp ?_)
 refine ewt_br rfl ?_ ewt_none
 refine ewl_store rfl rfl rfl ti23 rfl hb1 rfl rfl fun w16 hb14 hC11 => ?_
 replace hb4 := hb4.chg hC11 (by omega)
 replace hb5 := hb5.chg hC11 (by omega)
 replace hX := hX.chg hC11 (by omega)
 replace hKp := hKp.chg hC11 (fun _ h => by cases h)
 have sz12 := hC11.size
 refine ewl_nil (onwt_n hKp ?_)
 refine ewt_br rfl ?_ ewt_none
 refine ewl_store rfl rfl rfl ti25 rfl hb4 rfl rfl fun w17 hb15 hC12 => ?_
 replace hb14 := hb14.chg hC12 (by omega)
 replace hb5 := hb5.chg hC12 (by omega)
 replace hX := hX.chg hC12 (by omega)
 replace hKp := hKp.chg hC12 (fun _ h => by cases h)
 have sz13 := hC12.size
 refine ewl_nil (onwt_n hKp ?_)
 refine ewt_br rfl ?_ ewt_none
 refine ewl_store rfl rfl rfl ti26 rfl hb5 rfl rfl fun w18 hb16 hC13 => ?_
 replace hb14 := hb14.chg hC13 (by omega)
 replace hb15 := hb15.chg hC13 (by omega)
 replace hX := hX.chg hC13 (by omega)
 replace hKp := hKp.chg hC13 (fun _ h => by cases h)
 have sz14 := hC13.size
 refine ewl_nil (onwt_n hKp ?_)
 refine ewt_fin ?_
 refine thn_n ?_
 refine ewp_ret ?_
 refine thn_r ?_
 exact fun tmps hσ => leaves_out hσ (resv3 rfl (rv_cell rfl ti23 hb14 rfl) (rv_cella rfl ti25 hb15 rfl) (rv_cell rfl ti26 hb16 rfl)) ⟨_, rfl, none, 0, rfl, NdS.nil _ _ _ _, hX⟩
 refine ewt_br rfl ?_ ?_
 refine ewl_store rfl rfl rfl ti23 rfl hb1 rfl rfl fun w19 hb17 hC14 => ?_
 replace hb4 := hb4.chg hC14 (by omega)
 replace hb5 := hb5.chg hC14 (by omega)
 replace hX := hX.chg hC14 (by omega)
 replace hKp := hKp.chg hC14 (fun _ h => by cases h)
 have sz15 := hC14.size
 refine ewl_nil (onwt_n hKp ?_)
 refine ewt_br rfl ?_ ewt_none
 refine ewl_run rfl (rn_loada rfl ti25 hb4 rfl) ?_
 refine ewl_nil (onwt_n hKp ?_)
 refine ewt_br rfl ?_ ewt_none
 refine ewl_store rfl rfl rfl ti25 rfl hb4 rfl rfl fun w20 hb18 hC15 => ?_
 replace hb17 := hb17.chg hC15 (by omega)
 replace hb5 := hb5.chg hC15 (by omega)
 replace hX := hX.chg hC15 (by omega)
 replace hKp := hKp.chg hC15 (fun _ h => by cases h)
 have sz16 := hC15.size
 refine ewl_nil (onwt_n hKp ?_)
 refine ewt_br rfl ?_ ewt_none
 refine ewl_store rfl rfl rfl ti26 rfl hb5 rfl rfl fun w21 hb19 hC16 => ?_
 replace hb17 := hb17.chg hC16 (by omega)
 replace hb18 := hb18.chg hC16 (by omega)
 replace hX := hX.chg hC16 (by omega)
 replace hKp := hKp.chg hC16 (fun _ h => by cases h)
 have sz17 := hC16.size
 refine ewl_nil (onwt_n hKp ?_)
 refine ewt_fin ?_
 refine thn_n ?_
 refine ewp_ret ?_
 refine thn_r ?_
 exact fun tmps hσ => leaves_out hσ (resv3 rfl (rv_cell rfl ti23 hb17 rfl) (rv_cella rfl ti25 hb18 rfl) (rv_cell rfl ti26 hb19 rfl)) ⟨_, rfl, none, 0, rfl, NdS.nil _ _ _ _, hX⟩
 exact ewt_none
 refine ewt_br rfl ?_ ?_
 refine ewl_store rfl rfl rfl ti23 rfl hb1 rfl rfl fun w22 hb20 hC17 => ?_
 replace hb4 := hb4.chg hC17 (by omega)
 replace hb5 := hb5.chg hC17 (by omega)
 replace hX := hX.chg hC17 (by omega)
 replace hKp := hKp.chg hC17 (fun _ h => by cases h)
 have sz18 := hC17.size
 refine ewl_nil (onwt_n hKp ?_)
 refine ewt_br rfl ?_ ?_
 refine ewl_run rfl (rn_loada rfl ti25 hb4 rfl) ?_
 refine ewl_nil (onwt_n hKp ?_)
 refine ewt_br rfl ?_ ?_
 refine ewl_run rfl (rn_load rfl ti26 hb5 rfl) ?_
 refine ewl_nil (onwt_n hKp ?_)
 refine ewt_br rfl ?_ ewt_none
 refine ewl_store rfl rfl rfl ti25 rfl hb4 rfl rfl fun w23 hb21 hC18 => ?_
 replace hb20 := hb20.chg hC18 (by omega)
 replace hb5 := hb5.chg hC18 (by omega)
 replace hX := hX.chg hC18 (by omega)
 replace hKp := hKp.chg hC18 (fun _ h => by cases h)
 have sz19 := hC18.size
 refine ewl_nil (onwt_n hKp ?_)
 refine ewt_br rfl ?_ ewt_none
 refine ewl_store rfl rfl rfl ti26 rfl hb5 rfl rfl fun w24 hb22 hC19 => ?_
 replace hb20 := hb20.chg hC19 (by omega)
 replace hb21 := hb21.chg hC19 (by omega)
 replace hX := hX.chg hC19 (by omega)
 replace hKp := hKp.chg hC19 (fun _ h => by cases h)
 have sz20 := hC19.size
 refine ewl_nil (onwt_n hKp ?_)
 refine ewt_fin ?_
 refine thn_n ?_
 refine ewp_ret ?_
 refine thn_r ?_
 exact fun tmps hσ => leaves_out hσ (resv3 rfl (rv_cell rfl ti23 hb20 rfl) (rv_cella rfl ti25 hb21 rfl) (rv_cell rfl ti26 hb22 rfl)) ⟨_, rfl, none, 0, rfl, NdS.nil _ _ _ _, hX⟩
 refine ewt_br rfl ?_ ?_
 refine ewl_store rfl rfl rfl ti25 rfl hb4 rfl rfl fun w25 hb23 hC20 => ?_
 replace hb20 := hb20.chg hC20 (by omega)
 replace hb5 := hb5.chg hC20 (by omega)
 replace hX := hX.chg hC20 (by omega)
 replace hKp := hKp.chg hC20 (fun _ h => by cases h)
 have sz21 := hC20.size
 refine ewl_nil (onwt_n hKp ?_)
 refine ewt_br rfl ?_ ewt_none
 refine ewl_run rfl (rn_load rfl ti26 hb5 rfl) ?_
 refine ewl_nil (onwt_n hKp ?_)
 refine ewt_br rfl ?_ ewt_none
 refine ewl_store rfl rfl rfl ti26 rfl hb5 rfl rfl fun w26 hb24 hC21 => ?_
 replace hb20 := hb20.chg hC21 (by omega)
 replace hb23 := hb23.chg hC21 (by omega)
 replace hX := hX.chg hC21 (by omega)
 replace hKp := hKp.chg hC21 (fun _ h => by cases h)
 have sz22 := hC21.size
 refine ewl_nil (onwt_n hKp ?_)
 refine ewt_fin ?_
 refine thn_n ?_
 refine ewp_ret ?_
 refine thn_r ?_
 exact fun tmps hσ => leaves_out hσ (resv3 rfl (rv_cell rfl ti23 hb20 rfl) (rv_cella rfl ti25 hb23 rfl) (rv_cell rfl ti26 hb24 rfl)) ⟨_, rfl, none, 0, rfl, NdS.nil _ _ _ _, hX⟩
 exact ewt_none
 refine ewt_br rfl ?_ ?_
 refine ewl_run rfl (rn_load rfl ti26 hb5 rfl) ?_
 refine ewl_nil (onwt_n hKp ?_)
 refine ewt_br rfl ?_ ewt_none
 refine ewl_run rfl (rn_loada rfl ti25 hb4 rfl) ?_
 refine ewl_nil (onwt_n hKp ?_)
 refine ewt_br rfl ?_ ewt_none
 refine ewl_store rfl rfl rfl ti25 rfl hb4 rfl rfl fun w27 hb25 hC22 => ?_
 replace hb20 := hb20.chg hC22 (by omega)
 replace hb5 := hb5.chg hC22 (by omega)
 replace hX := hX.chg hC22 (by omega)
 replace hKp := hKp.chg hC22 (fun _ h => by cases h)
 have sz23 := hC22.size
 refine ewl_nil (onwt_n hKp ?_)
 refine ewt_br rfl ?_ ewt_none
 refine ewl_store rfl rfl rfl ti26 rfl hb5 rfl rfl fun w28 hb26 hC23 => ?_
 replace hb20 := hb20.chg hC23 (by omega)
 replace hb25 := hb25.chg hC23 (by omega)
 replace hX := hX.chg hC23 (by omega)
 replace hKp := hKp.chg hC23 (fun _ h => by cases h)
 have sz24 := hC23.size
 refine ewl_nil (onwt_n hKp ?_)
 refine ewt_fin ?_
 refine thn_n ?_
 refine ewp_ret ?_
 refine thn_r ?_
 exact fun tmps hσ => leaves_out hσ (resv3 rfl (rv_cell rfl ti23 hb20 rfl) (rv_cella rfl ti25 hb25 rfl) (rv_cell rfl ti26 hb26 rfl)) ⟨_, rfl, none, 0, rfl, NdS.nil _ _ _ _, hX⟩
 exact ewt_none
 exact ewt_none
 · exfalso
   rw [hcd] at h1; contradiction
theorem program_ok (n : Nat) (w : World) (hG : Gl w) (src : List UInt8) (toks : List Tok) (hlen : toks.length ≤ 100000) (hok : ∀ fo, treesM toks [] .nil = .ok fo → fo.all (okT (n + 1)) ∧ fo.len ≤ 100000) (hs : ∀ w1, Gl w1 → Ret Tryz.prog 13 #[S src] w1 fun v w' => ∃ ta tc, v = .tuple #[.slice ta toks.length tc, .agg #[.int .i64 0, .int .i64 0], .int .i64 0] ∧ (Row w' 59 5 ta tc toks.length (toksC toks) ∧ ∀ b, rb ta = some b → w1.heap.size ≤ b) ∧ Ext w1 w') :
   Ret Tryz.prog 9 #[S src] w fun v w' => ProgR w w' v (progM (n + 1) (.ok toks)) := by
 have hX := Ext.refl w
 refine enterD (l := [S src]) Tryz.func9 rfl rfl rfl ?_
 refine ewp_seq ?_
 refine ewp_reg ?_
 refine ewl_alloc rfl zr23 fun b1 w1 hb1 hE1 hs1 hz1 => ?_
 replace hX := hX.trans hE1
 refine ewl_alloc rfl zr25 fun b2 w2 hb2 hE2 hs2 hz2 => ?_
 replace hb1 := hb1.ext hE2
 replace hX := hX.trans hE2
 refine ewl_alloc rfl zr26 fun b3 w3 hb3 hE3 hs3 hz3 => ?_
 replace hb1 := hb1.ext hE3
 replace hb2 := hb2.ext hE3
 replace hX := hX.trans hE3
 refine ewl_nil ?_
 refine thn_n ?_
 refine ewp_seq ?_
 refine ewp_reg ?_
 refine ewl_run rfl (rn_move rfl) ?_
 refine ewl_ret rfl (en_call ent13 rfl rfl) (hs _ (hG.ext hX)) ?_
 rintro _ w4 ⟨ta, tc, rfl, ⟨hrow, hlow⟩, hE4⟩
 replace hb1 := hb1.ext hE4
 replace hb2 := hb2.ext hE4
 replace hb3 := hb3.ext hE4
 replace hX := hX.trans hE4
 have sz1 := hE4.size
 have hA1 := Ext.refl w4
 refine ewl_run rfl (rn_move rfl) ?_
 refine ewl_run rfl (rn_exs rfl rfl) ?_
 refine ewl_run rfl (rn_exs rfl rfl) ?_
 refine ewl_run rfl (rn_exs rfl rfl) ?_
 refine ewl_run rfl (rn_assign rfl) ?_
 refine ewl_store rfl rfl rfl ti25 rfl hb2 rfl rfl fun w5 hb4 hC1 => ?_
 replace hb1 := hb1.chg hC1 (by omega)
 replace hb3 := hb3.chg hC1 (by omega)
 replace hX := hX.chg hC1 (by omega)
 replace hrow := Row.chg (hrow.ext hA1) hC1 (fun e => by have := hlow _ e; omega)
 clear hA1
 have sz2 := hC1.size
 have hA2 := Ext.refl w5
 refine ewl_store rfl rfl rfl ti26 rfl hb3 rfl rfl fun w6 hb5 hC2 => ?_
 replace hb1 := hb1.chg hC2 (by omega)
 replace hb4 := hb4.chg hC2 (by omega)
 replace hX := hX.chg hC2 (by omega)
 replace hrow := Row.chg (hrow.ext hA2) hC2 (fun e => by have := hlow _ e; omega)
 clear hA2
 have sz3 := hC2.size
 have hA3 := Ext.refl w6
 refine ewl_nil ?_
 refine thn_n ?_
 refine ewp_seq ?_
 refine ewp_seq ?_
 refine ewp_reg ?_
 refine ewl_run rfl (rn_load rfl ti26 hb5 rfl) ?_
 refine ewl_run rfl (rn_neI rfl rfl) ?_
 refine ewl_nil ?_
 refine thn_n ?_
 refine ewp_iff rfl rfl ?_
 refine ewp_skip ?_
 refine thn_n ?_
 refine ewp_seq ?_
 refine ewp_reg ?_
 refine ewl_run rfl (rn_mkf rfl) ?_
 refine ewl_defer rfl ?_
 refine ewl_nil ?_
 refine thn_n ?_
 refine ewp_seq ?_
 refine ewp_reg ?_
 refine ewl_run rfl (rn_move rfl) ?_
 refine ewl_retp rfl (en_call ent16 rfl rfl) (trees_spec _ _ _ _ toks (hrow.ext hA3) rfl hlen) ?_ (fun c wp hc tmps hσ => by obtain ⟨e, he, rfl, hE⟩ := hc; have sz := hE.size; exact leaves_one (by simp) ent14 (pcatch_hit w wp (hX.trans hE) b1 b2 b3 _ _ _ _ (hb1.ext hE) (hb4.ext hE) (hb5.ext hE) (by omega) (by omega) (by omega) (by omega) (by omega) (by omega) e) (fun wz hz => by rw [settle_hit]; obtain ⟨h1, h2, h3, h4⟩ := hz; exact leaves_out hσ (resv3 rfl (rv_cell rfl ti23 h2 rfl) (rv_cella rfl ti25 h3 rfl) (rv_cell rfl ti26 h4 rfl)) ⟨_, rfl, by rw [progM, he]; exact ⟨none, 0, rfl, NdS.nil _ _ _ _, h1⟩⟩))
 rintro _ w7 ⟨fo, fa, fc, htr, rfl, hfo, hE5⟩
 replace hb1 := hb1.ext hE5
 replace hb4 := hb4.ext hE5
 replace hb5 := hb5.ext hE5
 replace hX := hX.trans hE5
 replace hA3 := hA3.trans hE5
 have sz4 := hE5.size
 have hA4 := Ext.refl w7
 obtain ⟨hall, hfl⟩ := hok fo htr
 refine ewl_retp rfl (en_call ent15 rfl rfl) (each_spec _ 17 ent17 (topM (n + 1)) (okT (n + 1)) (fun b => w6.heap.size ≤ b) _ _ _ fo (hfo.ext hA4) hall hfl (fun w1 hE1 t1 k1 a1 n1 c1 hk1 hp1 => top_spec n w1 (hG.ext (hX.trans hE1)) _ t1 k1 a1 n1 c1 hk1 hp1)) ?_ (fun c wp hc tmps hσ => by obtain ⟨e, he, rfl, hE⟩ := hc; have sz := hE.size; exact leaves_one (by simp) ent14 (pcatch_hit w wp (hX.trans hE) b1 b2 b3 _ _ _ _ (hb1.ext hE) (hb4.ext hE) (hb5.ext hE) (by omega) (by omega) (by omega) (by omega) (by omega) (by omega) e) (fun wz hz => by rw [settle_hit]; obtain ⟨h1, h2, h3, h4⟩ := hz; exact leaves_out hσ (resv3 rfl (rv_cell rfl ti23 h2 rfl) (rv_cella rfl ti25 h3 rfl) (rv_cell rfl ti26 h4 rfl)) ⟨_, rfl, by rw [progM, htr]; simp only [he]; exact ⟨none, 0, rfl, NdS.nil _ _ _ _, h1⟩⟩))
 rintro _ w8 ⟨nds, ra, rc, hnds, rfl, hN, hE6⟩
 replace hb1 := hb1.ext hE6
 replace hb4 := hb4.ext hE6
 replace hb5 := hb5.ext hE6
 replace hX := hX.trans hE6
 replace hA3 := hA3.trans hE6
 replace hA4 := hA4.trans hE6
 have sz5 := hE6.size
 have hA5 := Ext.refl w8
 refine ewl_run rfl (rn_build rfl pl25 zr25 rfl) ?_
 refine ewl_store rfl rfl rfl ti23 rfl hb1 rfl rfl fun w9 hb6 hC3 => ?_
 replace hb4 := hb4.chg hC3 (by omega)
 replace hb5 := hb5.chg hC3 (by omega)
 replace hX := hX.chg hC3 (by omega)
 replace hN := (hN.ext hA5).chg hC3 (by omega)
 clear hA3
 clear hA4
 clear hA5
 have sz6 := hC3.size
 have hA6 := Ext.refl w9
 refine ewl_store rfl rfl rfl ti25 rfl hb4 rfl rfl fun w10 hb7 hC4 => ?_
 replace hb6 := hb6.chg hC4 (by omega)
 replace hb5 := hb5.chg hC4 (by omega)
 replace hX := hX.chg hC4 (by omega)
 replace hN := (hN.ext hA6).chg hC4 (by omega)
 clear hA6
 have sz7 := hC4.size
 have hA7 := Ext.refl w10
 refine ewl_store rfl rfl rfl ti26 rfl hb5 rfl rfl fun w11 hb8 hC5 => ?_
 replace hb6 := hb6.chg hC5 (by omega)
 replace hb7 := hb7.chg hC5 (by omega)
 replace hX := hX.chg hC5 (by omega)
 replace hN := (hN.ext hA7).chg hC5 (by omega)
 clear hA7
 have sz8 := hC5.size
 have hA8 := Ext.refl w11
 refine ewl_nil ?_
 refine thn_n ?_
 refine ewp_ret ?_
 intro tmps hσ
 refine leaves_one (by simp) ent14 (pcatch_idle _ b1 b2 b3) fun wz hz => ?_
 exact leaves_out hσ (resv3 rfl (rv_cell rfl ti23 (hb6.ext hz) rfl) (rv_cella rfl ti25 (hb7.ext hz) rfl) (rv_cell rfl ti26 (hb8.ext hz) rfl)) ⟨_, rfl, by rw [progM, htr]; simp only [hnds]; exact ⟨ra, rc, rfl, NdS.mono ((hN.ext hA8).nds.ext hz) (fun b hb => by omega), hX.trans hz⟩⟩
end Go.Proofs.YthjdnhnbgjgbkaaGreatDoor
namespace Go.SP
open Go.SW Go.RowKit
abbrev Ps := Int × Int
def adv (c : UInt8) (p : Ps) : Ps := if (c.toNat : Int) == 10 then (p.1 + 1, 1) else (p.1, p.2 + 1)
def hexesB : List UInt8 := [48, 49, 50, 51, 52, 53, 54, 55, 56, 57, 97, 98, 99, 100, 101, 102]
def blanksB : List UInt8 := [32, 9, 10]
def endsB : List UInt8 := [32, 9, 10, 40, 41, 34, 59]
def escM (p : Ps) : List UInt8 → Except Ps (UInt8 × List UInt8 × Ps)
 | [] => .error p
 | c :: r =>
   if (c.toNat : Int) == 34 then .ok (c, r, adv c p)
   else if (c.toNat : Int) == 92 then .ok (c, r, adv c p)
   else if (c.toNat : Int) == 110 then .ok (10, r, adv c p)
   else if (c.toNat : Int) == 120 then
     match r with
     | a :: b :: r' =>
       if decide ((0 : Int) ≤ Lib.indexByte hexesB a) && decide ((0 : Int) ≤ Lib.indexByte hexesB b) then .ok (UInt8.ofNat ((Lib.indexByte hexesB a).toNat * 16 + (Lib.indexByte hexesB b).toNat), r', adv b (adv a (adv c p))) else .error p
     | _ => .error p
   else .error p
def strM (start : Ps) : Nat → Ps → List UInt8 → List UInt8 → Except Ps (List UInt8 × List UInt8 × Ps)
 | 0, _, _, _ => .error start
 | _ + 1, _, _, [] => .error start
 | n + 1, p, acc, c :: r =>
   if (c.toNat : Int) == 34 then (if decide ((4096 : Int) < acc.length) then .error start else .ok (acc, r, adv c p))
   else if decide ((c.toNat : Int) < 32) then .error p
   else if (c.toNat : Int) != 92 then strM start n (adv c p) (acc ++ [c]) r
   else match r with
     | [] => .error start
     | _ => match escM (adv c p) r with
       | .error e => .error e
       | .ok (b, r', p') => strM start n p' (acc ++ [b]) r'
/-- A place in a text of which so many bytes are read. -/
def Pk (i : Nat) (p : Ps) : Prop := 0 ≤ p.1 ∧ p.1 ≤ i + 1 ∧ 0 ≤ p.2 ∧ p.2 ≤ i + 1
theorem Pk.adv {i : Nat} {p : Ps} {c : UInt8} (h : Pk i p) : Pk (i + 1) (adv c p) := by
 obtain ⟨h1, h2, h3, h4⟩ := h
 unfold Go.SP.adv
 split <;> (refine ⟨?_, ?_, ?_, ?_⟩ <;> simp only <;> omega)
theorem drop_at {src : List UInt8} {i : Nat} {c : UInt8} (h : src[i]? = some c) : src.drop i = c :: src.drop (i + 1) := by
 obtain ⟨hl, he⟩ := List.getElem?_eq_some_iff.1 h
 rw [List.drop_eq_getElem_cons hl, he]
theorem at_lt {src : List UInt8} {i : Nat} (h : i < src.length) : ∃ c, src[i]? = some c := ⟨src[i], List.getElem?_eq_getElem h⟩
theorem lt_at {src : List UInt8} {i : Nat} {c : UInt8} (h : src[i]? = some c) : i < src.length := (List.getElem?_eq_some_iff.1 h).1
theorem hex_lt (c : UInt8) : Lib.indexByte hexesB c < 16 := by
 have : ∀ (l : List UInt8), Lib.indexByte l c < l.length ∨ Lib.indexByte l c = -1 := by
   intro l
   induction l with
   | nil => right; rfl
   | cons a l ih =>
     unfold Lib.indexByte
     split
     · left; simp
     · split
       · right; rfl
       · left; simp only [List.length_cons]; rcases ih with h | h <;> simp_all
 rcases this hexesB with h | h
 · exact h
 · omega
end Go.SP
namespace Go.SW
open Go.RowKit
theorem rn_nc {P : Program} {σ : Env} {w : World} {ty : TypeId} {x : Operand} {a : Addr} (hx : ev σ x = some (.pointer (some a))) : Runs P σ (.nilCheck x) ty w (.pointer (some a)) w := fun ρ _ _ _ _ hρ => by
 simp [execOp, hρ _ _ hx]
section
variable {P : Program} {σ : Env} {w : World} {ty T T' : TypeId} {x y : Operand}
theorem rn_shl4 {t t' : TypeId} {a : Int} (hx : ev σ x = some (.int .i64 a)) (hy : ev σ y = some (.int .u64 4)) (h : 0 ≤ a ∧ a < 16) : Runs P σ (.binOp .shl t x y t') ty w (.int .i64 (a * 16)) w :=
 fun ρ _ _ _ _ hρ => by
   have e : IntKind.i64.wrap (a * 16) = a * 16 := wrap_in ⟨by omega, by omega⟩
   simp [execOp, hρ _ _ hx, hρ _ _ hy, eqGuard, binOp, Op.shift, IntKind.bits, e]
theorem or16 : ∀ a b : Fin 16, ((BitVec.ofInt 64 ((a.val : Int) * 16)) ||| (BitVec.ofInt 64 (b.val : Int))).toNat = a.val * 16 + b.val := by decide
theorem rn_or16 {t t' : TypeId} {a b : Int} (hx : ev σ x = some (.int .i64 (a * 16))) (hy : ev σ y = some (.int .i64 b)) (h : 0 ≤ a ∧ a < 16) (h2 : 0 ≤ b ∧ b < 16) : Runs P σ (.binOp .or t x y t') ty w (.int .i64 (a * 16 + b)) w :=
 fun ρ _ _ _ _ hρ => by
   have e := or16 ⟨a.toNat, by omega⟩ ⟨b.toNat, by omega⟩
   simp only [Int.toNat_of_nonneg h.1, Int.toNat_of_nonneg h2.1] at e
   have e2 : IntKind.i64.wrap (a * 16 + b) = a * 16 + b := wrap_in ⟨by omega, by omega⟩
   have e3 : ((a.toNat * 16 + b.toNat : Nat) : Int) = a * 16 + b := by omega
   simp only [execOp, hρ _ _ hx, hρ _ _ hy, eqGuard, binOp, Op.intBits]
   show Result.ok (Next.value (.int .i64 (IntKind.i64.wrap ((BitVec.ofInt 64 (a * 16) ||| BitVec.ofInt 64 b).toNat : Int)))) w = _
   rw [e, e3, e2]
theorem rn_cvI {k k0 : IntKind} {n m : Int} (hx : ev σ x = some (.int k0 n)) (hc : cvI P T T' = some k) (hm : k.wrap n = m) : Runs P σ (.convert T T' x) ty w (.int k m) w := by
 unfold cvI at hc
 cases hs : P.underlying T with
 | none => rw [hs] at hc; cases hc
 | some s =>
   cases hd : P.underlying T' with
   | none => rw [hs, hd] at hc; cases hc
   | some d =>
     rw [hs, hd] at hc
     cases d <;> simp at hc
     rename_i k'
     subst hc
     exact fun ρ _ _ _ _ hρ => by
       simp [execOp, hρ _ _ hx, convert, run_underlying hs, run_underlying hd, Conv.intToInt, hm]
theorem wrap8 {n : Int} (h : 0 ≤ n ∧ n < 256) : IntKind.u8.wrap n = n := by
 unfold IntKind.wrap
 simp [IntKind.bits, IntKind.signed]
 omega
def bC (l : List UInt8) : List Value := l.map fun c => .int .u8 c.toNat
theorem bC_app (l m : List UInt8) : bC (l ++ m) = bC l ++ bC m := List.map_append
theorem rn_bts {e : TypeId} {a : Option Addr} {c : Nat} {l : List UInt8} (hx : ev σ x = some (.slice a l.length c)) (hc : btsI P T T' = some e) (hr : Row w e 1 a c l.length (bC l)) : Runs P σ (.convert T T' x) ty w (S l) w := by
 unfold btsI at hc
 split at hc
 · rename_i e' hs
   split at hc
   · rename_i he hd
     injection hc with hc
     subst hc
     refine fun ρ _ _ _ _ hρ => ?_
     simp only [execOp, hρ _ _ hx, Sem.run_bind]
     rcases hr.2 with ⟨rfl, _, h0⟩ | ⟨b, cs, rfl, hb, _, _, _, ht⟩
     · have : l = [] := List.eq_nil_of_length_eq_zero h0
       subst this
       rw [run_convert_bytes_nil w T e' hs he _ c T' hd]
       rfl
     · rw [run_convert_bytes_back w T T' e' ⟨b, 0, none⟩ c l hs he hd (fun j hj => by
         rw [add_lit, hb.cell, Nat.zero_add]
         have : (bC l)[j]? = some (.int .u8 (l[j].toNat : Int)) := by simp [bC, List.getElem?_eq_getElem hj]
         rw [← ht, List.getElem?_take, if_pos (by omega)] at this
         exact this)]
       rfl
   · cases hc
 · cases hc
end
end Go.SW
namespace Go.Proofs.YthjdnhnbgjgbkaaGreatDoor
open Go.SW Go.SP Go.RowKit
theorem more_spec (w : World) (b : Nat) (src : List UInt8) (i : Nat) (p : Ps) (sl : Value) (hsc : Blk w b [S src, .int .i64 (i : Int), .int .i64 p.1, .int .i64 p.2, sl] 57) :
   Ret Tryz.prog 20 #[.pointer (some ⟨b, 0, none⟩)] w fun v w' => v = .bool (decide ((i : Int) < (src.length : Int))) ∧ Ext w w' := by
 have hbl := hsc.lt
 have hX := Ext.refl w
 refine enter Tryz.func20 rfl rfl rfl ?_
 refine ewp_seq ?_
 refine ewp_reg ?_
 refine ewl_run rfl (rn_assign rfl) ?_
 refine ewl_nil ?_
 refine thn_n ?_
 refine ewp_seq ?_
 have hr1 := hsc
 refine ewp_draw mixed (Keeps w [b]) [(true, 0), (true, 1), (true, 2), (true, 3), (true, 4), (true, 5), (true, 6), (true, 7), (true, 8), (true, 9), (true, 10)] (by kernel_rfl) (by kernel_rfl) rfl rfl fun w1 hE1 hz1 => ?_
 have hKp : Keeps w [b] w1 := Keeps.cons hr1 hE1 (Keeps.nil _ _)
 refine ⟨hKp, ?_⟩
 replace hsc := hsc.ext hE1
 replace hX := hX.trans hE1
 refine ewo_rd rfl (fun _ hS => rn_move rfl) ?_
 refine ewo_rd rfl (fun _ hS => rn_nc rfl) ?_
 refine ewo_rd rfl (fun _ hS => rn_fa rfl fl57_1) ?_
 refine ewo_rd rfl (fun _ hS => rn_load rfl ti3 (hr1.keep hS (.head _)) rfl) ?_
 refine ewo_rd rfl (fun _ hS => rn_move rfl) ?_
 refine ewo_rd rfl (fun _ hS => rn_nc rfl) ?_
 refine ewo_rd rfl (fun _ hS => rn_fa rfl fl57_0) ?_
 refine ewo_rd rfl (fun _ hS => rn_load rfl ti9 (hr1.keep hS (.head _)) rfl) ?_
 refine ewo_rd rfl (fun _ hS => rn_lenS rfl un9) ?_
 refine ewo_rd rfl (fun _ hS => rn_ltI rfl rfl) ?_
 refine ewo_rd rfl (fun _ hS => rn_assign rfl) ?_
 refine ewo_nil ?_
 refine thn_n ?_
 refine ewp_ret ?_
 refine fn_r (resv rfl (rv_tmp rfl)) ?_
 exact ⟨rfl, hX⟩
theorem next_spec (w : World) (b : Nat) (src : List UInt8) (i : Nat) (p : Ps) (sl : Value) (hsc : Blk w b [S src, .int .i64 (i : Int), .int .i64 p.1, .int .i64 p.2, sl] 57) (c : UInt8) (hc : src[i]? = some c) (hi : i < 1000000) (hp : Pk i p) :
   Ret Tryz.prog 34 #[.pointer (some ⟨b, 0, none⟩)] w fun v w' => v = .int .u8 c.toNat ∧ Blk w' b [S src, .int .i64 ((i + 1 : Nat) : Int), .int .i64 (adv c p).1, .int .i64 (adv c p).2, sl] 57 ∧ ExB b w w' := by
 have hbl := hsc.lt
 obtain ⟨hp1, hp2, hp3, hp4⟩ := hp
 have hX := ExB.refl b w
 refine enter Tryz.func34 rfl rfl rfl ?_
 refine ewp_seq ?_
 refine ewp_reg ?_
 refine ewl_run rfl (rn_assign rfl) ?_
 refine ewl_nil ?_
 refine thn_n ?_
 refine ewp_seq ?_
 have hr1 := hsc
 refine ewp_draw mixed (Keeps w [b]) [(true, 0), (true, 1), (true, 2), (true, 3), (true, 4), (true, 5), (true, 6), (true, 7), (true, 8), (true, 9)] (by kernel_rfl) (by kernel_rfl) rfl rfl fun w1 hE1 hz1 => ?_
 have hKp : Keeps w [b] w1 := Keeps.cons hr1 hE1 (Keeps.nil _ _)
 refine ⟨hKp, ?_⟩
 replace hsc := hsc.ext hE1
 replace hX := hX.trans hE1
 refine ewo_rd rfl (fun _ hS => rn_move rfl) ?_
 refine ewo_rd rfl (fun _ hS => rn_nc rfl) ?_
 refine ewo_rd rfl (fun _ hS => rn_fa rfl fl57_0) ?_
 refine ewo_rd rfl (fun _ hS => rn_load rfl ti9 (hr1.keep hS (.head _)) rfl) ?_
 refine ewo_rd rfl (fun _ hS => rn_move rfl) ?_
 refine ewo_rd rfl (fun _ hS => rn_nc rfl) ?_
 refine ewo_rd rfl (fun _ hS => rn_fa rfl fl57_1) ?_
 refine ewo_rd rfl (fun _ hS => rn_load rfl ti3 (hr1.keep hS (.head _)) rfl) ?_
 refine ewo_rd rfl (fun _ hS => rn_ixS rfl rfl un9 (by omega) (by simpa using hc)) ?_
 refine ewo_rd rfl (fun _ hS => rn_assign rfl) ?_
 refine ewo_nil ?_
 refine thn_n ?_
 refine ewp_seq ?_
 refine ewp_reg ?_
 refine ewl_run rfl (rn_move rfl) ?_
 refine ewl_run rfl (rn_nc rfl) ?_
 refine ewl_run rfl (rn_fa rfl fl57_1) ?_
 refine ewl_run rfl (rn_load rfl ti3 hsc rfl) ?_
 refine ewl_run rfl (rn_add rfl rfl ⟨by omega, by omega⟩) ?_
 refine ewl_run rfl (rn_nc rfl) ?_
 refine ewl_run rfl (rn_fa rfl fl57_1) ?_
 refine ewl_store rfl rfl rfl ti3 rfl hsc rfl rfl fun w2 hb1 hC1 => ?_
 replace hX := hX.chg hC1 (by omega)
 have sz1 := hC1.size
 refine ewl_nil ?_
 refine thn_n ?_
 refine ewp_seq ?_
 refine ewp_reg ?_
 refine ewl_run rfl (rn_move rfl) ?_
 refine ewl_run rfl (rn_nc rfl) ?_
 refine ewl_run rfl (rn_fa rfl fl57_2) ?_
 refine ewl_run rfl (rn_fa rfl fl25_1) ?_
 refine ewl_run rfl (rn_load rfl ti3 hb1 rfl) ?_
 refine ewl_run rfl (rn_add rfl rfl ⟨by omega, by omega⟩) ?_
 refine ewl_run rfl (rn_nc rfl) ?_
 refine ewl_run rfl (rn_fa rfl fl57_2) ?_
 refine ewl_run rfl (rn_fa rfl fl25_1) ?_
 refine ewl_store rfl rfl rfl ti3 rfl hb1 rfl rfl fun w3 hb2 hC2 => ?_
 replace hX := hX.chg hC2 (by omega)
 have sz2 := hC2.size
 refine ewl_nil ?_
 refine thn_n ?_
 refine ewp_seq ?_
 refine ewp_seq ?_
 refine ewp_reg ?_
 refine ewl_run rfl (rn_move rfl) ?_
 refine ewl_run rfl (rn_eqI rfl rfl) ?_
 refine ewl_nil ?_
 refine thn_n ?_
 refine ewp_if rfl (fun h1 => ?_) (fun h1 => ?_)
 refine ewp_reg ?_
 refine ewl_run rfl (rn_move rfl) ?_
 refine ewl_run rfl (rn_move rfl) ?_
 refine ewl_run rfl (rn_nc rfl) ?_
 refine ewl_run rfl (rn_fa rfl fl57_2) ?_
 refine ewl_run rfl (rn_fa rfl fl25_0) ?_
 refine ewl_run rfl (rn_load rfl ti3 hb2 rfl) ?_
 refine ewl_run rfl (rn_add rfl rfl ⟨by omega, by omega⟩) ?_
 refine ewl_run rfl (rn_build rfl pl25 zr25 rfl) ?_
 refine ewl_run rfl (rn_nc rfl) ?_
 refine ewl_run rfl (rn_fa rfl fl57_2) ?_
 refine ewl_store rfl rfl rfl ti25 rfl hb2 rfl rfl fun w4 hb3 hC3 => ?_
 replace hX := hX.chg hC3 (by omega)
 have sz3 := hC3.size
 refine ewl_nil ?_
 refine thn_n ?_
 refine ewp_seq ?_
 refine ewp_reg ?_
 refine ewl_run rfl (rn_move rfl) ?_
 refine ewl_run rfl (rn_assign rfl) ?_
 refine ewl_nil ?_
 refine thn_n ?_
 refine ewp_ret ?_
 refine fn_r (resv rfl (rv_tmp rfl)) ?_
 exact ⟨rfl, by simp only [adv, h1]; exact hb3, hX⟩
 refine ewp_skip ?_
 refine thn_n ?_
 refine ewp_seq ?_
 refine ewp_reg ?_
 refine ewl_run rfl (rn_move rfl) ?_
 refine ewl_run rfl (rn_assign rfl) ?_
 refine ewl_nil ?_
 refine thn_n ?_
 refine ewp_ret ?_
 refine fn_r (resv rfl (rv_tmp rfl)) ?_
 exact ⟨rfl, by simp only [adv, h1]; exact hb2, hX⟩
end Go.Proofs.YthjdnhnbgjgbkaaGreatDoor
namespace Go.SP
open Go.SW Go.RowKit
def digsB : List UInt8 := [48, 49, 50, 51, 52, 53, 54, 55, 56, 57]
def greatB : List UInt8 := [65, 66, 67, 68, 69, 70, 71, 72, 73, 74, 75, 76, 77, 78, 79, 80, 81, 82, 83, 84, 85, 86, 87, 88, 89, 90]
def smallB : List UInt8 := [97, 98, 99, 100, 101, 102, 103, 104, 105, 106, 107, 108, 109, 110, 111, 112, 113, 114, 115, 116, 117, 118, 119, 120, 121, 122]
def signsB : List UInt8 := [39, 43, 42, 47, 60, 62, 61, 33, 63, 95, 46, 45]
/-- Just some bytes? -/
def onlyM (s l : List UInt8) : Bool := Lib.trimS s l == []
def digitsM (s : List UInt8) : Bool := !(s == []) && onlyM s digsB
def wholeM (s : List UInt8) : List UInt8 := Lib.trimPrefix s [45]
def decN : Nat → List UInt8 → Nat
 | n, [] => n
 | n, c :: l => decN (n * 10 + (c.toNat - 48)) l
def negM (s : List UInt8) : Bool := s.head? == some 45
def readM (s : List UInt8) : Option Int :=
 if digitsM (wholeM s) then
   (if negM s then (if decN 0 (wholeM s) ≤ 4611686018427387904 then some (-(decN 0 (wholeM s) : Int)) else none)
   else if decN 0 (wholeM s) < 4611686018427387904 then some (decN 0 (wholeM s)) else none)
 else none
/-- A float's form: the digits ahead of the point, and behind it. -/
def fformM (s : List UInt8) : Option (List UInt8 × List UInt8) :=
 let c := Lib.cut (wholeM s) [46]
 if c.2.2 && (digitsM c.1 && (digitsM c.2.1 && decide ((c.1.length : Int) + c.2.1.length ≤ 15))) then some (c.1, c.2.1) else none
end Go.SP
namespace Go.SP
open Go.SW Go.RowKit
theorem hexv {a b : Int} (ha : 0 ≤ a ∧ a < 16) (hb : 0 ≤ b ∧ b < 16) : ((UInt8.ofNat (a.toNat * 16 + b.toNat)).toNat : Int) = a * 16 + b := by
 have : a.toNat * 16 + b.toNat < 256 := by omega
 simp only [UInt8.toNat_ofNat']
 rw [Nat.mod_eq_of_lt this]
 omega
/-- What is left of a text: so many bytes are read. -/
theorem drop2 {src : List UInt8} {i : Nat} {a b : UInt8} (ha : src[i]? = some a) (hb : src[i + 1]? = some b) : src.drop i = a :: b :: src.drop (i + 2) := by
 rw [drop_at ha, drop_at hb]
theorem escM_bad {p : Ps} {c a b : UInt8} {r : List UInt8} (h34 : ((c.toNat : Int) == 34) = false) (h92 : ((c.toNat : Int) == 92) = false) (h110 : ((c.toNat : Int) == 110) = false) (h120 : ((c.toNat : Int) == 120) = true)
   (h : Lib.indexByte hexesB a < 0 ∨ Lib.indexByte hexesB b < 0) : escM p (c :: a :: b :: r) = .error p := by
 simp only [escM, h34, h92, h110, h120, Bool.false_eq_true, if_false, if_true]
 rw [if_neg]
 simp only [Bool.and_eq_true, decide_eq_true_eq]
 omega
theorem escM_few {p : Ps} {c : UInt8} {r : List UInt8} (h34 : ((c.toNat : Int) == 34) = false) (h92 : ((c.toNat : Int) == 92) = false) (h110 : ((c.toNat : Int) == 110) = false) (h : r.length < 2) : escM p (c :: r) = .error p := by
 unfold escM
 rcases r with _ | ⟨a, _ | ⟨b, r⟩⟩
 · simp [h34, h92, h110]
 · simp [h34, h92, h110]
 · simp at h; omega
end Go.SP
namespace Go.SP
open Go.SW Go.RowKit
/-- A float's bits: digits, a point among them. -/
def fvalM (neg : Bool) (a b : List UInt8) : Nat :=
 let m := decN 0 (a ++ b)
 let x := FloatKind.f64.nearest m
 let x := if neg then Op.negFloat .f64 x else x
 if m = 0 then (if neg then 9223372036854775808 else 0) else (FloatKind.f64.format.div x (pow10B.getD b.length 0)).getD 0
def fbitsM (s : List UInt8) : Option Nat := match fformM s with
 | none => none
 | some (a, b) => let f := fvalM (negM s) a b
   some (if Op.floatEq .f64 f f then f else 9221120237041090560)
/-- Its bytes. -/
def byteG (x : Nat) : Nat → List UInt8
 | 0 => []
 | j + 1 => UInt8.ofNat (x / 2 ^ (8 * j)) :: byteG x j
def bytesM (x : Nat) : List UInt8 := byteG x 8
def wordM (w : List UInt8) : Option (Int × Int × List UInt8) :=
 match readM w with
 | some n => some (2, n, [])
 | none => match fbitsM w with
   | some x => some (3, 0, bytesM x)
   | none =>
     if decide ((40 : Int) < w.length) || (!(wholeM w == []) && onlyM (wholeM w) digsB) then none
     else if onlyM (w.take 1) greatB && onlyM w (greatB ++ smallB ++ digsB) then some (6, 0, w)
     else if onlyM (w.take 1) (smallB ++ signsB) && onlyM w (greatB ++ smallB ++ digsB ++ signsB) then some (5, 0, w)
     else none
def comM (p : Ps) : List UInt8 → List UInt8 × Ps
 | [] => ([], p)
 | c :: r => if (c.toNat : Int) != 10 then comM (adv c p) r else (c :: r, p)
def spanM (p : Ps) : List UInt8 → List UInt8 × List UInt8 × Ps
 | [] => ([], [], p)
 | c :: r => if decide (Lib.indexByte endsB c < 0) then (c :: (spanM (adv c p) r).1, (spanM (adv c p) r).2) else ([], c :: r, p)
def stepM (F : Nat) (p : Ps) : List UInt8 → Except Ps (List Tok × List UInt8 × Ps)
 | [] => .error p
 | c :: r =>
   if decide ((0 : Int) ≤ Lib.indexByte blanksB c) then .ok ([], r, adv c p)
   else if (c.toNat : Int) == 59 then .ok ([], comM (adv c p) r)
   else if (c.toNat : Int) == 40 then .ok ([⟨0, p.1, p.2, 0, []⟩], r, adv c p)
   else if (c.toNat : Int) == 41 then .ok ([⟨1, p.1, p.2, 0, []⟩], r, adv c p)
   else if (c.toNat : Int) == 34 then (match strM p F (adv c p) [] r with
     | .error e => .error e
     | .ok (tx, r', p') => .ok ([⟨4, p.1, p.2, 0, tx⟩], r', p'))
   else (match wordM (c :: (spanM (adv c p) r).1) with
     | none => .error p
     | some (k, nm, tx) => .ok ([⟨k, p.1, p.2, nm, tx⟩], (spanM (adv c p) r).2))
/-- All tokens of a text. -/
def scanM (F : Nat) : Nat → Ps → List UInt8 → Except Ps (List Tok)
 | _, _, [] => .ok []
 | 0, p, _ :: _ => .error p
 | n + 1, p, c :: r => match stepM F p (c :: r) with
   | .error e => .error e
   | .ok (t, r', p') => match scanM F n p' r' with
     | .error e => .error e
     | .ok l => .ok (t ++ l)
def lexM (src : List UInt8) : Except (Int × Int × Int) (List Tok) :=
 if decide ((65536 : Int) < src.length) then .error (0, 0, 4)
 else match scanM (src.length + 1) src.length (1, 1) src with
   | .error e => .error (e.1, e.2, 10)
   | .ok l => .ok l
end Go.SP
namespace Go.Proofs.YthjdnhnbgjgbkaaGreatDoor
open Go.SW Go.SP Go.RowKit
theorem escape_spec (w : World) (b : Nat) (src : List UInt8) (i : Nat) (p : Ps) (sl : Value) (hsc : Blk w b [S src, .int .i64 (i : Int), .int .i64 p.1, .int .i64 p.2, sl] 57) (c : UInt8) (hc : src[i]? = some c) (hi : i < 100000) (hp : Pk i p) :
   RetP Tryz.prog 43 #[.pointer (some ⟨b, 0, none⟩)] w (fun v w' => ∃ (c1 : UInt8) (i1 : Nat) (p1 : Ps), escM p (src.drop i) = .ok (c1, src.drop i1, p1) ∧ v = .int .u8 c1.toNat ∧ Blk w' b [S src, .int .i64 ((i1 : Nat) : Int), .int .i64 p1.1, .int .i64 p1.2, sl] 57 ∧ ExB b w w' ∧ i < i1 ∧ i1 ≤ src.length ∧ Pk i1 p1) (fun cc w' => ∃ e, escM p (src.drop i) = .error e ∧ cc = trb 54 e ∧ ExB b w w') := by
 have hbl := hsc.lt
 have hX := ExB.refl b w
 refine enterP Tryz.func43 rfl rfl rfl ?_
 refine ewp_seq ?_
 refine ewp_reg ?_
 refine ewl_run rfl (rn_assign rfl) ?_
 refine ewl_nil ?_
 refine thn_n ?_
 refine ewp_seq ?_
 refine ewp_reg ?_
 refine ewl_run rfl (rn_move rfl) ?_
 refine ewl_run rfl (rn_nc rfl) ?_
 refine ewl_run rfl (rn_fa rfl fl57_2) ?_
 refine ewl_run rfl (rn_loada rfl ti25 hsc rfl) ?_
 refine ewl_alloc rfl zr25 fun b1 w1 hb1 hE1 hs1 hz1 => ?_
 replace hsc := hsc.ext hE1
 replace hX := hX.trans hE1
 refine ewl_store rfl rfl rfl ti25 rfl hb1 rfl rfl fun w2 hb2 hC1 => ?_
 replace hsc := hsc.chg hC1 (by omega)
 replace hX := hX.chg hC1 (by omega)
 have sz1 := hC1.size
 refine ewl_nil ?_
 refine thn_n ?_
 refine ewp_seq ?_
 refine ewp_seq ?_
 refine ewp_reg ?_
 refine ewl_run rfl (rn_move rfl) ?_
 refine ewl_ret rfl (en_call ent34 rfl rfl) (next_spec _ b src i p sl hsc c hc (by omega) hp) ?_
 rintro _ w3 ⟨rfl, hb3, hE2⟩
 replace hb2 := hb2.exb hE2 (by omega)
 replace hX := hX.trans2 hE2
 have sz2 := hE2.size
 have hp1 := Pk.adv (c := c) hp
 refine ewl_run rfl (rn_assign rfl) ?_
 refine ewl_nil ?_
 refine thn_n ?_
 refine ewp_seq ?_
 refine ewp_reg ?_
 refine ewl_run rfl (rn_move rfl) ?_
 refine ewl_nil ?_
 refine thn_n ?_
 refine ewp_block ?_
 refine ewp_seq ?_
 refine ewp_seq ?_
 refine ewp_reg ?_
 refine ewl_run rfl (rn_eqI rfl rfl) ?_
 refine ewl_run rfl (rn_assign rfl) ?_
 refine ewl_nil ?_
 refine thn_n ?_
 refine ewp_if rfl (fun h1 => ?_) (fun h1 => ?_)
 refine ewp_skip ?_
 refine thn_n ?_
 refine ewp_ift rfl h1 ?_
 refine ewp_seq ?_
 refine ewp_reg ?_
 refine ewl_run rfl (rn_move rfl) ?_
 refine ewl_run rfl (rn_assign rfl) ?_
 refine ewl_nil ?_
 refine thn_n ?_
 refine ewp_ret ?_
 refine blk_r ?_
 refine thn_r ?_
 refine fn_r (resv rfl (rv_tmp rfl)) ?_
 exact ⟨c, i + 1, adv c p, by rw [drop_at hc]; simp [escM, h1], rfl, hb3, hX, by omega, by have := lt_at hc; omega, hp1⟩
 refine ewp_reg ?_
 refine ewl_run rfl (rn_eqI rfl rfl) ?_
 refine ewl_run rfl (rn_assign rfl) ?_
 refine ewl_nil ?_
 refine thn_n ?_
 refine ewp_if rfl (fun h2 => ?_) (fun h2 => ?_)
 refine ewp_seq ?_
 refine ewp_reg ?_
 refine ewl_run rfl (rn_move rfl) ?_
 refine ewl_run rfl (rn_assign rfl) ?_
 refine ewl_nil ?_
 refine thn_n ?_
 refine ewp_ret ?_
 refine blk_r ?_
 refine thn_r ?_
 refine fn_r (resv rfl (rv_tmp rfl)) ?_
 exact ⟨c, i + 1, adv c p, by rw [drop_at hc]; simp [escM, h1, h2], rfl, hb3, hX, by omega, by have := lt_at hc; omega, hp1⟩
 refine ewp_seq ?_
 refine ewp_reg ?_
 refine ewl_run rfl (rn_eqI rfl rfl) ?_
 refine ewl_run rfl (rn_assign rfl) ?_
 refine ewl_nil ?_
 refine thn_n ?_
 refine ewp_if rfl (fun h3 => ?_) (fun h3 => ?_)
 refine ewp_seq ?_
 refine ewp_reg ?_
 refine ewl_run rfl (rn_assign rfl) ?_
 refine ewl_nil ?_
 refine thn_n ?_
 refine ewp_ret ?_
 refine blk_r ?_
 refine thn_r ?_
 refine fn_r (resv rfl (rv_tmp rfl)) ?_
 exact ⟨10, i + 1, adv c p, by rw [drop_at hc]; simp [escM, h1, h2, h3], rfl, hb3, hX, by omega, by have := lt_at hc; omega, hp1⟩
 refine ewp_seq ?_
 refine ewp_reg ?_
 refine ewl_run rfl (rn_eqI rfl rfl) ?_
 refine ewl_run rfl (rn_assign rfl) ?_
 refine ewl_nil ?_
 refine thn_n ?_
 refine ewp_if rfl (fun h4 => ?_) (fun h4 => ?_)
 refine ewp_seq ?_
 have hr1 := hb3
 have hr2 := hb2
 refine ewp_draw mixed (Keeps w3 [b, b1]) [(true, 0), (true, 1), (true, 2), (true, 3), (true, 4), (true, 5), (true, 6), (true, 7), (true, 8), (true, 9), (true, 10)] (by kernel_rfl) (by kernel_rfl) rfl rfl fun w4 hE3 hz2 => ?_
 have hKp : Keeps w3 [b, b1] w4 := Keeps.cons hr1 hE3 (Keeps.cons hr2 hE3 (Keeps.nil _ _))
 refine ⟨hKp, ?_⟩
 replace hb2 := hb2.ext hE3
 replace hb3 := hb3.ext hE3
 replace hX := hX.trans hE3
 refine ewo_rd rfl (fun _ hS => rn_move rfl) ?_
 refine ewo_rd rfl (fun _ hS => rn_nc rfl) ?_
 refine ewo_rd rfl (fun _ hS => rn_fa rfl fl57_1) ?_
 refine ewo_rd rfl (fun _ hS => rn_load rfl ti3 (hr1.keep hS (.head _)) rfl) ?_
 refine ewo_rd rfl (fun _ hS => rn_add rfl rfl ⟨by omega, by omega⟩) ?_
 refine ewo_rd rfl (fun _ hS => rn_move rfl) ?_
 refine ewo_rd rfl (fun _ hS => rn_nc rfl) ?_
 refine ewo_rd rfl (fun _ hS => rn_fa rfl fl57_0) ?_
 refine ewo_rd rfl (fun _ hS => rn_load rfl ti9 (hr1.keep hS (.head _)) rfl) ?_
 refine ewo_rd rfl (fun _ hS => rn_lenS rfl un9) ?_
 refine ewo_rd rfl (fun _ hS => rn_leI rfl rfl) ?_
 refine ewo_nil ?_
 refine thn_n ?_
 refine ewp_if rfl (fun h5 => ?_) (fun h5 => ?_)
 refine ewp_seq ?_
 have hlt2 : i + 3 ≤ src.length := by have := h5; simp at this; omega
 obtain ⟨a1, ha1⟩ := at_lt (show i + 1 < src.length by omega)
 obtain ⟨a2, ha2⟩ := at_lt (show i + 2 < src.length by omega)
 have hr3 := hb3
 have hr4 := hb2
 refine ewp_draw mixed (Keeps w4 [b, b1]) [(true, 0), (true, 1), (true, 2), (true, 3), (true, 4), (true, 5), (true, 6), (true, 7), (true, 8), (true, 10), (true, 11), (true, 12), (true, 13), (true, 14), (true, 15), (true, 16), (true, 17), (true, 18), (true, 19), (false, 9), (false, 20), (true, 21), (true, 22)] (by kernel_rfl) (by kernel_rfl) rfl rfl fun w5 hE4 hz3 => ?_
 have hKp : Keeps w4 [b, b1] w5 := Keeps.cons hr3 hE4 (Keeps.cons hr4 hE4 (Keeps.nil _ _))
 refine ⟨hKp, ?_⟩
 replace hb2 := hb2.ext hE4
 replace hb3 := hb3.ext hE4
 replace hX := hX.trans hE4
 refine ewo_rd rfl (fun _ hS => rn_move rfl) ?_
 refine ewo_rd rfl (fun _ hS => rn_nc rfl) ?_
 refine ewo_rd rfl (fun _ hS => rn_fa rfl fl57_0) ?_
 refine ewo_rd rfl (fun _ hS => rn_load rfl ti9 (hr3.keep hS (.head _)) rfl) ?_
 refine ewo_rd rfl (fun _ hS => rn_move rfl) ?_
 refine ewo_rd rfl (fun _ hS => rn_nc rfl) ?_
 refine ewo_rd rfl (fun _ hS => rn_fa rfl fl57_1) ?_
 refine ewo_rd rfl (fun _ hS => rn_load rfl ti3 (hr3.keep hS (.head _)) rfl) ?_
 refine ewo_rd rfl (fun _ hS => rn_ixS rfl rfl un9 (by omega) (show src[(((i + 1 : Nat) : Int)).toNat]? = some a1 by rw [Int.toNat_natCast]; exact ha1)) ?_
 refine ewo_rd rfl (fun _ hS => rn_move rfl) ?_
 refine ewo_rd rfl (fun _ hS => rn_nc rfl) ?_
 refine ewo_rd rfl (fun _ hS => rn_fa rfl fl57_0) ?_
 refine ewo_rd rfl (fun _ hS => rn_load rfl ti9 (hr3.keep hS (.head _)) rfl) ?_
 refine ewo_rd rfl (fun _ hS => rn_move rfl) ?_
 refine ewo_rd rfl (fun _ hS => rn_nc rfl) ?_
 refine ewo_rd rfl (fun _ hS => rn_fa rfl fl57_1) ?_
 refine ewo_rd rfl (fun _ hS => rn_load rfl ti3 (hr3.keep hS (.head _)) rfl) ?_
 refine ewo_rd rfl (fun _ hS => rn_add rfl rfl ⟨by omega, by omega⟩) ?_
 refine ewo_rd rfl (fun _ hS => rn_ixS rfl rfl un9 (by omega) (show src[(((i + 1 : Nat) : Int) + 1).toNat]? = some a2 by rw [show (((i + 1 : Nat) : Int) + 1).toNat = i + 2 by omega]; exact ha2)) ?_
 refine ewo_sp ?_
 refine ewl_ret rfl (en_call ent35 rfl rfl) (indexByte_spec _ hexesB _) ?_
 rintro _ w6 ⟨rfl, hE5⟩
 replace hb2 := hb2.ext hE5
 replace hb3 := hb3.ext hE5
 replace hX := hX.trans hE5
 replace hKp := hKp.ext hE5
 have sz3 := hE5.size
 refine ewl_nil (onw_n hKp ?_)
 refine ewo_sp ?_
 refine ewl_ret rfl (en_call ent35 rfl rfl) (indexByte_spec _ hexesB _) ?_
 rintro _ w7 ⟨rfl, hE6⟩
 replace hb2 := hb2.ext hE6
 replace hb3 := hb3.ext hE6
 replace hX := hX.trans hE6
 replace hKp := hKp.ext hE6
 have sz4 := hE6.size
 refine ewl_nil (onw_n hKp ?_)
 refine ewo_rd rfl (fun _ hS => rn_assign rfl) ?_
 refine ewo_rd rfl (fun _ hS => rn_assign rfl) ?_
 refine ewo_nil ?_
 refine thn_n ?_
 refine ewp_seq ?_
 refine ewp_reg ?_
 refine ewl_run rfl (rn_move rfl) ?_
 refine ewl_run rfl (rn_geI rfl rfl) ?_
 refine ewl_run rfl (rn_move rfl) ?_
 refine ewl_split 56 rfl (fun h6 => ?_) (fun h6 => ?_)
 refine ewl_grd rfl rfl h6 ?_
 refine ewl_run rfl (rn_move rfl) ?_
 refine ewl_grd rfl rfl h6 ?_
 refine ewl_run rfl (rn_geI rfl rfl) ?_
 refine ewl_run rfl (rn_pickt rfl h6 rfl) ?_
 refine ewl_nil ?_
 refine thn_n ?_
 refine ewp_if rfl (fun h7 => ?_) (fun h7 => ?_)
 refine ewp_seq ?_
 refine ewp_reg ?_
 refine ewl_run rfl (rn_move rfl) ?_
 refine ewl_ret rfl (en_call ent34 rfl rfl) (next_spec _ b src (i + 1) (adv c p) sl hb3 a1 ha1 (by omega) hp1) ?_
 rintro _ w8 ⟨rfl, hb4, hE7⟩
 replace hb2 := hb2.exb hE7 (by omega)
 replace hX := hX.trans2 hE7
 have sz5 := hE7.size
 have hp2 := Pk.adv (c := a1) hp1
 refine ewl_nil ?_
 refine thn_n ?_
 refine ewp_seq ?_
 refine ewp_reg ?_
 refine ewl_run rfl (rn_move rfl) ?_
 refine ewl_ret rfl (en_call ent34 rfl rfl) (next_spec _ b src ((i + 1) + 1) (adv a1 (adv c p)) sl hb4 a2 ha2 (by omega) hp2) ?_
 rintro _ w9 ⟨rfl, hb5, hE8⟩
 replace hb2 := hb2.exb hE8 (by omega)
 replace hX := hX.trans2 hE8
 have sz6 := hE8.size
 have hp3 := Pk.adv (c := a2) hp2
 refine ewl_nil ?_
 refine thn_n ?_
 refine ewp_seq ?_
 have hx1 : 0 ≤ Lib.indexByte hexesB a1 := by have := h6; simpa using this
 have hx2 : 0 ≤ Lib.indexByte hexesB a2 := by have := h7; simpa using this
 have hy1 := hex_lt a1
 have hy2 := hex_lt a2
 refine ewp_reg ?_
 refine ewl_run rfl (rn_move rfl) ?_
 refine ewl_run rfl (rn_shl4 rfl rfl ⟨hx1, hy1⟩) ?_
 refine ewl_run rfl (rn_move rfl) ?_
 refine ewl_run rfl (rn_or16 rfl rfl ⟨hx1, hy1⟩ ⟨hx2, hy2⟩) ?_
 refine ewl_run rfl (rn_cvI rfl cv3_5 (wrap8 ⟨by omega, by omega⟩)) ?_
 refine ewl_run rfl (rn_assign rfl) ?_
 refine ewl_nil ?_
 refine thn_n ?_
 refine ewp_ret ?_
 refine blk_r ?_
 refine thn_r ?_
 refine fn_r (resv rfl (rv_tmp rfl)) ?_
 exact ⟨UInt8.ofNat ((Lib.indexByte hexesB a1).toNat * 16 + (Lib.indexByte hexesB a2).toNat), i + 3, adv a2 (adv a1 (adv c p)), by rw [drop_at hc, drop2 ha1 ha2]; simp [escM, h1, h2, h3, h4, hx1, hx2], by rw [hexv ⟨hx1, hy1⟩ ⟨hx2, hy2⟩], hb5, hX, by omega, by omega, hp3⟩
 refine ewp_skip ?_
 refine blk_n ?_
 refine thn_n ?_
 refine ewp_reg ?_
 refine ewl_run rfl (rn_loada rfl ti25 hb2 rfl) ?_
 refine ewl_run rfl (rn_build rfl pl54 zr54 rfl) ?_
 refine ewl_run rfl (rn_mki rfl ni54) ?_
 refine ewl_pan (pn_panic rfl) (And.intro rfl ?_)
 exact ⟨p, by rw [drop_at hc, drop2 ha1 ha2]; exact escM_bad h1 h2 h3 h4 (.inr (by have := h7; simpa using this)), rfl, hX⟩
 refine ewl_off rfl rfl rfl h6 ?_
 refine ewl_off rfl rfl rfl h6 ?_
 refine ewl_run rfl (rn_pickf rfl h6 rfl) ?_
 refine ewl_nil ?_
 refine thn_n ?_
 refine ewp_iff rfl rfl ?_
 refine ewp_skip ?_
 refine blk_n ?_
 refine thn_n ?_
 refine ewp_reg ?_
 refine ewl_run rfl (rn_loada rfl ti25 hb2 rfl) ?_
 refine ewl_run rfl (rn_build rfl pl54 zr54 rfl) ?_
 refine ewl_run rfl (rn_mki rfl ni54) ?_
 refine ewl_pan (pn_panic rfl) (And.intro rfl ?_)
 exact ⟨p, by rw [drop_at hc, drop2 ha1 ha2]; exact escM_bad h1 h2 h3 h4 (.inl (by have := h6; simpa using this)), rfl, hX⟩
 refine ewp_skip ?_
 refine blk_n ?_
 refine thn_n ?_
 refine ewp_reg ?_
 refine ewl_run rfl (rn_loada rfl ti25 hb2 rfl) ?_
 refine ewl_run rfl (rn_build rfl pl54 zr54 rfl) ?_
 refine ewl_run rfl (rn_mki rfl ni54) ?_
 refine ewl_pan (pn_panic rfl) (And.intro rfl ?_)
 exact ⟨p, by rw [drop_at hc]; exact escM_few h1 h2 h3 (by have := h5; simp at this; simp; omega), rfl, hX⟩
 refine ewp_skip ?_
 refine blk_n ?_
 refine thn_n ?_
 refine ewp_reg ?_
 refine ewl_run rfl (rn_loada rfl ti25 hb2 rfl) ?_
 refine ewl_run rfl (rn_build rfl pl54 zr54 rfl) ?_
 refine ewl_run rfl (rn_mki rfl ni54) ?_
 refine ewl_pan (pn_panic rfl) (And.intro rfl ?_)
 exact ⟨p, by rw [drop_at hc]; simp [escM, h1, h2, h3, h4], rfl, hX⟩
end Go.Proofs.YthjdnhnbgjgbkaaGreatDoor
namespace Go.SP
open Go.SW Go.RowKit
theorem ExB.grow {m : Nat} {w w1 w2 : World} {a a' : Option Addr} (h : ExB m w w1) (hG : Grow a w1 a' w2) (hb : ∀ x, rb a = some x → w.heap.size ≤ x) : ExB m w w2 :=
 ⟨hG.os.trans h.os, hG.tape.trans h.tape, hG.output.trans h.output, Nat.le_trans h.size hG.size, fun k hk hne => (hG.block k (Nat.lt_of_lt_of_le hk h.size) (fun e => by have := hb k e.symm; omega)).trans (h.block k hk hne)⟩
end Go.SP
namespace Go.SW
open Go.SP Go.RowKit
theorem Row.exb {m : Nat} {w w' : World} {e : TypeId} {size : Nat} {a : Option Addr} {c n : Nat} {xs : List Value} (h : Row w e size a c n xs) (hE : ExB m w w') (hne : rb a ≠ some m) : Row w' e size a c n xs :=
 ⟨h.1, h.2.imp id fun ⟨b, l, h1, h2, h3⟩ => ⟨b, l, h1, h2.exb hE (fun e => hne (by rw [h1, e]; rfl)), h3⟩⟩
end Go.SW
namespace Go.SP
open Go.SW Go.RowKit
/-- Where a row lies that grew: where it lay, or behind all. -/
theorem low_grow {w1 w2 : World} {a a' : Option Addr} {p : Nat → Prop} (hG : Grow a w1 a' w2) (h : ∀ x, rb a = some x → p x) (hn : p w1.heap.size) : ∀ x, rb a' = some x → p x := fun x hx => by
 rcases hG.own with e | e
 · exact h x (e ▸ hx)
 · have := Option.some.inj (e.symm.trans hx)
   exact this ▸ hn
theorem drop_end {src : List UInt8} {i : Nat} (h : ¬ i < src.length) : src.drop i = [] := List.drop_eq_nil_of_le (by omega)
theorem strM_cons (start p : Ps) (n : Nat) (acc r : List UInt8) (c : UInt8) : strM start (n + 1) p acc (c :: r) =
   (if (c.toNat : Int) == 34 then (if decide ((4096 : Int) < acc.length) then .error start else .ok (acc, r, adv c p))
   else if decide ((c.toNat : Int) < 32) then .error p
   else if (c.toNat : Int) != 92 then strM start n (adv c p) (acc ++ [c]) r
   else match r with
     | [] => .error start
     | _ => match escM (adv c p) r with
       | .error e => .error e
       | .ok (b, r', p') => strM start n p' (acc ++ [b]) r') := rfl
section
variable {start p : Ps} {F i : Nat} {acc src : List UInt8} {c : UInt8}
theorem strM_end (hF : 0 < F) (h : ¬ i < src.length) : strM start F p acc (src.drop i) = .error start := by
 rw [drop_end h]
 cases F with
 | zero => omega
 | succ n => rfl
theorem strM_big (hc : src[i]? = some c) (h1 : ((c.toNat : Int) == 34) = true) (h2 : decide ((4096 : Int) < acc.length) = true) : strM start (F + 1) p acc (src.drop i) = .error start := by rw [drop_at hc]; rw [strM_cons, if_pos h1, if_pos h2]
theorem strM_fin (hc : src[i]? = some c) (h1 : ((c.toNat : Int) == 34) = true) (h2 : decide ((4096 : Int) < acc.length) = false) : strM start (F + 1) p acc (src.drop i) = .ok (acc, src.drop (i + 1), adv c p) := by rw [drop_at hc]; rw [strM_cons, if_pos h1, if_neg (by rw [h2]; decide)]
theorem strM_low (hc : src[i]? = some c) (h1 : ((c.toNat : Int) == 34) = false) (h2 : decide ((c.toNat : Int) < 32) = true) : strM start (F + 1) p acc (src.drop i) = .error p := by rw [drop_at hc]; rw [strM_cons, if_neg (by rw [h1]; decide), if_pos h2]
theorem strM_more (hc : src[i]? = some c) (h1 : ((c.toNat : Int) == 34) = false) (h2 : decide ((c.toNat : Int) < 32) = false) (h3 : ((c.toNat : Int) != 92) = true) :
   strM start (F + 1) p acc (src.drop i) = strM start F (adv c p) (acc ++ [c]) (src.drop (i + 1)) := by rw [drop_at hc]; rw [strM_cons, if_neg (by rw [h1]; decide), if_neg (by rw [h2]; decide), if_pos h3]
theorem strM_last (hc : src[i]? = some c) (h1 : ((c.toNat : Int) == 34) = false) (h2 : decide ((c.toNat : Int) < 32) = false) (h3 : ((c.toNat : Int) != 92) = false) (h : ¬ i + 1 < src.length) :
   strM start (F + 1) p acc (src.drop i) = .error start := by rw [drop_at hc, drop_end h]; rw [strM_cons, if_neg (by rw [h1]; decide), if_neg (by rw [h2]; decide), if_neg (by rw [h3]; decide)]
theorem strM_escE {e : Ps} (hc : src[i]? = some c) (h1 : ((c.toNat : Int) == 34) = false) (h2 : decide ((c.toNat : Int) < 32) = false) (h3 : ((c.toNat : Int) != 92) = false) (h : i + 1 < src.length)
   (hx : escM (adv c p) (src.drop (i + 1)) = .error e) : strM start (F + 1) p acc (src.drop i) = .error e := by
 obtain ⟨d, hd⟩ := at_lt h
 rw [drop_at hc, strM_cons, if_neg (by rw [h1]; decide), if_neg (by rw [h2]; decide), if_neg (by rw [h3]; decide)]
 rw [drop_at hd] at hx ⊢
 simp only [hx]
theorem strM_escO {b : UInt8} {r' : List UInt8} {p' : Ps} (hc : src[i]? = some c) (h1 : ((c.toNat : Int) == 34) = false) (h2 : decide ((c.toNat : Int) < 32) = false) (h3 : ((c.toNat : Int) != 92) = false) (h : i + 1 < src.length)
   (hx : escM (adv c p) (src.drop (i + 1)) = .ok (b, r', p')) : strM start (F + 1) p acc (src.drop i) = strM start F p' (acc ++ [b]) r' := by
 obtain ⟨d, hd⟩ := at_lt h
 rw [drop_at hc, strM_cons, if_neg (by rw [h1]; decide), if_neg (by rw [h2]; decide), if_neg (by rw [h3]; decide)]
 rw [drop_at hd] at hx ⊢
 simp only [hx]
end
end Go.SP
namespace Go.Proofs.YthjdnhnbgjgbkaaGreatDoor
open Go.SW Go.SP Go.RowKit
theorem str_spec (w : World) (b : Nat) (src : List UInt8) (i : Nat) (p : Ps) (sl : Value) (hsc : Blk w b [S src, .int .i64 (i : Int), .int .i64 p.1, .int .i64 p.2, sl] 57) (start : Ps) (hile : i ≤ src.length) (hi : src.length < 100000) (hp : Pk i p) :
   RetP Tryz.prog 36 #[.pointer (some ⟨b, 0, none⟩), .agg #[.int .i64 start.1, .int .i64 start.2]] w (fun v w' => ∃ (tx : List UInt8) (i1 : Nat) (p1 : Ps), strM start (src.length + 1) p [] (src.drop i) = .ok (tx, src.drop i1, p1) ∧ v = .agg #[.int .i64 4, .int .i64 start.1, .int .i64 start.2, .int .i64 0, S tx] ∧ Blk w' b [S src, .int .i64 ((i1 : Nat) : Int), .int .i64 p1.1, .int .i64 p1.2, sl] 57 ∧ ExB b w w' ∧ i < i1 ∧ i1 ≤ src.length ∧ Pk i1 p1) (fun cc w' => ∃ e, strM start (src.length + 1) p [] (src.drop i) = .error e ∧ cc = trb 54 e ∧ ExB b w w') := by
 have hbl := hsc.lt
 have hX := ExB.refl b w
 refine enterP Tryz.func36 rfl rfl rfl ?_
 refine ewp_seq ?_
 refine ewp_reg ?_
 refine ewl_box rfl rfl rfl fun b1 w1 hb1 hE1 hs1 hz1 => ?_
 replace hsc := hsc.ext hE1
 replace hX := hX.trans hE1
 refine ewl_alloc rfl zr59 fun b2 w2 hb2 hE2 hs2 hz2 => ?_
 replace hsc := hsc.ext hE2
 replace hb1 := hb1.ext hE2
 replace hX := hX.trans hE2
 refine ewl_nil ?_
 refine thn_n ?_
 refine ewp_seq ?_
 refine ewp_reg ?_
 refine ewl_run rfl (rn_assign rfl) ?_
 refine ewl_nil ?_
 refine thn_n ?_
 refine ewp_seq ?_
 refine ewp_block ?_
 refine ewp_loop (fun k σ ds w' => ∃ (j : Nat) (q : Ps) (acc : List UInt8) (ra : Option Addr) (rc F : Nat), k = src.length - j ∧ ds = [] ∧ σ = (upd (upd (upd (upd SW.e0 0 (.pointer (some ⟨b, 0, none⟩))) 3 (.pointer (some ⟨b1, 0, none⟩))) 4 (.pointer (some ⟨b2, 0, none⟩))) 5 (.slice ra acc.length rc)) ∧ i ≤ j ∧ j ≤ src.length ∧ Pk j q ∧ src.length + 1 ≤ F + j ∧ strM start (src.length + 1) p [] (src.drop i) = strM start F q acc (src.drop j) ∧ acc.length ≤ j ∧ Blk w' b [S src, .int .i64 ((j : Nat) : Int), .int .i64 q.1, .int .i64 q.2, sl] 57 ∧ Blk w' b1 [.int .i64 start.1, .int .i64 start.2] 25 ∧ Blk w' b2 [.int .i64 0, .int .i64 0, .int .i64 0, .int .i64 0, .string ⟨#[]⟩] 59 ∧ Row w' 5 1 ra rc acc.length (bC acc) ∧ (∀ x, rb ra = some x → w.heap.size ≤ x ∧ x ≠ b1 ∧ x ≠ b2) ∧ ExB b w w') (src.length - i) (upd (upd (upd (upd SW.e0 0 (.pointer (some ⟨b, 0, none⟩))) 3 (.pointer (some ⟨b1, 0, none⟩))) 4 (.pointer (some ⟨b2, 0, none⟩))) 5 (.slice none 0 0)) (le_upd (le_upd (le_upd (le_upd (le_e0 _) rfl) rfl) rfl) rfl) ⟨i, p, [], none, 0, src.length + 1, rfl, rfl, rfl, Nat.le_refl _, hile, hp, by omega, rfl, by simp, hsc, hb1, hb2, row_nil _ _ _, (fun x hx => by cases hx), hX⟩ ?_
 rintro _ _ _ wl ⟨j, q, acc, ra, rc, F, rfl, rfl, rfl, hij, hjl, hq, hF, hm, hal, hscl, hl3, hl4, hrow, hlow, hX⟩
 have szl := hX.size
 have lt3 := hl3.lt
 have lt4 := hl4.lt
 have lts := hscl.lt
 have hlowl : ∀ x, rb ra = some x → x < wl.heap.size := fun x hx => hrow.lt hx
 refine ewp_seq ?_
 refine ewp_seq ?_
 refine ewp_reg ?_
 refine ewl_run rfl (rn_move rfl) ?_
 refine ewl_ret rfl (en_call ent20 rfl rfl) (more_spec _ b src j q sl hscl) ?_
 rintro _ w3 ⟨rfl, hE3⟩
 replace hscl := hscl.ext hE3
 replace hl3 := hl3.ext hE3
 replace hl4 := hl4.ext hE3
 replace hrow := hrow.ext hE3
 replace hX := hX.trans hE3
 have sz1 := hE3.size
 refine ewl_nil ?_
 refine thn_n ?_
 refine ewp_if rfl (fun h1 => ?_) (fun h1 => ?_)
 refine ewp_skip ?_
 refine thn_n ?_
 refine ewp_block ?_
 refine ewp_seq ?_
 have hjlt : j < src.length := by have := h1; simpa using this
 obtain ⟨c, hc⟩ := at_lt hjlt
 obtain ⟨F, rfl⟩ : ∃ F1, F = F1 + 1 := ⟨F - 1, by omega⟩
 refine ewp_reg ?_
 refine ewl_run rfl (rn_move rfl) ?_
 refine ewl_run rfl (rn_nc rfl) ?_
 refine ewl_run rfl (rn_fa rfl fl57_2) ?_
 refine ewl_run rfl (rn_loada rfl ti25 hscl rfl) ?_
 refine ewl_alloc rfl zr25 fun b3 w4 hb3 hE4 hs3 hz3 => ?_
 replace hscl := hscl.ext hE4
 replace hl3 := hl3.ext hE4
 replace hl4 := hl4.ext hE4
 replace hrow := hrow.ext hE4
 replace hX := hX.trans hE4
 refine ewl_store rfl rfl rfl ti25 rfl hb3 rfl rfl fun w5 hb4 hC1 => ?_
 replace hscl := hscl.chg hC1 (by omega)
 replace hl3 := hl3.chg hC1 (by omega)
 replace hl4 := hl4.chg hC1 (by omega)
 replace hrow := Row.chg hrow hC1 (fun e => by have := hlow _ e; have := hlowl _ e; omega)
 replace hX := hX.chg hC1 (by omega)
 have sz2 := hC1.size
 refine ewl_nil ?_
 refine thn_n ?_
 refine ewp_seq ?_
 refine ewp_reg ?_
 refine ewl_run rfl (rn_move rfl) ?_
 refine ewl_ret rfl (en_call ent34 rfl rfl) (next_spec _ b src j q sl hscl c hc (by omega) hq) ?_
 rintro _ w6 ⟨rfl, hb5, hE5⟩
 replace hl3 := hl3.exb hE5 (by omega)
 replace hl4 := hl4.exb hE5 (by omega)
 replace hrow := Row.exb hrow hE5 (fun e => by have := hlow _ e; omega)
 replace hb4 := hb4.exb hE5 (by omega)
 replace hX := hX.trans2 hE5
 have sz3 := hE5.size
 have hp1 := Pk.adv (c := c) hq
 refine ewl_run rfl (rn_assign rfl) ?_
 refine ewl_nil ?_
 refine thn_n ?_
 refine ewp_block ?_
 refine ewp_seq ?_
 refine ewp_reg ?_
 refine ewl_run rfl (rn_move rfl) ?_
 refine ewl_run rfl (rn_eqI rfl rfl) ?_
 refine ewl_run rfl (rn_assign rfl) ?_
 refine ewl_nil ?_
 refine thn_n ?_
 refine ewp_if rfl (fun h2 => ?_) (fun h2 => ?_)
 refine ewp_seq ?_
 refine ewp_seq ?_
 refine ewp_reg ?_
 refine ewl_run rfl (rn_move rfl) ?_
 refine ewl_run rfl (rn_len rfl sl71) ?_
 refine ewl_run rfl (rn_gtI rfl rfl) ?_
 refine ewl_nil ?_
 refine thn_n ?_
 refine ewp_if rfl (fun h3 => ?_) (fun h3 => ?_)
 refine ewp_reg ?_
 refine ewl_run rfl (rn_loada rfl ti25 hl3 rfl) ?_
 refine ewl_run rfl (rn_build rfl pl54 zr54 rfl) ?_
 refine ewl_run rfl (rn_mki rfl ni54) ?_
 refine ewl_pan (pn_panic rfl) (And.intro rfl ?_)
 exact ⟨start, hm.trans (strM_big hc h2 h3), rfl, hX⟩
 refine ewp_skip ?_
 refine thn_n ?_
 refine ewp_seq ?_
 refine ewp_reg ?_
 refine ewl_run rfl (rn_loada rfl ti25 hl3 rfl) ?_
 refine ewl_run rfl (rn_move rfl) ?_
 refine ewl_run rfl (rn_bts rfl bts71_9 hrow) ?_
 refine ewl_run rfl (rn_build rfl pl59 zr59 rfl) ?_
 refine ewl_store rfl rfl rfl ti59 rfl hl4 rfl rfl fun w7 hb6 hC2 => ?_
 replace hl3 := hl3.chg hC2 (by omega)
 replace hrow := Row.chg hrow hC2 (fun e => by have := hlow _ e; have := hlowl _ e; omega)
 replace hb4 := hb4.chg hC2 (by omega)
 replace hb5 := hb5.chg hC2 (by omega)
 replace hX := hX.chg hC2 (by omega)
 have sz4 := hC2.size
 refine ewl_nil ?_
 refine thn_n ?_
 refine ewp_ret ?_
 refine blk_r ?_
 refine blk_r ?_
 refine lp_r ?_
 refine blk_r ?_
 refine thn_r ?_
 refine fn_r (resv rfl (rv_cella rfl ti59 hb6 rfl)) ?_
 exact ⟨acc, j + 1, adv c q, hm.trans (strM_fin hc h2 h3), rfl, hb5, hX, by omega, by omega, hp1⟩
 refine ewp_seq ?_
 refine ewp_reg ?_
 refine ewl_run rfl (rn_move rfl) ?_
 refine ewl_run rfl (rn_ltI rfl rfl) ?_
 refine ewl_run rfl (rn_assign rfl) ?_
 refine ewl_nil ?_
 refine thn_n ?_
 refine ewp_if rfl (fun h4 => ?_) (fun h4 => ?_)
 refine ewp_reg ?_
 refine ewl_run rfl (rn_loada rfl ti25 hb4 rfl) ?_
 refine ewl_run rfl (rn_build rfl pl54 zr54 rfl) ?_
 refine ewl_run rfl (rn_mki rfl ni54) ?_
 refine ewl_pan (pn_panic rfl) (And.intro rfl ?_)
 exact ⟨q, hm.trans (strM_low hc h2 h4), rfl, hX⟩
 refine ewp_seq ?_
 refine ewp_reg ?_
 refine ewl_run rfl (rn_move rfl) ?_
 refine ewl_run rfl (rn_neI rfl rfl) ?_
 refine ewl_run rfl (rn_assign rfl) ?_
 refine ewl_nil ?_
 refine thn_n ?_
 refine ewp_if rfl (fun h5 => ?_) (fun h5 => ?_)
 refine ewp_reg ?_
 refine ewl_run rfl (rn_move rfl) ?_
 refine ewl_run rfl (rn_move rfl) ?_
 refine ewl_bs rfl rfl sl71 zr5 rfl rfl rfl rfl rfl fun b4 w8 hb7 hE6 hs4 hz4 => ?_
 replace hl3 := hl3.ext hE6
 replace hl4 := hl4.ext hE6
 replace hrow := hrow.ext hE6
 replace hb4 := hb4.ext hE6
 replace hb5 := hb5.ext hE6
 replace hX := hX.trans hE6
 refine ewl_app1 rfl ap71 rfl rfl rfl rfl hrow hb7 rfl rfl (by omega) (by omega) fun ra2 rc2 w9 hr2 hG => ?_
 have hlow2 : ∀ x, rb ra2 = some x → w.heap.size ≤ x ∧ x ≠ b1 ∧ x ≠ b2 := low_grow hG hlow (by omega)
 replace hl3 := hl3.grow hG (fun e => by have := hlow _ e.symm; omega)
 replace hl4 := hl4.grow hG (fun e => by have := hlow _ e.symm; omega)
 replace hb5 := hb5.grow hG (fun e => by have := hlow _ e.symm; omega)
 replace hX := hX.grow hG (fun x hx => (hlow x hx).1)
 have sz5 := hG.size
 refine ewl_run rfl (rn_assign rfl) ?_
 refine ewl_nil ?_
 refine blk_n ?_
 refine blk_n ?_
 have hl2 : acc.length + 1 = (acc ++ [c]).length := by simp
 refine lp_n (src.length - (j + 1)) (upd (upd (upd (upd SW.e0 0 (.pointer (some ⟨b, 0, none⟩))) 3 (.pointer (some ⟨b1, 0, none⟩))) 4 (.pointer (some ⟨b2, 0, none⟩))) 5 (.slice ra2 (acc ++ [c]).length rc2)) (by have := lt_at hc; omega) (le_upd (le_upd (le_upd (le_upd (le_e0 _) rfl) rfl) rfl) (hl2 ▸ rfl)) ⟨j + 1, adv c q, acc ++ [c], ra2, rc2, F, rfl, rfl, rfl, by omega, by have := lt_at hc; omega, hp1, by omega, hm.trans (strM_more hc h2 h4 h5), by rw [← hl2]; omega, hb5, hl3, hl4, by rw [← hl2, bC_app]; exact hr2, hlow2, hX⟩
 refine ewp_seq ?_
 refine ewp_reg ?_
 refine ewl_run rfl (rn_move rfl) ?_
 refine ewl_ret rfl (en_call ent20 rfl rfl) (more_spec _ b src (j + 1) (adv c q) sl hb5) ?_
 rintro _ w10 ⟨rfl, hE7⟩
 replace hl3 := hl3.ext hE7
 replace hl4 := hl4.ext hE7
 replace hrow := hrow.ext hE7
 replace hb4 := hb4.ext hE7
 replace hb5 := hb5.ext hE7
 replace hX := hX.trans hE7
 have sz6 := hE7.size
 refine ewl_run rfl (rn_assign rfl) ?_
 refine ewl_nil ?_
 refine thn_n ?_
 refine ewp_if rfl (fun h6 => ?_) (fun h6 => ?_)
 obtain ⟨c2, hc2⟩ := at_lt (show j + 1 < src.length by have := of_decide_eq_true h6; omega)
 refine ewp_reg ?_
 refine ewl_run rfl (rn_move rfl) ?_
 refine ewl_run rfl (rn_move rfl) ?_
 refine ewl_retp rfl (en_call ent43 rfl rfl) (escape_spec _ b src (j + 1) (adv c q) sl hb5 c2 hc2 (by omega) hp1) ?_ (fun cc wp hc1 => And.intro rfl (let ⟨e, he, hcc, hE⟩ := hc1; ⟨e, hm.trans (strM_escE hc h2 h4 h5 (by have := of_decide_eq_true h6; omega) he), hcc, hX.trans2 hE⟩))
 rintro _ w11 ⟨c1, i1, p1, hesc, rfl, hb8, hE8, hi1, hi2, hp1⟩
 replace hl3 := hl3.exb hE8 (by omega)
 replace hl4 := hl4.exb hE8 (by omega)
 replace hrow := Row.exb hrow hE8 (fun e => by have := hlow _ e; omega)
 replace hb4 := hb4.exb hE8 (by omega)
 replace hX := hX.trans2 hE8
 have sz7 := hE8.size
 refine ewl_bs rfl rfl sl71 zr5 rfl rfl rfl rfl rfl fun b5 w12 hb9 hE9 hs5 hz5 => ?_
 replace hl3 := hl3.ext hE9
 replace hl4 := hl4.ext hE9
 replace hrow := hrow.ext hE9
 replace hb4 := hb4.ext hE9
 replace hb8 := hb8.ext hE9
 replace hX := hX.trans hE9
 refine ewl_app1 rfl ap71 rfl rfl rfl rfl hrow hb9 rfl rfl (by omega) (by omega) fun ra2 rc2 w13 hr2 hG => ?_
 have hlow2 : ∀ x, rb ra2 = some x → w.heap.size ≤ x ∧ x ≠ b1 ∧ x ≠ b2 := low_grow hG hlow (by omega)
 replace hl3 := hl3.grow hG (fun e => by have := hlow _ e.symm; omega)
 replace hl4 := hl4.grow hG (fun e => by have := hlow _ e.symm; omega)
 replace hb8 := hb8.grow hG (fun e => by have := hlow _ e.symm; omega)
 replace hX := hX.grow hG (fun x hx => (hlow x hx).1)
 have sz8 := hG.size
 refine ewl_run rfl (rn_assign rfl) ?_
 refine ewl_nil ?_
 refine blk_n ?_
 refine blk_n ?_
 have hl2 : acc.length + 1 = (acc ++ [c1]).length := by simp
 refine lp_n (src.length - (i1)) (upd (upd (upd (upd SW.e0 0 (.pointer (some ⟨b, 0, none⟩))) 3 (.pointer (some ⟨b1, 0, none⟩))) 4 (.pointer (some ⟨b2, 0, none⟩))) 5 (.slice ra2 (acc ++ [c1]).length rc2)) (by have := lt_at hc; omega) (le_upd (le_upd (le_upd (le_upd (le_e0 _) rfl) rfl) rfl) (hl2 ▸ rfl)) ⟨i1, p1, acc ++ [c1], ra2, rc2, F, rfl, rfl, rfl, by omega, by have := lt_at hc; omega, hp1, by omega, hm.trans (strM_escO hc h2 h4 h5 (by have := of_decide_eq_true h6; omega) hesc), by rw [← hl2]; omega, hb8, hl3, hl4, by rw [← hl2, bC_app]; exact hr2, hlow2, hX⟩
 refine ewp_skip ?_
 refine blk_n ?_
 refine blk_n ?_
 refine lp_n (src.length - (j + 1)) (upd (upd (upd (upd SW.e0 0 (.pointer (some ⟨b, 0, none⟩))) 3 (.pointer (some ⟨b1, 0, none⟩))) 4 (.pointer (some ⟨b2, 0, none⟩))) 5 (.slice ra acc.length rc)) (by have := lt_at hc; omega) (le_upd (le_upd (le_upd (le_upd (le_e0 _) rfl) rfl) rfl) rfl) ⟨j + 1, adv c q, acc, ra, rc, F, rfl, rfl, rfl, by omega, by have := lt_at hc; omega, hp1, by omega, hm.trans ?_, by omega, hb5, hl3, hl4, hrow, hlow, hX⟩
 have hno : ¬ j + 1 < src.length := by have := h6; simp at this; omega
 rw [strM_last hc h2 h4 h5 hno, strM_end (by have := lt_at hc; omega) hno]
 refine ewp_exit ?_
 refine thn_e ?_
 refine lp_e ?_
 refine blk_e ?_
 refine thn_n ?_
 refine ewp_reg ?_
 refine ewl_run rfl (rn_loada rfl ti25 hl3 rfl) ?_
 refine ewl_run rfl (rn_build rfl pl54 zr54 rfl) ?_
 refine ewl_run rfl (rn_mki rfl ni54) ?_
 refine ewl_pan (pn_panic rfl) (And.intro rfl ?_)
 exact ⟨start, hm.trans (strM_end (by omega) (by have := h1; simp at this; omega)), rfl, hX⟩
end Go.Proofs.YthjdnhnbgjgbkaaGreatDoor
namespace Go.SW
open Go.RowKit
section
variable {P : Program} {n : Nat} {Q : Post} {σ : Env} {ds : List Deferred} {w : World} {ops : Array Oper} {ty T T' : TypeId} {pos : String} {af : Array Edge} {rest : List Oper} {d b off k : Nat} {x y : Operand}
theorem rn_addK {t t' : TypeId} {k : IntKind} {a b : Int} (m : Int) (hx : ev σ x = some (.int k a)) (hy : ev σ y = some (.int k b)) (h : k.wrap (a + b) = m) : Runs P σ (.binOp .add t x y t') ty w (.int k m) w :=
 fun ρ _ _ _ _ hρ => by simp [execOp, hρ _ _ hx, hρ _ _ hy, eqGuard, binOp, Op.intArith, h]
theorem rn_subK {t t' : TypeId} {k : IntKind} {a b : Int} (m : Int) (hx : ev σ x = some (.int k a)) (hy : ev σ y = some (.int k b)) (h : k.wrap (a - b) = m) : Runs P σ (.binOp .sub t x y t') ty w (.int k m) w :=
 fun ρ _ _ _ _ hρ => by simp [execOp, hρ _ _ hx, hρ _ _ hy, eqGuard, binOp, Op.intArith, h]
theorem rn_mulK {t t' : TypeId} {k : IntKind} {a b : Int} (m : Int) (hx : ev σ x = some (.int k a)) (hy : ev σ y = some (.int k b)) (h : k.wrap (a * b) = m) : Runs P σ (.binOp .mul t x y t') ty w (.int k m) w :=
 fun ρ _ _ _ _ hρ => by simp [execOp, hρ _ _ hx, hρ _ _ hy, eqGuard, binOp, Op.intArith, h]
theorem rn_shlK {t t' : TypeId} {k k2 : IntKind} {a b : Int} (m : Int) (hx : ev σ x = some (.int k a)) (hy : ev σ y = some (.int k2 b)) (h0 : ¬ b < 0) (h : k.wrap (a * 2 ^ (min b.toNat k.bits)) = m) : Runs P σ (.binOp .shl t x y t') ty w (.int k m) w :=
 fun ρ _ _ _ _ hρ => by simp only [execOp, hρ _ _ hx, hρ _ _ hy, eqGuard, binOp, Op.shift, if_neg h0, h]; rfl
theorem rn_shrK {t t' : TypeId} {k k2 : IntKind} {a b : Int} (m : Int) (hx : ev σ x = some (.int k a)) (hy : ev σ y = some (.int k2 b)) (h0 : ¬ b < 0) (h : a.fdiv (2 ^ (min b.toNat k.bits)) = m) : Runs P σ (.binOp .shr t x y t') ty w (.int k m) w :=
 fun ρ _ _ _ _ hρ => by simp only [execOp, hρ _ _ hx, hρ _ _ hy, eqGuard, binOp, Op.shift, if_neg h0, h]; rfl
theorem rn_negK {t : TypeId} {k : IntKind} {a : Int} (m : Int) (hx : ev σ x = some (.int k a)) (h : k.wrap (0 - a) = m) : Runs P σ (.unOp .neg t x) ty w (.int k m) w := fun ρ _ _ _ _ hρ => by
 have h' : k.wrap (-a) = m := by rw [← h]; congr 1; omega
 simp [execOp, hρ _ _ hx, Op.unary, Op.intArith, h']
theorem rn_nilN0 {t t' : TypeId} (ht : ifT P t = true) (hx : ev σ x = some .nilIface) : Runs P σ (.binOp .neq t x (.const .nilIface) t') ty w (.bool false) w := by
 obtain ⟨ms, hu⟩ := ifT_spec ht
 have e : (Op.equal t .nilIface .nilIface).run P w = .ok true w := eqIn0 (Op.maxDepth - 1) hu
 exact fun ρ _ _ _ _ hρ => by
   have hy : ρ (.const .nilIface) = .nilIface := hρ _ _ rfl
   simp [execOp, hρ _ _ hx, hy, eqGuard, binOp, e]
theorem rn_nilN1 {t t' : TypeId} {v : Value} (ht : ifT P t = true) (hx : ev σ x = some (.iface T v)) : Runs P σ (.binOp .neq t x (.const .nilIface) t') ty w (.bool true) w := by
 obtain ⟨ms, hu⟩ := ifT_spec ht
 have e : (Op.equal t (.iface T v) .nilIface).run P w = .ok false w := eqIn1 (Op.maxDepth - 1) hu
 exact fun ρ _ _ _ _ hρ => by
   have hy : ρ (.const .nilIface) = .nilIface := hρ _ _ rfl
   simp [execOp, hρ _ _ hx, hy, eqGuard, binOp, e]
/-- Errors that are numbers. -/
def cmpI (P : Program) (T : TypeId) : Bool := match P.info? T, P.underlying T with | some i, some (.int _) => i.comparable | _, _ => false
theorem eqI {ms} (dd : Nat) {t : TypeId} {k : IntKind} {a b : Int} (hu : P.underlying t = some (.interface ms)) (hc : cmpI P T = true) : (Op.equalIn (dd + 2) t (.iface T (.int k a)) (.iface T (.int k b))).run P w = .ok (a == b) w := by
 unfold cmpI at hc
 split at hc
 · rename_i i k' hi hk
   have h2 : (Op.equalIn (dd + 1) T (.int k a) (.int k b)).run P w = .ok (a == b) w := by simp [Op.equalIn, run_underlying hk]
   rw [Op.equalIn]
   simp [run_underlying hu, typeInfo, hi, hc, h2]
 · cases hc
theorem rn_eqE {t t' : TypeId} {k : IntKind} {a b : Int} (ht : ifT P t = true) (hc : cmpI P T = true) (hx : ev σ x = some (.iface T (.int k a))) (hy : ev σ y = some (.iface T (.int k b))) : Runs P σ (.binOp .eql t x y t') ty w (.bool (a == b)) w := by
 obtain ⟨ms, hu⟩ := ifT_spec ht
 have e : (Op.equal t (.iface T (.int k a)) (.iface T (.int k b))).run P w = .ok (a == b) w := eqI (Op.maxDepth - 2) hu hc
 exact fun ρ _ _ _ _ hρ => by simp [execOp, hρ _ _ hx, hρ _ _ hy, eqGuard, binOp, e]
theorem rn_neE {t t' : TypeId} {k : IntKind} {a b : Int} (ht : ifT P t = true) (hc : cmpI P T = true) (hx : ev σ x = some (.iface T (.int k a))) (hy : ev σ y = some (.iface T (.int k b))) : Runs P σ (.binOp .neq t x y t') ty w (.bool (!(a == b))) w := by
 obtain ⟨ms, hu⟩ := ifT_spec ht
 have e : (Op.equal t (.iface T (.int k a)) (.iface T (.int k b))).run P w = .ok (a == b) w := eqI (Op.maxDepth - 2) hu hc
 exact fun ρ _ _ _ _ hρ => by simp [execOp, hρ _ _ hx, hρ _ _ hy, eqGuard, binOp, e]
/-- Cells that are there to be read. -/
structure Cel (w : World) (b : Nat) (l : List Value) : Prop where
 lt : b < w.heap.size
 at' : ∀ j v, l[j]? = some v → w.cell? ⟨b, j, none⟩ = some v
theorem Cel.ext {w w' : World} {b : Nat} {l : List Value} (h : Cel w b l) (hE : Ext w w') : Cel w' b l :=
 ⟨Nat.lt_of_lt_of_le h.lt hE.size, fun j v hv => (hE.cell (p := ⟨b, j, none⟩) h.lt).trans (h.at' j v hv)⟩
theorem rn_loadc {v : Value} {l : List Value} (hx : ev σ x = some (.pointer (some ⟨b, off, none⟩))) (hT : tinfo P T = some (false, k)) (hb : Cel w b l) (hv : l[off]? = some v) : Runs P σ (.load T x) ty w v w := fun ρ _ _ _ _ hρ => by
 have hc := hb.at' off v hv
 simp [execOp, hρ _ _ hx, Instr.loadAt, Instr.sureAddr, loadVar, run_isAgg hT, run_load, hc]
def stbI (P : Program) (s d : TypeId) : Option TypeId := match P.underlying s with
 | some .string => match P.underlying d with | some (.slice e) => (match P.underlying e with | some (.int .u8) => some e | _ => none) | _ => none
 | _ => none
theorem ewl_stb {e : TypeId} {l : List UInt8} (hd : Nat.blt d n = true) (hx : ev σ x = some (S l)) (hc : stbI P T T' = some e)
   (h : ∀ b c w', Cel w' b (bC l) → Ext w w' → EWL P n ops Q rest (upd σ d (.slice (some ⟨b, 0, none⟩) l.length c)) ds w') : EWL P n ops Q (⟨some d, .convert T T' x, ty, pos, af, none⟩ :: rest) σ ds w := by
 unfold stbI at hc
 split at hc
 · rename_i hs
   split at hc
   · rename_i e' hd'
     split at hc
     · rename_i he
       injection hc with hc
       subst hc
       have hr : Runs P σ (.convert T T' x) ty w (.slice (some ⟨w.heap.size, 0, none⟩) l.length (grownCap w l.length 0 e')) (Lib.bytesWorld w e' ⟨l.toArray⟩) := fun ρ _ _ _ _ hρ => by
         have := Lib.run_convert_string_bytes (P := P) w T T' e' ⟨l.toArray⟩ hs hd' he
         have e2 : (⟨l.toArray⟩ : ByteArray).size = l.length := by simp [ByteArray.size]
         rw [e2] at this
         simp only [execOp, hρ _ _ hx, Sem.run_bind, this]
         rfl
       refine ewl_run hd hr (h _ _ _ ⟨by rw [Lib.bytesWorld_size]; omega, fun j v hv => ?_⟩ ⟨rfl, rfl, rfl, by rw [Lib.bytesWorld_size]; omega, fun j hj => Lib.bytesWorld_at_old w e' _ j hj⟩)
       have hj : j < l.length := by
         rcases Nat.lt_or_ge j l.length with h | h
         · exact h
         · rw [List.getElem?_eq_none (by simpa [bC] using h)] at hv; cases hv
       have := Lib.bytesWorld_cell w e' ⟨l.toArray⟩ j (by simpa [ByteArray.size] using hj)
       rw [this, ← hv]
       simp [bC, hj]
     · cases hc
   · cases hc
 · cases hc
end
theorem wrapU64 {n : Int} (h : 0 ≤ n ∧ n ≤ 18446744073709551615) : IntKind.u64.wrap n = n := IntWalk.u64_in _ h
theorem wrapI64 {n : Int} (h : -9223372036854775808 ≤ n ∧ n ≤ 9223372036854775807) : IntKind.i64.wrap n = n := IntWalk.i64_in _ h
end Go.SW
namespace Go.SW
open Go.RowKit
theorem rn_slSfrom1 {P : Program} {σ : Env} {w : World} {ty T : TypeId} {x lo : Operand} {c : UInt8} {s : List UInt8} {k1 : IntKind} (hx : ev σ x = some (S (c :: s))) (hlo : ev σ lo = some (.int k1 1)) (hs : P.underlying T = some .string) :
   Runs P σ (.slice T x (some lo) none none) ty w (S s) w := by
 have := rn_slSfrom (ty := ty) (w := w) hx hlo hs ⟨by omega, by simp only [List.length_cons]; omega⟩
 simpa using this
end Go.SW
namespace Go.SW
open Go.RowKit
section
variable {P : Program} {σ : Env} {w : World} {ty T T' : TypeId} {x y : Operand}
/-- A function without a body that only tells a value. -/
theorem rn_ext {f : FuncId} {fn : Func} {e : Array Value → Sem Value} {g : Operand} {args : List Operand} {vs : List Value} {ts : Array TypeId} {v : Value} (hf : P.funcs[f]? = some fn) (hn : (fn.name == "runtime.NumGoroutine") = false) (hb : fn.body.isNone = true)
   (h1 : Extern.findNext fn = none) (h2 : Extern.find fn = some e) (hg : ev σ g = some (.func (.func f) #[] #[])) (ha : evAll σ args = some vs) (hv : (e vs.toArray).run P w = .ok v w) :
   Runs P σ (.call { callee := .value g, args := args.toArray, argTypes := ts }) ty w v w := fun ρ _ _ _ _ hρ => by
 have h := evAll_spec hρ ha
 have hc := run_callFunc_extern hf hn hb h1 h2 vs.toArray w
 simp [execOp, resolve, hρ _ _ hg, Deferred.ofValue, invoke, h, hc, hv]
theorem rn_neF {t t' : TypeId} {k : FloatKind} {a b : Nat} (hx : ev σ x = some (.float k a)) (hy : ev σ y = some (.float k b)) : Runs P σ (.binOp .neq t x y t') ty w (.bool (!(Op.floatEq k a b))) w :=
 fun ρ _ _ _ _ hρ => by simp [execOp, hρ _ _ hx, hρ _ _ hy, eqGuard, binOp, Op.floatCmp, Op.floatEq]; rfl
theorem rn_quoF {t t' : TypeId} {k : FloatKind} {a b r : Nat} (hx : ev σ x = some (.float k a)) (hy : ev σ y = some (.float k b)) (h : k.format.div a b = some r) : Runs P σ (.binOp .quo t x y t') ty w (.float k r) w :=
 fun ρ _ _ _ _ hρ => by simp [execOp, hρ _ _ hx, hρ _ _ hy, eqGuard, binOp, Op.floatArith, h]
theorem rn_negF {t : TypeId} {k : FloatKind} {a : Nat} (hx : ev σ x = some (.float k a)) : Runs P σ (.unOp .neg t x) ty w (.float k (Op.negFloat k a)) w := fun ρ _ _ _ _ hρ => by
 simp [execOp, hρ _ _ hx, Op.unary]
def cvF (P : Program) (s d : TypeId) : Option FloatKind := match P.underlying s, P.underlying d with | some _, some (.float k) => some k | _, _ => none
theorem rn_cvF {k : FloatKind} {k0 : IntKind} {n : Int} (hx : ev σ x = some (.int k0 n)) (hc : cvF P T T' = some k) : Runs P σ (.convert T T' x) ty w (.float k (k.nearest n)) w := by
 unfold cvF at hc
 cases hs : P.underlying T with
 | none => rw [hs] at hc; cases hc
 | some s =>
   cases hd : P.underlying T' with
   | none => rw [hs, hd] at hc; cases hc
   | some d =>
     rw [hs, hd] at hc
     cases d <;> simp at hc
     rename_i k'
     subst hc
     exact fun ρ _ _ _ _ hρ => by
       simp [execOp, hρ _ _ hx, convert, run_underlying hs, run_underlying hd, Conv.intToFloat]
end
theorem fdiv_nat (x k : Nat) : (x : Int).fdiv (2 ^ k) = ((x / 2 ^ k : Nat) : Int) := by
 rw [Int.fdiv_eq_ediv_of_nonneg _ (Int.le_of_lt (Int.pow_pos (by decide)))]
 simp
theorem wrapU8 (n : Nat) : IntKind.u8.wrap (n : Int) = ((UInt8.ofNat n).toNat : Int) := by
 unfold IntKind.wrap
 simp [IntKind.bits, IntKind.signed]
end Go.SW
namespace Go.SW
open Go.RowKit
section
variable {P : Program} {n : Nat} {Q : Post} {S : World → Prop} {σ : Env} {ds : List Deferred} {w : World} {ops : Array Oper} {op : Op} {ty : TypeId} {pos : String} {af : Array Edge} {rest : List Oper} {r : List (Bool × Oper)} {d : Nat}
theorem wanted_un {a : Act} {dst : Option Tmp} {j dj : Nat} {want : Bool} (ha : St n σ ds a) (hj : (ops[j]?).bind (·.dst) = some dj) (hv : σ dj = some undef) :
   Region.wanted ⟨dst, op, ty, pos, af, some (j, want)⟩ (yielded ops a.tmps) = false := by
 have h1 := ha.val dj _ hv
 cases hx : a.tmps[dj]? with
 | none => simp [Region.wanted, yielded, hj, hx]
 | some u =>
   rw [Array.getD_eq_getD_getElem?, hx] at h1
   simp at h1
   subst h1
   simp [Region.wanted, yielded, hj, hx, undef]
theorem ewl_offu {j dj : Nat} {want : Bool} (hd : Nat.blt d n = true) (hj : (ops[j]?).bind (·.dst) = some dj) (hv : σ dj = some undef)
   (h : EWL P n ops Q rest (upd σ d undef) ds w) : EWL P n ops Q (⟨some d, op, ty, pos, af, some (j, want)⟩ :: rest) σ ds w := fun a ha => by
 unfold wpList
 rw [if_neg (by rw [wanted_un ha hj hv]; simp)]
 exact h _ (ha.put hd undef)
theorem ewo_rdu {j dj : Nat} {want : Bool} (hd : Nat.blt d n = true) (hj : (ops[j]?).bind (·.dst) = some dj) (hv : σ dj = some undef)
   (h : EWO P n ops Q S r (upd σ d undef) ds w) : EWO P n ops Q S ((true, ⟨some d, op, ty, pos, af, some (j, want)⟩) :: r) σ ds w := fun a ha =>
 ⟨undef, .inr ⟨by rw [wanted_un ha hj hv], rfl⟩, h _ (ha.put hd undef)⟩
end
end Go.SW
namespace Go.SW
open Go.RowKit
section
variable {P : Program} {n : Nat} {Q : Post} {σ : Env} {ds : List Deferred} {w : World}
def ngt (Q : Post) : Post := { q := fun e σ ds w => match e with | .goto _ => False | e => Q.q e σ ds w, p := Q.p }
theorem ewp_scope {c : Code} (h : EWP P n c (ngt Q) σ ds w) : EWP P n (.scope c) Q σ ds w := fun a ha =>
 wp_scope_straight (wp_mono (h a ha) fun e a' w' he => by
   cases e with
   | goto l => obtain ⟨_, _, _, hf⟩ := he; exact hf.elim
   | normal => exact he
   | panic c => exact he
   | outgrown => exact he
   | ret => exact he
   | exit i => exact he)
theorem ngt_n (h : Q.q .normal σ ds w) : (ngt Q).q .normal σ ds w := h
theorem ngt_r (h : Q.q .ret σ ds w) : (ngt Q).q .ret σ ds w := h
theorem ngt_e {i : Nat} (h : Q.q (.exit i) σ ds w) : (ngt Q).q (.exit i) σ ds w := h
theorem ewp_label {l : Nat} (h : Q.q .normal σ ds w) : EWP P n (.label l) Q σ ds w := fun _ ha => wp_label ⟨σ, ds, ha, h⟩
end
section
variable {P : Program} {σ : Env} {w : World} {ty T T' : TypeId} {x y : Operand}
theorem rn_eqB {t t' : TypeId} {a b : Bool} (ht : P.underlying t = some .bool) (hx : ev σ x = some (.bool a)) (hy : ev σ y = some (.bool b)) : Runs P σ (.binOp .eql t x y t') ty w (.bool (a == b)) w := by
 have e : (Op.equal t (.bool a) (.bool b)).run P w = .ok (a == b) w := by
   show (Op.equalIn (Op.maxDepth - 1 + 1) t _ _).run P w = _
   simp [Op.equalIn, run_underlying ht]
 exact fun ρ _ _ _ _ hρ => by simp [execOp, hρ _ _ hx, hρ _ _ hy, eqGuard, binOp, e]
theorem rn_eqBt {t t' : TypeId} {b : Bool} (ht : P.underlying t = some .bool) (hx : ev σ x = some (.bool true)) (hy : ev σ y = some (.bool b)) : Runs P σ (.binOp .eql t x y t') ty w (.bool b) w := by
 have := rn_eqB (ty := ty) (w := w) (t' := t') ht hx hy
 rwa [show (true == b) = b by cases b <;> rfl] at this
theorem rn_orK {t t' : TypeId} {k : IntKind} {a b : Int} (m : Int) (hx : ev σ x = some (.int k a)) (hy : ev σ y = some (.int k b)) (h : k.wrap (BitVec.ofInt k.bits a ||| BitVec.ofInt k.bits b).toNat = m) : Runs P σ (.binOp .or t x y t') ty w (.int k m) w :=
 fun ρ _ _ _ _ hρ => by
   simp only [execOp, hρ _ _ hx, hρ _ _ hy, eqGuard, binOp, Op.intBits, h, ne_eq, not_true_eq_false, if_false]
   rfl
theorem rn_minI {kk : IntKind} {a b : Int} {ts : Array TypeId} (hx : ev σ x = some (.int kk a)) (hy : ev σ y = some (.int kk b)) : Runs P σ (.call { callee := .builtin .min, args := #[x, y], argTypes := ts }) ty w (.int kk (if b < a then b else a)) w := fun ρ _ _ _ _ hρ => by
 simp [execOp, resolve, invoke, builtin, hρ _ _ hx, hρ _ _ hy, Builtin.min_, Builtin.min2]
end
end Go.SW
namespace Go.SW
open Go.RowKit
theorem resv7 {P : Program} {σ : Env} {w : World} {fn : Func} {r1 r2 r3 r4 r5 r6 r7 : ResultVar} {v1 v2 v3 v4 v5 v6 v7 : Value} (h : fn.results = #[r1, r2, r3, r4, r5, r6, r7]) (h1 : Rv P σ w r1 v1) (h2 : Rv P σ w r2 v2) (h3 : Rv P σ w r3 v3) (h4 : Rv P σ w r4 v4) (h5 : Rv P σ w r5 v5) (h6 : Rv P σ w r6 v6) (h7 : Rv P σ w r7 v7) :
   Res P fn σ w (.tuple #[v1, v2, v3, v4, v5, v6, v7]) := fun tmps ht => by
 have g1 := h1 tmps ht
 have g2 := h2 tmps ht
 have g3 := h3 tmps ht
 have g4 := h4 tmps ht
 have g5 := h5 tmps ht
 have g6 := h6 tmps ht
 have g7 := h7 tmps ht
 rw [results_rv, h, List.mapM_toArray]
 simp [g1, g2, g3, g4, g5, g6, g7]
end Go.SW
namespace Go.SW
open Go.RowKit
theorem rn_loadv {P : Program} {σ : Env} {w : World} {ty T : TypeId} {x : Operand} {b off k : Nat} {v : Value} (hx : ev σ x = some (.pointer (some ⟨b, off, none⟩))) (hT : tinfo P T = some (false, k)) (hc : w.cell? ⟨b, off, none⟩ = some v) : Runs P σ (.load T x) ty w v w := fun ρ _ _ _ _ hρ => by
 simp [execOp, hρ _ _ hx, Instr.loadAt, Instr.sureAddr, loadVar, run_isAgg hT, run_load, hc]
end Go.SW
namespace Go.SW
open Go.RowKit
section
variable {P : Program} {n : Nat} {Q : Post} {σ : Env} {ds : List Deferred} {w : World} {ty T T' : TypeId} {x y : Operand}
theorem rn_remU {t t' : TypeId} {a b : Int} (m : Int) (hx : ev σ x = some (.int .u64 a)) (hy : ev σ y = some (.int .u64 b)) (hb : b ≠ 0) (h : a.tmod b = m) : Runs P σ (.binOp .rem t x y t') ty w (.int .u64 m) w :=
 fun ρ _ _ _ _ hρ => by simp [execOp, hρ _ _ hx, hρ _ _ hy, eqGuard, binOp, Op.intDiv, hb, h]
/-- Pure code in front: one slot is told. -/
theorem ewp_seqm {x y : Code} (d : Nat) (E : Bool) (σ0 : Env) (h1 : EWP P n x { q := fun e σ' ds' w' => e = .normal ∧ Le (upd σ0 d (.bool E)) σ' ∧ ds' = ds ∧ w' = w, p := Q.p } σ ds w) (h2 : EWP P n y Q (upd σ0 d (.bool E)) ds w) : EWP P n (.seq x y) Q σ ds w :=
 ewp_seq fun a ha => wp_mono (h1 a ha) fun e a' w' he => by
   cases e with
   | normal => obtain ⟨σ', ds', hs, _, hl, rfl, rfl⟩ := he; exact ⟨σ', _, hs, ewp_le hl h2⟩
   | panic c => exact he
   | outgrown => exact he
   | ret => obtain ⟨_, _, _, h, _⟩ := he; cases h
   | exit i => obtain ⟨_, _, _, h, _⟩ := he; cases h
   | goto i => obtain ⟨_, _, _, h, _⟩ := he; cases h
end
end Go.SW
namespace Go.SP
open Go.SW
theorem NdS.head {U : Nat → Prop} {w : World} {a : Option Addr} {n c : Nat} {op ln co nm : Int} {tx : List UInt8} {kids rest : Nd} (h : NdS U w a n c (.cons op ln co tx nm kids rest)) : ∃ b off l T ka kn kc l', U b ∧ a = some ⟨b, off, none⟩ ∧ Blk w b l T ∧
   l.drop off = .int .i64 op :: .int .i64 ln :: .int .i64 co :: S tx :: .int .i64 nm :: .slice ka kn kc :: l' ∧ NdS U w ka kn kc kids ∧ NdC U w rest l' ∧ n = rest.len + 1 := by
 obtain ⟨h1, h2, h3 | ⟨b, off, l, T, hu, ha, hb, ka, kn, kc, l', h4, h5, h6⟩⟩ := h
 · rw [h3] at h1; cases h1
 · exact ⟨b, off, l, T, ka, kn, kc, l', hu, ha, hb, h4, h5, h6, h1⟩
end Go.SP
namespace Go.SW
open Go.RowKit
/-- Places, field by field. -/
def posT (P : Program) (t : TypeId) : Bool := match P.underlying t with
 | some (.struct fs) => (match fs.toList with
   | [f, g] => (f.name != "_" && g.name != "_") && (f.offset == 0 && g.offset == 1) && (match P.underlying f.type, P.underlying g.type with | some (.int .i64), some (.int .i64) => true | _, _ => false)
   | _ => false) && (!P.stoodInHeld t && !P.eqGuardType P.depth t)
 | _ => false
theorem run_part_int {P : Program} {w : World} {e : TypeId} {k : IntKind} {cs : Array Value} {off : Nat} {v : Value} (he : P.underlying e = some (.int k)) (hv : cs[off]? = some v) : (part e cs off).run P w = .ok v w := by
 simp [part, isAgg, run_underlying he, hv]
theorem run_eqPos {P : Program} {w : World} {t : TypeId} {a1 a2 b1 b2 : Int} (h : posT P t = true) (d : Nat) :
   (Op.equalIn (d + 2) t (.agg #[.int .i64 a1, .int .i64 a2]) (.agg #[.int .i64 b1, .int .i64 b2])).run P w = .ok (a1 == b1 && a2 == b2) w := by
 unfold posT at h
 split at h
 · rename_i fs hu
   rw [Bool.and_eq_true] at h
   obtain ⟨h1, h2⟩ := h
   split at h1
   · rename_i f g hfs
     simp only [Bool.and_eq_true] at h1 h2
     obtain ⟨⟨⟨hn1, hn2⟩, ho1, ho2⟩, h3⟩ := h1
     split at h3
     · rename_i hf hg
       have e1 : f.offset = 0 := by simpa using ho1
       have e2 : g.offset = 1 := by simpa using ho2
       have n1 : f.name ≠ "_" := by simpa using hn1
       have n2 : g.name ≠ "_" := by simpa using hn2
       have hst : P.stoodInHeld t = false := by simpa using h2.1
       have q1 : (Op.equalIn (d + 1) f.type (.int .i64 a1) (.int .i64 b1)).run P w = .ok (a1 == b1) w := by simp [Op.equalIn, run_underlying hf]
       have q2 : (Op.equalIn (d + 1) g.type (.int .i64 a2) (.int .i64 b2)).run P w = .ok (a2 == b2) w := by simp [Op.equalIn, run_underlying hg]
       have p1 : (part f.type #[Value.int .i64 a1, .int .i64 a2] 0).run P w = .ok (.int .i64 a1) w := run_part_int hf rfl
       have p2 : (part f.type #[Value.int .i64 b1, .int .i64 b2] 0).run P w = .ok (.int .i64 b1) w := run_part_int hf rfl
       have p3 : (part g.type #[Value.int .i64 a1, .int .i64 a2] 1).run P w = .ok (.int .i64 a2) w := run_part_int hg rfl
       have p4 : (part g.type #[Value.int .i64 b1, .int .i64 b2] 1).run P w = .ok (.int .i64 b2) w := run_part_int hg rfl
       obtain ⟨fl⟩ := fs
       simp only at hfs
       subst hfs
       rw [Op.equalIn]
       simp only [Sem.run_bind, run_underlying hu, Result.andThen_ok, run_program, hst, Bool.false_eq_true, if_false]
       cases h1 : a1 == b1 <;> cases h2 : a2 == b2 <;> simp [n1, n2, e1, e2, p1, p2, p3, p4, q1, q2, h1, h2]
     · cases h3
   · cases h1
 · cases h
theorem rn_eqPos {P : Program} {σ : Env} {w : World} {ty t t' : TypeId} {x y : Operand} {a1 a2 b1 b2 : Int} (h : posT P t = true) (hx : ev σ x = some (.agg #[.int .i64 a1, .int .i64 a2])) (hy : ev σ y = some (.agg #[.int .i64 b1, .int .i64 b2])) :
   Runs P σ (.binOp .eql t x y t') ty w (.bool (a1 == b1 && a2 == b2)) w := fun ρ _ _ _ _ hρ => by
 have hg : P.eqGuardType P.depth t = false := by
   unfold posT at h
   split at h
   · simp only [Bool.and_eq_true] at h; simpa using h.2.2
   · cases h
 have e := run_eqPos (w := w) (a1 := a1) (a2 := a2) (b1 := b1) (b2 := b2) h 9998
 simp [execOp, hρ _ _ hx, hρ _ _ hy, run_eqGuard_agg w _ _ _ _ _ _ hg, run_eql_struct, e]
end Go.SW
namespace Go.Proofs.YthjdnhnbgjgbkaaGreatDoor
open Go.SW Go.SP Go.RowKit
theorem only_spec (w : World) (s : List UInt8) (hlen : s.length ≤ 100000) (l : List UInt8) (hl : l.length < 4294967281) (h128 : l.all (fun c => decide (c.toNat < 128)) = true) :
   Ret Tryz.prog 48 #[S s, S l] w fun v w' => v = .bool (onlyM s l) ∧ Ext w w' := by
 have hX := Ext.refl w
 refine enter Tryz.func48 rfl rfl rfl ?_
 refine ewp_seq ?_
 refine ewp_reg ?_
 refine ewl_run rfl (rn_assign rfl) ?_
 refine ewl_nil ?_
 refine thn_n ?_
 refine ewp_seq ?_
 refine ewp_reg ?_
 refine ewl_run rfl (rn_move rfl) ?_
 refine ewl_run rfl (rn_move rfl) ?_
 refine ewl_ret rfl (en_call ent61 rfl rfl) (trim_spec _ s l (by omega) hl h128) ?_
 rintro _ w1 ⟨rfl, hE1⟩
 replace hX := hX.trans hE1
 have sz1 := hE1.size
 refine ewl_run rfl (rn_eqS rfl rfl) ?_
 refine ewl_run rfl (rn_assign rfl) ?_
 refine ewl_nil ?_
 refine thn_n ?_
 refine ewp_ret ?_
 refine fn_r (resv rfl (rv_tmp rfl)) ?_
 exact ⟨rfl, hX⟩
theorem digits_spec (w : World) (s : List UInt8) (hlen : s.length ≤ 100000) :
   Ret Tryz.prog 55 #[S s] w fun v w' => v = .bool (digitsM s) ∧ Ext w w' := by
 have hX := Ext.refl w
 refine enter Tryz.func55 rfl rfl rfl ?_
 refine ewp_seq ?_
 refine ewp_reg ?_
 refine ewl_run rfl (rn_assign rfl) ?_
 refine ewl_nil ?_
 refine thn_n ?_
 refine ewp_seq ?_
 refine ewp_reg ?_
 refine ewl_run rfl (rn_move rfl) ?_
 refine ewl_run rfl (rn_neS rfl rfl) ?_
 refine ewl_run rfl (rn_move rfl) ?_
 refine ewl_split 5 rfl (fun h1 => ?_) (fun h1 => ?_)
 refine ewl_grd rfl rfl h1 ?_
 refine ewl_run rfl (rn_move rfl) ?_
 refine ewl_grd rfl rfl h1 ?_
 refine ewl_ret rfl (en_call ent61 rfl rfl) (trim_spec _ s digsB (by omega) (by decide) (by decide)) ?_
 rintro _ w1 ⟨rfl, hE1⟩
 replace hX := hX.trans hE1
 have sz1 := hE1.size
 refine ewl_grd rfl rfl h1 ?_
 refine ewl_run rfl (rn_eqS rfl rfl) ?_
 refine ewl_run rfl (rn_pickt rfl h1 rfl) ?_
 refine ewl_run rfl (rn_assign rfl) ?_
 refine ewl_nil ?_
 refine thn_n ?_
 refine ewp_ret ?_
 refine fn_r (resv rfl (rv_tmp rfl)) ?_
 exact ⟨by rw [digitsM, h1]; rfl, hX⟩
 refine ewl_off rfl rfl rfl h1 ?_
 refine ewl_off rfl rfl rfl h1 ?_
 refine ewl_off rfl rfl rfl h1 ?_
 refine ewl_run rfl (rn_pickf rfl h1 rfl) ?_
 refine ewl_run rfl (rn_assign rfl) ?_
 refine ewl_nil ?_
 refine thn_n ?_
 refine ewp_ret ?_
 refine fn_r (resv rfl (rv_tmp rfl)) ?_
 exact ⟨by rw [digitsM, h1]; rfl, hX⟩
theorem decN_cons (n : Nat) (c : UInt8) (l : List UInt8) : decN n (c :: l) = decN (n * 10 + (c.toNat - 48)) l := by conv => lhs; unfold decN
theorem decN_ge : ∀ (l : List UInt8) (n : Nat), n ≤ decN n l
 | [], n => Nat.le_refl _
 | c :: l, n => by
   have := decN_ge l (n * 10 + (c.toNat - 48))
   rw [decN_cons]
   omega
theorem stb9_71 : stbI Tryz.prog 9 71 = some 5 := by kernel_rfl
theorem parseUint_spec (w : World) (s : List UInt8) (hlen : s.length ≤ 100000) (hne : (s == []) = false) (hd : ∀ c ∈ s, 48 ≤ c.toNat ∧ c.toNat ≤ 57) :
   Ret Tryz.prog 82 #[S s, .int .i64 10, .int .i64 63] w fun v w' => ((decN 0 s ≤ 9223372036854775807 ∧ v = .tuple #[.int .u64 (decN 0 s : Int), .nilIface]) ∨ (9223372036854775807 < decN 0 s ∧ v = .tuple #[.int .u64 9223372036854775807, .iface 105 (.int .i64 1)])) ∧ Ext w w' := by
 have hX := Ext.refl w
 refine enter Tryz.func82 rfl rfl rfl ?_
 refine ewp_seq ?_
 refine ewp_reg ?_
 refine ewl_run rfl (rn_assign rfl) ?_
 refine ewl_run rfl (rn_assign rfl) ?_
 refine ewl_nil ?_
 refine thn_n ?_
 refine ewp_seq ?_
 refine ewp_seq ?_
 refine ewp_reg ?_
 refine ewl_run rfl (rn_move rfl) ?_
 refine ewl_run rfl (rn_eqS rfl rfl) ?_
 refine ewl_nil ?_
 refine thn_n ?_
 refine ewp_if rfl (fun h1 => ?_) (fun h1 => ?_)
 · exfalso
   rw [hne] at h1; contradiction
 refine ewp_skip ?_
 refine thn_n ?_
 refine ewp_seq ?_
 refine ewp_reg ?_
 refine ewl_run rfl (rn_move rfl) ?_
 refine ewl_run rfl (rn_eqI rfl rfl) ?_
 refine ewl_run rfl (rn_assign rfl) ?_
 refine ewl_nil ?_
 refine thn_n ?_
 refine ewp_seq ?_
 refine ewp_reg ?_
 refine ewl_run rfl (rn_move rfl) ?_
 refine ewl_run rfl (rn_assign rfl) ?_
 refine ewl_nil ?_
 refine thn_n ?_
 refine ewp_seq ?_
 refine ewp_block ?_
 refine ewp_seq ?_
 refine ewp_reg ?_
 refine ewl_run rfl (rn_move rfl) ?_
 refine ewl_run rfl (rn_leI rfl rfl) ?_
 refine ewl_run rfl (rn_move rfl) ?_
 refine ewl_grd rfl rfl rfl ?_
 refine ewl_run rfl (rn_move rfl) ?_
 refine ewl_grd rfl rfl rfl ?_
 refine ewl_run rfl (rn_leI rfl rfl) ?_
 refine ewl_run rfl (rn_pickt rfl rfl rfl) ?_
 refine ewl_run rfl (rn_assign rfl) ?_
 refine ewl_nil ?_
 refine thn_n ?_
 refine ewp_ift rfl rfl ?_
 refine ewp_skip ?_
 refine blk_n ?_
 refine thn_n ?_
 refine ewp_seq ?_
 refine ewp_seq ?_
 refine ewp_reg ?_
 refine ewl_run rfl (rn_move rfl) ?_
 refine ewl_run rfl (rn_eqI rfl rfl) ?_
 refine ewl_nil ?_
 refine thn_n ?_
 refine ewp_iff rfl rfl ?_
 refine ewp_seq ?_
 refine ewp_reg ?_
 refine ewl_run rfl (rn_move rfl) ?_
 refine ewl_run rfl (rn_ltI rfl rfl) ?_
 refine ewl_run rfl (rn_move rfl) ?_
 refine ewl_grd rfl rfl rfl ?_
 refine ewl_run rfl (rn_move rfl) ?_
 refine ewl_grd rfl rfl rfl ?_
 refine ewl_run rfl (rn_gtI rfl rfl) ?_
 refine ewl_run rfl (rn_pickf rfl rfl rfl) ?_
 refine ewl_nil ?_
 refine thn_n ?_
 refine ewp_iff rfl rfl ?_
 refine ewp_skip ?_
 refine thn_n ?_
 refine ewp_seq ?_
 refine ewp_reg ?_
 refine ewl_run rfl (rn_assign rfl) ?_
 refine ewl_nil ?_
 refine thn_n ?_
 refine ewp_seq ?_
 refine ewp_seq ?_
 refine ewp_reg ?_
 refine ewl_run rfl (rn_move rfl) ?_
 refine ewl_nil ?_
 refine thn_n ?_
 refine ewp_block ?_
 refine ewp_seq ?_
 refine ewp_reg ?_
 refine ewl_run rfl (rn_eqI rfl rfl) ?_
 refine ewl_run rfl (rn_assign rfl) ?_
 refine ewl_nil ?_
 refine thn_n ?_
 refine ewp_ift rfl rfl ?_
 refine ewp_reg ?_
 refine ewl_run rfl (rn_assign rfl) ?_
 refine ewl_nil ?_
 refine blk_n ?_
 refine thn_n ?_
 refine ewp_seq ?_
 refine ewp_reg ?_
 refine ewl_run rfl (rn_move rfl) ?_
 refine ewl_run rfl (rn_cvI (m := 63) rfl cv3_81 (by decide)) ?_
 refine ewl_run rfl (rn_shlK (9223372036854775808) rfl rfl (by decide) (by decide)) ?_
 refine ewl_run rfl (rn_subK (9223372036854775807) rfl rfl (by decide)) ?_
 refine ewl_run rfl (rn_assign rfl) ?_
 refine ewl_nil ?_
 refine thn_n ?_
 refine ewp_seq ?_
 refine ewp_reg ?_
 refine ewl_run rfl (rn_assign rfl) ?_
 refine ewl_nil ?_
 refine thn_n ?_
 refine ewp_seq ?_
 refine ewp_reg ?_
 refine ewl_run rfl (rn_assign rfl) ?_
 refine ewl_nil ?_
 refine thn_n ?_
 refine ewp_seq ?_
 refine ewp_seq ?_
 refine ewp_reg ?_
 refine ewl_run rfl (rn_move rfl) ?_
 refine ewl_stb rfl rfl stb9_71 fun bb bc w1 hbb hE1 => ?_
 replace hX := hX.trans hE1
 have sz1 := hE1.size
 refine ewl_run rfl (rn_len rfl sl71) ?_
 refine ewl_run rfl (rn_move rfl) ?_
 refine ewl_nil ?_
 refine thn_n ?_
 refine ewp_block ?_
 refine ewp_loop (fun k σ ds w' => ∃ (i n : Nat), k = s.length - i ∧ ds = [] ∧ σ = (upd (upd (upd (upd (upd (upd (upd (upd (upd (upd (upd SW.e0 0 (S s)) 1 (.int .i64 10)) 8 (.bool (10 == 0))) 9 (S s)) 10 (.int .u64 1844674407370955162)) 11 (.int .u64 9223372036854775807)) 12 (.bool false)) 13 (.int .u64 (n : Int))) 99 (.slice (some ⟨bb, 0, none⟩) s.length bc)) 100 (.int .i64 (s.length : Int))) 101 (.int .i64 (i : Int))) ∧ i ≤ s.length ∧ n ≤ 9223372036854775807 ∧ decN 0 s = decN n (s.drop i) ∧ Cel w' bb (bC s) ∧ Ext w w') s.length (upd (upd (upd (upd (upd (upd (upd (upd (upd (upd (upd SW.e0 0 (S s)) 1 (.int .i64 10)) 8 (.bool (10 == 0))) 9 (S s)) 10 (.int .u64 1844674407370955162)) 11 (.int .u64 9223372036854775807)) 12 (.bool false)) 13 (.int .u64 ((0 : Nat) : Int))) 99 (.slice (some ⟨bb, 0, none⟩) s.length bc)) 100 (.int .i64 (s.length : Int))) 101 (.int .i64 ((0 : Nat) : Int))) (le_upd (le_upd (le_upd (le_upd (le_upd (le_upd (le_upd (le_upd (le_upd (le_upd (le_upd (le_e0 _) rfl) rfl) rfl) rfl) rfl) rfl) rfl) rfl) rfl) rfl) rfl) ⟨0, 0, rfl, rfl, rfl, Nat.zero_le _, Nat.zero_le _, rfl, hbb, hX⟩ ?_
 rintro _ _ _ wl ⟨i, n, rfl, rfl, rfl, hi, hn, hm, hbb, hX⟩
 refine ewp_seq ?_
 refine ewp_reg ?_
 refine ewl_run rfl (rn_ltI rfl rfl) ?_
 refine ewl_nil ?_
 refine thn_n ?_
 refine ewp_seq ?_
 refine ewp_if rfl (fun h2 => ?_) (fun h2 => ?_)
 refine ewp_skip ?_
 refine thn_n ?_
 refine ewp_seq ?_
 refine ewp_block ?_
 refine ewp_seq ?_
 refine ewp_reg ?_
 have hi2 : i < s.length := by have := of_decide_eq_true h2; omega
 obtain ⟨c, hc⟩ := at_lt hi2
 obtain ⟨hc1, hc2⟩ := hd c (List.mem_of_getElem? hc)
 have hcell : (bC s)[0 + i * 1]? = some (.int .u8 c.toNat) := by simp [bC, hc]
 refine ewl_run rfl (rn_ixc (i := i) rfl rfl sl71 hi2) ?_
 refine ewl_run rfl (rn_loadc rfl ti5 hbb hcell) ?_
 refine ewl_run rfl (rn_assign rfl) ?_
 refine ewl_nil ?_
 refine thn_n ?_
 refine ewp_seq ?_
 refine ewp_reg ?_
 refine ewl_run rfl (rn_assign rfl) ?_
 refine ewl_nil ?_
 refine thn_n ?_
 refine ewp_seq ?_
 refine ewp_block ?_
 refine ewp_seq ?_
 refine ewp_reg ?_
 refine ewl_run rfl (rn_move rfl) ?_
 refine ewl_run rfl (rn_eqI rfl rfl) ?_
 refine ewl_run rfl (rn_move rfl) ?_
 refine ewl_split 109 rfl (fun h3 => ?_) (fun h3 => ?_)
 · exfalso
   have := (beq_iff_eq).1 h3; omega
 refine ewl_off rfl rfl rfl h3 ?_
 refine ewl_run rfl (rn_pickf rfl h3 rfl) ?_
 refine ewl_run rfl (rn_assign rfl) ?_
 refine ewl_nil ?_
 refine thn_n ?_
 refine ewp_iff rfl rfl ?_
 refine ewp_seq ?_
 refine ewp_reg ?_
 refine ewl_run rfl (rn_move rfl) ?_
 refine ewl_run rfl (rn_leI rfl rfl) ?_
 refine ewl_run rfl (rn_move rfl) ?_
 refine ewl_split 115 rfl (fun h4 => ?_) (fun h4 => ?_)
 refine ewl_grd rfl rfl h4 ?_
 refine ewl_run rfl (rn_move rfl) ?_
 refine ewl_grd rfl rfl h4 ?_
 refine ewl_run rfl (rn_leI rfl rfl) ?_
 refine ewl_run rfl (rn_pickt rfl h4 rfl) ?_
 refine ewl_run rfl (rn_assign rfl) ?_
 refine ewl_nil ?_
 refine thn_n ?_
 refine ewp_if rfl (fun h5 => ?_) (fun h5 => ?_)
 refine ewp_reg ?_
 refine ewl_run rfl (rn_move rfl) ?_
 refine ewl_run rfl (rn_subK ((c.toNat : Int) - 48) rfl rfl (wrap8 ⟨by omega, by omega⟩)) ?_
 refine ewl_run rfl (rn_assign rfl) ?_
 refine ewl_nil ?_
 refine blk_n ?_
 refine thn_n ?_
 refine ewp_seq ?_
 refine ewp_seq ?_
 refine ewp_reg ?_
 refine ewl_run rfl (rn_move rfl) ?_
 refine ewl_run rfl (rn_move rfl) ?_
 refine ewl_run rfl (rn_cvI (m := 10) rfl cv3_5 (by decide)) ?_
 refine ewl_run rfl (rn_geI rfl rfl) ?_
 refine ewl_nil ?_
 refine thn_n ?_
 refine ewp_if rfl (fun h6 => ?_) (fun h6 => ?_)
 · exfalso
   have := of_decide_eq_true h6; omega
 refine ewp_skip ?_
 refine thn_n ?_
 refine ewp_seq ?_
 refine ewp_seq ?_
 refine ewp_reg ?_
 refine ewl_run rfl (rn_move rfl) ?_
 refine ewl_run rfl (rn_move rfl) ?_
 refine ewl_run rfl (rn_geI rfl rfl) ?_
 refine ewl_nil ?_
 refine thn_n ?_
 refine ewp_if rfl (fun h7 => ?_) (fun h7 => ?_)
 refine ewp_seq ?_
 refine ewp_reg ?_
 refine ewl_run rfl (rn_move rfl) ?_
 refine ewl_run rfl (rn_mki rfl ni105) ?_
 refine ewl_run rfl (rn_assign rfl) ?_
 refine ewl_run rfl (rn_assign rfl) ?_
 refine ewl_nil ?_
 refine thn_n ?_
 refine ewp_ret ?_
 refine thn_r ?_
 refine blk_r ?_
 refine thn_r ?_
 refine lp_r ?_
 refine blk_r ?_
 refine thn_r ?_
 refine fn_r (resv2 rfl (rv_tmp rfl) (rv_tmp rfl)) ?_
 exact ⟨.inr ⟨by rw [hm, drop_at hc, decN_cons]; have := decN_ge (s.drop (i + 1)) (n * 10 + (c.toNat - 48)); have q4 := of_decide_eq_true h5; have q5 := of_decide_eq_false h6; have q6 := of_decide_eq_true h7; omega, rfl⟩, hX⟩
 refine ewp_skip ?_
 refine thn_n ?_
 refine ewp_seq ?_
 refine ewp_reg ?_
 refine ewl_run rfl (rn_move rfl) ?_
 refine ewl_run rfl (rn_move rfl) ?_
 refine ewl_run rfl (rn_cvI (m := 10) rfl cv3_33 (by decide)) ?_
 refine ewl_run rfl (rn_mulK ((n : Int) * 10) rfl rfl (wrapU64 ⟨by omega, by have := of_decide_eq_false h7; omega⟩)) ?_
 refine ewl_run rfl (rn_assign rfl) ?_
 refine ewl_nil ?_
 refine thn_n ?_
 refine ewp_seq ?_
 refine ewp_reg ?_
 refine ewl_run rfl (rn_move rfl) ?_
 refine ewl_run rfl (rn_move rfl) ?_
 refine ewl_run rfl (rn_cvI (m := (c.toNat : Int) - 48) rfl cv5_33 (wrapU64 ⟨by omega, by omega⟩)) ?_
 refine ewl_run rfl (rn_addK (((n : Int) * 10 + ((c.toNat : Int) - 48)) % 18446744073709551616) rfl rfl (IntKind.wrap_u64 _)) ?_
 refine ewl_run rfl (rn_assign rfl) ?_
 refine ewl_nil ?_
 refine thn_n ?_
 refine ewp_seq ?_
 refine ewp_seq ?_
 refine ewp_reg ?_
 refine ewl_run rfl (rn_move rfl) ?_
 refine ewl_run rfl (rn_move rfl) ?_
 refine ewl_run rfl (rn_ltI rfl rfl) ?_
 refine ewl_run rfl (rn_move rfl) ?_
 refine ewl_split 155 rfl (fun h8 => ?_) (fun h8 => ?_)
 refine ewl_off rfl rfl rfl h8 ?_
 refine ewl_off rfl rfl rfl h8 ?_
 refine ewl_off rfl rfl rfl h8 ?_
 refine ewl_run rfl (rn_pickt rfl h8 rfl) ?_
 refine ewl_nil ?_
 refine thn_n ?_
 refine ewp_ift rfl rfl ?_
 refine ewp_seq ?_
 refine ewp_reg ?_
 refine ewl_run rfl (rn_move rfl) ?_
 refine ewl_run rfl (rn_mki rfl ni105) ?_
 refine ewl_run rfl (rn_assign rfl) ?_
 refine ewl_run rfl (rn_assign rfl) ?_
 refine ewl_nil ?_
 refine thn_n ?_
 refine ewp_ret ?_
 refine thn_r ?_
 refine blk_r ?_
 refine thn_r ?_
 refine lp_r ?_
 refine blk_r ?_
 refine thn_r ?_
 refine fn_r (resv2 rfl (rv_tmp rfl) (rv_tmp rfl)) ?_
 exact ⟨.inr ⟨by rw [hm, drop_at hc, decN_cons]; have := decN_ge (s.drop (i + 1)) (n * 10 + (c.toNat - 48)); have q5 := of_decide_eq_false h6; have q6 := of_decide_eq_false h7; have q7 := of_decide_eq_true h8; omega, rfl⟩, hX⟩
 refine ewl_grd rfl rfl h8 ?_
 refine ewl_run rfl (rn_move rfl) ?_
 refine ewl_grd rfl rfl h8 ?_
 refine ewl_run rfl (rn_move rfl) ?_
 refine ewl_grd rfl rfl h8 ?_
 refine ewl_run rfl (rn_gtI rfl rfl) ?_
 refine ewl_run rfl (rn_pickf rfl h8 rfl) ?_
 refine ewl_nil ?_
 refine thn_n ?_
 refine ewp_if rfl (fun h9 => ?_) (fun h9 => ?_)
 refine ewp_seq ?_
 refine ewp_reg ?_
 refine ewl_run rfl (rn_move rfl) ?_
 refine ewl_run rfl (rn_mki rfl ni105) ?_
 refine ewl_run rfl (rn_assign rfl) ?_
 refine ewl_run rfl (rn_assign rfl) ?_
 refine ewl_nil ?_
 refine thn_n ?_
 refine ewp_ret ?_
 refine thn_r ?_
 refine blk_r ?_
 refine thn_r ?_
 refine lp_r ?_
 refine blk_r ?_
 refine thn_r ?_
 refine fn_r (resv2 rfl (rv_tmp rfl) (rv_tmp rfl)) ?_
 exact ⟨.inr ⟨by rw [hm, drop_at hc, decN_cons]; have := decN_ge (s.drop (i + 1)) (n * 10 + (c.toNat - 48)); have q6 := of_decide_eq_false h7; have q7 := of_decide_eq_false h8; have q8 := of_decide_eq_true h9; omega, rfl⟩, hX⟩
 refine ewp_skip ?_
 refine thn_n ?_
 refine ewp_reg ?_
 refine ewl_run rfl (rn_move rfl) ?_
 refine ewl_run rfl (rn_assign rfl) ?_
 refine ewl_nil ?_
 refine blk_n ?_
 refine thn_n ?_
 refine ewp_reg ?_
 refine ewl_run rfl (rn_add rfl rfl ⟨by omega, by omega⟩) ?_
 refine ewl_run rfl (rn_move rfl) ?_
 refine ewl_nil ?_
 have hN : (((n : Int) * 10 + ((c.toNat : Int) - 48)) % 18446744073709551616) = ((n * 10 + (c.toNat - 48) : Nat) : Int) := by have h1 := of_decide_eq_false h7; have h2 := of_decide_eq_false h8; have h3 := of_decide_eq_false h9; omega
 refine lp_n (s.length - (i + 1)) (upd (upd (upd (upd (upd (upd (upd (upd (upd (upd (upd SW.e0 0 (S s)) 1 (.int .i64 10)) 8 (.bool (10 == 0))) 9 (S s)) 10 (.int .u64 1844674407370955162)) 11 (.int .u64 9223372036854775807)) 12 (.bool false)) 13 (.int .u64 ((n * 10 + (c.toNat - 48) : Nat) : Int))) 99 (.slice (some ⟨bb, 0, none⟩) s.length bc)) 100 (.int .i64 (s.length : Int))) 101 (.int .i64 ((i + 1 : Nat) : Int))) (by omega) (le_upd (le_upd (le_upd (le_upd (le_upd (le_upd (le_upd (le_upd (le_upd (le_upd (le_upd (le_e0 _) rfl) rfl) rfl) rfl) rfl) rfl) rfl) (by rw [← hN]; rfl)) rfl) rfl) rfl) ⟨i + 1, n * 10 + (c.toNat - 48), rfl, rfl, rfl, by omega, by have h1 := of_decide_eq_false h7; have h2 := of_decide_eq_false h8; have h3 := of_decide_eq_false h9; omega, by rw [hm, drop_at hc]; rfl, hbb, hX⟩
 · exfalso
   have := of_decide_eq_false h5; omega
 · exfalso
   have := of_decide_eq_false h4; omega
 refine ewp_exit ?_
 refine thn_e ?_
 refine lp_e ?_
 refine blk_e ?_
 refine thn_n ?_
 refine ewp_seq ?_
 refine ewp_seq ?_
 refine ewp_reg ?_
 refine ewl_run rfl (rn_move rfl) ?_
 refine ewl_run rfl (rn_move rfl) ?_
 refine ewl_off rfl rfl rfl rfl ?_
 refine ewl_off rfl rfl rfl rfl ?_
 refine ewl_off rfl rfl rfl rfl ?_
 refine ewl_run rfl (rn_pickf rfl rfl rfl) ?_
 refine ewl_nil ?_
 refine thn_n ?_
 refine ewp_iff rfl rfl ?_
 refine ewp_skip ?_
 refine thn_n ?_
 refine ewp_seq ?_
 refine ewp_reg ?_
 refine ewl_run rfl (rn_move rfl) ?_
 refine ewl_run rfl (rn_assign rfl) ?_
 refine ewl_run rfl (rn_assign rfl) ?_
 refine ewl_nil ?_
 refine thn_n ?_
 refine ewp_ret ?_
 refine fn_r (resv2 rfl (rv_tmp rfl) (rv_tmp rfl)) ?_
 exact ⟨.inl ⟨by rw [hm, drop_end (by have := of_decide_eq_false h2; omega)]; exact hn, by rw [hm, drop_end (by have := of_decide_eq_false h2; omega)]; rfl⟩, hX⟩
end Go.Proofs.YthjdnhnbgjgbkaaGreatDoor
namespace Go.Proofs.YthjdnhnbgjgbkaaGreatDoor
open Go.SW Go.SP Go.RowKit
theorem cme : cmpI Tryz.prog 105 = true := by kernel_rfl
theorem parseInt_pos (w : World) (s : List UInt8) (hlen : s.length ≤ 100000) (hne : (s == []) = false) (hd : ∀ c ∈ s, 48 ≤ c.toNat ∧ c.toNat ≤ 57) :
   Ret Tryz.prog 65 #[S s, .int .i64 10, .int .i64 63] w fun v w' => ((decN 0 s < 4611686018427387904 ∧ v = .tuple #[.int .i64 (decN 0 s : Int), .nilIface]) ∨ (4611686018427387904 ≤ decN 0 s ∧ ∃ z, v = .tuple #[.int .i64 z, .iface 105 (.int .i64 1)])) ∧ Ext w w' := by
 obtain ⟨c0, r0, hs0⟩ : ∃ c r, s = c :: r := by
   cases s with
   | nil => simp at hne
   | cons c r => exact ⟨c, r, rfl⟩
 have hX := Ext.refl w
 refine enter Tryz.func65 rfl rfl rfl ?_
 refine ewp_seq ?_
 refine ewp_reg ?_
 refine ewl_run rfl (rn_assign rfl) ?_
 refine ewl_run rfl (rn_assign rfl) ?_
 refine ewl_nil ?_
 refine thn_n ?_
 refine ewp_seq ?_
 refine ewp_seq ?_
 refine ewp_reg ?_
 refine ewl_run rfl (rn_move rfl) ?_
 refine ewl_run rfl (rn_eqS rfl rfl) ?_
 refine ewl_nil ?_
 refine thn_n ?_
 refine ewp_if rfl (fun h1 => ?_) (fun h1 => ?_)
 · exfalso
   rw [hne] at h1; contradiction
 refine ewp_skip ?_
 refine thn_n ?_
 refine ewp_seq ?_
 refine ewp_reg ?_
 refine ewl_run rfl (rn_assign rfl) ?_
 refine ewl_nil ?_
 refine thn_n ?_
 refine ewp_seq ?_
 refine ewp_seq ?_
 refine ewp_reg ?_
 refine ewl_run rfl (rn_move rfl) ?_
 refine ewl_run rfl (rn_ixS (c := c0) rfl rfl un9 (by decide) (by rw [hs0]; rfl)) ?_
 refine ewl_nil ?_
 refine thn_n ?_
 refine ewp_block ?_
 refine ewp_seq ?_
 refine ewp_reg ?_
 refine ewl_run rfl (rn_eqI rfl rfl) ?_
 refine ewl_run rfl (rn_assign rfl) ?_
 refine ewl_nil ?_
 refine thn_n ?_
 refine ewp_if rfl (fun h2 => ?_) (fun h2 => ?_)
 · exfalso
   have h9 := hd c0 (hs0 ▸ List.mem_cons_self); have := (beq_iff_eq).1 h2; omega
 refine ewp_seq ?_
 refine ewp_reg ?_
 refine ewl_run rfl (rn_eqI rfl rfl) ?_
 refine ewl_run rfl (rn_assign rfl) ?_
 refine ewl_nil ?_
 refine thn_n ?_
 refine ewp_if rfl (fun h3 => ?_) (fun h3 => ?_)
 · exfalso
   have h9 := hd c0 (hs0 ▸ List.mem_cons_self); have := (beq_iff_eq).1 h3; omega
 refine ewp_skip ?_
 refine blk_n ?_
 refine thn_n ?_
 refine ewp_seq ?_
 refine ewp_reg ?_
 refine ewl_run rfl (rn_assign rfl) ?_
 refine ewl_nil ?_
 refine thn_n ?_
 refine ewp_seq ?_
 refine ewp_reg ?_
 refine ewl_run rfl (rn_move rfl) ?_
 refine ewl_run rfl (rn_move rfl) ?_
 refine ewl_run rfl (rn_move rfl) ?_
 refine ewl_ret rfl (en_call ent82 rfl rfl) (parseUint_spec _ s hlen hne hd) ?_
 rintro _ w1 ⟨(⟨hle, rfl⟩ | ⟨hgt, rfl⟩), hE1⟩
 replace hX := hX.trans hE1
 have sz1 := hE1.size
 refine ewl_run rfl (rn_move rfl) ?_
 refine ewl_run rfl (rn_exs rfl rfl) ?_
 refine ewl_run rfl (rn_exs rfl rfl) ?_
 refine ewl_run rfl (rn_assign rfl) ?_
 refine ewl_run rfl (rn_assign rfl) ?_
 refine ewl_nil ?_
 refine thn_n ?_
 refine ewp_seq ?_
 refine ewp_seq ?_
 refine ewp_reg ?_
 refine ewl_run rfl (rn_move rfl) ?_
 refine ewl_run rfl (rn_nilN0 ift83 rfl) ?_
 refine ewl_run rfl (rn_move rfl) ?_
 refine ewl_off rfl rfl rfl rfl ?_
 refine ewl_off rfl rfl rfl rfl ?_
 refine ewl_off rfl rfl rfl rfl ?_
 refine ewl_run rfl (rn_pickf rfl rfl rfl) ?_
 refine ewl_nil ?_
 refine thn_n ?_
 refine ewp_iff rfl rfl ?_
 refine ewp_skip ?_
 refine thn_n ?_
 refine ewp_seq ?_
 refine ewp_seq ?_
 refine ewp_reg ?_
 refine ewl_run rfl (rn_move rfl) ?_
 refine ewl_run rfl (rn_eqI rfl rfl) ?_
 refine ewl_nil ?_
 refine thn_n ?_
 refine ewp_iff rfl rfl ?_
 refine ewp_skip ?_
 refine thn_n ?_
 refine ewp_seq ?_
 refine ewp_reg ?_
 refine ewl_run rfl (rn_move rfl) ?_
 refine ewl_run rfl (rn_subK (62) rfl rfl (by decide)) ?_
 refine ewl_run rfl (rn_cvI (m := 62) rfl cv3_81 (by decide)) ?_
 refine ewl_run rfl (rn_shlK (4611686018427387904) rfl rfl (by decide) (by decide)) ?_
 refine ewl_run rfl (rn_assign rfl) ?_
 refine ewl_nil ?_
 refine thn_n ?_
 refine ewp_seq ?_
 refine ewp_seq ?_
 refine ewp_reg ?_
 refine ewl_run rfl (rn_move rfl) ?_
 refine ewl_run rfl (rn_notf rfl rfl) ?_
 refine ewl_run rfl (rn_move rfl) ?_
 refine ewl_grd rfl rfl rfl ?_
 refine ewl_run rfl (rn_move rfl) ?_
 refine ewl_grd rfl rfl rfl ?_
 refine ewl_run rfl (rn_move rfl) ?_
 refine ewl_grd rfl rfl rfl ?_
 refine ewl_run rfl (rn_geI rfl rfl) ?_
 refine ewl_run rfl (rn_pickt rfl rfl rfl) ?_
 refine ewl_nil ?_
 refine thn_n ?_
 refine ewp_if rfl (fun h4 => ?_) (fun h4 => ?_)
 refine ewp_seq ?_
 refine ewp_reg ?_
 refine ewl_run rfl (rn_move rfl) ?_
 refine ewl_run rfl (rn_subK (4611686018427387903) rfl rfl (by decide)) ?_
 refine ewl_run rfl (rn_cvI (m := 4611686018427387903) rfl cv33_2 (by decide)) ?_
 refine ewl_run rfl (rn_mki rfl ni105) ?_
 refine ewl_run rfl (rn_assign rfl) ?_
 refine ewl_run rfl (rn_assign rfl) ?_
 refine ewl_nil ?_
 refine thn_n ?_
 refine ewp_ret ?_
 refine thn_r ?_
 refine fn_r (resv2 rfl (rv_tmp rfl) (rv_tmp rfl)) ?_
 exact ⟨.inr ⟨by have := of_decide_eq_true h4; omega, _, rfl⟩, hX⟩
 refine ewp_skip ?_
 refine thn_n ?_
 refine ewp_seq ?_
 refine ewp_seq ?_
 refine ewp_reg ?_
 refine ewl_run rfl (rn_move rfl) ?_
 refine ewl_run rfl (rn_move rfl) ?_
 refine ewl_off rfl rfl rfl rfl ?_
 refine ewl_off rfl rfl rfl rfl ?_
 refine ewl_off rfl rfl rfl rfl ?_
 refine ewl_run rfl (rn_pickf rfl rfl rfl) ?_
 refine ewl_nil ?_
 refine thn_n ?_
 refine ewp_iff rfl rfl ?_
 refine ewp_skip ?_
 refine thn_n ?_
 refine ewp_seq ?_
 refine ewp_reg ?_
 refine ewl_run rfl (rn_move rfl) ?_
 refine ewl_run rfl (rn_cvI (m := (decN 0 s : Int)) rfl cv33_2 (wrapI64 ⟨by omega, by have := of_decide_eq_false h4; omega⟩)) ?_
 refine ewl_run rfl (rn_assign rfl) ?_
 refine ewl_nil ?_
 refine thn_n ?_
 refine ewp_seq ?_
 refine ewp_seq ?_
 refine ewp_reg ?_
 refine ewl_run rfl (rn_move rfl) ?_
 refine ewl_nil ?_
 refine thn_n ?_
 refine ewp_iff rfl rfl ?_
 refine ewp_skip ?_
 refine thn_n ?_
 refine ewp_seq ?_
 refine ewp_reg ?_
 refine ewl_run rfl (rn_move rfl) ?_
 refine ewl_run rfl (rn_assign rfl) ?_
 refine ewl_run rfl (rn_assign rfl) ?_
 refine ewl_nil ?_
 refine thn_n ?_
 refine ewp_ret ?_
 refine fn_r (resv2 rfl (rv_tmp rfl) (rv_tmp rfl)) ?_
 exact ⟨.inl ⟨by have := of_decide_eq_false h4; omega, rfl⟩, hX⟩
 replace hX := hX.trans hE1
 have sz2 := hE1.size
 refine ewl_run rfl (rn_move rfl) ?_
 refine ewl_run rfl (rn_exs rfl rfl) ?_
 refine ewl_run rfl (rn_exs rfl rfl) ?_
 refine ewl_run rfl (rn_assign rfl) ?_
 refine ewl_run rfl (rn_assign rfl) ?_
 refine ewl_nil ?_
 refine thn_n ?_
 refine ewp_seq ?_
 refine ewp_seq ?_
 refine ewp_reg ?_
 refine ewl_run rfl (rn_move rfl) ?_
 refine ewl_run rfl (rn_nilN1 ift83 rfl) ?_
 refine ewl_run rfl (rn_move rfl) ?_
 refine ewl_grd rfl rfl rfl ?_
 refine ewl_run rfl (rn_move rfl) ?_
 refine ewl_grd rfl rfl rfl ?_
 refine ewl_run rfl (rn_mki rfl ni105) ?_
 refine ewl_grd rfl rfl rfl ?_
 refine ewl_run rfl (rn_neE ift83 cme rfl rfl) ?_
 refine ewl_run rfl (rn_pickt rfl rfl rfl) ?_
 refine ewl_nil ?_
 refine thn_n ?_
 refine ewp_iff rfl rfl ?_
 refine ewp_skip ?_
 refine thn_n ?_
 refine ewp_seq ?_
 refine ewp_seq ?_
 refine ewp_reg ?_
 refine ewl_run rfl (rn_move rfl) ?_
 refine ewl_run rfl (rn_eqI rfl rfl) ?_
 refine ewl_nil ?_
 refine thn_n ?_
 refine ewp_iff rfl rfl ?_
 refine ewp_skip ?_
 refine thn_n ?_
 refine ewp_seq ?_
 refine ewp_reg ?_
 refine ewl_run rfl (rn_move rfl) ?_
 refine ewl_run rfl (rn_subK (62) rfl rfl (by decide)) ?_
 refine ewl_run rfl (rn_cvI (m := 62) rfl cv3_81 (by decide)) ?_
 refine ewl_run rfl (rn_shlK (4611686018427387904) rfl rfl (by decide) (by decide)) ?_
 refine ewl_run rfl (rn_assign rfl) ?_
 refine ewl_nil ?_
 refine thn_n ?_
 refine ewp_seq ?_
 refine ewp_seq ?_
 refine ewp_reg ?_
 refine ewl_run rfl (rn_move rfl) ?_
 refine ewl_run rfl (rn_notf rfl rfl) ?_
 refine ewl_run rfl (rn_move rfl) ?_
 refine ewl_grd rfl rfl rfl ?_
 refine ewl_run rfl (rn_move rfl) ?_
 refine ewl_grd rfl rfl rfl ?_
 refine ewl_run rfl (rn_move rfl) ?_
 refine ewl_grd rfl rfl rfl ?_
 refine ewl_run rfl (rn_geI rfl rfl) ?_
 refine ewl_run rfl (rn_pickt rfl rfl rfl) ?_
 refine ewl_nil ?_
 refine thn_n ?_
 refine ewp_ift rfl rfl ?_
 refine ewp_seq ?_
 refine ewp_reg ?_
 refine ewl_run rfl (rn_move rfl) ?_
 refine ewl_run rfl (rn_subK (4611686018427387903) rfl rfl (by decide)) ?_
 refine ewl_run rfl (rn_cvI (m := 4611686018427387903) rfl cv33_2 (by decide)) ?_
 refine ewl_run rfl (rn_mki rfl ni105) ?_
 refine ewl_run rfl (rn_assign rfl) ?_
 refine ewl_run rfl (rn_assign rfl) ?_
 refine ewl_nil ?_
 refine thn_n ?_
 refine ewp_ret ?_
 refine thn_r ?_
 refine fn_r (resv2 rfl (rv_tmp rfl) (rv_tmp rfl)) ?_
 exact ⟨.inr ⟨by omega, _, rfl⟩, hX⟩
theorem parseInt_neg (w : World) (r : List UInt8) (hlen : (45 :: r).length ≤ 100000) (hne : (r == []) = false) (hd : ∀ c ∈ r, 48 ≤ c.toNat ∧ c.toNat ≤ 57) :
   Ret Tryz.prog 65 #[S (45 :: r), .int .i64 10, .int .i64 63] w fun v w' => ((decN 0 r < 4611686018427387905 ∧ v = .tuple #[.int .i64 (-(decN 0 r : Int)), .nilIface]) ∨ (4611686018427387905 ≤ decN 0 r ∧ ∃ z, v = .tuple #[.int .i64 z, .iface 105 (.int .i64 1)])) ∧ Ext w w' := by
 have hne2 : ((45 :: r : List UInt8) == []) = false := rfl
 have hX := Ext.refl w
 refine enter Tryz.func65 rfl rfl rfl ?_
 refine ewp_seq ?_
 refine ewp_reg ?_
 refine ewl_run rfl (rn_assign rfl) ?_
 refine ewl_run rfl (rn_assign rfl) ?_
 refine ewl_nil ?_
 refine thn_n ?_
 refine ewp_seq ?_
 refine ewp_seq ?_
 refine ewp_reg ?_
 refine ewl_run rfl (rn_move rfl) ?_
 refine ewl_run rfl (rn_eqS rfl rfl) ?_
 refine ewl_nil ?_
 refine thn_n ?_
 refine ewp_if rfl (fun h1 => ?_) (fun h1 => ?_)
 · exfalso
   rw [hne2] at h1; contradiction
 refine ewp_skip ?_
 refine thn_n ?_
 refine ewp_seq ?_
 refine ewp_reg ?_
 refine ewl_run rfl (rn_assign rfl) ?_
 refine ewl_nil ?_
 refine thn_n ?_
 refine ewp_seq ?_
 refine ewp_seq ?_
 refine ewp_reg ?_
 refine ewl_run rfl (rn_move rfl) ?_
 refine ewl_run rfl (rn_ixS (c := 45) rfl rfl un9 (by decide) rfl) ?_
 refine ewl_nil ?_
 refine thn_n ?_
 refine ewp_block ?_
 refine ewp_seq ?_
 refine ewp_reg ?_
 refine ewl_run rfl (rn_eqI rfl rfl) ?_
 refine ewl_run rfl (rn_assign rfl) ?_
 refine ewl_nil ?_
 refine thn_n ?_
 refine ewp_iff rfl rfl ?_
 refine ewp_seq ?_
 refine ewp_reg ?_
 refine ewl_run rfl (rn_eqI rfl rfl) ?_
 refine ewl_run rfl (rn_assign rfl) ?_
 refine ewl_nil ?_
 refine thn_n ?_
 refine ewp_ift rfl rfl ?_
 refine ewp_seq ?_
 refine ewp_reg ?_
 refine ewl_run rfl (rn_move rfl) ?_
 refine ewl_run rfl (rn_slSfrom1 rfl rfl un9) ?_
 refine ewl_run rfl (rn_assign rfl) ?_
 refine ewl_nil ?_
 refine thn_n ?_
 refine ewp_reg ?_
 refine ewl_run rfl (rn_assign rfl) ?_
 refine ewl_nil ?_
 refine blk_n ?_
 refine thn_n ?_
 refine ewp_seq ?_
 refine ewp_reg ?_
 refine ewl_run rfl (rn_assign rfl) ?_
 refine ewl_nil ?_
 refine thn_n ?_
 refine ewp_seq ?_
 refine ewp_reg ?_
 refine ewl_run rfl (rn_move rfl) ?_
 refine ewl_run rfl (rn_move rfl) ?_
 refine ewl_run rfl (rn_move rfl) ?_
 refine ewl_ret rfl (en_call ent82 rfl rfl) (parseUint_spec _ r (by simp only [List.length_cons] at hlen; omega) hne hd) ?_
 rintro _ w1 ⟨(⟨hle, rfl⟩ | ⟨hgt, rfl⟩), hE1⟩
 replace hX := hX.trans hE1
 have sz1 := hE1.size
 refine ewl_run rfl (rn_move rfl) ?_
 refine ewl_run rfl (rn_exs rfl rfl) ?_
 refine ewl_run rfl (rn_exs rfl rfl) ?_
 refine ewl_run rfl (rn_assign rfl) ?_
 refine ewl_run rfl (rn_assign rfl) ?_
 refine ewl_nil ?_
 refine thn_n ?_
 refine ewp_seq ?_
 refine ewp_seq ?_
 refine ewp_reg ?_
 refine ewl_run rfl (rn_move rfl) ?_
 refine ewl_run rfl (rn_nilN0 ift83 rfl) ?_
 refine ewl_run rfl (rn_move rfl) ?_
 refine ewl_off rfl rfl rfl rfl ?_
 refine ewl_off rfl rfl rfl rfl ?_
 refine ewl_off rfl rfl rfl rfl ?_
 refine ewl_run rfl (rn_pickf rfl rfl rfl) ?_
 refine ewl_nil ?_
 refine thn_n ?_
 refine ewp_iff rfl rfl ?_
 refine ewp_skip ?_
 refine thn_n ?_
 refine ewp_seq ?_
 refine ewp_seq ?_
 refine ewp_reg ?_
 refine ewl_run rfl (rn_move rfl) ?_
 refine ewl_run rfl (rn_eqI rfl rfl) ?_
 refine ewl_nil ?_
 refine thn_n ?_
 refine ewp_iff rfl rfl ?_
 refine ewp_skip ?_
 refine thn_n ?_
 refine ewp_seq ?_
 refine ewp_reg ?_
 refine ewl_run rfl (rn_move rfl) ?_
 refine ewl_run rfl (rn_subK (62) rfl rfl (by decide)) ?_
 refine ewl_run rfl (rn_cvI (m := 62) rfl cv3_81 (by decide)) ?_
 refine ewl_run rfl (rn_shlK (4611686018427387904) rfl rfl (by decide) (by decide)) ?_
 refine ewl_run rfl (rn_assign rfl) ?_
 refine ewl_nil ?_
 refine thn_n ?_
 refine ewp_seq ?_
 refine ewp_seq ?_
 refine ewp_reg ?_
 refine ewl_run rfl (rn_move rfl) ?_
 refine ewl_run rfl (rn_nott rfl rfl) ?_
 refine ewl_run rfl (rn_move rfl) ?_
 refine ewl_off rfl rfl rfl rfl ?_
 refine ewl_off rfl rfl rfl rfl ?_
 refine ewl_off rfl rfl rfl rfl ?_
 refine ewl_run rfl (rn_pickf rfl rfl rfl) ?_
 refine ewl_nil ?_
 refine thn_n ?_
 refine ewp_iff rfl rfl ?_
 refine ewp_skip ?_
 refine thn_n ?_
 refine ewp_seq ?_
 refine ewp_seq ?_
 refine ewp_reg ?_
 refine ewl_run rfl (rn_move rfl) ?_
 refine ewl_run rfl (rn_move rfl) ?_
 refine ewl_grd rfl rfl rfl ?_
 refine ewl_run rfl (rn_move rfl) ?_
 refine ewl_grd rfl rfl rfl ?_
 refine ewl_run rfl (rn_move rfl) ?_
 refine ewl_grd rfl rfl rfl ?_
 refine ewl_run rfl (rn_gtI rfl rfl) ?_
 refine ewl_run rfl (rn_pickt rfl rfl rfl) ?_
 refine ewl_nil ?_
 refine thn_n ?_
 refine ewp_if rfl (fun h2 => ?_) (fun h2 => ?_)
 refine ewp_seq ?_
 refine ewp_reg ?_
 refine ewl_run rfl (rn_move rfl) ?_
 refine ewl_run rfl (rn_cvI (m := 4611686018427387904) rfl cv33_2 (by decide)) ?_
 refine ewl_run rfl (rn_negK (-4611686018427387904) rfl (by decide)) ?_
 refine ewl_run rfl (rn_mki rfl ni105) ?_
 refine ewl_run rfl (rn_assign rfl) ?_
 refine ewl_run rfl (rn_assign rfl) ?_
 refine ewl_nil ?_
 refine thn_n ?_
 refine ewp_ret ?_
 refine thn_r ?_
 refine fn_r (resv2 rfl (rv_tmp rfl) (rv_tmp rfl)) ?_
 exact ⟨.inr ⟨by have := of_decide_eq_true h2; omega, _, rfl⟩, hX⟩
 refine ewp_skip ?_
 refine thn_n ?_
 refine ewp_seq ?_
 refine ewp_reg ?_
 refine ewl_run rfl (rn_move rfl) ?_
 refine ewl_run rfl (rn_cvI (m := (decN 0 r : Int)) rfl cv33_2 (wrapI64 ⟨by omega, by have := of_decide_eq_false h2; omega⟩)) ?_
 refine ewl_run rfl (rn_assign rfl) ?_
 refine ewl_nil ?_
 refine thn_n ?_
 refine ewp_seq ?_
 refine ewp_seq ?_
 refine ewp_reg ?_
 refine ewl_run rfl (rn_move rfl) ?_
 refine ewl_nil ?_
 refine thn_n ?_
 refine ewp_ift rfl rfl ?_
 refine ewp_reg ?_
 refine ewl_run rfl (rn_move rfl) ?_
 refine ewl_run rfl (rn_negK (-(decN 0 r : Int)) rfl (by rw [wrapI64 ⟨by omega, by have := of_decide_eq_false h2; omega⟩]; omega)) ?_
 refine ewl_run rfl (rn_assign rfl) ?_
 refine ewl_nil ?_
 refine thn_n ?_
 refine ewp_seq ?_
 refine ewp_reg ?_
 refine ewl_run rfl (rn_move rfl) ?_
 refine ewl_run rfl (rn_assign rfl) ?_
 refine ewl_run rfl (rn_assign rfl) ?_
 refine ewl_nil ?_
 refine thn_n ?_
 refine ewp_ret ?_
 refine fn_r (resv2 rfl (rv_tmp rfl) (rv_tmp rfl)) ?_
 exact ⟨.inl ⟨by have := of_decide_eq_false h2; omega, rfl⟩, hX⟩
 replace hX := hX.trans hE1
 have sz2 := hE1.size
 refine ewl_run rfl (rn_move rfl) ?_
 refine ewl_run rfl (rn_exs rfl rfl) ?_
 refine ewl_run rfl (rn_exs rfl rfl) ?_
 refine ewl_run rfl (rn_assign rfl) ?_
 refine ewl_run rfl (rn_assign rfl) ?_
 refine ewl_nil ?_
 refine thn_n ?_
 refine ewp_seq ?_
 refine ewp_seq ?_
 refine ewp_reg ?_
 refine ewl_run rfl (rn_move rfl) ?_
 refine ewl_run rfl (rn_nilN1 ift83 rfl) ?_
 refine ewl_run rfl (rn_move rfl) ?_
 refine ewl_grd rfl rfl rfl ?_
 refine ewl_run rfl (rn_move rfl) ?_
 refine ewl_grd rfl rfl rfl ?_
 refine ewl_run rfl (rn_mki rfl ni105) ?_
 refine ewl_grd rfl rfl rfl ?_
 refine ewl_run rfl (rn_neE ift83 cme rfl rfl) ?_
 refine ewl_run rfl (rn_pickt rfl rfl rfl) ?_
 refine ewl_nil ?_
 refine thn_n ?_
 refine ewp_iff rfl rfl ?_
 refine ewp_skip ?_
 refine thn_n ?_
 refine ewp_seq ?_
 refine ewp_seq ?_
 refine ewp_reg ?_
 refine ewl_run rfl (rn_move rfl) ?_
 refine ewl_run rfl (rn_eqI rfl rfl) ?_
 refine ewl_nil ?_
 refine thn_n ?_
 refine ewp_iff rfl rfl ?_
 refine ewp_skip ?_
 refine thn_n ?_
 refine ewp_seq ?_
 refine ewp_reg ?_
 refine ewl_run rfl (rn_move rfl) ?_
 refine ewl_run rfl (rn_subK (62) rfl rfl (by decide)) ?_
 refine ewl_run rfl (rn_cvI (m := 62) rfl cv3_81 (by decide)) ?_
 refine ewl_run rfl (rn_shlK (4611686018427387904) rfl rfl (by decide) (by decide)) ?_
 refine ewl_run rfl (rn_assign rfl) ?_
 refine ewl_nil ?_
 refine thn_n ?_
 refine ewp_seq ?_
 refine ewp_seq ?_
 refine ewp_reg ?_
 refine ewl_run rfl (rn_move rfl) ?_
 refine ewl_run rfl (rn_nott rfl rfl) ?_
 refine ewl_run rfl (rn_move rfl) ?_
 refine ewl_off rfl rfl rfl rfl ?_
 refine ewl_off rfl rfl rfl rfl ?_
 refine ewl_off rfl rfl rfl rfl ?_
 refine ewl_run rfl (rn_pickf rfl rfl rfl) ?_
 refine ewl_nil ?_
 refine thn_n ?_
 refine ewp_iff rfl rfl ?_
 refine ewp_skip ?_
 refine thn_n ?_
 refine ewp_seq ?_
 refine ewp_seq ?_
 refine ewp_reg ?_
 refine ewl_run rfl (rn_move rfl) ?_
 refine ewl_run rfl (rn_move rfl) ?_
 refine ewl_grd rfl rfl rfl ?_
 refine ewl_run rfl (rn_move rfl) ?_
 refine ewl_grd rfl rfl rfl ?_
 refine ewl_run rfl (rn_move rfl) ?_
 refine ewl_grd rfl rfl rfl ?_
 refine ewl_run rfl (rn_gtI rfl rfl) ?_
 refine ewl_run rfl (rn_pickt rfl rfl rfl) ?_
 refine ewl_nil ?_
 refine thn_n ?_
 refine ewp_ift rfl rfl ?_
 refine ewp_seq ?_
 refine ewp_reg ?_
 refine ewl_run rfl (rn_move rfl) ?_
 refine ewl_run rfl (rn_cvI (m := 4611686018427387904) rfl cv33_2 (by decide)) ?_
 refine ewl_run rfl (rn_negK (-4611686018427387904) rfl (by decide)) ?_
 refine ewl_run rfl (rn_mki rfl ni105) ?_
 refine ewl_run rfl (rn_assign rfl) ?_
 refine ewl_run rfl (rn_assign rfl) ?_
 refine ewl_nil ?_
 refine thn_n ?_
 refine ewp_ret ?_
 refine thn_r ?_
 refine fn_r (resv2 rfl (rv_tmp rfl) (rv_tmp rfl)) ?_
 exact ⟨.inr ⟨by omega, _, rfl⟩, hX⟩
end Go.Proofs.YthjdnhnbgjgbkaaGreatDoor
namespace Go.SP
open Go.SW Go.RowKit
theorem dropWhile_nil {α : Type} (p : α → Bool) : ∀ (l : List α), l.dropWhile p = [] ↔ ∀ x ∈ l, p x = true
 | [] => by simp
 | a :: l => by
   have ih := dropWhile_nil p l
   cases h : p a <;> simp [List.dropWhile, h, ih]
theorem dropWhile_head {α : Type} (p : α → Bool) : ∀ (l : List α) (a : α) (r : List α), l.dropWhile p = a :: r → p a = false
 | [], _, _, h => by simp at h
 | b :: l, a, r, h => by
   cases hb : p b with
   | true => rw [List.dropWhile_cons_of_pos hb] at h; exact dropWhile_head p l a r h
   | false => rw [List.dropWhile_cons_of_neg (by simp [hb])] at h; cases h; exact hb
theorem onlyM_eq (s l : List UInt8) : onlyM s l = s.all (l.contains ·) := by
 have key : Lib.trimS s l = [] ↔ ∀ x ∈ s, l.contains x = true := by
   unfold Lib.trimS Lib.trimLeftS Lib.trimRightS
   rw [dropWhile_nil]
   constructor
   · intro h
     cases hd : s.reverse.dropWhile (l.contains ·) with
     | nil => intro x hx; exact (dropWhile_nil _ _).1 hd x (by simpa using hx)
     | cons a r =>
       have h1 := dropWhile_head _ _ _ _ hd
       have h2 := h a (by rw [hd]; simp)
       rw [h1] at h2; cases h2
   · intro h x hx
     exact h x (by have := (List.dropWhile_suffix (l.contains ·) (l := s.reverse)).subset (by simpa using hx); simpa using this)
 unfold onlyM
 cases h : s.all (l.contains ·) with
 | true => rw [key.2 (by simpa using h)]; rfl
 | false =>
   have : ¬ Lib.trimS s l = [] := fun e => by
     have := key.1 e
     have h2 : s.all (l.contains ·) = true := by simpa using this
     rw [h] at h2; cases h2
   simp [this]
theorem mem_digs {c : UInt8} (h : digsB.contains c = true) : 48 ≤ c.toNat ∧ c.toNat ≤ 57 := by
 simp only [digsB, List.contains_cons, List.contains_nil, Bool.or_false, Bool.or_eq_true, beq_iff_eq] at h
 rcases h with rfl | rfl | rfl | rfl | rfl | rfl | rfl | rfl | rfl | rfl <;> decide
theorem digitsM_digs {s : List UInt8} (h : digitsM s = true) : (s == []) = false ∧ ∀ c ∈ s, 48 ≤ c.toNat ∧ c.toNat ≤ 57 := by
 unfold digitsM at h
 rw [onlyM_eq, Bool.and_eq_true] at h
 exact ⟨by simpa using h.1, fun c hc => mem_digs (List.all_eq_true.1 h.2 c hc)⟩
theorem wholeM_neg (r : List UInt8) : wholeM (45 :: r) = r := by
 simp [wholeM, Lib.trimPrefix, Lib.hasPrefix, List.isPrefixOf]
theorem wholeM_pos {s : List UInt8} (h : negM s = false) : wholeM s = s := by
 unfold wholeM Lib.trimPrefix
 cases s with
 | nil => simp
 | cons c r =>
   have : c ≠ 45 := by simpa [negM] using h
   simp [Lib.hasPrefix, List.isPrefixOf, this.symm]
theorem readM_neg {r : List UInt8} (h : digitsM r = true) : readM (45 :: r) = if decN 0 r < 4611686018427387905 then some (-(decN 0 r : Int)) else none := by
 unfold readM
 rw [wholeM_neg, h]
 simp [negM, Nat.lt_succ_iff]
theorem readM_pos {s : List UInt8} (hn : negM s = false) (h : digitsM s = true) : readM s = if decN 0 s < 4611686018427387904 then some (decN 0 s : Int) else none := by
 unfold readM
 rw [wholeM_pos hn, h, hn]
 simp
theorem negM_split (s : List UInt8) : negM s = false ∨ ∃ r, s = 45 :: r := by
 cases s with
 | nil => exact .inl rfl
 | cons c r =>
   by_cases h : c = 45
   · exact .inr ⟨r, by rw [h]⟩
   · left; simp [negM, h]
theorem wholeM_len (s : List UInt8) : (wholeM s).length ≤ s.length := by
 rcases negM_split s with h | ⟨r, rfl⟩
 · rw [wholeM_pos h]; exact Nat.le_refl _
 · rw [wholeM_neg]; simp
end Go.SP
namespace Go.SP
theorem cut_len1 (s t : List UInt8) : (Lib.cut s t).1.length ≤ s.length := by
 unfold Lib.cut
 split
 · simp only [List.length_take]; exact Nat.min_le_right _ _
 · exact Nat.le_refl _
theorem cut_len2 (s t : List UInt8) : (Lib.cut s t).2.1.length ≤ s.length := by
 unfold Lib.cut
 split
 · simp
 · simp
end Go.SP
namespace Go.SP
def wsel (s : List UInt8) (a b c d e f g : Bool) : Option (Int × Int × List UInt8) := if a || (b && c) then none else if d && e then some (6, 0, s) else if f && g then some (5, 0, s) else none
theorem wordM_of {s : List UInt8} (hr : readM s = none) (hf : fbitsM s = none) : wordM s = wsel s (decide ((40 : Int) < s.length)) (!(wholeM s == [])) (onlyM (wholeM s) digsB) (onlyM (s.take 1) greatB) (onlyM s (greatB ++ smallB ++ digsB)) (onlyM (s.take 1) (smallB ++ signsB)) (onlyM s (greatB ++ smallB ++ digsB ++ signsB)) := by
 rw [wordM, hr]
 simp only [hf]
 rfl
end Go.SP
namespace Go.SP
theorem comM_stop {p : Ps} {src : List UInt8} {j : Nat} (h : ¬ j < src.length ∨ ∃ c, src[j]? = some c ∧ ((c.toNat : Int) != 10) = false) : comM p (src.drop j) = (src.drop j, p) := by
 rcases h with h | ⟨c, hc, h⟩
 · rw [List.drop_eq_nil_of_le (by omega)]; rfl
 · rw [drop_at hc, comM, if_neg (by rw [h]; decide)]
theorem comM_next {p : Ps} {src : List UInt8} {j : Nat} {c : UInt8} (hc : src[j]? = some c) (h : ((c.toNat : Int) != 10) = true) : comM p (src.drop j) = comM (adv c p) (src.drop (j + 1)) := by
 rw [drop_at hc, comM, if_pos h]
theorem spanM_stop {p : Ps} {src : List UInt8} {j : Nat} (h : ¬ j < src.length ∨ ∃ c, src[j]? = some c ∧ decide (Lib.indexByte endsB c < 0) = false) : spanM p (src.drop j) = ([], src.drop j, p) := by
 rcases h with h | ⟨c, hc, h⟩
 · rw [List.drop_eq_nil_of_le (by omega)]; rfl
 · rw [drop_at hc, spanM, if_neg (by rw [h]; decide)]
theorem spanM_next {p : Ps} {src : List UInt8} {j : Nat} {c : UInt8} (hc : src[j]? = some c) (h : decide (Lib.indexByte endsB c < 0) = true) :
   spanM p (src.drop j) = (c :: (spanM (adv c p) (src.drop (j + 1))).1, (spanM (adv c p) (src.drop (j + 1))).2) := by
 rw [drop_at hc, spanM, if_pos h]
/-- The bytes from i to j. -/
def cutIJ (src : List UInt8) (i j : Nat) : List UInt8 := (src.take j).drop i
theorem cutIJ_self (src : List UInt8) (i : Nat) : cutIJ src i i = [] := by
 unfold cutIJ
 rw [List.drop_eq_nil_of_le (by simp; omega)]
theorem cutIJ_next {src : List UInt8} {i j : Nat} {c : UInt8} (hij : i ≤ j) (hc : src[j]? = some c) : cutIJ src i (j + 1) = cutIJ src i j ++ [c] := by
 obtain ⟨hl, he⟩ := List.getElem?_eq_some_iff.1 hc
 unfold cutIJ
 rw [List.take_succ_eq_append_getElem hl, List.drop_append_of_le_length (by simp; omega), he]
theorem cutIJ_head {src : List UInt8} {i j : Nat} {c : UInt8} (hij : i < j) (hc : src[i]? = some c) : cutIJ src i j = c :: cutIJ src (i + 1) j := by
 unfold cutIJ
 have : (src.take j)[i]? = some c := by rw [List.getElem?_take, if_pos hij, hc]
 exact drop_at this
theorem cutIJ_len (src : List UInt8) (i j : Nat) : (cutIJ src i j).length ≤ src.length := by
 unfold cutIJ
 simp only [List.length_drop, List.length_take]
 omega
section
variable {F i : Nat} {p : Ps} {src : List UInt8} {c : UInt8}
theorem stepM_cons (r : List UInt8) : stepM F p (c :: r) =
   (if decide ((0 : Int) ≤ Lib.indexByte blanksB c) then .ok ([], r, adv c p)
   else if (c.toNat : Int) == 59 then .ok ([], comM (adv c p) r)
   else if (c.toNat : Int) == 40 then .ok ([⟨0, p.1, p.2, 0, []⟩], r, adv c p)
   else if (c.toNat : Int) == 41 then .ok ([⟨1, p.1, p.2, 0, []⟩], r, adv c p)
   else if (c.toNat : Int) == 34 then (match strM p F (adv c p) [] r with
     | .error e => .error e
     | .ok (tx, r', p') => .ok ([⟨4, p.1, p.2, 0, tx⟩], r', p'))
   else (match wordM (c :: (spanM (adv c p) r).1) with
     | none => .error p
     | some (k, nm, tx) => .ok ([⟨k, p.1, p.2, nm, tx⟩], (spanM (adv c p) r).2))) := rfl
theorem stepM_blank (hc : src[i]? = some c) (h1 : decide ((0 : Int) ≤ Lib.indexByte blanksB c) = true) : stepM F p (src.drop i) = .ok ([], src.drop (i + 1), adv c p) := by rw [drop_at hc, stepM_cons, if_pos h1]
theorem stepM_com (hc : src[i]? = some c) (h1 : decide ((0 : Int) ≤ Lib.indexByte blanksB c) = false) (h2 : ((c.toNat : Int) == 59) = true) : stepM F p (src.drop i) = .ok ([], comM (adv c p) (src.drop (i + 1))) := by
 rw [drop_at hc, stepM_cons, if_neg (by rw [h1]; decide), if_pos h2]
theorem stepM_op (hc : src[i]? = some c) (h1 : decide ((0 : Int) ≤ Lib.indexByte blanksB c) = false) (h2 : ((c.toNat : Int) == 59) = false) (h3 : ((c.toNat : Int) == 40) = true) : stepM F p (src.drop i) = .ok ([⟨0, p.1, p.2, 0, []⟩], src.drop (i + 1), adv c p) := by
 rw [drop_at hc, stepM_cons, if_neg (by rw [h1]; decide), if_neg (by rw [h2]; decide), if_pos h3]
theorem stepM_cl (hc : src[i]? = some c) (h1 : decide ((0 : Int) ≤ Lib.indexByte blanksB c) = false) (h2 : ((c.toNat : Int) == 59) = false) (h3 : ((c.toNat : Int) == 40) = false) (h4 : ((c.toNat : Int) == 41) = true) : stepM F p (src.drop i) = .ok ([⟨1, p.1, p.2, 0, []⟩], src.drop (i + 1), adv c p) := by
 rw [drop_at hc, stepM_cons, if_neg (by rw [h1]; decide), if_neg (by rw [h2]; decide), if_neg (by rw [h3]; decide), if_pos h4]
theorem stepM_str (hc : src[i]? = some c) (h1 : decide ((0 : Int) ≤ Lib.indexByte blanksB c) = false) (h2 : ((c.toNat : Int) == 59) = false) (h3 : ((c.toNat : Int) == 40) = false) (h4 : ((c.toNat : Int) == 41) = false) (h5 : ((c.toNat : Int) == 34) = true) :
   stepM F p (src.drop i) = (match strM p F (adv c p) [] (src.drop (i + 1)) with
     | .error e => .error e
     | .ok (tx, r', p') => .ok ([⟨4, p.1, p.2, 0, tx⟩], r', p')) := by
 rw [drop_at hc, stepM_cons, if_neg (by rw [h1]; decide), if_neg (by rw [h2]; decide), if_neg (by rw [h3]; decide), if_neg (by rw [h4]; decide), if_pos h5]
theorem stepM_word (hc : src[i]? = some c) (h1 : decide ((0 : Int) ≤ Lib.indexByte blanksB c) = false) (h2 : ((c.toNat : Int) == 59) = false) (h3 : ((c.toNat : Int) == 40) = false) (h4 : ((c.toNat : Int) == 41) = false) (h5 : ((c.toNat : Int) == 34) = false) :
   stepM F p (src.drop i) = (match wordM (c :: (spanM (adv c p) (src.drop (i + 1))).1) with
     | none => .error p
     | some (k, nm, tx) => .ok ([⟨k, p.1, p.2, nm, tx⟩], (spanM (adv c p) (src.drop (i + 1))).2)) := by
 rw [drop_at hc, stepM_cons, if_neg (by rw [h1]; decide), if_neg (by rw [h2]; decide), if_neg (by rw [h3]; decide), if_neg (by rw [h4]; decide), if_neg (by rw [h5]; decide)]
end
end Go.SP
namespace Go.SP
theorem scanM_nil (F n : Nat) (p : Ps) : scanM F n p [] = .ok [] := by cases n <;> rfl
def preT (t : List Tok) : Except Ps (List Tok) → Except Ps (List Tok)
 | .error e => .error e
 | .ok l => .ok (t ++ l)
theorem preT_nil (x : Except Ps (List Tok)) : preT [] x = x := by cases x <;> rfl
theorem scanM_cons (F n : Nat) (p : Ps) (c : UInt8) (r : List UInt8) : scanM F (n + 1) p (c :: r) = (match stepM F p (c :: r) with
   | .error e => .error e
   | .ok (t, r', p') => match scanM F n p' r' with
     | .error e => .error e
     | .ok l => .ok (t ++ l)) := rfl
theorem scanM_bad {F n j : Nat} {q e : Ps} {src : List UInt8} {c : UInt8} (hc : src[j]? = some c) (he : stepM F q (src.drop j) = .error e) : scanM F (n + 1) q (src.drop j) = .error e := by
 rw [drop_at hc] at he ⊢
 rw [scanM_cons, he]
theorem scanM_step {F n j : Nat} {q p1 : Ps} {src r1 : List UInt8} {c : UInt8} {toks ot : List Tok} {x : Except Ps (List Tok)} (hc : src[j]? = some c) (hs : stepM F q (src.drop j) = .ok (ot, r1, p1))
   (hm : x = preT toks (scanM F (n + 1) q (src.drop j))) : x = preT (toks ++ ot) (scanM F n p1 r1) := by
 rw [drop_at hc] at hs hm
 rw [hm, scanM_cons, hs]
 simp only []
 cases scanM F n p1 r1 with
 | error e => rfl
 | ok l => simp [preT]
theorem stepM_len {F : Nat} {p p1 : Ps} {l r : List UInt8} {ot : List Tok} (h : stepM F p l = .ok (ot, r, p1)) : ot.length ≤ 1 := by
 cases l with
 | nil => cases h
 | cons c r =>
   rw [stepM_cons] at h
   repeat' split at h
   all_goals first
     | (simp only [Except.ok.injEq, Prod.mk.injEq] at h; rw [← h.1]; simp)
     | cases h
end Go.SP
namespace Go.Proofs.YthjdnhnbgjgbkaaGreatDoor
open Go.SW Go.SP Go.RowKit
/-- What ParseInt(s, 10, 63) is where s has digits, and maybe a sign ahead. -/
theorem parseIntI_spec (w : World) (s : List UInt8) (hlen : s.length ≤ 100000) (hD : digitsM (wholeM s) = true) :
   Ret Tryz.prog 65 #[S s, .int .i64 10, .int .i64 63] w fun v w' => ((∃ n, readM s = some n ∧ v = .tuple #[.int .i64 n, .nilIface]) ∨ (readM s = none ∧ ∃ z, v = .tuple #[.int .i64 z, .iface 105 (.int .i64 1)])) ∧ Ext w w' := by
 rcases negM_split s with hn | ⟨r, rfl⟩
 · rw [wholeM_pos hn] at hD
   obtain ⟨h1, h2⟩ := digitsM_digs hD
   refine (parseInt_pos w s hlen h1 h2).mono ?_
   rintro v w' ⟨⟨hl, rfl⟩ | ⟨hg, z, rfl⟩, hE⟩
   · exact ⟨.inl ⟨_, by rw [readM_pos hn hD, if_pos hl], rfl⟩, hE⟩
   · exact ⟨.inr ⟨by rw [readM_pos hn hD, if_neg (by omega)], z, rfl⟩, hE⟩
 · rw [wholeM_neg] at hD
   obtain ⟨h1, h2⟩ := digitsM_digs hD
   refine (parseInt_neg w r hlen h1 h2).mono ?_
   rintro v w' ⟨⟨hl, rfl⟩ | ⟨hg, z, rfl⟩, hE⟩
   · exact ⟨.inl ⟨_, by rw [readM_neg hD, if_pos hl], rfl⟩, hE⟩
   · exact ⟨.inr ⟨by rw [readM_neg hD, if_neg (by omega)], z, rfl⟩, hE⟩
theorem parseInt_spec (w : World) (hG : Gl w) (s : List UInt8) (hlen : s.length ≤ 100000) (hD : digitsM (wholeM s) = true) :
   Ret Tryz.prog 56 #[S s, .int .i64 10, .int .i64 63] w fun v w' => ((∃ n, readM s = some n ∧ v = .tuple #[.int .i64 n, .nilIface]) ∨ (readM s = none ∧ ∃ z T u, v = .tuple #[.int .i64 z, .iface T u])) ∧ Ext w w' := by
 have hX := Ext.refl w
 refine enter Tryz.func56 rfl rfl rfl ?_
 refine ewp_seq ?_
 refine ewp_reg ?_
 refine ewl_run rfl (rn_assign rfl) ?_
 refine ewl_run rfl (rn_assign rfl) ?_
 refine ewl_nil ?_
 refine thn_n ?_
 refine ewp_seq ?_
 refine ewp_reg ?_
 refine ewl_run rfl (rn_move rfl) ?_
 refine ewl_run rfl (rn_move rfl) ?_
 refine ewl_run rfl (rn_move rfl) ?_
 refine ewl_ret rfl (en_call ent65 rfl rfl) (parseIntI_spec _ s hlen hD) ?_
 rintro _ w1 ⟨(⟨n, hr, rfl⟩ | ⟨hr, z, rfl⟩), hE1⟩
 replace hX := hX.trans hE1
 have sz1 := hE1.size
 refine ewl_run rfl (rn_move rfl) ?_
 refine ewl_run rfl (rn_exs rfl rfl) ?_
 refine ewl_run rfl (rn_exs rfl rfl) ?_
 refine ewl_run rfl (rn_assign rfl) ?_
 refine ewl_run rfl (rn_assign rfl) ?_
 refine ewl_nil ?_
 refine thn_n ?_
 refine ewp_seq ?_
 refine ewp_seq ?_
 refine ewp_reg ?_
 refine ewl_run rfl (rn_move rfl) ?_
 refine ewl_run rfl (rn_nilN0 ift83 rfl) ?_
 refine ewl_nil ?_
 refine thn_n ?_
 refine ewp_iff rfl rfl ?_
 refine ewp_skip ?_
 refine thn_n ?_
 refine ewp_seq ?_
 refine ewp_reg ?_
 refine ewl_run rfl (rn_move rfl) ?_
 refine ewl_run rfl (rn_assign rfl) ?_
 refine ewl_run rfl (rn_assign rfl) ?_
 refine ewl_nil ?_
 refine thn_n ?_
 refine ewp_ret ?_
 refine fn_r (resv2 rfl (rv_tmp rfl) (rv_tmp rfl)) ?_
 exact ⟨.inl ⟨n, hr, rfl⟩, hX⟩
 replace hX := hX.trans hE1
 have sz2 := hE1.size
 refine ewl_run rfl (rn_move rfl) ?_
 refine ewl_run rfl (rn_exs rfl rfl) ?_
 refine ewl_run rfl (rn_exs rfl rfl) ?_
 refine ewl_run rfl (rn_assign rfl) ?_
 refine ewl_run rfl (rn_assign rfl) ?_
 refine ewl_nil ?_
 refine thn_n ?_
 refine ewp_seq ?_
 refine ewp_seq ?_
 refine ewp_reg ?_
 refine ewl_run rfl (rn_move rfl) ?_
 refine ewl_run rfl (rn_nilN1 ift83 rfl) ?_
 refine ewl_nil ?_
 refine thn_n ?_
 refine ewp_ift rfl rfl ?_
 refine ewp_seq ?_
 refine ewp_reg ?_
 refine ewl_run rfl (rn_move rfl) ?_
 refine ewl_run rfl (rn_move rfl) ?_
 refine ewl_run rfl (rn_move rfl) ?_
 refine ewl_run rfl (rn_move rfl) ?_
 refine ewl_run rfl (rn_move rfl) ?_
 refine ewl_ret rfl (en_call ent66 rfl rfl) (toError_spec _ (hG.ext hX) _ s _ _ hlen) ?_
 rintro _ w2 ⟨⟨eT, eV, rfl⟩, hE2⟩
 replace hX := hX.trans hE2
 have sz3 := hE2.size
 refine ewl_run rfl (rn_assign rfl) ?_
 refine ewl_run rfl (rn_assign rfl) ?_
 refine ewl_nil ?_
 refine thn_n ?_
 refine ewp_ret ?_
 refine thn_r ?_
 refine fn_r (resv2 rfl (rv_tmp rfl) (rv_tmp rfl)) ?_
 exact ⟨.inr ⟨hr, z, _, _, rfl⟩, hX⟩
theorem read_spec (w : World) (hG : Gl w) (s : List UInt8) (hlen : s.length ≤ 100000) :
   Ret Tryz.prog 44 #[S s] w fun v w' => ((∃ n, readM s = some n ∧ v = .tuple #[.int .i64 n, .int .i64 0]) ∨ (readM s = none ∧ ∃ e : Int, (e == 0) = false ∧ v = .tuple #[.int .i64 0, .int .i64 e])) ∧ Ext w w' := by
 have hX := Ext.refl w
 refine enter Tryz.func44 rfl rfl rfl ?_
 refine ewp_seq ?_
 refine ewp_reg ?_
 refine ewl_run rfl (rn_assign rfl) ?_
 refine ewl_run rfl (rn_assign rfl) ?_
 refine ewl_nil ?_
 refine thn_n ?_
 refine ewp_seq ?_
 refine ewp_seq ?_
 refine ewp_reg ?_
 refine ewl_run rfl (rn_move rfl) ?_
 refine ewl_ret rfl (en_call ent47 rfl rfl) (trimPrefix_spec _ s [45]) ?_
 rintro _ w1 ⟨rfl, hE1⟩
 replace hX := hX.trans hE1
 have sz1 := hE1.size
 refine ewl_ret rfl (en_call ent55 rfl rfl) (digits_spec _ (wholeM s) (by have := wholeM_len s; omega)) ?_
 rintro _ w2 ⟨rfl, hE2⟩
 replace hX := hX.trans hE2
 have sz2 := hE2.size
 refine ewl_run rfl (rn_not rfl) ?_
 refine ewl_nil ?_
 refine thn_n ?_
 refine ewp_if rfl (fun h1 => ?_) (fun h1 => ?_)
 replace h1 := nott h1
 refine ewp_seq ?_
 refine ewp_reg ?_
 refine ewl_run rfl (rn_assign rfl) ?_
 refine ewl_run rfl (rn_assign rfl) ?_
 refine ewl_nil ?_
 refine thn_n ?_
 refine ewp_ret ?_
 refine thn_r ?_
 refine fn_r (resv2 rfl (rv_tmp rfl) (rv_tmp rfl)) ?_
 exact ⟨.inr ⟨by rw [readM, h1]; rfl, 2, by decide, rfl⟩, hX⟩
 replace h1 := notf h1
 refine ewp_skip ?_
 refine thn_n ?_
 refine ewp_seq ?_
 refine ewp_reg ?_
 refine ewl_run rfl (rn_move rfl) ?_
 refine ewl_ret rfl (en_call ent56 rfl rfl) (parseInt_spec _ (hG.ext hX) s hlen h1) ?_
 rintro _ w3 ⟨(⟨n, hr, rfl⟩ | ⟨hr, z, eT, eV, rfl⟩), hE3⟩
 replace hX := hX.trans hE3
 have sz3 := hE3.size
 refine ewl_run rfl (rn_move rfl) ?_
 refine ewl_run rfl (rn_exs rfl rfl) ?_
 refine ewl_run rfl (rn_exs rfl rfl) ?_
 refine ewl_run rfl (rn_assign rfl) ?_
 refine ewl_run rfl (rn_assign rfl) ?_
 refine ewl_nil ?_
 refine thn_n ?_
 refine ewp_seq ?_
 refine ewp_seq ?_
 refine ewp_reg ?_
 refine ewl_run rfl (rn_move rfl) ?_
 refine ewl_run rfl (rn_nilN0 ift83 rfl) ?_
 refine ewl_nil ?_
 refine thn_n ?_
 refine ewp_iff rfl rfl ?_
 refine ewp_skip ?_
 refine thn_n ?_
 refine ewp_seq ?_
 refine ewp_reg ?_
 refine ewl_run rfl (rn_move rfl) ?_
 refine ewl_run rfl (rn_assign rfl) ?_
 refine ewl_run rfl (rn_assign rfl) ?_
 refine ewl_nil ?_
 refine thn_n ?_
 refine ewp_ret ?_
 refine fn_r (resv2 rfl (rv_tmp rfl) (rv_tmp rfl)) ?_
 exact ⟨.inl ⟨n, hr, rfl⟩, hX⟩
 replace hX := hX.trans hE3
 have sz4 := hE3.size
 refine ewl_run rfl (rn_move rfl) ?_
 refine ewl_run rfl (rn_exs rfl rfl) ?_
 refine ewl_run rfl (rn_exs rfl rfl) ?_
 refine ewl_run rfl (rn_assign rfl) ?_
 refine ewl_run rfl (rn_assign rfl) ?_
 refine ewl_nil ?_
 refine thn_n ?_
 refine ewp_seq ?_
 refine ewp_seq ?_
 refine ewp_reg ?_
 refine ewl_run rfl (rn_move rfl) ?_
 refine ewl_run rfl (rn_nilN1 ift83 rfl) ?_
 refine ewl_nil ?_
 refine thn_n ?_
 refine ewp_ift rfl rfl ?_
 refine ewp_seq ?_
 refine ewp_reg ?_
 refine ewl_run rfl (rn_assign rfl) ?_
 refine ewl_run rfl (rn_assign rfl) ?_
 refine ewl_nil ?_
 refine thn_n ?_
 refine ewp_ret ?_
 refine thn_r ?_
 refine fn_r (resv2 rfl (rv_tmp rfl) (rv_tmp rfl)) ?_
 exact ⟨.inr ⟨hr, 4, by decide, rfl⟩, hX⟩
/-- What is asked of strconv.ParseFloat: of a float's form it tells its value, and no error. -/
def PFS : Prop := ∀ (w : World) (s a b : List UInt8), Gl w → s.length ≤ 100000 → fformM s = some (a, b) → Ret Tryz.prog 58 #[S s, .int .i64 64] w fun v w' => v = .tuple #[.float .f64 (fvalM (negM s) a b), .nilIface] ∧ Ext w w'
end Go.Proofs.YthjdnhnbgjgbkaaGreatDoor
namespace Go.Proofs.YthjdnhnbgjgbkaaGreatDoor
open Go.SW Go.SP Go.RowKit
theorem ex70n : Extern.findNext Tryz.f70 = none := by kernel_rfl
theorem ex70f : Extern.find Tryz.f70 = some Extern.MathFloatBits.float64bits := by kernel_rfl
theorem isNaN_spec (w : World) (f : Nat) :
   Ret Tryz.prog 69 #[.float .f64 f] w fun v w' => v = .bool (!(Op.floatEq .f64 f f)) ∧ Ext w w' := by
 have hX := Ext.refl w
 refine enter Tryz.func69 rfl rfl rfl ?_
 refine ewp_seq ?_
 refine ewp_reg ?_
 refine ewl_run rfl (rn_assign rfl) ?_
 refine ewl_nil ?_
 refine thn_n ?_
 refine ewp_seq ?_
 refine ewp_reg ?_
 refine ewl_run rfl (rn_move rfl) ?_
 refine ewl_run rfl (rn_move rfl) ?_
 refine ewl_run rfl (rn_neF rfl rfl) ?_
 refine ewl_run rfl (rn_assign rfl) ?_
 refine ewl_nil ?_
 refine thn_n ?_
 refine ewp_ret ?_
 refine fn_r (resv rfl (rv_tmp rfl)) ?_
 exact ⟨rfl, hX⟩
theorem of_spec (w : World) (f : Nat) :
   Ret Tryz.prog 59 #[.float .f64 f] w fun v w' => v = .int .u64 ((if Op.floatEq .f64 f f then f else 9221120237041090560 : Nat) : Int) ∧ Ext w w' := by
 have hX := Ext.refl w
 refine enter Tryz.func59 rfl rfl rfl ?_
 refine ewp_seq ?_
 refine ewp_reg ?_
 refine ewl_run rfl (rn_assign rfl) ?_
 refine ewl_nil ?_
 refine thn_n ?_
 refine ewp_seq ?_
 refine ewp_seq ?_
 refine ewp_reg ?_
 refine ewl_run rfl (rn_move rfl) ?_
 refine ewl_ret rfl (en_call ent69 rfl rfl) (isNaN_spec _ f) ?_
 rintro _ w1 ⟨rfl, hE1⟩
 replace hX := hX.trans hE1
 have sz1 := hE1.size
 refine ewl_nil ?_
 refine thn_n ?_
 refine ewp_if rfl (fun h1 => ?_) (fun h1 => ?_)
 refine ewp_seq ?_
 refine ewp_reg ?_
 refine ewl_run rfl (rn_assign rfl) ?_
 refine ewl_nil ?_
 refine thn_n ?_
 refine ewp_ret ?_
 refine thn_r ?_
 refine fn_r (resv rfl (rv_tmp rfl)) ?_
 refine ⟨?_, hX⟩
 have hq := h1
 simp at hq
 simp [hq]
 refine ewp_skip ?_
 refine thn_n ?_
 refine ewp_seq ?_
 refine ewp_reg ?_
 refine ewl_run rfl (rn_move rfl) ?_
 refine ewl_run rfl (rn_ext Tryz.func70 rfl rfl ex70n ex70f rfl rfl rfl) ?_
 refine ewl_run rfl (rn_assign rfl) ?_
 refine ewl_nil ?_
 refine thn_n ?_
 refine ewp_ret ?_
 refine fn_r (resv rfl (rv_tmp rfl)) ?_
 refine ⟨?_, hX⟩
 have hq := h1
 simp at hq
 simp [hq]
theorem readFloat_spec (hPF : PFS) (w : World) (hG : Gl w) (s : List UInt8) (hlen : s.length ≤ 100000) :
   Ret Tryz.prog 45 #[S s] w fun v w' => ((∃ x : Nat, fbitsM s = some x ∧ v = .tuple #[.int .u64 (x : Int), .int .i64 0]) ∨ (fbitsM s = none ∧ ∃ e : Int, (e == 0) = false ∧ v = .tuple #[.int .u64 0, .int .i64 e])) ∧ Ext w w' := by
 have hcl1 := cut_len1 (wholeM s) [46]
 have hcl2 := cut_len2 (wholeM s) [46]
 have hwl := wholeM_len s
 have hX := Ext.refl w
 refine enter Tryz.func45 rfl rfl rfl ?_
 refine ewp_seq ?_
 refine ewp_reg ?_
 refine ewl_run rfl (rn_assign rfl) ?_
 refine ewl_run rfl (rn_assign rfl) ?_
 refine ewl_nil ?_
 refine thn_n ?_
 refine ewp_seq ?_
 refine ewp_reg ?_
 refine ewl_run rfl (rn_move rfl) ?_
 refine ewl_ret rfl (en_call ent47 rfl rfl) (trimPrefix_spec _ s [45]) ?_
 rintro _ w1 ⟨rfl, hE1⟩
 replace hX := hX.trans hE1
 have sz1 := hE1.size
 refine ewl_ret rfl (en_call ent57 rfl rfl) (cut_spec _ (hG.ext hX) (wholeM s) [46] (by have := wholeM_len s; omega)) ?_
 rintro _ w2 ⟨rfl, hE2⟩
 replace hX := hX.trans hE2
 have sz2 := hE2.size
 refine ewl_run rfl (rn_move rfl) ?_
 refine ewl_run rfl (rn_exs rfl rfl) ?_
 refine ewl_run rfl (rn_exs rfl rfl) ?_
 refine ewl_run rfl (rn_exs rfl rfl) ?_
 refine ewl_run rfl (rn_assign rfl) ?_
 refine ewl_run rfl (rn_assign rfl) ?_
 refine ewl_run rfl (rn_assign rfl) ?_
 refine ewl_nil ?_
 refine thn_n ?_
 refine ewp_seq ?_
 refine ewp_block ?_
 refine ewp_seq ?_
 refine ewp_reg ?_
 refine ewl_run rfl (rn_move rfl) ?_
 refine ewl_run rfl (rn_not rfl) ?_
 refine ewl_run rfl (rn_move rfl) ?_
 refine ewl_split 19 rfl (fun h1 => ?_) (fun h1 => ?_)
 replace h1 := nott h1
 refine ewl_off rfl rfl rfl (by simp [h1]) ?_
 refine ewl_off rfl rfl rfl (by simp [h1]) ?_
 refine ewl_off rfl rfl rfl (by simp [h1]) ?_
 refine ewl_run rfl (rn_pickt rfl (by simp [h1]) rfl) ?_
 refine ewl_run rfl (rn_move rfl) ?_
 refine ewl_off rfl rfl rfl rfl ?_
 refine ewl_off rfl rfl rfl rfl ?_
 refine ewl_off rfl rfl rfl rfl ?_
 refine ewl_run rfl (rn_pickt rfl rfl rfl) ?_
 refine ewl_run rfl (rn_assign rfl) ?_
 refine ewl_nil ?_
 refine thn_n ?_
 refine ewp_ift rfl rfl ?_
 refine ewp_seq ?_
 refine ewp_reg ?_
 refine ewl_run rfl (rn_assign rfl) ?_
 refine ewl_run rfl (rn_assign rfl) ?_
 refine ewl_nil ?_
 refine thn_n ?_
 refine ewp_ret ?_
 refine blk_r ?_
 refine thn_r ?_
 refine fn_r (resv2 rfl (rv_tmp rfl) (rv_tmp rfl)) ?_
 refine ⟨.inr ⟨?_, 2, by decide, rfl⟩, hX⟩
 rw [fbitsM, fformM, if_neg]
 simp [h1]
 replace h1 := notf h1
 refine ewl_grd rfl rfl (by simp [h1]) ?_
 refine ewl_run rfl (rn_move rfl) ?_
 refine ewl_grd rfl rfl (by simp [h1]) ?_
 refine ewl_ret rfl (en_call ent55 rfl rfl) (digits_spec _ (Lib.cut (wholeM s) [46]).1 (by have := cut_len1 (wholeM s) [46]; have := wholeM_len s; omega)) ?_
 rintro _ w3 ⟨rfl, hE3⟩
 replace hX := hX.trans hE3
 have sz3 := hE3.size
 refine ewl_grd rfl rfl (by simp [h1]) ?_
 refine ewl_run rfl (rn_not rfl) ?_
 refine ewl_run rfl (rn_pickf rfl (by simp [h1]) rfl) ?_
 refine ewl_run rfl (rn_move rfl) ?_
 refine ewl_split 24 rfl (fun h2 => ?_) (fun h2 => ?_)
 replace h2 := nott h2
 refine ewl_off rfl rfl rfl (by simp [h2]) ?_
 refine ewl_off rfl rfl rfl (by simp [h2]) ?_
 refine ewl_off rfl rfl rfl (by simp [h2]) ?_
 refine ewl_run rfl (rn_pickt rfl (by simp [h2]) rfl) ?_
 refine ewl_run rfl (rn_assign rfl) ?_
 refine ewl_nil ?_
 refine thn_n ?_
 refine ewp_ift rfl rfl ?_
 refine ewp_seq ?_
 refine ewp_reg ?_
 refine ewl_run rfl (rn_assign rfl) ?_
 refine ewl_run rfl (rn_assign rfl) ?_
 refine ewl_nil ?_
 refine thn_n ?_
 refine ewp_ret ?_
 refine blk_r ?_
 refine thn_r ?_
 refine fn_r (resv2 rfl (rv_tmp rfl) (rv_tmp rfl)) ?_
 refine ⟨.inr ⟨?_, 2, by decide, rfl⟩, hX⟩
 rw [fbitsM, fformM, if_neg]
 simp [h1, h2]
 replace h2 := notf h2
 refine ewl_grd rfl rfl (by simp [h2]) ?_
 refine ewl_run rfl (rn_move rfl) ?_
 refine ewl_grd rfl rfl (by simp [h2]) ?_
 refine ewl_ret rfl (en_call ent55 rfl rfl) (digits_spec _ (Lib.cut (wholeM s) [46]).2.1 (by have := cut_len2 (wholeM s) [46]; have := wholeM_len s; omega)) ?_
 rintro _ w4 ⟨rfl, hE4⟩
 replace hX := hX.trans hE4
 have sz4 := hE4.size
 refine ewl_grd rfl rfl (by simp [h2]) ?_
 refine ewl_run rfl (rn_not rfl) ?_
 refine ewl_run rfl (rn_pickf rfl (by simp [h2]) rfl) ?_
 refine ewl_run rfl (rn_assign rfl) ?_
 refine ewl_nil ?_
 refine thn_n ?_
 refine ewp_if rfl (fun h3 => ?_) (fun h3 => ?_)
 replace h3 := nott h3
 refine ewp_seq ?_
 refine ewp_reg ?_
 refine ewl_run rfl (rn_assign rfl) ?_
 refine ewl_run rfl (rn_assign rfl) ?_
 refine ewl_nil ?_
 refine thn_n ?_
 refine ewp_ret ?_
 refine blk_r ?_
 refine thn_r ?_
 refine fn_r (resv2 rfl (rv_tmp rfl) (rv_tmp rfl)) ?_
 refine ⟨.inr ⟨?_, 2, by decide, rfl⟩, hX⟩
 rw [fbitsM, fformM, if_neg]
 simp [h1, h2, h3]
 replace h3 := notf h3
 refine ewp_seq ?_
 refine ewp_reg ?_
 refine ewl_run rfl (rn_move rfl) ?_
 refine ewl_run rfl (rn_lenS rfl un9) ?_
 refine ewl_run rfl (rn_move rfl) ?_
 refine ewl_run rfl (rn_lenS rfl un9) ?_
 refine ewl_run rfl (rn_add rfl rfl ⟨by omega, by omega⟩) ?_
 refine ewl_run rfl (rn_gtI rfl rfl) ?_
 refine ewl_run rfl (rn_assign rfl) ?_
 refine ewl_nil ?_
 refine thn_n ?_
 refine ewp_if rfl (fun h4 => ?_) (fun h4 => ?_)
 refine ewp_seq ?_
 refine ewp_reg ?_
 refine ewl_run rfl (rn_assign rfl) ?_
 refine ewl_run rfl (rn_assign rfl) ?_
 refine ewl_nil ?_
 refine thn_n ?_
 refine ewp_ret ?_
 refine blk_r ?_
 refine thn_r ?_
 refine fn_r (resv2 rfl (rv_tmp rfl) (rv_tmp rfl)) ?_
 refine ⟨.inr ⟨?_, 4, by decide, rfl⟩, hX⟩
 rw [fbitsM, fformM, if_neg]
 have h9 := h4
 simp at h9
 simp [h1, h2, h3] <;> omega
 refine ewp_skip ?_
 refine blk_n ?_
 refine thn_n ?_
 refine ewp_seq ?_
 have hform : fformM s = some ((Lib.cut (wholeM s) [46]).1, (Lib.cut (wholeM s) [46]).2.1) := by
   unfold fformM
   rw [if_pos]
   have h9 := h4; simp at h9
   simp [h1, h2, h3] <;> omega
 refine ewp_reg ?_
 refine ewl_run rfl (rn_move rfl) ?_
 refine ewl_ret rfl (en_call ent58 rfl rfl) (hPF _ s _ _ (hG.ext hX) hlen hform) ?_
 rintro _ w5 ⟨rfl, hE5⟩
 replace hX := hX.trans hE5
 have sz5 := hE5.size
 refine ewl_run rfl (rn_move rfl) ?_
 refine ewl_run rfl (rn_exs rfl rfl) ?_
 refine ewl_run rfl (rn_exs rfl rfl) ?_
 refine ewl_run rfl (rn_assign rfl) ?_
 refine ewl_run rfl (rn_assign rfl) ?_
 refine ewl_nil ?_
 refine thn_n ?_
 refine ewp_seq ?_
 refine ewp_seq ?_
 refine ewp_reg ?_
 refine ewl_run rfl (rn_move rfl) ?_
 refine ewl_run rfl (rn_nilN0 ift83 rfl) ?_
 refine ewl_nil ?_
 refine thn_n ?_
 refine ewp_iff rfl rfl ?_
 refine ewp_skip ?_
 refine thn_n ?_
 refine ewp_seq ?_
 refine ewp_reg ?_
 refine ewl_run rfl (rn_move rfl) ?_
 refine ewl_ret rfl (en_call ent59 rfl rfl) (of_spec _ _) ?_
 rintro _ w6 ⟨rfl, hE6⟩
 replace hX := hX.trans hE6
 have sz6 := hE6.size
 refine ewl_run rfl (rn_assign rfl) ?_
 refine ewl_run rfl (rn_assign rfl) ?_
 refine ewl_nil ?_
 refine thn_n ?_
 refine ewp_ret ?_
 refine fn_r (resv2 rfl (rv_tmp rfl) (rv_tmp rfl)) ?_
 exact ⟨.inl ⟨_, by rw [fbitsM, hform], rfl⟩, hX⟩
theorem bytes_spec (w : World) (x : Nat) :
   Ret Tryz.prog 46 #[.int .u64 (x : Int)] w fun v w' => v = S (bytesM x) ∧ Ext w w' := by
 have hX := Ext.refl w
 refine enter Tryz.func46 rfl rfl rfl ?_
 refine ewp_seq ?_
 refine ewp_reg ?_
 refine ewl_run rfl (rn_assign rfl) ?_
 refine ewl_nil ?_
 refine thn_n ?_
 refine ewp_seq ?_
 refine ewp_reg ?_
 refine ewl_run rfl (rn_assign rfl) ?_
 refine ewl_nil ?_
 refine thn_n ?_
 refine ewp_seq ?_
 refine ewp_seq ?_
 refine ewp_reg ?_
 refine ewl_run rfl (rn_assign rfl) ?_
 refine ewl_nil ?_
 refine thn_n ?_
 refine ewp_block ?_
 refine ewp_loop (fun k σ ds w' => ∃ (j : Nat) (acc : List UInt8) (ra : Option Addr) (rc : Nat), k = j ∧ ds = [] ∧ σ = (upd (upd (upd SW.e0 0 (.int .u64 (x : Int))) 3 (.slice ra acc.length rc)) 4 (.int .i64 (8 * (j : Int) - 8))) ∧ j ≤ 8 ∧ bytesM x = acc ++ byteG x j ∧ acc.length + j = 8 ∧ Row w' 5 1 ra rc acc.length (bC acc) ∧ (∀ y, rb ra = some y → w.heap.size ≤ y) ∧ Ext w w') 8 (upd (upd (upd SW.e0 0 (.int .u64 (x : Int))) 3 (.slice none 0 0)) 4 (.int .i64 (8 * ((8 : Nat) : Int) - 8))) (le_upd (le_upd (le_upd (le_e0 _) rfl) rfl) rfl) ⟨8, [], none, 0, rfl, rfl, rfl, Nat.le_refl _, rfl, rfl, row_nil _ _ _, (fun y hy => by cases hy), hX⟩ ?_
 rintro j _ _ wl ⟨_, acc, ra, rc, rfl, rfl, rfl, hj, hm, hal, hrow, hlow, hX⟩
 have szl := hX.size
 have hlowl : ∀ y, rb ra = some y → y < wl.heap.size := fun y hy => hrow.lt hy
 refine ewp_seq ?_
 refine ewp_seq ?_
 refine ewp_reg ?_
 refine ewl_run rfl (rn_move rfl) ?_
 refine ewl_run rfl (rn_geI rfl rfl) ?_
 refine ewl_nil ?_
 refine thn_n ?_
 refine ewp_if rfl (fun h1 => ?_) (fun h1 => ?_)
 refine ewp_skip ?_
 refine thn_n ?_
 refine ewp_seq ?_
 refine ewp_block ?_
 refine ewp_reg ?_
 refine ewl_run rfl (rn_move rfl) ?_
 refine ewl_run rfl (rn_move rfl) ?_
 refine ewl_run rfl (rn_move rfl) ?_
 obtain ⟨j, rfl⟩ : ∃ j1, j = j1 + 1 := ⟨j - 1, by have := of_decide_eq_true h1; omega⟩
 refine ewl_run rfl (rn_shrK ((x / 2 ^ (8 * j) : Nat) : Int) rfl rfl (by omega) (by rw [show (8 * ((j + 1 : Nat) : Int) - 8).toNat = 8 * j by omega, show min (8 * j) IntKind.u64.bits = 8 * j by simp [IntKind.bits]; omega]; exact fdiv_nat _ _)) ?_
 refine ewl_run rfl (rn_cvI (m := ((UInt8.ofNat (x / 2 ^ (8 * j))).toNat : Int)) rfl cv74_5 (wrapU8 _)) ?_
 refine ewl_bs rfl rfl sl71 zr5 rfl rfl rfl rfl rfl fun b1 w1 hb1 hE1 hs1 hz1 => ?_
 replace hrow := hrow.ext hE1
 replace hX := hX.trans hE1
 refine ewl_app1 rfl ap71 rfl rfl rfl rfl hrow hb1 rfl rfl (by omega) (by omega) fun ra2 rc2 w2 hr2 hG => ?_
 have hlow2 : ∀ y, rb ra2 = some y → w.heap.size ≤ y := low_grow hG hlow (by omega)
 replace hX := hX.grow hG hlow
 refine ewl_run rfl (rn_assign rfl) ?_
 refine ewl_nil ?_
 refine blk_n ?_
 refine thn_n ?_
 refine ewp_reg ?_
 refine ewl_run rfl (rn_move rfl) ?_
 refine ewl_run rfl (rn_sub rfl rfl ⟨by omega, by omega⟩) ?_
 refine ewl_run rfl (rn_assign rfl) ?_
 refine ewl_nil ?_
 have hl2 : acc.length + 1 = (acc ++ [UInt8.ofNat (x / 2 ^ (8 * j))]).length := by simp
 refine lp_n j (upd (upd (upd SW.e0 0 (.int .u64 (x : Int))) 3 (.slice ra2 (acc ++ [UInt8.ofNat (x / 2 ^ (8 * j))]).length rc2)) 4 (.int .i64 (8 * (j : Int) - 8))) (by omega) (le_upd (le_upd (le_upd (le_e0 _) rfl) (hl2 ▸ rfl)) (congrArg (fun z : Int => some (Value.int .i64 z)) (show (8 * ((j + 1 : Nat) : Int) - 8) - 8 = 8 * (j : Int) - 8 by omega))) ⟨j, acc ++ [UInt8.ofNat (x / 2 ^ (8 * j))], ra2, rc2, rfl, rfl, rfl, by omega, by rw [hm]; simp [byteG], by rw [← hl2]; omega, by rw [← hl2, bC_app]; exact hr2, hlow2, hX⟩
 refine ewp_exit ?_
 refine thn_e ?_
 refine lp_e ?_
 refine blk_e ?_
 refine thn_n ?_
 refine ewp_seq ?_
 refine ewp_reg ?_
 refine ewl_run rfl (rn_move rfl) ?_
 refine ewl_run rfl (rn_bts rfl bts71_9 hrow) ?_
 refine ewl_run rfl (rn_assign rfl) ?_
 refine ewl_nil ?_
 refine thn_n ?_
 refine ewp_ret ?_
 refine fn_r (resv rfl (rv_tmp rfl)) ?_
 have hj0 : j = 0 := by have := of_decide_eq_false h1; omega
 subst hj0
 exact ⟨by rw [hm]; simp [byteG], hX⟩
end Go.Proofs.YthjdnhnbgjgbkaaGreatDoor
namespace Go.Proofs.YthjdnhnbgjgbkaaGreatDoor
open Go.SW Go.SP Go.RowKit
theorem word_spec (hPF : PFS) (w : World) (hG : Gl w) (s : List UInt8) (hlen : s.length ≤ 100000) (hne : s ≠ []) (at1 : Ps) :
   RetP Tryz.prog 37 #[S s, .agg #[.int .i64 at1.1, .int .i64 at1.2]] w (fun v w' => ∃ k nm tx, wordM s = some (k, nm, tx) ∧ v = .agg #[.int .i64 k, .int .i64 at1.1, .int .i64 at1.2, .int .i64 nm, S tx] ∧ Ext w w') (fun c w' => wordM s = none ∧ c = trb 54 at1 ∧ Ext w w') := by
 have hne1 : (1 : Int) ≤ s.length := by
   cases s with
   | nil => exact absurd rfl hne
   | cons a r => simp only [List.length_cons]; omega
 have hX := Ext.refl w
 refine enterP Tryz.func37 rfl rfl rfl ?_
 refine ewp_seq ?_
 refine ewp_reg ?_
 refine ewl_box rfl rfl rfl fun b1 w1 hb1 hE1 hs1 hz1 => ?_
 replace hX := hX.trans hE1
 refine ewl_alloc rfl zr59 fun b2 w2 hb2 hE2 hs2 hz2 => ?_
 replace hb1 := hb1.ext hE2
 replace hX := hX.trans hE2
 refine ewl_nil ?_
 refine thn_n ?_
 refine ewp_seq ?_
 refine ewp_seq ?_
 refine ewp_reg ?_
 refine ewl_run rfl (rn_move rfl) ?_
 refine ewl_ret rfl (en_call ent44 rfl rfl) (read_spec _ (hG.ext hX) s hlen) ?_
 rintro _ w3 ⟨(⟨n, hr, rfl⟩ | ⟨hr, er, her, rfl⟩), hE3⟩
 replace hb1 := hb1.ext hE3
 replace hb2 := hb2.ext hE3
 replace hX := hX.trans hE3
 have sz1 := hE3.size
 refine ewl_run rfl (rn_move rfl) ?_
 refine ewl_run rfl (rn_exs rfl rfl) ?_
 refine ewl_run rfl (rn_exs rfl rfl) ?_
 refine ewl_run rfl (rn_assign rfl) ?_
 refine ewl_run rfl (rn_assign rfl) ?_
 refine ewl_nil ?_
 refine thn_n ?_
 refine ewp_seq ?_
 refine ewp_reg ?_
 refine ewl_run rfl (rn_move rfl) ?_
 refine ewl_run rfl (rn_eqI rfl rfl) ?_
 refine ewl_nil ?_
 refine thn_n ?_
 refine ewp_ift rfl rfl ?_
 refine ewp_seq ?_
 refine ewp_reg ?_
 refine ewl_run rfl (rn_loada rfl ti25 hb1 rfl) ?_
 refine ewl_run rfl (rn_move rfl) ?_
 refine ewl_run rfl (rn_build rfl pl59 zr59 rfl) ?_
 refine ewl_store rfl rfl rfl ti59 rfl hb2 rfl rfl fun w4 hb3 hC1 => ?_
 replace hb1 := hb1.chg hC1 (by omega)
 replace hX := hX.chg hC1 (by omega)
 have sz2 := hC1.size
 refine ewl_nil ?_
 refine thn_n ?_
 refine ewp_ret ?_
 refine thn_r ?_
 refine fn_r (resv rfl (rv_cella rfl ti59 hb3 rfl)) ?_
 exact ⟨2, n, [], by rw [wordM, hr], rfl, hX⟩
 replace hb1 := hb1.ext hE3
 replace hb2 := hb2.ext hE3
 replace hX := hX.trans hE3
 have sz3 := hE3.size
 refine ewl_run rfl (rn_move rfl) ?_
 refine ewl_run rfl (rn_exs rfl rfl) ?_
 refine ewl_run rfl (rn_exs rfl rfl) ?_
 refine ewl_run rfl (rn_assign rfl) ?_
 refine ewl_run rfl (rn_assign rfl) ?_
 refine ewl_nil ?_
 refine thn_n ?_
 refine ewp_seq ?_
 refine ewp_reg ?_
 refine ewl_run rfl (rn_move rfl) ?_
 refine ewl_run rfl (rn_eqI rfl rfl) ?_
 refine ewl_nil ?_
 refine thn_n ?_
 refine ewp_iff rfl her ?_
 refine ewp_skip ?_
 refine thn_n ?_
 refine ewp_seq ?_
 refine ewp_seq ?_
 refine ewp_reg ?_
 refine ewl_run rfl (rn_move rfl) ?_
 refine ewl_ret rfl (en_call ent45 rfl rfl) (readFloat_spec hPF _ (hG.ext hX) s hlen) ?_
 rintro _ w5 ⟨(⟨x, hf, rfl⟩ | ⟨hf, ef, hef, rfl⟩), hE4⟩
 replace hb1 := hb1.ext hE4
 replace hb2 := hb2.ext hE4
 replace hX := hX.trans hE4
 have sz4 := hE4.size
 refine ewl_run rfl (rn_move rfl) ?_
 refine ewl_run rfl (rn_exs rfl rfl) ?_
 refine ewl_run rfl (rn_exs rfl rfl) ?_
 refine ewl_run rfl (rn_assign rfl) ?_
 refine ewl_run rfl (rn_assign rfl) ?_
 refine ewl_nil ?_
 refine thn_n ?_
 refine ewp_seq ?_
 refine ewp_reg ?_
 refine ewl_run rfl (rn_move rfl) ?_
 refine ewl_run rfl (rn_eqI rfl rfl) ?_
 refine ewl_nil ?_
 refine thn_n ?_
 refine ewp_ift rfl rfl ?_
 refine ewp_seq ?_
 have hr1 := hb1
 refine ewp_draw mixed (Keeps w5 [b1]) [(true, 0), (true, 1), (false, 2), (true, 3), (false, 4)] (by kernel_rfl) (by kernel_rfl) rfl rfl fun w6 hE5 hz3 => ?_
 have hKp : Keeps w5 [b1] w6 := Keeps.cons hr1 hE5 (Keeps.nil _ _)
 refine ⟨hKp, ?_⟩
 replace hb1 := hb1.ext hE5
 replace hb2 := hb2.ext hE5
 replace hX := hX.trans hE5
 refine ewo_rd rfl (fun _ hS => rn_loada rfl ti25 (hr1.keep hS (.head _)) rfl) ?_
 refine ewo_rd rfl (fun _ hS => rn_move rfl) ?_
 refine ewo_sp ?_
 refine ewl_ret rfl (en_call ent46 rfl rfl) (bytes_spec _ x) ?_
 rintro _ w7 ⟨rfl, hE6⟩
 replace hb1 := hb1.ext hE6
 replace hb2 := hb2.ext hE6
 replace hX := hX.trans hE6
 replace hKp := hKp.ext hE6
 have sz5 := hE6.size
 refine ewl_nil (onw_n hKp ?_)
 refine ewo_rd rfl (fun _ hS => rn_build rfl pl59 zr59 rfl) ?_
 refine ewo_sp ?_
 refine ewl_store rfl rfl rfl ti59 rfl hb2 rfl rfl fun w8 hb4 hC2 => ?_
 replace hb1 := hb1.chg hC2 (by omega)
 replace hX := hX.chg hC2 (by omega)
 replace hKp := hKp.chg hC2 (by simp only [List.mem_cons, List.not_mem_nil, or_false]; omega)
 have sz6 := hC2.size
 refine ewl_nil (onw_n hKp ?_)
 refine ewo_nil ?_
 refine thn_n ?_
 refine ewp_ret ?_
 refine thn_r ?_
 refine fn_r (resv rfl (rv_cella rfl ti59 hb4 rfl)) ?_
 exact ⟨3, 0, bytesM x, by rw [wordM, hr]; simp only [hf], rfl, hX⟩
 replace hb1 := hb1.ext hE4
 replace hb2 := hb2.ext hE4
 replace hX := hX.trans hE4
 have sz7 := hE4.size
 refine ewl_run rfl (rn_move rfl) ?_
 refine ewl_run rfl (rn_exs rfl rfl) ?_
 refine ewl_run rfl (rn_exs rfl rfl) ?_
 refine ewl_run rfl (rn_assign rfl) ?_
 refine ewl_run rfl (rn_assign rfl) ?_
 refine ewl_nil ?_
 refine thn_n ?_
 refine ewp_seq ?_
 refine ewp_reg ?_
 refine ewl_run rfl (rn_move rfl) ?_
 refine ewl_run rfl (rn_eqI rfl rfl) ?_
 refine ewl_nil ?_
 refine thn_n ?_
 refine ewp_iff rfl hef ?_
 refine ewp_skip ?_
 refine thn_n ?_
 refine ewp_seq ?_
 refine ewp_reg ?_
 refine ewl_run rfl (rn_move rfl) ?_
 refine ewl_ret rfl (en_call ent47 rfl rfl) (trimPrefix_spec _ s [45]) ?_
 rintro _ w9 ⟨rfl, hE7⟩
 replace hb1 := hb1.ext hE7
 replace hb2 := hb2.ext hE7
 replace hX := hX.trans hE7
 have sz8 := hE7.size
 refine ewl_run rfl (rn_assign rfl) ?_
 refine ewl_nil ?_
 refine thn_n ?_
 refine ewp_seq ?_
 refine ewp_block ?_
 refine ewp_seq ?_
 refine ewp_reg ?_
 refine ewl_run rfl (rn_move rfl) ?_
 refine ewl_run rfl (rn_lenS rfl un9) ?_
 refine ewl_run rfl (rn_gtI rfl rfl) ?_
 refine ewl_run rfl (rn_move rfl) ?_
 refine ewl_split 37 rfl (fun h1 => ?_) (fun h1 => ?_)
 refine ewl_off rfl rfl rfl h1 ?_
 refine ewl_off rfl rfl rfl h1 ?_
 refine ewl_off rfl rfl rfl h1 ?_
 refine ewl_offu rfl rfl rfl ?_
 refine ewl_offu rfl rfl rfl ?_
 refine ewl_off rfl rfl rfl h1 ?_
 refine ewl_run rfl (rn_pickt rfl h1 rfl) ?_
 refine ewl_run rfl (rn_assign rfl) ?_
 refine ewl_nil ?_
 refine thn_n ?_
 refine ewp_ift rfl rfl ?_
 refine ewp_skip ?_
 refine blk_n ?_
 refine thn_n ?_
 refine ewp_reg ?_
 refine ewl_run rfl (rn_loada rfl ti25 hb1 rfl) ?_
 refine ewl_run rfl (rn_build rfl pl54 zr54 rfl) ?_
 refine ewl_run rfl (rn_mki rfl ni54) ?_
 refine ewl_pan (pn_panic rfl) (And.intro rfl ?_)
 exact ⟨by rw [wordM_of hr hf, h1]; rfl, rfl, hX⟩
 refine ewl_grd rfl rfl h1 ?_
 refine ewl_run rfl (rn_move rfl) ?_
 refine ewl_grd rfl rfl h1 ?_
 refine ewl_run rfl (rn_neS rfl rfl) ?_
 refine ewl_grd rfl rfl h1 ?_
 refine ewl_run rfl (rn_move rfl) ?_
 refine ewl_split 40 rfl (fun h2 => ?_) (fun h2 => ?_)
 refine ewl_grd rfl rfl h2 ?_
 refine ewl_run rfl (rn_move rfl) ?_
 refine ewl_grd rfl rfl h2 ?_
 refine ewl_ret rfl (en_call ent48 rfl rfl) (only_spec _ (wholeM s) (by have := wholeM_len s; omega) digsB (by decide) (by decide)) ?_
 rintro _ w10 ⟨rfl, hE8⟩
 replace hb1 := hb1.ext hE8
 replace hb2 := hb2.ext hE8
 replace hX := hX.trans hE8
 have sz9 := hE8.size
 refine ewl_grd rfl rfl h1 ?_
 refine ewl_run rfl (rn_pickt rfl h2 rfl) ?_
 refine ewl_run rfl (rn_pickf rfl h1 rfl) ?_
 refine ewl_run rfl (rn_assign rfl) ?_
 refine ewl_nil ?_
 refine thn_n ?_
 refine ewp_if rfl (fun h3 => ?_) (fun h3 => ?_)
 refine ewp_skip ?_
 refine blk_n ?_
 refine thn_n ?_
 refine ewp_reg ?_
 refine ewl_run rfl (rn_loada rfl ti25 hb1 rfl) ?_
 refine ewl_run rfl (rn_build rfl pl54 zr54 rfl) ?_
 refine ewl_run rfl (rn_mki rfl ni54) ?_
 refine ewl_pan (pn_panic rfl) (And.intro rfl ?_)
 have hw9 : (!(wholeM s == [])) = true := h2
 exact ⟨by rw [wordM_of hr hf, h1, hw9, h3]; rfl, rfl, hX⟩
 refine ewp_seq ?_
 refine ewp_reg ?_
 refine ewl_run rfl (rn_move rfl) ?_
 refine ewl_run rfl (rn_slSto rfl rfl un9 ⟨by decide, hne1⟩) ?_
 refine ewl_ret rfl (en_call ent48 rfl rfl) (only_spec _ (s.take 1) (by simp only [List.length_take]; omega) greatB (by decide) (by decide)) ?_
 rintro _ w11 ⟨rfl, hE9⟩
 replace hb1 := hb1.ext hE9
 replace hb2 := hb2.ext hE9
 replace hX := hX.trans hE9
 have sz10 := hE9.size
 refine ewl_run rfl (rn_move rfl) ?_
 refine ewl_split 49 rfl (fun h4 => ?_) (fun h4 => ?_)
 refine ewl_grd rfl rfl h4 ?_
 refine ewl_run rfl (rn_move rfl) ?_
 refine ewl_grd rfl rfl h4 ?_
 refine ewl_ret rfl (en_call ent48 rfl rfl) (only_spec _ (s) (by omega) (greatB ++ smallB ++ digsB) (by decide) (by decide)) ?_
 rintro _ w12 ⟨rfl, hE10⟩
 replace hb1 := hb1.ext hE10
 replace hb2 := hb2.ext hE10
 replace hX := hX.trans hE10
 have sz11 := hE10.size
 refine ewl_run rfl (rn_pickt rfl h4 rfl) ?_
 refine ewl_run rfl (rn_assign rfl) ?_
 refine ewl_nil ?_
 refine thn_n ?_
 refine ewp_if rfl (fun h5 => ?_) (fun h5 => ?_)
 refine ewp_seq ?_
 refine ewp_reg ?_
 refine ewl_run rfl (rn_loada rfl ti25 hb1 rfl) ?_
 refine ewl_run rfl (rn_move rfl) ?_
 refine ewl_run rfl (rn_build rfl pl59 zr59 rfl) ?_
 refine ewl_store rfl rfl rfl ti59 rfl hb2 rfl rfl fun w13 hb5 hC3 => ?_
 replace hb1 := hb1.chg hC3 (by omega)
 replace hX := hX.chg hC3 (by omega)
 have sz12 := hC3.size
 refine ewl_nil ?_
 refine thn_n ?_
 refine ewp_ret ?_
 refine blk_r ?_
 refine thn_r ?_
 refine fn_r (resv rfl (rv_cella rfl ti59 hb5 rfl)) ?_
 have hw9 : (!(wholeM s == [])) = true := h2
 exact ⟨6, 0, s, by rw [wordM_of hr hf, h1, hw9, h3, h4, h5]; rfl, rfl, hX⟩
 refine ewp_seq ?_
 refine ewp_reg ?_
 refine ewl_run rfl (rn_move rfl) ?_
 refine ewl_run rfl (rn_slSto rfl rfl un9 ⟨by decide, hne1⟩) ?_
 refine ewl_ret rfl (en_call ent48 rfl rfl) (only_spec _ (s.take 1) (by simp only [List.length_take]; omega) (smallB ++ signsB) (by decide) (by decide)) ?_
 rintro _ w14 ⟨rfl, hE11⟩
 replace hb1 := hb1.ext hE11
 replace hb2 := hb2.ext hE11
 replace hX := hX.trans hE11
 have sz13 := hE11.size
 refine ewl_run rfl (rn_move rfl) ?_
 refine ewl_split 60 rfl (fun h6 => ?_) (fun h6 => ?_)
 refine ewl_grd rfl rfl h6 ?_
 refine ewl_run rfl (rn_move rfl) ?_
 refine ewl_grd rfl rfl h6 ?_
 refine ewl_ret rfl (en_call ent48 rfl rfl) (only_spec _ (s) (by omega) (greatB ++ smallB ++ digsB ++ signsB) (by decide) (by decide)) ?_
 rintro _ w15 ⟨rfl, hE12⟩
 replace hb1 := hb1.ext hE12
 replace hb2 := hb2.ext hE12
 replace hX := hX.trans hE12
 have sz14 := hE12.size
 refine ewl_run rfl (rn_pickt rfl h6 rfl) ?_
 refine ewl_run rfl (rn_assign rfl) ?_
 refine ewl_nil ?_
 refine thn_n ?_
 refine ewp_if rfl (fun h7 => ?_) (fun h7 => ?_)
 refine ewp_seq ?_
 refine ewp_reg ?_
 refine ewl_run rfl (rn_loada rfl ti25 hb1 rfl) ?_
 refine ewl_run rfl (rn_move rfl) ?_
 refine ewl_run rfl (rn_build rfl pl59 zr59 rfl) ?_
 refine ewl_store rfl rfl rfl ti59 rfl hb2 rfl rfl fun w16 hb6 hC4 => ?_
 replace hb1 := hb1.chg hC4 (by omega)
 replace hX := hX.chg hC4 (by omega)
 have sz15 := hC4.size
 refine ewl_nil ?_
 refine thn_n ?_
 refine ewp_ret ?_
 refine blk_r ?_
 refine thn_r ?_
 refine fn_r (resv rfl (rv_cella rfl ti59 hb6 rfl)) ?_
 have hw9 : (!(wholeM s == [])) = true := h2
 exact ⟨5, 0, s, by rw [wordM_of hr hf, h1, hw9, h3, h4, h5, h6, h7]; rfl, rfl, hX⟩
 refine ewp_skip ?_
 refine blk_n ?_
 refine thn_n ?_
 refine ewp_reg ?_
 refine ewl_run rfl (rn_loada rfl ti25 hb1 rfl) ?_
 refine ewl_run rfl (rn_build rfl pl54 zr54 rfl) ?_
 refine ewl_run rfl (rn_mki rfl ni54) ?_
 refine ewl_pan (pn_panic rfl) (And.intro rfl ?_)
 have hw9 : (!(wholeM s == [])) = true := h2
 exact ⟨by rw [wordM_of hr hf, h1, hw9, h3, h4, h5, h6, h7]; rfl, rfl, hX⟩
 refine ewl_off rfl rfl rfl h6 ?_
 refine ewl_off rfl rfl rfl h6 ?_
 refine ewl_run rfl (rn_pickf rfl h6 rfl) ?_
 refine ewl_run rfl (rn_assign rfl) ?_
 refine ewl_nil ?_
 refine thn_n ?_
 refine ewp_iff rfl rfl ?_
 refine ewp_skip ?_
 refine blk_n ?_
 refine thn_n ?_
 refine ewp_reg ?_
 refine ewl_run rfl (rn_loada rfl ti25 hb1 rfl) ?_
 refine ewl_run rfl (rn_build rfl pl54 zr54 rfl) ?_
 refine ewl_run rfl (rn_mki rfl ni54) ?_
 refine ewl_pan (pn_panic rfl) (And.intro rfl ?_)
 have hw9 : (!(wholeM s == [])) = true := h2
 exact ⟨by rw [wordM_of hr hf, h1, hw9, h3, h4, h5, h6]; rfl, rfl, hX⟩
 refine ewl_off rfl rfl rfl h4 ?_
 refine ewl_off rfl rfl rfl h4 ?_
 refine ewl_run rfl (rn_pickf rfl h4 rfl) ?_
 refine ewl_run rfl (rn_assign rfl) ?_
 refine ewl_nil ?_
 refine thn_n ?_
 refine ewp_iff rfl rfl ?_
 refine ewp_seq ?_
 refine ewp_reg ?_
 refine ewl_run rfl (rn_move rfl) ?_
 refine ewl_run rfl (rn_slSto rfl rfl un9 ⟨by decide, hne1⟩) ?_
 refine ewl_ret rfl (en_call ent48 rfl rfl) (only_spec _ (s.take 1) (by simp only [List.length_take]; omega) (smallB ++ signsB) (by decide) (by decide)) ?_
 rintro _ w17 ⟨rfl, hE13⟩
 replace hb1 := hb1.ext hE13
 replace hb2 := hb2.ext hE13
 replace hX := hX.trans hE13
 have sz16 := hE13.size
 refine ewl_run rfl (rn_move rfl) ?_
 refine ewl_split 60 rfl (fun h8 => ?_) (fun h8 => ?_)
 refine ewl_grd rfl rfl h8 ?_
 refine ewl_run rfl (rn_move rfl) ?_
 refine ewl_grd rfl rfl h8 ?_
 refine ewl_ret rfl (en_call ent48 rfl rfl) (only_spec _ (s) (by omega) (greatB ++ smallB ++ digsB ++ signsB) (by decide) (by decide)) ?_
 rintro _ w18 ⟨rfl, hE14⟩
 replace hb1 := hb1.ext hE14
 replace hb2 := hb2.ext hE14
 replace hX := hX.trans hE14
 have sz17 := hE14.size
 refine ewl_run rfl (rn_pickt rfl h8 rfl) ?_
 refine ewl_run rfl (rn_assign rfl) ?_
 refine ewl_nil ?_
 refine thn_n ?_
 refine ewp_if rfl (fun h9 => ?_) (fun h9 => ?_)
 refine ewp_seq ?_
 refine ewp_reg ?_
 refine ewl_run rfl (rn_loada rfl ti25 hb1 rfl) ?_
 refine ewl_run rfl (rn_move rfl) ?_
 refine ewl_run rfl (rn_build rfl pl59 zr59 rfl) ?_
 refine ewl_store rfl rfl rfl ti59 rfl hb2 rfl rfl fun w19 hb7 hC5 => ?_
 replace hb1 := hb1.chg hC5 (by omega)
 replace hX := hX.chg hC5 (by omega)
 have sz18 := hC5.size
 refine ewl_nil ?_
 refine thn_n ?_
 refine ewp_ret ?_
 refine blk_r ?_
 refine thn_r ?_
 refine fn_r (resv rfl (rv_cella rfl ti59 hb7 rfl)) ?_
 have hw9 : (!(wholeM s == [])) = true := h2
 exact ⟨5, 0, s, by rw [wordM_of hr hf, h1, hw9, h3, h4, h8, h9]; rfl, rfl, hX⟩
 refine ewp_skip ?_
 refine blk_n ?_
 refine thn_n ?_
 refine ewp_reg ?_
 refine ewl_run rfl (rn_loada rfl ti25 hb1 rfl) ?_
 refine ewl_run rfl (rn_build rfl pl54 zr54 rfl) ?_
 refine ewl_run rfl (rn_mki rfl ni54) ?_
 refine ewl_pan (pn_panic rfl) (And.intro rfl ?_)
 have hw9 : (!(wholeM s == [])) = true := h2
 exact ⟨by rw [wordM_of hr hf, h1, hw9, h3, h4, h8, h9]; rfl, rfl, hX⟩
 refine ewl_off rfl rfl rfl h8 ?_
 refine ewl_off rfl rfl rfl h8 ?_
 refine ewl_run rfl (rn_pickf rfl h8 rfl) ?_
 refine ewl_run rfl (rn_assign rfl) ?_
 refine ewl_nil ?_
 refine thn_n ?_
 refine ewp_iff rfl rfl ?_
 refine ewp_skip ?_
 refine blk_n ?_
 refine thn_n ?_
 refine ewp_reg ?_
 refine ewl_run rfl (rn_loada rfl ti25 hb1 rfl) ?_
 refine ewl_run rfl (rn_build rfl pl54 zr54 rfl) ?_
 refine ewl_run rfl (rn_mki rfl ni54) ?_
 refine ewl_pan (pn_panic rfl) (And.intro rfl ?_)
 have hw9 : (!(wholeM s == [])) = true := h2
 exact ⟨by rw [wordM_of hr hf, h1, hw9, h3, h4, h8]; rfl, rfl, hX⟩
 refine ewl_off rfl rfl rfl h2 ?_
 refine ewl_off rfl rfl rfl h2 ?_
 refine ewl_grd rfl rfl h1 ?_
 refine ewl_run rfl (rn_pickf rfl h2 rfl) ?_
 refine ewl_run rfl (rn_pickf rfl h1 rfl) ?_
 refine ewl_run rfl (rn_assign rfl) ?_
 refine ewl_nil ?_
 refine thn_n ?_
 refine ewp_iff rfl rfl ?_
 refine ewp_seq ?_
 refine ewp_reg ?_
 refine ewl_run rfl (rn_move rfl) ?_
 refine ewl_run rfl (rn_slSto rfl rfl un9 ⟨by decide, hne1⟩) ?_
 refine ewl_ret rfl (en_call ent48 rfl rfl) (only_spec _ (s.take 1) (by simp only [List.length_take]; omega) greatB (by decide) (by decide)) ?_
 rintro _ w20 ⟨rfl, hE15⟩
 replace hb1 := hb1.ext hE15
 replace hb2 := hb2.ext hE15
 replace hX := hX.trans hE15
 have sz19 := hE15.size
 refine ewl_run rfl (rn_move rfl) ?_
 refine ewl_split 49 rfl (fun h10 => ?_) (fun h10 => ?_)
 refine ewl_grd rfl rfl h10 ?_
 refine ewl_run rfl (rn_move rfl) ?_
 refine ewl_grd rfl rfl h10 ?_
 refine ewl_ret rfl (en_call ent48 rfl rfl) (only_spec _ (s) (by omega) (greatB ++ smallB ++ digsB) (by decide) (by decide)) ?_
 rintro _ w21 ⟨rfl, hE16⟩
 replace hb1 := hb1.ext hE16
 replace hb2 := hb2.ext hE16
 replace hX := hX.trans hE16
 have sz20 := hE16.size
 refine ewl_run rfl (rn_pickt rfl h10 rfl) ?_
 refine ewl_run rfl (rn_assign rfl) ?_
 refine ewl_nil ?_
 refine thn_n ?_
 refine ewp_if rfl (fun h11 => ?_) (fun h11 => ?_)
 refine ewp_seq ?_
 refine ewp_reg ?_
 refine ewl_run rfl (rn_loada rfl ti25 hb1 rfl) ?_
 refine ewl_run rfl (rn_move rfl) ?_
 refine ewl_run rfl (rn_build rfl pl59 zr59 rfl) ?_
 refine ewl_store rfl rfl rfl ti59 rfl hb2 rfl rfl fun w22 hb8 hC6 => ?_
 replace hb1 := hb1.chg hC6 (by omega)
 replace hX := hX.chg hC6 (by omega)
 have sz21 := hC6.size
 refine ewl_nil ?_
 refine thn_n ?_
 refine ewp_ret ?_
 refine blk_r ?_
 refine thn_r ?_
 refine fn_r (resv rfl (rv_cella rfl ti59 hb8 rfl)) ?_
 have hw9 : (!(wholeM s == [])) = false := h2
 exact ⟨6, 0, s, by rw [wordM_of hr hf, h1, hw9, h10, h11]; rfl, rfl, hX⟩
 refine ewp_seq ?_
 refine ewp_reg ?_
 refine ewl_run rfl (rn_move rfl) ?_
 refine ewl_run rfl (rn_slSto rfl rfl un9 ⟨by decide, hne1⟩) ?_
 refine ewl_ret rfl (en_call ent48 rfl rfl) (only_spec _ (s.take 1) (by simp only [List.length_take]; omega) (smallB ++ signsB) (by decide) (by decide)) ?_
 rintro _ w23 ⟨rfl, hE17⟩
 replace hb1 := hb1.ext hE17
 replace hb2 := hb2.ext hE17
 replace hX := hX.trans hE17
 have sz22 := hE17.size
 refine ewl_run rfl (rn_move rfl) ?_
 refine ewl_split 60 rfl (fun h12 => ?_) (fun h12 => ?_)
 refine ewl_grd rfl rfl h12 ?_
 refine ewl_run rfl (rn_move rfl) ?_
 refine ewl_grd rfl rfl h12 ?_
 refine ewl_ret rfl (en_call ent48 rfl rfl) (only_spec _ (s) (by omega) (greatB ++ smallB ++ digsB ++ signsB) (by decide) (by decide)) ?_
 rintro _ w24 ⟨rfl, hE18⟩
 replace hb1 := hb1.ext hE18
 replace hb2 := hb2.ext hE18
 replace hX := hX.trans hE18
 have sz23 := hE18.size
 refine ewl_run rfl (rn_pickt rfl h12 rfl) ?_
 refine ewl_run rfl (rn_assign rfl) ?_
 refine ewl_nil ?_
 refine thn_n ?_
 refine ewp_if rfl (fun h13 => ?_) (fun h13 => ?_)
 refine ewp_seq ?_
 refine ewp_reg ?_
 refine ewl_run rfl (rn_loada rfl ti25 hb1 rfl) ?_
 refine ewl_run rfl (rn_move rfl) ?_
 refine ewl_run rfl (rn_build rfl pl59 zr59 rfl) ?_
 refine ewl_store rfl rfl rfl ti59 rfl hb2 rfl rfl fun w25 hb9 hC7 => ?_
 replace hb1 := hb1.chg hC7 (by omega)
 replace hX := hX.chg hC7 (by omega)
 have sz24 := hC7.size
 refine ewl_nil ?_
 refine thn_n ?_
 refine ewp_ret ?_
 refine blk_r ?_
 refine thn_r ?_
 refine fn_r (resv rfl (rv_cella rfl ti59 hb9 rfl)) ?_
 have hw9 : (!(wholeM s == [])) = false := h2
 exact ⟨5, 0, s, by rw [wordM_of hr hf, h1, hw9, h10, h11, h12, h13]; rfl, rfl, hX⟩
 refine ewp_skip ?_
 refine blk_n ?_
 refine thn_n ?_
 refine ewp_reg ?_
 refine ewl_run rfl (rn_loada rfl ti25 hb1 rfl) ?_
 refine ewl_run rfl (rn_build rfl pl54 zr54 rfl) ?_
 refine ewl_run rfl (rn_mki rfl ni54) ?_
 refine ewl_pan (pn_panic rfl) (And.intro rfl ?_)
 have hw9 : (!(wholeM s == [])) = false := h2
 exact ⟨by rw [wordM_of hr hf, h1, hw9, h10, h11, h12, h13]; rfl, rfl, hX⟩
 refine ewl_off rfl rfl rfl h12 ?_
 refine ewl_off rfl rfl rfl h12 ?_
 refine ewl_run rfl (rn_pickf rfl h12 rfl) ?_
 refine ewl_run rfl (rn_assign rfl) ?_
 refine ewl_nil ?_
 refine thn_n ?_
 refine ewp_iff rfl rfl ?_
 refine ewp_skip ?_
 refine blk_n ?_
 refine thn_n ?_
 refine ewp_reg ?_
 refine ewl_run rfl (rn_loada rfl ti25 hb1 rfl) ?_
 refine ewl_run rfl (rn_build rfl pl54 zr54 rfl) ?_
 refine ewl_run rfl (rn_mki rfl ni54) ?_
 refine ewl_pan (pn_panic rfl) (And.intro rfl ?_)
 have hw9 : (!(wholeM s == [])) = false := h2
 exact ⟨by rw [wordM_of hr hf, h1, hw9, h10, h11, h12]; rfl, rfl, hX⟩
 refine ewl_off rfl rfl rfl h10 ?_
 refine ewl_off rfl rfl rfl h10 ?_
 refine ewl_run rfl (rn_pickf rfl h10 rfl) ?_
 refine ewl_run rfl (rn_assign rfl) ?_
 refine ewl_nil ?_
 refine thn_n ?_
 refine ewp_iff rfl rfl ?_
 refine ewp_seq ?_
 refine ewp_reg ?_
 refine ewl_run rfl (rn_move rfl) ?_
 refine ewl_run rfl (rn_slSto rfl rfl un9 ⟨by decide, hne1⟩) ?_
 refine ewl_ret rfl (en_call ent48 rfl rfl) (only_spec _ (s.take 1) (by simp only [List.length_take]; omega) (smallB ++ signsB) (by decide) (by decide)) ?_
 rintro _ w26 ⟨rfl, hE19⟩
 replace hb1 := hb1.ext hE19
 replace hb2 := hb2.ext hE19
 replace hX := hX.trans hE19
 have sz25 := hE19.size
 refine ewl_run rfl (rn_move rfl) ?_
 refine ewl_split 60 rfl (fun h14 => ?_) (fun h14 => ?_)
 refine ewl_grd rfl rfl h14 ?_
 refine ewl_run rfl (rn_move rfl) ?_
 refine ewl_grd rfl rfl h14 ?_
 refine ewl_ret rfl (en_call ent48 rfl rfl) (only_spec _ (s) (by omega) (greatB ++ smallB ++ digsB ++ signsB) (by decide) (by decide)) ?_
 rintro _ w27 ⟨rfl, hE20⟩
 replace hb1 := hb1.ext hE20
 replace hb2 := hb2.ext hE20
 replace hX := hX.trans hE20
 have sz26 := hE20.size
 refine ewl_run rfl (rn_pickt rfl h14 rfl) ?_
 refine ewl_run rfl (rn_assign rfl) ?_
 refine ewl_nil ?_
 refine thn_n ?_
 refine ewp_if rfl (fun h15 => ?_) (fun h15 => ?_)
 refine ewp_seq ?_
 refine ewp_reg ?_
 refine ewl_run rfl (rn_loada rfl ti25 hb1 rfl) ?_
 refine ewl_run rfl (rn_move rfl) ?_
 refine ewl_run rfl (rn_build rfl pl59 zr59 rfl) ?_
 refine ewl_store rfl rfl rfl ti59 rfl hb2 rfl rfl fun w28 hb10 hC8 => ?_
 replace hb1 := hb1.chg hC8 (by omega)
 replace hX := hX.chg hC8 (by omega)
 have sz27 := hC8.size
 refine ewl_nil ?_
 refine thn_n ?_
 refine ewp_ret ?_
 refine blk_r ?_
 refine thn_r ?_
 refine fn_r (resv rfl (rv_cella rfl ti59 hb10 rfl)) ?_
 have hw9 : (!(wholeM s == [])) = false := h2
 exact ⟨5, 0, s, by rw [wordM_of hr hf, h1, hw9, h10, h14, h15]; rfl, rfl, hX⟩
 refine ewp_skip ?_
 refine blk_n ?_
 refine thn_n ?_
 refine ewp_reg ?_
 refine ewl_run rfl (rn_loada rfl ti25 hb1 rfl) ?_
 refine ewl_run rfl (rn_build rfl pl54 zr54 rfl) ?_
 refine ewl_run rfl (rn_mki rfl ni54) ?_
 refine ewl_pan (pn_panic rfl) (And.intro rfl ?_)
 have hw9 : (!(wholeM s == [])) = false := h2
 exact ⟨by rw [wordM_of hr hf, h1, hw9, h10, h14, h15]; rfl, rfl, hX⟩
 refine ewl_off rfl rfl rfl h14 ?_
 refine ewl_off rfl rfl rfl h14 ?_
 refine ewl_run rfl (rn_pickf rfl h14 rfl) ?_
 refine ewl_run rfl (rn_assign rfl) ?_
 refine ewl_nil ?_
 refine thn_n ?_
 refine ewp_iff rfl rfl ?_
 refine ewp_skip ?_
 refine blk_n ?_
 refine thn_n ?_
 refine ewp_reg ?_
 refine ewl_run rfl (rn_loada rfl ti25 hb1 rfl) ?_
 refine ewl_run rfl (rn_build rfl pl54 zr54 rfl) ?_
 refine ewl_run rfl (rn_mki rfl ni54) ?_
 refine ewl_pan (pn_panic rfl) (And.intro rfl ?_)
 have hw9 : (!(wholeM s == [])) = false := h2
 exact ⟨by rw [wordM_of hr hf, h1, hw9, h10, h14]; rfl, rfl, hX⟩
end Go.Proofs.YthjdnhnbgjgbkaaGreatDoor
