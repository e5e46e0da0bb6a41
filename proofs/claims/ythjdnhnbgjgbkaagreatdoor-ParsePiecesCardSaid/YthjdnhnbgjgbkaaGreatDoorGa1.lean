/- What the laws on parse rest on: contracts of the functions of parse and lex, for every world in which the listed package variables hold what the text lays. Part 1. -/
import Derived.Shelf.Small.Strs
import Derived.Shelf.Strings.Search1
import Derived.Shelf.Strings.Search2
import Derived.Shelf.Strings.Search3
import Derived.Shelf.Strings.Cut
import Derived.Shelf.Strings.Prefix
import Derived.Shelf.Strings.SlTrimAscii
import Derived.Shelf.Strconv.ToErrorRange
import Derived.Ground.NamesProg
import Derived.Test.YthjdnhnbgjgbkaaGreatDoorProg
import Derived.WalkKit
import Derived.OrdersHeld
import Derived.Below
import Derived.Laws.AppendOwn
import Derived.Lib.IndexMore
import Derived.KernelRfl
import Derived.Deep.Draws
import Derived.Laws.StructEq
import Derived.Defers
import Derived.Recover
set_option linter.unusedVariables false
set_option linter.unusedSimpArgs false
namespace Go.Proofs
open Go.Shelf
def Tryz.lays137_ren : Go.Shelf.Ren := ⟨fun | 137 => 35 | 217 => 42 | 266 => 54 | n => n, fun | 9 => 9 | 5 => 5 | 3 => 3 | n => n, fun | n => n⟩
theorem Tryz.lays137 : Go.Proofs.Lays.n137 Tryz.prog Tryz.lays137_ren := {
 mixed := by kernel_rfl
 f137 := Tryz.func35.trans (congrArg some (by kernel_rfl))
 f217 := Tryz.func42.trans (congrArg some (by kernel_rfl))
 f266 := Tryz.func54.trans (congrArg some (by kernel_rfl))
 t3 := Tryz.underlying3
 a3 := Tryz.isAgg3
 z3 := Tryz.sizeOf3
 v3 := Tryz.zeroValue3
 t5 := Tryz.underlying5
 a5 := Tryz.isAgg5
 z5 := Tryz.sizeOf5
 v5 := Tryz.zeroValue5
 t9 := Tryz.underlying9
 a9 := Tryz.isAgg9
 z9 := Tryz.sizeOf9
 v9 := Tryz.zeroValue9 }
def Tryz.lays144_ren : Go.Shelf.Ren := ⟨fun | 144 => 38 | 143 => 49 | 219 => 62 | 217 => 42 | 225 => 79 | 224 => 80 | 267 => 81 | 266 => 54 | 314 => 92 | n => n, fun | 9 => 9 | 4 => 4 | 3 => 3 | 5 => 5 | 46 => 81 | 146 => 118 | 51 => 117 | n => n, fun | 1 => 0 | n => n⟩
theorem Tryz.lays144 : Go.Proofs.Lays.n144 Tryz.prog Tryz.lays144_ren := {
 mixed := by kernel_rfl
 f143 := Tryz.func49.trans (congrArg some (by kernel_rfl))
 f144 := Tryz.func38.trans (congrArg some (by kernel_rfl))
 f217 := Tryz.func42.trans (congrArg some (by kernel_rfl))
 f219 := Tryz.func62.trans (congrArg some (by kernel_rfl))
 f224 := Tryz.func80.trans (congrArg some (by kernel_rfl))
 f225 := Tryz.func79.trans (congrArg some (by kernel_rfl))
 f266 := Tryz.func54.trans (congrArg some (by kernel_rfl))
 f267 := Tryz.func81.trans (congrArg some (by kernel_rfl))
 f314 := Tryz.func92.trans (congrArg some (by kernel_rfl))
 t3 := Tryz.underlying3
 a3 := Tryz.isAgg3
 z3 := Tryz.sizeOf3
 v3 := Tryz.zeroValue3
 t4 := Tryz.underlying4
 a4 := Tryz.isAgg4
 z4 := Tryz.sizeOf4
 v4 := Tryz.zeroValue4
 t5 := Tryz.underlying5
 a5 := Tryz.isAgg5
 z5 := Tryz.sizeOf5
 v5 := Tryz.zeroValue5
 t9 := Tryz.underlying9
 a9 := Tryz.isAgg9
 z9 := Tryz.sizeOf9
 v9 := Tryz.zeroValue9
 t46 := Tryz.underlying81
 a46 := Tryz.isAgg81
 z46 := Tryz.sizeOf81
 v46 := Tryz.zeroValue81
 t51 := Tryz.underlying117
 a51 := Tryz.isAgg117
 z51 := Tryz.sizeOf117
 v51 := Tryz.zeroValue117
 t146 := Tryz.underlying118
 a146 := Tryz.isAgg118
 z146 := Tryz.sizeOf118
 v146 := Tryz.zeroValue118
 g1 := by kernel_rfl }
def Tryz.lays145_ren : Go.Shelf.Ren := ⟨fun | 145 => 57 | 220 => 67 | 219 => 62 | 217 => 42 | 225 => 79 | 224 => 80 | 267 => 81 | 266 => 54 | 314 => 92 | n => n, fun | 9 => 9 | 4 => 4 | 59 => 86 | 3 => 3 | 5 => 5 | 46 => 81 | 146 => 118 | 51 => 117 | n => n, fun | 1 => 0 | n => n⟩
theorem Tryz.lays145 : Go.Proofs.Lays.n145 Tryz.prog Tryz.lays145_ren := {
 mixed := by kernel_rfl
 f145 := Tryz.func57.trans (congrArg some (by kernel_rfl))
 f217 := Tryz.func42.trans (congrArg some (by kernel_rfl))
 f219 := Tryz.func62.trans (congrArg some (by kernel_rfl))
 f220 := Tryz.func67.trans (congrArg some (by kernel_rfl))
 f224 := Tryz.func80.trans (congrArg some (by kernel_rfl))
 f225 := Tryz.func79.trans (congrArg some (by kernel_rfl))
 f266 := Tryz.func54.trans (congrArg some (by kernel_rfl))
 f267 := Tryz.func81.trans (congrArg some (by kernel_rfl))
 f314 := Tryz.func92.trans (congrArg some (by kernel_rfl))
 t3 := Tryz.underlying3
 a3 := Tryz.isAgg3
 z3 := Tryz.sizeOf3
 v3 := Tryz.zeroValue3
 t4 := Tryz.underlying4
 a4 := Tryz.isAgg4
 z4 := Tryz.sizeOf4
 v4 := Tryz.zeroValue4
 t5 := Tryz.underlying5
 a5 := Tryz.isAgg5
 z5 := Tryz.sizeOf5
 v5 := Tryz.zeroValue5
 t9 := Tryz.underlying9
 a9 := Tryz.isAgg9
 z9 := Tryz.sizeOf9
 v9 := Tryz.zeroValue9
 t46 := Tryz.underlying81
 a46 := Tryz.isAgg81
 z46 := Tryz.sizeOf81
 v46 := Tryz.zeroValue81
 t51 := Tryz.underlying117
 a51 := Tryz.isAgg117
 z51 := Tryz.sizeOf117
 v51 := Tryz.zeroValue117
 t59 := Tryz.underlying86
 a59 := Tryz.isAgg86
 z59 := Tryz.sizeOf86
 v59 := Tryz.zeroValue86
 t146 := Tryz.underlying118
 a146 := Tryz.isAgg118
 z146 := Tryz.sizeOf118
 v146 := Tryz.zeroValue118
 g1 := by kernel_rfl }
def Tryz.lays101_ren : Go.Shelf.Ren := ⟨fun | 101 => 47 | 208 => 60 | 206 => 71 | n => n, fun | 9 => 9 | 4 => 4 | 3 => 3 | n => n, fun | n => n⟩
theorem Tryz.lays101 : Go.Proofs.Lays.n101 Tryz.prog Tryz.lays101_ren := {
 mixed := by kernel_rfl
 f101 := Tryz.func47.trans (congrArg some (by kernel_rfl))
 f206 := Tryz.func71.trans (congrArg some (by kernel_rfl))
 f208 := Tryz.func60.trans (congrArg some (by kernel_rfl))
 t3 := Tryz.underlying3
 a3 := Tryz.isAgg3
 z3 := Tryz.sizeOf3
 v3 := Tryz.zeroValue3
 t4 := Tryz.underlying4
 a4 := Tryz.isAgg4
 z4 := Tryz.sizeOf4
 v4 := Tryz.zeroValue4
 t9 := Tryz.underlying9
 a9 := Tryz.isAgg9
 z9 := Tryz.sizeOf9
 v9 := Tryz.zeroValue9 }
def Tryz.lays160_ren : Go.Shelf.Ren := ⟨fun | 160 => 61 | 232 => 73 | 231 => 72 | 227 => 74 | 234 => 76 | 233 => 75 | 236 => 78 | 235 => 77 | 228 => 88 | 271 => 91 | 151 => 90 | 197 => 89 | 120 => 102 | 152 => 101 | 260 => 100 | 137 => 35 | 119 => 117 | 224 => 80 | 225 => 79 | 217 => 42 | 266 => 54 | n => n, fun | 9 => 9 | 4 => 4 | 3 => 3 | 5 => 5 | 117 => 100 | 116 => 99 | 0 => 0 | 124 => 103 | 21 => 21 | 105 => 114 | 46 => 81 | 119 => 159 | 139 => 162 | 138 => 161 | n => n, fun | 3 => 7 | 4 => 8 | n => n⟩
theorem Tryz.lays160 : Go.Proofs.Lays.n160 Tryz.prog Tryz.lays160_ren := {
 mixed := by kernel_rfl
 f119 := Tryz.func117.trans (congrArg some (by kernel_rfl))
 f120 := Tryz.func102.trans (congrArg some (by kernel_rfl))
 f137 := Tryz.func35.trans (congrArg some (by kernel_rfl))
 f151 := Tryz.func90.trans (congrArg some (by kernel_rfl))
 f152 := Tryz.func101.trans (congrArg some (by kernel_rfl))
 f160 := Tryz.func61.trans (congrArg some (by kernel_rfl))
 f197 := Tryz.func89.trans (congrArg some (by kernel_rfl))
 f217 := Tryz.func42.trans (congrArg some (by kernel_rfl))
 f224 := Tryz.func80.trans (congrArg some (by kernel_rfl))
 f225 := Tryz.func79.trans (congrArg some (by kernel_rfl))
 f227 := Tryz.func74.trans (congrArg some (by kernel_rfl))
 f228 := Tryz.func88.trans (congrArg some (by kernel_rfl))
 f231 := Tryz.func72.trans (congrArg some (by kernel_rfl))
 f232 := Tryz.func73.trans (congrArg some (by kernel_rfl))
 f233 := Tryz.func75.trans (congrArg some (by kernel_rfl))
 f234 := Tryz.func76.trans (congrArg some (by kernel_rfl))
 f235 := Tryz.func77.trans (congrArg some (by kernel_rfl))
 f236 := Tryz.func78.trans (congrArg some (by kernel_rfl))
 f260 := Tryz.func100.trans (congrArg some (by kernel_rfl))
 f266 := Tryz.func54.trans (congrArg some (by kernel_rfl))
 f271 := Tryz.func91.trans (congrArg some (by kernel_rfl))
 t0 := Tryz.underlying0
 a0 := Tryz.isAgg0
 z0 := Tryz.sizeOf0
 v0 := Tryz.zeroValue0
 t3 := Tryz.underlying3
 a3 := Tryz.isAgg3
 z3 := Tryz.sizeOf3
 v3 := Tryz.zeroValue3
 t4 := Tryz.underlying4
 a4 := Tryz.isAgg4
 z4 := Tryz.sizeOf4
 v4 := Tryz.zeroValue4
 t5 := Tryz.underlying5
 a5 := Tryz.isAgg5
 z5 := Tryz.sizeOf5
 v5 := Tryz.zeroValue5
 t9 := Tryz.underlying9
 a9 := Tryz.isAgg9
 z9 := Tryz.sizeOf9
 v9 := Tryz.zeroValue9
 t21 := Tryz.underlying21
 a21 := Tryz.isAgg21
 z21 := Tryz.sizeOf21
 v21 := Tryz.zeroValue21
 t46 := Tryz.underlying81
 a46 := Tryz.isAgg81
 z46 := Tryz.sizeOf81
 v46 := Tryz.zeroValue81
 t105 := Tryz.underlying114
 a105 := Tryz.isAgg114
 z105 := Tryz.sizeOf114
 v105 := Tryz.zeroValue114
 t116 := Tryz.underlying99
 a116 := Tryz.isAgg99
 z116 := Tryz.sizeOf99
 t117 := Tryz.underlying100
 a117 := Tryz.isAgg100
 z117 := Tryz.sizeOf100
 v117 := Tryz.zeroValue100
 t119 := Tryz.underlying159
 a119 := Tryz.isAgg159
 z119 := Tryz.sizeOf159
 t124 := Tryz.underlying103
 a124 := Tryz.isAgg103
 z124 := Tryz.sizeOf103
 v124 := Tryz.zeroValue103
 t138 := Tryz.underlying161
 a138 := Tryz.isAgg161
 z138 := Tryz.sizeOf161
 v138 := Tryz.zeroValue161
 t139 := Tryz.underlying162
 a139 := Tryz.isAgg162
 z139 := Tryz.sizeOf162
 v139 := Tryz.zeroValue162
 g3 := by kernel_rfl
 g4 := by kernel_rfl }
def Tryz.lays245_ren : Go.Shelf.Ren := ⟨fun | 245 => 66 | 279 => 83 | 280 => 84 | 281 => 85 | 282 => 86 | 316 => 95 | 171 => 97 | 205 => 96 | 243 => 103 | 246 => 118 | 283 => 133 | 284 => 134 | 285 => 135 | 286 => 136 | 129 => 122 | 317 => 141 | 318 => 126 | 319 => 142 | 320 => 143 | 337 => 146 | 338 => 147 | n => n, fun | 9 => 9 | 3 => 3 | 75 => 83 | 167 => 105 | 4 => 4 | 168 => 108 | 210 => 123 | 37 => 71 | 0 => 0 | 127 => 131 | 145 => 134 | 143 => 132 | 2 => 2 | 171 => 183 | 53 => 33 | 5 => 5 | 173 => 185 | 212 => 194 | 51 => 117 | 20 => 20 | 213 => 195 | 46 => 81 | 232 => 204 | 233 => 205 | 80 => 206 | n => n, fun | 15 => 2 | 16 => 3 | 17 => 13 | 18 => 15 | 19 => 16 | n => n⟩
theorem Tryz.lays245 : Go.Proofs.LaysC.n245 Tryz.prog Tryz.lays245_ren := {
 mixed := by kernel_rfl
 f129 := Tryz.func122.trans (congrArg some (by kernel_rfl))
 f171 := Tryz.func97.trans (congrArg some (by kernel_rfl))
 f205 := Tryz.func96.trans (congrArg some (by kernel_rfl))
 f243 := Tryz.func103.trans (congrArg some (by kernel_rfl))
 f245 := Tryz.func66.trans (congrArg some (by kernel_rfl))
 f246 := Tryz.func118.trans (congrArg some (by kernel_rfl))
 f279 := Tryz.func83.trans (congrArg some (by kernel_rfl))
 f280 := Tryz.func84.trans (congrArg some (by kernel_rfl))
 f281 := Tryz.func85.trans (congrArg some (by kernel_rfl))
 f282 := Tryz.func86.trans (congrArg some (by kernel_rfl))
 f283 := Tryz.func133.trans (congrArg some (by kernel_rfl))
 f284 := Tryz.func134.trans (congrArg some (by kernel_rfl))
 f285 := Tryz.func135.trans (congrArg some (by kernel_rfl))
 f286 := Tryz.func136.trans (congrArg some (by kernel_rfl))
 f316 := Tryz.func95.trans (congrArg some (by kernel_rfl))
 f317 := Tryz.func141.trans (congrArg some (by kernel_rfl))
 f318 := Tryz.func126.trans (congrArg some (by kernel_rfl))
 f319 := Tryz.func142.trans (congrArg some (by kernel_rfl))
 f320 := Tryz.func143.trans (congrArg some (by kernel_rfl))
 f337 := Tryz.func146.trans (congrArg some (by kernel_rfl))
 f338 := Tryz.func147.trans (congrArg some (by kernel_rfl))
 t0 := Tryz.underlying0
 a0 := Tryz.isAgg0
 z0 := Tryz.sizeOf0
 v0 := Tryz.zeroValue0
 t2 := Tryz.underlying2
 a2 := Tryz.isAgg2
 z2 := Tryz.sizeOf2
 v2 := Tryz.zeroValue2
 t3 := Tryz.underlying3
 a3 := Tryz.isAgg3
 z3 := Tryz.sizeOf3
 v3 := Tryz.zeroValue3
 t4 := Tryz.underlying4
 a4 := Tryz.isAgg4
 z4 := Tryz.sizeOf4
 v4 := Tryz.zeroValue4
 t5 := Tryz.underlying5
 a5 := Tryz.isAgg5
 z5 := Tryz.sizeOf5
 v5 := Tryz.zeroValue5
 t9 := Tryz.underlying9
 a9 := Tryz.isAgg9
 z9 := Tryz.sizeOf9
 v9 := Tryz.zeroValue9
 t20 := Tryz.underlying20
 a20 := Tryz.isAgg20
 z20 := Tryz.sizeOf20
 v20 := Tryz.zeroValue20
 t37 := Tryz.underlying71
 a37 := Tryz.isAgg71
 z37 := Tryz.sizeOf71
 v37 := Tryz.zeroValue71
 t46 := Tryz.underlying81
 a46 := Tryz.isAgg81
 z46 := Tryz.sizeOf81
 v46 := Tryz.zeroValue81
 t51 := Tryz.underlying117
 a51 := Tryz.isAgg117
 z51 := Tryz.sizeOf117
 v51 := Tryz.zeroValue117
 t53 := Tryz.underlying33
 a53 := Tryz.isAgg33
 z53 := Tryz.sizeOf33
 v53 := Tryz.zeroValue33
 t75 := Tryz.underlying83
 a75 := Tryz.isAgg83
 z75 := Tryz.sizeOf83
 v75 := Tryz.zeroValue83
 t127 := Tryz.underlying131
 a127 := Tryz.isAgg131
 z127 := Tryz.sizeOf131
 v127 := Tryz.zeroValue131
 t143 := Tryz.underlying132
 a143 := Tryz.isAgg132
 z143 := Tryz.sizeOf132
 v143 := Tryz.zeroValue132
 t145 := Tryz.underlying134
 a145 := Tryz.isAgg134
 z145 := Tryz.sizeOf134
 v145 := Tryz.zeroValue134
 t167 := Tryz.underlying105
 a167 := Tryz.isAgg105
 z167 := Tryz.sizeOf105
 v167 := Tryz.zeroValue105
 t168 := Tryz.underlying108
 a168 := Tryz.isAgg108
 z168 := Tryz.sizeOf108
 v168 := Tryz.zeroValue108
 t171 := Tryz.underlying183
 a171 := Tryz.isAgg183
 z171 := Tryz.sizeOf183
 v171 := Tryz.zeroValue183
 t173 := Tryz.underlying185
 a173 := Tryz.isAgg185
 z173 := Tryz.sizeOf185
 v173 := Tryz.zeroValue185
 t210 := Tryz.underlying123
 a210 := Tryz.isAgg123
 z210 := Tryz.sizeOf123
 v210 := Tryz.zeroValue123
 t212 := Tryz.underlying194
 a212 := Tryz.isAgg194
 z212 := Tryz.sizeOf194
 v212 := Tryz.zeroValue194
 t213 := Tryz.underlying195
 a213 := Tryz.isAgg195
 z213 := Tryz.sizeOf195
 t232 := Tryz.underlying204
 a232 := Tryz.isAgg204
 z232 := Tryz.sizeOf204
 v232 := Tryz.zeroValue204
 t233 := Tryz.underlying205
 a233 := Tryz.isAgg205
 z233 := Tryz.sizeOf205
 v233 := Tryz.zeroValue205
 g15 := by kernel_rfl
 g16 := by kernel_rfl
 g17 := by kernel_rfl
 g18 := by kernel_rfl
 g19 := by kernel_rfl
 t80 := Tryz.underlying206
 a80 := Tryz.isAgg206
 z80 := Tryz.sizeOf206
 v80 := Tryz.zeroValue206
 i0 := by kernel_rfl
 i2 := by kernel_rfl
 i3 := by kernel_rfl
 i4 := by kernel_rfl
 i5 := by kernel_rfl
 i9 := by kernel_rfl
 i20 := by kernel_rfl
 i37 := by kernel_rfl
 i46 := by kernel_rfl
 i51 := by kernel_rfl
 i53 := by kernel_rfl
 i75 := by kernel_rfl
 i80 := by kernel_rfl
 i127 := by kernel_rfl
 i143 := by kernel_rfl
 i145 := by kernel_rfl
 i167 := by kernel_rfl
 i168 := by kernel_rfl
 i171 := by kernel_rfl
 i173 := by kernel_rfl
 i210 := by kernel_rfl
 i212 := by kernel_rfl
 i232 := by kernel_rfl
 i233 := by kernel_rfl
 m15 := by kernel_rfl
 m16 := by kernel_rfl
 m17 := by kernel_rfl
 m18 := by kernel_rfl
 m19 := by kernel_rfl
 c0 := by kernel_rfl
 c2 := by kernel_rfl
 c3 := by kernel_rfl
 c4 := by kernel_rfl
 c5 := by kernel_rfl
 c9 := by kernel_rfl
 c20 := by kernel_rfl
 c37 := by kernel_rfl
 c46 := by kernel_rfl
 c51 := by kernel_rfl
 c53 := by kernel_rfl
 c75 := by kernel_rfl
 c80 := by kernel_rfl
 c127 := by kernel_rfl
 c143 := by kernel_rfl
 c145 := by kernel_rfl
 c167 := by kernel_rfl
 c168 := by kernel_rfl
 c171 := by kernel_rfl
 c173 := by kernel_rfl
 c210 := by kernel_rfl
 c212 := by kernel_rfl
 c213 := by kernel_rfl
 c232 := by kernel_rfl
 c233 := by kernel_rfl }
end Go.Proofs
namespace Go.SW
open Go.RowKit
/-- What is known of a frame's slots. -/
abbrev Env := Nat → Option Value
def e0 : Env := fun _ => none
def upd (σ : Env) (d : Nat) (v : Value) : Env := fun t => bif Nat.beq t d then some v else σ t
def ev (σ : Env) : Operand → Option Value
 | .tmp t => σ t
 | .const v => some v
 | .global g => some (.pointer (some ⟨g, 0, none⟩))
 | .func f => some (.func (.func f) #[] #[])
def Le (σ' σ : Env) : Prop := ∀ t v, σ' t = some v → σ t = some v
theorem le_e0 (σ : Env) : Le e0 σ := fun _ _ h => by cases h
theorem le_refl (σ : Env) : Le σ σ := fun _ _ h => h
theorem le_upd {σ' σ : Env} {d : Nat} {v : Value} (h : Le σ' σ) (hd : σ d = some v) : Le (upd σ' d v) σ := by
 intro t u ht
 unfold upd at ht
 cases hb : Nat.beq t d with
 | true => rw [hb] at ht; have := Nat.eq_of_beq_eq_true hb; subst this; simpa [← hd] using ht
 | false => rw [hb] at ht; exact h t u ht
/-- A frame that has the slots that are known. -/
structure St (n : Nat) (σ : Env) (ds : List Deferred) (a : Act) : Prop where
 size : a.tmps.size = n
 defs : a.defers = ds
 val : ∀ t v, σ t = some v → a.tmps.getD t undef = v
theorem St.le {n : Nat} {σ σ' : Env} {ds : List Deferred} {a : Act} (h : St n σ ds a) (hl : Le σ' σ) : St n σ' ds a := ⟨h.size, h.defs, fun t v ht => h.val t v (hl t v ht)⟩
theorem St.ev {n : Nat} {σ : Env} {ds : List Deferred} {a : Act} (h : St n σ ds a) : ∀ x v, ev σ x = some v → a.eval x = v := by
 intro x v hx
 cases x with
 | tmp t => exact h.val t v hx
 | const u => exact Option.some.inj hx
 | global g => exact Option.some.inj hx
 | func f => exact Option.some.inj hx
theorem St.put {n : Nat} {σ : Env} {ds : List Deferred} {a : Act} (h : St n σ ds a) {d : Nat} (hd : Nat.blt d n = true) (v : Value) : St n (upd σ d v) ds (a.put (some d) v) := by
 have hd' : d < n := Nat.le_of_ble_eq_true hd
 refine ⟨by simp [Act.put, h.size], h.defs, fun t u ht => ?_⟩
 unfold upd at ht
 cases hb : Nat.beq t d with
 | true =>
   rw [hb] at ht
   have := Nat.eq_of_beq_eq_true hb
   subst this
   simp at ht
   subst ht
   simp [Act.put, Array.getD_eq_getD_getElem?, h.size, hd']
 | false =>
   rw [hb] at ht
   have hne : d ≠ t := fun e => by rw [e, Nat.beq_refl] at hb; cases hb
   have := h.val t u ht
   simpa [Act.put, Array.getD_eq_getD_getElem?, Array.getElem?_setIfInBounds_ne hne] using this
/-- Where code may come to: q: without a panic; p: by one. -/
structure Post where
 q : Exit → Env → List Deferred → World → Prop
 p : List PanicEntry → Env → List Deferred → World → Prop
def Post.up (n : Nat) (Q : Post) : Exit → Act → World → Prop
 | .panic c, a, w => ∃ σ ds, St n σ ds a ∧ Q.p c σ ds w
 | .outgrown, _, _ => False
 | .normal, a, w => ∃ σ ds, St n σ ds a ∧ Q.q .normal σ ds w
 | .ret, a, w => ∃ σ ds, St n σ ds a ∧ Q.q .ret σ ds w
 | .exit i, a, w => ∃ σ ds, St n σ ds a ∧ Q.q (.exit i) σ ds w
 | .goto i, a, w => ∃ σ ds, St n σ ds a ∧ Q.q (.goto i) σ ds w
def EWP (P : Program) (n : Nat) (c : Code) (Q : Post) (σ : Env) (ds : List Deferred) (w : World) : Prop :=
 ∀ a, St n σ ds a → c.wp P (Q.up n) a w
def EWL (P : Program) (n : Nat) (ops : Array Oper) (Q : Post) (l : List Oper) (σ : Env) (ds : List Deferred) (w : World) : Prop :=
 ∀ a, St n σ ds a → wpList P ops (Q.up n) l a w
section
variable {P : Program} {n : Nat} {Q : Post} {σ : Env} {ds : List Deferred} {w : World}
theorem ewp_le {c : Code} {σ' : Env} (hl : Le σ' σ) (h : EWP P n c Q σ' ds w) : EWP P n c Q σ ds w := fun a ha => h a (ha.le hl)
def thn (P : Program) (n : Nat) (y : Code) (Q : Post) : Post :=
 { q := fun e σ ds w => match e with | .normal => EWP P n y Q σ ds w | e => Q.q e σ ds w, p := Q.p }
theorem ewp_seq {x y : Code} (h : EWP P n x (thn P n y Q) σ ds w) : EWP P n (.seq x y) Q σ ds w := fun a ha =>
 wp_seq (wp_mono (h a ha) fun e a' w' he => by
   cases e with
   | normal => obtain ⟨σ', ds', hs, hq⟩ := he; exact hq a' hs
   | panic c => exact he
   | outgrown => exact he
   | ret => exact he
   | exit i => exact he
   | goto i => exact he)
theorem thn_n {y : Code} (h : EWP P n y Q σ ds w) : (thn P n y Q).q .normal σ ds w := h
theorem ewp_skip (h : Q.q .normal σ ds w) : EWP P n .skip Q σ ds w := fun _ ha => wp_skip ⟨σ, ds, ha, h⟩
theorem ewp_ret (h : Q.q .ret σ ds w) : EWP P n .ret Q σ ds w := fun _ ha => wp_ret ⟨σ, ds, ha, h⟩
theorem ewp_exit {i : Nat} (h : Q.q (.exit i) σ ds w) : EWP P n (.exit i) Q σ ds w := fun _ ha => wp_exit ⟨σ, ds, ha, h⟩
def blk (i : Nat) (Q : Post) : Post :=
 { q := fun e σ ds w => match e with | .exit j => if j = i then Q.q .normal σ ds w else Q.q (.exit j) σ ds w | e => Q.q e σ ds w, p := Q.p }
theorem ewp_block {i : Nat} {c : Code} (h : EWP P n c (blk i Q) σ ds w) : EWP P n (.block i c) Q σ ds w := fun a ha =>
 wp_block (wp_mono (h a ha) fun e a' w' he => by
   cases e with
   | exit j =>
     obtain ⟨σ', ds', hs, hq⟩ := he
     simp only [Exit.inBlock]
     split
     · rename_i hj; simp only [blk, hj, if_true] at hq; exact ⟨σ', ds', hs, hq⟩
     · rename_i hj; simp only [blk, hj, if_false] at hq; exact ⟨σ', ds', hs, hq⟩
   | normal => exact he
   | panic c => exact he
   | outgrown => exact he
   | ret => exact he
   | goto i => exact he)
theorem blk_n {i : Nat} (h : Q.q .normal σ ds w) : (blk i Q).q .normal σ ds w := h
theorem blk_r {i : Nat} (h : Q.q .ret σ ds w) : (blk i Q).q .ret σ ds w := h
theorem blk_e {i : Nat} (h : Q.q .normal σ ds w) : (blk i Q).q (.exit i) σ ds w := by simp only [blk, if_true]; exact h
theorem blk_o {i j : Nat} (hne : Nat.beq j i = false) (h : Q.q (.exit j) σ ds w) : (blk i Q).q (.exit j) σ ds w := by
 have : j ≠ i := fun e => by rw [e, Nat.beq_refl] at hne; cases hne
 simp only [blk, this, if_false]; exact h
theorem thn_r {y : Code} (h : Q.q .ret σ ds w) : (thn P n y Q).q .ret σ ds w := h
theorem thn_e {y : Code} {j : Nat} (h : Q.q (.exit j) σ ds w) : (thn P n y Q).q (.exit j) σ ds w := h
theorem ewp_if {c : Operand} {x y : Code} {b : Bool} (hc : ev σ c = some (.bool b)) (ht : b = true → EWP P n x Q σ ds w) (hf : b = false → EWP P n y Q σ ds w) :
   EWP P n (.cond c x y) Q σ ds w := fun a ha =>
 wp_cond_split (t := b) (ha.ev _ _ hc) (fun h => ht h a ha) (fun h => hf h a ha)
theorem ewp_ift {c : Operand} {x y : Code} {b : Bool} (hc : ev σ c = some (.bool b)) (hb : b = true) (ht : EWP P n x Q σ ds w) : EWP P n (.cond c x y) Q σ ds w :=
 ewp_if hc (fun _ => ht) (fun h => by rw [h] at hb; cases hb)
theorem ewp_iff {c : Operand} {x y : Code} {b : Bool} (hc : ev σ c = some (.bool b)) (hb : b = false) (hf : EWP P n y Q σ ds w) : EWP P n (.cond c x y) Q σ ds w :=
 ewp_if hc (fun h => by rw [h] at hb; cases hb) (fun _ => hf)
/-- A loop: what holds at the head of each round, with a number that falls. -/
def lp (I : Nat → Env → List Deferred → World → Prop) (k : Nat) (Q : Post) : Post :=
 { q := fun e σ ds w => match e with | .normal => ∃ k' σ', k' < k ∧ Le σ' σ ∧ I k' σ' ds w | e => Q.q e σ ds w, p := Q.p }
theorem lp_n {I : Nat → Env → List Deferred → World → Prop} {k : Nat} (k' : Nat) (σ' : Env) (hk : k' < k) (hl : Le σ' σ) (h : I k' σ' ds w) : (lp I k Q).q .normal σ ds w := ⟨k', σ', hk, hl, h⟩
theorem lp_r {I : Nat → Env → List Deferred → World → Prop} {k : Nat} (h : Q.q .ret σ ds w) : (lp I k Q).q .ret σ ds w := h
theorem lp_e {I : Nat → Env → List Deferred → World → Prop} {k j : Nat} (h : Q.q (.exit j) σ ds w) : (lp I k Q).q (.exit j) σ ds w := h
theorem ewp_loop {c : Code} (I : Nat → Env → List Deferred → World → Prop) (k : Nat) (σ' : Env) (hl : Le σ' σ) (h0 : I k σ' ds w)
   (round : ∀ k σ ds w, I k σ ds w → EWP P n c (lp I k Q) σ ds w) : EWP P n (.loop c) Q σ ds w := by
 intro a ha b kk cs
 have key : ∀ k a w σ' ds, St n σ' ds a → I k σ' ds w →
     ∃ e a' w', Q.up n e a' w' ∧ Arrives P (lone (b.at a (.code c :: .inLoop c :: kk)) cs w) b kk cs e a' w' := by
   intro k
   induction k using Nat.strongRecOn with
   | _ k ih =>
     intro a w σ' ds hs hI
     obtain ⟨e, a₁, w₁, hq, harr⟩ := round k σ' ds w hI a hs b (.inLoop c :: kk) cs
     cases e with
     | normal =>
       obtain ⟨σ₁, ds₁, hs₁, k', σ₂, hk, hle, hI₁⟩ := hq
       obtain ⟨e₂, a₂, w₂, hq₂, harr₂⟩ := ih k' hk a₁ w₁ σ₂ ds₁ (hs₁.le hle) hI₁
       exact ⟨e₂, a₂, w₂, hq₂, .of_steps (Steps.trans harr (.one step_inLoop)) harr₂⟩
     | exit id => exact ⟨.exit id, a₁, w₁, hq, .pass (x := .inLoop c) rfl (fun _ _ => .inl (by simp)) harr⟩
     | goto l => exact ⟨.goto l, a₁, w₁, hq, .pass (x := .inLoop c) rfl (fun _ _ => .inl (by simp)) harr⟩
     | ret => exact ⟨.ret, a₁, w₁, hq, .pass (x := .inLoop c) rfl (fun _ _ => .inl (by simp)) harr⟩
     | panic ch => exact ⟨.panic ch, a₁, w₁, hq, .pass (x := .inLoop c) rfl (fun _ _ => .inl (by simp)) harr⟩
     | outgrown => exact hq.elim
 obtain ⟨e, a', w', hq, harr⟩ := key k a w σ' ds (ha.le hl) h0
 exact ⟨e, a', w', hq, .of_steps (.one step_loop) harr⟩
/-! Operations. -/
/-- In every frame with these slots the operation gives this value. -/
def Runs (P : Program) (σ : Env) (op : Op) (ty : TypeId) (w : World) (v : Value) (w' : World) : Prop :=
 ∀ (ρ : Operand → Value) d pos af g, (∀ x v, ev σ x = some v → ρ x = v) → (execOp ρ ⟨d, op, ty, pos, af, g⟩).run P w = .ok (.value v) w'
def RunsU (P : Program) (σ : Env) (op : Op) (ty : TypeId) (w : World) (w' : World) : Prop :=
 ∀ (ρ : Operand → Value) d pos af g, (∀ x v, ev σ x = some v → ρ x = v) → (execOp ρ ⟨d, op, ty, pos, af, g⟩).run P w = .ok .skip w'
def Enters (P : Program) (σ : Env) (op : Op) (ty : TypeId) (w : World) (f : FuncId) (args : Array Value) : Prop :=
 ∀ (ρ : Operand → Value) d pos af g, (∀ x v, ev σ x = some v → ρ x = v) → (execOp ρ ⟨d, op, ty, pos, af, g⟩).run P w = .ok (.enter f args) w
def Pans (P : Program) (σ : Env) (op : Op) (ty : TypeId) (w : World) (v : Value) (w' : World) : Prop :=
 ∀ (ρ : Operand → Value) d pos af g, (∀ x v, ev σ x = some v → ρ x = v) → (execOp ρ ⟨d, op, ty, pos, af, g⟩).run P w = .halt (.panic v) w'
theorem ewp_reg {i : Nat} {l : List Oper} (h : EWL P n l.toArray Q l σ ds w) : EWP P n (.region i l.toArray false) Q σ ds w := fun a ha => wp_region_lit (h a ha)
variable {ops : Array Oper} {op : Op} {ty : TypeId} {pos : String} {af : Array Edge} {rest : List Oper} {d : Nat}
theorem ewl_nil (h : Q.q .normal σ ds w) : EWL P n ops Q [] σ ds w := fun _ ha => wpList_nil ⟨σ, ds, ha, h⟩
theorem ewl_run {v : Value} {w' : World} (hd : Nat.blt d n = true) (hr : Runs P σ op ty w v w') (h : EWL P n ops Q rest (upd σ d v) ds w') :
   EWL P n ops Q (⟨some d, op, ty, pos, af, none⟩ :: rest) σ ds w := fun a ha =>
 wpList_plain rfl fun K hK => by
   unfold Oper.wp
   rw [hr a.eval _ _ _ _ ha.ev]
   exact hK _ _ (h _ (ha.put hd v))
theorem ewl_runu {w' : World} (hr : RunsU P σ op ty w w') (h : EWL P n ops Q rest σ ds w') :
   EWL P n ops Q (⟨none, op, ty, pos, af, none⟩ :: rest) σ ds w := fun a ha =>
 wpList_plain rfl fun K hK => by
   unfold Oper.wp
   rw [hr a.eval _ _ _ _ ha.ev]
   exact hK _ _ (h _ ha)
theorem ewl_pan {dst : Option Tmp} {v : Value} {w' : World} (hr : Pans P σ op ty w v w') (h : Q.p [{ v, recovered := false }] σ ds w') :
   EWL P n ops Q (⟨dst, op, ty, pos, af, none⟩ :: rest) σ ds w := fun a ha =>
 wpList_plain rfl fun K hK => by
   unfold Oper.wp
   rw [hr a.eval _ _ _ _ ha.ev]
   exact ⟨σ, ds, ha, h⟩
/-- Contracts: it returns; it returns or panics. -/
def Ret (P : Program) (f : FuncId) (args : Array Value) (w : World) (R : Value → World → Prop) : Prop :=
 Calls P f args w fun e w' => ∃ v, e = .returned v ∧ R v w'
def RetP (P : Program) (f : FuncId) (args : Array Value) (w : World) (R : Value → World → Prop) (X : List PanicEntry → World → Prop) : Prop :=
 Calls P f args w fun e w' => (∃ v, e = .returned v ∧ R v w') ∨ ∃ c, e = .panicked c ∧ X c w'
theorem Ret.mono {f : FuncId} {args : Array Value} {R R' : Value → World → Prop} (h : Ret P f args w R) (hr : ∀ v w', R v w' → R' v w') : Ret P f args w R' :=
 Calls.mono h fun _ _ ⟨v, he, hv⟩ => ⟨v, he, hr _ _ hv⟩
theorem RetP.mono {f : FuncId} {args : Array Value} {R R' : Value → World → Prop} {X X' : List PanicEntry → World → Prop} (h : RetP P f args w R X) (hr : ∀ v w', R v w' → R' v w')
   (hx : ∀ c w', X c w' → X' c w') : RetP P f args w R' X' :=
 Calls.mono h fun _ _ he => he.imp (fun ⟨v, he, hv⟩ => ⟨v, he, hr _ _ hv⟩) (fun ⟨c, he, hv⟩ => ⟨c, he, hx _ _ hv⟩)
theorem Ret.retP {f : FuncId} {args : Array Value} {R : Value → World → Prop} {X : List PanicEntry → World → Prop} (h : Ret P f args w R) : RetP P f args w R X :=
 Calls.mono h fun _ _ he => .inl he
theorem ewl_ret {f : FuncId} {args : Array Value} {R : Value → World → Prop} (hd : Nat.blt d n = true) (he : Enters P σ op ty w f args) (hc : Ret P f args w R)
   (h : ∀ v w', R v w' → EWL P n ops Q rest (upd σ d v) ds w') : EWL P n ops Q (⟨some d, op, ty, pos, af, none⟩ :: rest) σ ds w := fun a ha =>
 wpList_plain rfl fun K hK => by
   unfold Oper.wp
   rw [he a.eval _ _ _ _ ha.ev]
   refine Calls.mono hc fun e w' hr => ?_
   obtain ⟨v, rfl, hv⟩ := hr
   exact hK _ _ (h v w' hv _ (ha.put hd v))
theorem ewl_retp {f : FuncId} {args : Array Value} {R : Value → World → Prop} {X : List PanicEntry → World → Prop} (hd : Nat.blt d n = true) (he : Enters P σ op ty w f args)
   (hc : RetP P f args w R X) (h : ∀ v w', R v w' → EWL P n ops Q rest (upd σ d v) ds w') (hx : ∀ c w', X c w' → Q.p c σ ds w') :
   EWL P n ops Q (⟨some d, op, ty, pos, af, none⟩ :: rest) σ ds w := fun a ha =>
 wpList_plain rfl fun K hK => by
   unfold Oper.wp
   rw [he a.eval _ _ _ _ ha.ev]
   refine Calls.mono hc fun e w' hr => ?_
   rcases hr with ⟨v, rfl, hv⟩ | ⟨c, rfl, hv⟩
   · exact hK _ _ (h v w' hv _ (ha.put hd v))
   · exact ⟨σ, ds, ha, hx c w' hv⟩
/-- A guard that holds; one that doesn't. -/
theorem wanted_of {a : Act} {dst : Option Tmp} {j dj : Nat} {want b : Bool} (ha : St n σ ds a) (hj : (ops[j]?).bind (·.dst) = some dj) (hv : σ dj = some (.bool b)) :
   Region.wanted ⟨dst, op, ty, pos, af, some (j, want)⟩ (yielded ops a.tmps) = (b == want) := by
 have h1 := ha.val dj _ hv
 have h2 : a.tmps[dj]? = some (.bool b) := by
   rw [Array.getD_eq_getD_getElem?] at h1
   cases hx : a.tmps[dj]? with
   | none => rw [hx] at h1; simp [undef] at h1
   | some u => rw [hx] at h1; simpa using h1
 simp [Region.wanted, yielded, hj, h2]
theorem ewl_grd {dst : Option Tmp} {j dj : Nat} {want b : Bool} (hj : (ops[j]?).bind (·.dst) = some dj) (hv : σ dj = some (.bool b)) (hb : b = want)
   (h : EWL P n ops Q (⟨dst, op, ty, pos, af, none⟩ :: rest) σ ds w) : EWL P n ops Q (⟨dst, op, ty, pos, af, some (j, want)⟩ :: rest) σ ds w := fun a ha => by
 have h1 := h a ha
 unfold wpList at h1 ⊢
 rw [if_pos (by simp [Region.wanted])] at h1
 rw [if_pos (by rw [wanted_of ha hj hv, hb]; simp)]
 exact h1
theorem ewl_off {j dj : Nat} {want b : Bool} (hd : Nat.blt d n = true) (hj : (ops[j]?).bind (·.dst) = some dj) (hv : σ dj = some (.bool b)) (hb : b = !want)
   (h : EWL P n ops Q rest (upd σ d undef) ds w) : EWL P n ops Q (⟨some d, op, ty, pos, af, some (j, want)⟩ :: rest) σ ds w := fun a ha => by
 unfold wpList
 rw [if_neg (by rw [wanted_of ha hj hv, hb]; cases want <;> simp)]
 exact h _ (ha.put hd undef)
/-- A bool in a slot: both ways. -/
theorem ewl_split (dj : Nat) {b : Bool} {l : List Oper} (hv : σ dj = some (.bool b)) (ht : b = true → EWL P n ops Q l σ ds w) (hf : b = false → EWL P n ops Q l σ ds w) : EWL P n ops Q l σ ds w := by
 have _ := hv
 cases hb : b with
 | true => exact ht hb
 | false => exact hf hb
theorem ewp_split (dj : Nat) {b : Bool} {c : Code} (hv : σ dj = some (.bool b)) (ht : b = true → EWP P n c Q σ ds w) (hf : b = false → EWP P n c Q σ ds w) : EWP P n c Q σ ds w := by
 have _ := hv
 cases hb : b with
 | true => exact ht hb
 | false => exact hf hb
/-! A function's end and its entry. -/
def Res (P : Program) (fn : Func) (σ : Env) (w : World) (v : Value) : Prop :=
 ∀ tmps : Array Value, (∀ t v, σ t = some v → tmps.getD t undef = v) → (results fn tmps).run P w = .ok v w
def fnPost (P : Program) (fn : Func) (R : Value → World → Prop) (X : List PanicEntry → World → Prop) : Post :=
 { q := fun e σ ds w => match e with | .normal | .ret => ds = [] ∧ ∃ v, Res P fn σ w v ∧ R v w | _ => False, p := fun c _ ds w => ds = [] ∧ X c w }
def envOf : List Value → Nat → Env
 | [], _ => e0
 | v :: l, k => upd (envOf l (k + 1)) k v
theorem envOf_spec : ∀ (l : List Value) (k t : Nat) (v : Value), envOf l k t = some v → k ≤ t ∧ l[t - k]? = some v
 | [], _, _, _, h => by cases h
 | u :: l, k, t, v, h => by
   unfold envOf upd at h
   cases hb : Nat.beq t k with
   | true => rw [hb] at h; have := Nat.eq_of_beq_eq_true hb; subst this; simp at h; simp [h]
   | false =>
     rw [hb] at h
     obtain ⟨h1, h2⟩ := envOf_spec l (k + 1) t v h
     refine ⟨by omega, ?_⟩
     have : t - k = (t - (k + 1)) + 1 := by omega
     rw [this]; simpa using h2
theorem st_enter {l : List Value} (hn : Nat.ble l.length n = true) : St n (envOf l 0) [] { tmps := l.toArray ++ Array.replicate (n - l.toArray.size) undef, defers := [] } := by
 have hn' : l.length ≤ n := by simpa using hn
 refine ⟨by simp; omega, rfl, fun t v h => ?_⟩
 obtain ⟨_, h2⟩ := envOf_spec l 0 t v h
 have hlt : t < l.length := by
   rcases Nat.lt_or_ge t l.length with h | h
   · exact h
   · simp [List.getElem?_eq_none h] at h2
 simp [Array.getElem?_append, hlt] at h2 ⊢
 simpa [hlt] using h2
theorem enterP {f : FuncId} {fn : Func} {c : Code} {l : List Value} {R : Value → World → Prop} {X : List PanicEntry → World → Prop} (hf : P.funcs[f]? = some fn) (hb : fn.body = some c)
   (hn : fn.ntmps = n) (hl : Nat.ble l.length n = true) (h : EWP P n c (fnPost P fn R X) (envOf l 0) [] w) : RetP P f l.toArray w R X := by
 refine calls_of_wp hf hb ?_
 rw [hn]
 refine wp_mono (h _ (st_enter hl)) fun e a w' he => ?_
 cases e with
 | normal => obtain ⟨σ, ds, hs, hd, v, hv, hr⟩ := he; exact ⟨by rw [hs.defs, hd], v, hv _ hs.val, .inl ⟨v, rfl, hr⟩⟩
 | ret => obtain ⟨σ, ds, hs, hd, v, hv, hr⟩ := he; exact ⟨by rw [hs.defs, hd], v, hv _ hs.val, .inl ⟨v, rfl, hr⟩⟩
 | panic c => obtain ⟨σ, ds, hs, hd, hx⟩ := he; exact ⟨by rw [hs.defs, hd], .inr ⟨c, rfl, hx⟩⟩
 | outgrown => exact he.elim
 | exit i => obtain ⟨σ, ds, hs, hq⟩ := he; exact hq.elim
 | goto i => obtain ⟨σ, ds, hs, hq⟩ := he; exact hq.elim
theorem enter {f : FuncId} {fn : Func} {c : Code} {l : List Value} {R : Value → World → Prop} (hf : P.funcs[f]? = some fn) (hb : fn.body = some c)
   (hn : fn.ntmps = n) (hl : Nat.ble l.length n = true) (h : EWP P n c (fnPost P fn R fun _ _ => False) (envOf l 0) [] w) : Ret P f l.toArray w R :=
 Calls.mono (enterP hf hb hn hl h) fun _ _ he => he.elim id fun ⟨_, _, h⟩ => h.elim
theorem fn_n {fn : Func} {R : Value → World → Prop} {X : List PanicEntry → World → Prop} {v : Value} (hv : Res P fn σ w v) (h : R v w) : (fnPost P fn R X).q .normal σ [] w := ⟨rfl, v, hv, h⟩
theorem fn_r {fn : Func} {R : Value → World → Prop} {X : List PanicEntry → World → Prop} {v : Value} (hv : Res P fn σ w v) (h : R v w) : (fnPost P fn R X).q .ret σ [] w := ⟨rfl, v, hv, h⟩
/-- One result. -/
def rvS (tmps : Array Value) : ResultVar → Sem Value
 | .tmp t => pure (tmps.getD t undef)
 | .cell a t => do loadVar t (← asAddr (tmps.getD a undef))
theorem results_rv (fn : Func) (tmps : Array Value) : results fn tmps = (do let vs ← fn.results.mapM (rvS tmps); pure (if h : vs.size = 1 then vs[0] else .tuple vs)) := by
 unfold results
 congr
def Rv (P : Program) (σ : Env) (w : World) (r : ResultVar) (v : Value) : Prop :=
 ∀ tmps : Array Value, (∀ t v, σ t = some v → tmps.getD t undef = v) → (rvS tmps r).run P w = .ok v w
theorem rv_tmp {t : Nat} {v : Value} (hv : σ t = some v) : Rv P σ w (.tmp t) v := fun tmps ht => by simp only [rvS, ht t v hv]; rfl
theorem res0 {fn : Func} (h : fn.results = #[]) : Res P fn σ w (.tuple #[]) := fun tmps _ => results_none h tmps P w
theorem resv {fn : Func} {r : ResultVar} {v : Value} (h : fn.results = #[r]) (hv : Rv P σ w r v) : Res P fn σ w v := fun tmps ht => by
 have h1 := hv tmps ht
 rw [results_rv, h, List.mapM_toArray]
 simp [h1]
theorem res1 {fn : Func} {t : Nat} {v : Value} (h : fn.results = #[.tmp t]) (hv : σ t = some v) : Res P fn σ w v := resv h (rv_tmp hv)
theorem resv2 {fn : Func} {r1 r2 : ResultVar} {v1 v2 : Value} (h : fn.results = #[r1, r2]) (h1 : Rv P σ w r1 v1) (h2 : Rv P σ w r2 v2) : Res P fn σ w (.tuple #[v1, v2]) := fun tmps ht => by
 have g1 := h1 tmps ht
 have g2 := h2 tmps ht
 rw [results_rv, h, List.mapM_toArray]
 simp [g1, g2]
theorem resv3 {fn : Func} {r1 r2 r3 : ResultVar} {v1 v2 v3 : Value} (h : fn.results = #[r1, r2, r3]) (h1 : Rv P σ w r1 v1) (h2 : Rv P σ w r2 v2) (h3 : Rv P σ w r3 v3) : Res P fn σ w (.tuple #[v1, v2, v3]) := fun tmps ht => by
 have g1 := h1 tmps ht
 have g2 := h2 tmps ht
 have g3 := h3 tmps ht
 rw [results_rv, h, List.mapM_toArray]
 simp [g1, g2, g3]
end
end Go.SW
namespace Go.SW
open Go.RowKit
/-- A string by its bytes. -/
abbrev S (l : List UInt8) : Value := .string ⟨l.toArray⟩
theorem toList_mk (l : List UInt8) : (⟨l.toArray⟩ : ByteArray).toList = l := by
 rw [ByteArray.toList_eq]
theorem nott {b : Bool} (h : (!b) = true) : b = false := by simpa using h
theorem notf {b : Bool} (h : (!b) = false) : b = true := by simpa using h
section
variable {P : Program} {σ : Env} {w : World} {ty : TypeId} {x y c : Operand}
theorem rn_move {v : Value} (h : ev σ x = some v) : Runs P σ (.move x) ty w v w := fun ρ _ _ _ _ hρ => by simp [execOp, hρ _ _ h]
theorem rn_assign {v : Value} (h : ev σ x = some v) : Runs P σ (.assign x) ty w v w := fun ρ _ _ _ _ hρ => by simp [execOp, hρ _ _ h]
theorem rn_pickt {v : Value} {b : Bool} (hc : ev σ c = some (.bool b)) (hb : b = true) (h : ev σ x = some v) : Runs P σ (.pick c x y) ty w v w := fun ρ _ _ _ _ hρ => by
 simp [execOp, hρ _ _ hc, hρ _ _ h, asBool, hb]
theorem rn_pickf {v : Value} {b : Bool} (hc : ev σ c = some (.bool b)) (hb : b = false) (h : ev σ y = some v) : Runs P σ (.pick c x y) ty w v w := fun ρ _ _ _ _ hρ => by
 simp [execOp, hρ _ _ hc, hρ _ _ h, asBool, hb]
theorem rn_not {t : TypeId} {b : Bool} (h : ev σ x = some (.bool b)) : Runs P σ (.unOp .not t x) ty w (.bool (!b)) w := fun ρ _ _ _ _ hρ => by
 simp [execOp, hρ _ _ h, Op.unary]
theorem rn_eqI {t t' : TypeId} {k : IntKind} {a b : Int} (hx : ev σ x = some (.int k a)) (hy : ev σ y = some (.int k b)) : Runs P σ (.binOp .eql t x y t') ty w (.bool (a == b)) w :=
 fun ρ _ _ _ _ hρ => by simp [execOp, hρ _ _ hx, hρ _ _ hy, eqGuard, binOp, Op.intCmp]
theorem rn_neI {t t' : TypeId} {k : IntKind} {a b : Int} (hx : ev σ x = some (.int k a)) (hy : ev σ y = some (.int k b)) : Runs P σ (.binOp .neq t x y t') ty w (.bool (a != b)) w :=
 fun ρ _ _ _ _ hρ => by simp [execOp, hρ _ _ hx, hρ _ _ hy, eqGuard, binOp, Op.intCmp]
theorem rn_ltI {t t' : TypeId} {k : IntKind} {a b : Int} (hx : ev σ x = some (.int k a)) (hy : ev σ y = some (.int k b)) : Runs P σ (.binOp .lss t x y t') ty w (.bool (decide (a < b))) w :=
 fun ρ _ _ _ _ hρ => by simp [execOp, hρ _ _ hx, hρ _ _ hy, eqGuard, binOp, Op.intCmp]
theorem rn_leI {t t' : TypeId} {k : IntKind} {a b : Int} (hx : ev σ x = some (.int k a)) (hy : ev σ y = some (.int k b)) : Runs P σ (.binOp .leq t x y t') ty w (.bool (decide (a ≤ b))) w :=
 fun ρ _ _ _ _ hρ => by simp [execOp, hρ _ _ hx, hρ _ _ hy, eqGuard, binOp, Op.intCmp]
theorem rn_gtI {t t' : TypeId} {k : IntKind} {a b : Int} (hx : ev σ x = some (.int k a)) (hy : ev σ y = some (.int k b)) : Runs P σ (.binOp .gtr t x y t') ty w (.bool (decide (b < a))) w :=
 fun ρ _ _ _ _ hρ => by simp [execOp, hρ _ _ hx, hρ _ _ hy, eqGuard, binOp, Op.intCmp]
theorem rn_geI {t t' : TypeId} {k : IntKind} {a b : Int} (hx : ev σ x = some (.int k a)) (hy : ev σ y = some (.int k b)) : Runs P σ (.binOp .geq t x y t') ty w (.bool (decide (b ≤ a))) w :=
 fun ρ _ _ _ _ hρ => by simp [execOp, hρ _ _ hx, hρ _ _ hy, eqGuard, binOp, Op.intCmp]
/-- Sums and the like, with the number that they come to: it is given, as it lies in int's bounds. -/
def In64 (n : Int) : Prop := -9223372036854775808 ≤ n ∧ n ≤ 9223372036854775807
theorem wrap_in {n : Int} (h : In64 n) : IntKind.i64.wrap n = n := IntWalk.i64_in _ ⟨h.1, by have := h.2; omega⟩
theorem rn_add {t t' : TypeId} {a b : Int} (hx : ev σ x = some (.int .i64 a)) (hy : ev σ y = some (.int .i64 b)) (h : In64 (a + b)) : Runs P σ (.binOp .add t x y t') ty w (.int .i64 (a + b)) w :=
 fun ρ _ _ _ _ hρ => by simp [execOp, hρ _ _ hx, hρ _ _ hy, eqGuard, binOp, Op.intArith, wrap_in h]
theorem rn_sub {t t' : TypeId} {a b : Int} (hx : ev σ x = some (.int .i64 a)) (hy : ev σ y = some (.int .i64 b)) (h : In64 (a - b)) : Runs P σ (.binOp .sub t x y t') ty w (.int .i64 (a - b)) w :=
 fun ρ _ _ _ _ hρ => by simp [execOp, hρ _ _ hx, hρ _ _ hy, eqGuard, binOp, Op.intArith, wrap_in h]
theorem rn_eqS {t t' : TypeId} {a b : List UInt8} (hx : ev σ x = some (S a)) (hy : ev σ y = some (S b)) : Runs P σ (.binOp .eql t x y t') ty w (.bool (a == b)) w :=
 fun ρ _ _ _ _ hρ => by simp [execOp, hρ _ _ hx, hρ _ _ hy, eqGuard, binOp, Op.stringOp]
theorem rn_neS {t t' : TypeId} {a b : List UInt8} (hx : ev σ x = some (S a)) (hy : ev σ y = some (S b)) : Runs P σ (.binOp .neq t x y t') ty w (.bool (!(a == b))) w :=
 fun ρ _ _ _ _ hρ => by simp [execOp, hρ _ _ hx, hρ _ _ hy, eqGuard, binOp, Op.stringOp]
theorem rn_addS {t t' : TypeId} {a b : List UInt8} (hx : ev σ x = some (S a)) (hy : ev σ y = some (S b)) (h : a.length + b.length ≤ 9223372036854775807) :
   Runs P σ (.binOp .add t x y t') ty w (S (a ++ b)) w := fun ρ _ _ _ _ hρ => by
 have h1 : ¬ (((⟨a.toArray⟩ : ByteArray).size + (⟨b.toArray⟩ : ByteArray).size : Nat) : Int) > IntKind.i64.max := by
   have hm : IntKind.i64.max = 9223372036854775807 := by decide
   rw [hm]; simp [ByteArray.size]; omega
 have h2 : ((⟨a.toArray⟩ : ByteArray) ++ ⟨b.toArray⟩) = ⟨(a ++ b).toArray⟩ := by
   apply ByteArray.ext; simp
 simp only [execOp, hρ _ _ hx, hρ _ _ hy, eqGuard, binOp, Op.stringOp, h1, h2]
 simp
end
end Go.SW
namespace Go.SW
open Go.RowKit
/-- What a type is: has it several cells, and how many? -/
def tinfo (P : Program) (T : TypeId) : Option (Bool × Nat) :=
 match P.underlying T, P.info? T with
 | some d, some i => some (match d with | .struct _ | .array _ _ => true | _ => false, i.size)
 | _, _ => none
/-- A struct's field: where it begins. -/
def fld (P : Program) (T : TypeId) (i : Nat) : Option Nat :=
 match P.underlying T with
 | some (.struct fs) => match fs[i]? with
   | some f => match P.info? f.type with
     | some j => if j.size = 0 then none else some f.offset
     | none => none
   | none => none
 | _ => none
/-- A slice's element, and how many cells it has. -/
def sle (P : Program) (T : TypeId) : Option (TypeId × Nat) :=
 match P.underlying T with
 | some (.slice e) => (P.info? e).map fun j => (e, j.size)
 | _ => none
def zer (P : Program) (T : TypeId) : Option (List Value) := match P.info? T with | some i => i.zero.map fun v => v.cells.toList | none => none
/-- A block of cells. -/
def Blk (w : World) (b : Nat) (l : List Value) (T : TypeId) : Prop := w.heap[b]? = some (.cells l.toArray T (0, 0))
/-- All blocks are as they were; there may be more. -/
abbrev Ext (w w' : World) : Prop := Below w.heap.size w w'
/-- One block has changed, and nothing else. -/
structure Chg (b : Nat) (w w' : World) : Prop where
 os : w'.os = w.os
 tape : w'.tape = w.tape
 output : w'.output = w.output
 size : w'.heap.size = w.heap.size
 block : ∀ k, k ≠ b → w'.heap[k]? = w.heap[k]?
theorem Ext.refl (w : World) : Ext w w := Below.refl _ _
theorem Ext.trans {w w1 w2 : World} (h : Ext w w1) (h2 : Ext w1 w2) : Ext w w2 := Below.trans h (h2.mono h.size)
theorem Ext.drew {w : World} : Ext w w.drew := Below.drew (Below.refl _ _)
theorem Blk.lt {w : World} {b : Nat} {l : List Value} {T : TypeId} (h : Blk w b l T) : b < w.heap.size := by
 rcases Nat.lt_or_ge b w.heap.size with h' | h'
 · exact h'
 · unfold Blk at h; rw [Array.getElem?_eq_none h'] at h; cases h
theorem Blk.ext {w w' : World} {b : Nat} {l : List Value} {T : TypeId} (h : Blk w b l T) (he : Ext w w') : Blk w' b l T := (he.block b h.lt).trans h
theorem Blk.chg {w w' : World} {b c : Nat} {l : List Value} {T : TypeId} (h : Blk w b l T) (he : Chg c w w') (hne : b ≠ c) : Blk w' b l T := (he.block b hne).trans h
theorem Ext.chg {w w1 w2 : World} {b : Nat} (h : Ext w w1) (hc : Chg b w1 w2) (hb : w.heap.size ≤ b) : Ext w w2 :=
 ⟨hc.os.trans h.os, hc.tape.trans h.tape, hc.output.trans h.output, by rw [hc.size]; exact h.size, fun k hk => (hc.block k (by omega)).trans (h.block k hk)⟩
theorem Blk.cell {w : World} {b : Nat} {l : List Value} {T : TypeId} (h : Blk w b l T) (o : Nat) : w.cell? ⟨b, o, none⟩ = l[o]? := by
 unfold Blk at h; simp [World.cell?, h]
theorem Blk.frozen {w : World} {b : Nat} {l : List Value} {T : TypeId} (h : Blk w b l T) (o : Nat) : w.frozen? ⟨b, o, none⟩ = false := by
 unfold Blk at h; simp [World.frozen?, h]
section
variable {P : Program} {w : World}
def aggB : TypeDesc → Bool | .struct _ | .array _ _ => true | _ => false
theorem run_isAgg {T : TypeId} {a : Bool} {n : Nat} (h : tinfo P T = some (a, n)) : (isAgg T).run P w = .ok a w := by
 unfold tinfo at h
 cases hu : P.underlying T with
 | none => rw [hu] at h; cases h
 | some d =>
   cases hi : P.info? T with
   | none => rw [hu, hi] at h; cases h
   | some i =>
     rw [hu, hi] at h
     cases d <;> simp_all [isAgg, run_underlying hu]
theorem run_sizeOf {T : TypeId} {a : Bool} {n : Nat} (h : tinfo P T = some (a, n)) : (sizeOf T).run P w = .ok n w := by
 unfold tinfo at h
 cases hu : P.underlying T with
 | none => rw [hu] at h; cases h
 | some d =>
   cases hi : P.info? T with
   | none => rw [hu, hi] at h; cases h
   | some i =>
     rw [hu, hi] at h
     have ha : i.size = n := by injection h with h; exact (Prod.mk.inj h).2
     simp [sizeOf, typeInfo, hi, ha]
/-- Parts of lists, in full. -/
def takeO : Nat → List Value → Option (List Value)
 | 0, _ => some []
 | _ + 1, [] => none
 | k + 1, v :: l => match takeO k l with
   | some r => some (v :: r)
   | none => none
def slc : List Value → Nat → Nat → Option (List Value)
 | l, 0, k => takeO k l
 | [], _ + 1, _ => none
 | _ :: l, o + 1, k => slc l o k
theorem takeO_spec : ∀ {k : Nat} {l vs : List Value}, takeO k l = some vs → l.take k = vs ∧ vs.length = k
 | 0, _, _, h => by injection h with h; subst h; simp
 | _ + 1, [], _, h => by cases h
 | k + 1, v :: l, vs, h => by
   unfold takeO at h
   cases hr : takeO k l with
   | none => rw [hr] at h; cases h
   | some r =>
     rw [hr] at h
     injection h with h
     subst h
     have := takeO_spec hr
     simp [this.1, this.2]
theorem slc_spec : ∀ {l : List Value} {o k : Nat} {vs : List Value}, slc l o k = some vs → (l.drop o).take k = vs ∧ vs.length = k
 | l, 0, k, vs, h => by unfold slc at h; simpa using takeO_spec h
 | [], _ + 1, _, _, h => by cases h
 | _ :: l, o + 1, k, vs, h => by unfold slc at h; simpa using slc_spec (l := l) h
def cellsO : Value → Option (List Value)
 | .agg ⟨l⟩ => some l
 | v => some [v]
theorem add_lit (b o k : Nat) : (⟨b, o, none⟩ : Addr).add k = ⟨b, o + k, none⟩ := by unfold Addr.add; split <;> simp_all
variable {σ : Env} {ty T T' : TypeId} {x y : Operand} {b off k : Nat} {l : List Value}
theorem rn_nott {t : TypeId} {c : Bool} (h : ev σ x = some (.bool c)) (hc : c = true) : Runs P σ (.unOp .not t x) ty w (.bool false) w := by subst hc; exact rn_not h
theorem rn_notf {t : TypeId} {c : Bool} (h : ev σ x = some (.bool c)) (hc : c = false) : Runs P σ (.unOp .not t x) ty w (.bool true) w := by subst hc; exact rn_not h
theorem rn_load {v : Value} (hx : ev σ x = some (.pointer (some ⟨b, off, none⟩))) (hT : tinfo P T = some (false, k)) (hb : Blk w b l T') (hv : l[off]? = some v) :
   Runs P σ (.load T x) ty w v w := fun ρ _ _ _ _ hρ => by
 have hc : w.cell? ⟨b, off, none⟩ = some v := by rw [hb.cell, hv]
 simp [execOp, hρ _ _ hx, Instr.loadAt, Instr.sureAddr, loadVar, run_isAgg hT, run_load, hc]
theorem rn_loada {vs : List Value} (hx : ev σ x = some (.pointer (some ⟨b, off, none⟩))) (hT : tinfo P T = some (true, k)) (hb : Blk w b l T') (hv' : slc l off k = some vs) :
   Runs P σ (.load T x) ty w (.agg vs.toArray) w := fun ρ _ _ _ _ hρ => by
 obtain ⟨hv, hk'⟩ := slc_spec hv'
 have hc := run_loadCells_list (P := P) w ⟨b, off, none⟩ vs (fun j v hj => by
   rw [add_lit, hb.cell]
   rw [← hv] at hj
   have hlt : j < k := by
     rcases Nat.lt_or_ge j k with h | h
     · exact h
     · rw [List.getElem?_take, if_neg (by omega)] at hj; cases hj
   rwa [List.getElem?_take, if_pos hlt, List.getElem?_drop] at hj)
 rw [hk'] at hc
 simp [execOp, hρ _ _ hx, Instr.loadAt, Instr.sureAddr, loadVar, run_isAgg hT, run_sizeOf hT, hc]
theorem rn_fa {i o : Nat} (hx : ev σ x = some (.pointer (some ⟨b, off, none⟩))) (hf : fld P T i = some o) : Runs P σ (.fieldAddr T x i) ty w (.pointer (some ⟨b, off + o, none⟩)) w := fun ρ _ _ _ _ hρ => by
 unfold fld at hf
 split at hf
 · rename_i fs hu
   split at hf
   · rename_i f hfs
     split at hf
     · rename_i j hj
       split at hf
       · cases hf
       · rename_i hz
         injection hf with hf
         subst hf
         simp [execOp, hρ _ _ hx, Instr.fieldAt, run_underlying hu, hfs, Instr.sureAddr, fieldPlace, sizeOf, typeInfo, hj, hz, add_lit]
     · cases hf
   · cases hf
 · cases hf
theorem sle_spec {e : TypeId} (h : sle P T = some (e, k)) : ∃ i, P.underlying T = some (.slice e) ∧ P.info? e = some i ∧ i.size = k := by
 unfold sle at h
 split at h
 · rename_i e' hu
   cases hj : P.info? e' with
   | none => rw [hj] at h; cases h
   | some j =>
     rw [hj] at h
     simp at h
     obtain ⟨rfl, h2⟩ := h
     exact ⟨j, hu, hj, h2⟩
 · cases h
theorem rn_ixa {e : TypeId} {kk : IntKind} {i : Int} {len cap : Nat} (hx : ev σ x = some (.slice (some ⟨b, off, none⟩) len cap)) (hy : ev σ y = some (.int kk i)) (hs : sle P T = some (e, k))
   (hi : 0 ≤ i ∧ i < len) : Runs P σ (.indexAddr T x y) ty w (.pointer (some ⟨b, off + i.toNat * k, none⟩)) w := fun ρ _ _ _ _ hρ => by
 obtain ⟨j, hu, hj, rfl⟩ := sle_spec hs
 simp [execOp, hρ _ _ hx, hρ _ _ hy, Instr.indexAt, asIntOf, run_underlying hu, hi, sizeOf, typeInfo, hj, add_lit]
/-- An index that is a constant. -/
theorem rn_ixc {e : TypeId} {kk : IntKind} {i : Nat} {len cap : Nat} (hx : ev σ x = some (.slice (some ⟨b, off, none⟩) len cap)) (hy : ev σ y = some (.int kk (i : Int))) (hs : sle P T = some (e, k))
   (hi : i < len) : Runs P σ (.indexAddr T x y) ty w (.pointer (some ⟨b, off + i * k, none⟩)) w := by
 have := rn_ixa (w := w) (ty := ty) hx hy hs ⟨by omega, by omega⟩
 simpa using this
theorem rn_exs {vs : List Value} {i : Nat} {v : Value} (hx : ev σ x = some (.tuple vs.toArray)) (hv : vs[i]? = some v) : Runs P σ (.extract x i) ty w v w := fun ρ _ _ _ _ hρ => by
 simp [execOp, hρ _ _ hx, Instr.extract, hv]
/-- len -/
def evAll (σ : Env) : List Operand → Option (List Value)
 | [] => some []
 | x :: l => match ev σ x, evAll σ l with
   | some v, some vs => some (v :: vs)
   | _, _ => none
theorem evAll_spec {ρ : Operand → Value} (hρ : ∀ x v, ev σ x = some v → ρ x = v) : ∀ {l : List Operand} {vs : List Value}, evAll σ l = some vs → l.map ρ = vs
 | [], _, h => by injection h with h
 | x :: l, vs, h => by
   unfold evAll at h
   cases hx : ev σ x with
   | none => rw [hx] at h; cases h
   | some v =>
     cases hl : evAll σ l with
     | none => rw [hx, hl] at h; cases h
     | some us =>
       rw [hx, hl] at h
       injection h with h
       subst h
       simp [hρ x v hx, evAll_spec hρ hl]
theorem rn_len {e : TypeId} {a : Option Addr} {n cap : Nat} (hx : ev σ x = some (.slice a n cap)) (hs : sle P T = some (e, k)) :
   Runs P σ (.call { callee := .builtin .len, args := #[x], argTypes := #[T] }) ty w (.int .i64 n) w := fun ρ _ _ _ _ hρ => by
 obtain ⟨j, hu, hj, rfl⟩ := sle_spec hs
 simp [execOp, resolve, invoke, builtin, hρ _ _ hx, Builtin.len_, run_underlying hu, goInt]
theorem rn_lenS {s : List UInt8} (hx : ev σ x = some (S s)) (hs : P.underlying T = some .string) :
   Runs P σ (.call { callee := .builtin .len, args := #[x], argTypes := #[T] }) ty w (.int .i64 s.length) w := fun ρ _ _ _ _ hρ => by
 have hsz : (⟨s.toArray⟩ : ByteArray).size = s.length := by simp [ByteArray.size]
 simp [execOp, resolve, invoke, builtin, hρ _ _ hx, Builtin.len_, run_underlying hs, goInt, hsz]
theorem rn_ixS {s : List UInt8} {kk : IntKind} {i : Int} {c : UInt8} (hx : ev σ x = some (S s)) (hy : ev σ y = some (.int kk i)) (hs : P.underlying T = some .string) (h0 : 0 ≤ i)
   (hc : s[i.toNat]? = some c) : Runs P σ (.index T x y) ty w (.int .u8 c.toNat) w := fun ρ _ _ _ _ hρ => by
 have hlt : i.toNat < s.length := by
   rcases Nat.lt_or_ge i.toNat s.length with h | h
   · exact h
   · rw [List.getElem?_eq_none h] at hc; cases hc
 have h2 : (⟨s.toArray⟩ : ByteArray)[i.toNat]? = some c := by
   have h3 : i.toNat < (⟨s.toArray⟩ : ByteArray).size := by simpa [ByteArray.size] using hlt
   rw [getElem?_pos (⟨s.toArray⟩ : ByteArray) i.toNat h3]
   rw [List.getElem?_eq_getElem hlt] at hc
   exact hc
 simp [execOp, hρ _ _ hx, hρ _ _ hy, Instr.index, asIntOf, run_underlying hs, h0, h2]
/-- A string's part. -/
theorem extract_mk (s : List UInt8) (i j : Nat) : (⟨s.toArray⟩ : ByteArray).extract i j = ⟨((s.take j).drop i).toArray⟩ := by
 apply ByteArray.ext
 simp [ByteArray.data_extract, List.extract_eq_take_drop, List.drop_take]
theorem rn_slS {s : List UInt8} {lo hi : Operand} {k1 k2 : IntKind} {i j : Int} (hx : ev σ x = some (S s)) (hlo : ev σ lo = some (.int k1 i)) (hhi : ev σ hi = some (.int k2 j)) (hs : P.underlying T = some .string)
   (h : 0 ≤ i ∧ i ≤ j ∧ j ≤ s.length) : Runs P σ (.slice T x (some lo) (some hi) none) ty w (S ((s.take j.toNat).drop i.toNat)) w := fun ρ _ _ _ _ hρ => by
 have hsz : (⟨s.toArray⟩ : ByteArray).size = s.length := by simp [ByteArray.size]
 have hj : 0 ≤ j := by omega
 simp [execOp, hρ _ _ hx, hρ _ _ hlo, hρ _ _ hhi, Instr.sliceAt, Instr.slice, Instr.sliceBounds, Instr.sliceBound, asIntOf, run_underlying hs, hsz, h, hj, extract_mk]
 intro hm
 omega
theorem rn_slSfrom {s : List UInt8} {lo : Operand} {k1 : IntKind} {i : Int} (hx : ev σ x = some (S s)) (hlo : ev σ lo = some (.int k1 i)) (hs : P.underlying T = some .string)
   (h : 0 ≤ i ∧ i ≤ s.length) : Runs P σ (.slice T x (some lo) none none) ty w (S (s.drop i.toNat)) w := fun ρ _ _ _ _ hρ => by
 have hsz : (⟨s.toArray⟩ : ByteArray).size = s.length := by simp [ByteArray.size]
 simp [execOp, hρ _ _ hx, hρ _ _ hlo, Instr.sliceAt, Instr.slice, Instr.sliceBounds, Instr.sliceBound, asIntOf, run_underlying hs, hsz, h, extract_mk]
theorem rn_slSto {s : List UInt8} {hi : Operand} {k1 : IntKind} {j : Int} (hx : ev σ x = some (S s)) (hhi : ev σ hi = some (.int k1 j)) (hs : P.underlying T = some .string)
   (h : 0 ≤ j ∧ j ≤ s.length) : Runs P σ (.slice T x none (some hi) none) ty w (S (s.take j.toNat)) w := fun ρ _ _ _ _ hρ => by
 have hsz : (⟨s.toArray⟩ : ByteArray).size = s.length := by simp [ByteArray.size]
 simp [execOp, hρ _ _ hx, hρ _ _ hhi, Instr.sliceAt, Instr.slice, Instr.sliceBounds, Instr.sliceBound, asIntOf, run_underlying hs, hsz, h, extract_mk]
/-- Parts of a slice: all from an index on; up to one. -/
theorem rn_slfrom {e : TypeId} {lo : Operand} {k1 : IntKind} {i : Nat} {a : Option Addr} {len cap : Nat} (hx : ev σ x = some (.slice a len cap)) (hlo : ev σ lo = some (.int k1 (i : Int)))
   (hs : sle P T = some (e, k)) (h : i ≤ len) : Runs P σ (.slice T x (some lo) none none) ty w (.slice (if cap = i then a else a.map (·.add (i * k))) (len - i) (cap - i)) w := fun ρ _ _ _ _ hρ => by
 obtain ⟨j, hu, hj, rfl⟩ := sle_spec hs
 simp [execOp, hρ _ _ hx, hρ _ _ hlo, Instr.sliceAt, Instr.slice, Instr.sliceBounds, Instr.sliceBound, asIntOf, run_underlying hu, sizeOf, typeInfo, hj]
 intro hm
 omega
theorem rn_slto {e : TypeId} {hi : Operand} {k1 : IntKind} {i : Nat} {a : Option Addr} {len cap : Nat} (hx : ev σ x = some (.slice a len cap)) (hhi : ev σ hi = some (.int k1 (i : Int)))
   (hs : sle P T = some (e, k)) (h : i ≤ cap) : Runs P σ (.slice T x none (some hi) none) ty w (.slice a i cap) w := fun ρ _ _ _ _ hρ => by
 obtain ⟨j, hu, hj, rfl⟩ := sle_spec hs
 simp [execOp, hρ _ _ hx, hρ _ _ hhi, Instr.sliceAt, Instr.slice, Instr.sliceBounds, Instr.sliceBound, asIntOf, run_underlying hu, sizeOf, typeInfo, hj]
 cases a <;> (simp [Addr.add]; intro hm; omega)
/-- A struct that is built of its parts. -/
def plc (P : Program) (T : TypeId) : Option (List (Nat × Nat)) :=
 match P.underlying T with
 | some (.struct fs) => fs.toList.mapM fun f => (P.info? f.type).map fun j => (f.offset, j.size)
 | _ => none
def evParts (σ : Env) : List (Nat × Operand) → Option (List (Nat × Value))
 | [] => some []
 | (i, x) :: l => match ev σ x, evParts σ l with
   | some v, some vs => some ((i, v) :: vs)
   | _, _ => none
theorem evParts_spec {ρ : Operand → Value} (hρ : ∀ x v, ev σ x = some v → ρ x = v) : ∀ {l : List (Nat × Operand)} {vs : List (Nat × Value)}, evParts σ l = some vs → (l.map fun p => (p.1, ρ p.2)) = vs
 | [], _, h => by injection h with h
 | (i, x) :: l, vs, h => by
   unfold evParts at h
   cases hx : ev σ x with
   | none => rw [hx] at h; cases h
   | some v =>
     cases hl : evParts σ l with
     | none => rw [hx, hl] at h; cases h
     | some us =>
       rw [hx, hl] at h
       injection h with h
       subst h
       simp [hρ x v hx, evParts_spec hρ hl]
def cellsL : Value → List Value
 | .agg cs => cs.toList
 | v => [v]
theorem cellsL_eq (v : Value) : v.cells = (cellsL v).toArray := by cases v <;> simp [Value.cells, cellsL]
theorem cellsO_eq {v : Value} {l : List Value} (h : cellsO v = some l) : cellsL v = l := by
 cases v with
 | agg cs => exact Option.some.inj h
 | _ => exact Option.some.inj h
/-- cells put into a list -/
def putL : List Value → Nat → List Value → List Value
 | cs, _, [] => cs
 | cs, o, c :: l => putL (cs.set o c) (o + 1) l
def overO : List Value → List Value → Option (List Value)
 | cs, [] => some cs
 | [], _ :: _ => none
 | _ :: cs, v :: vs => match overO cs vs with
   | some r => some (v :: r)
   | none => none
def putO : List Value → Nat → List Value → Option (List Value)
 | cs, 0, vs => overO cs vs
 | [], _ + 1, _ => none
 | c :: cs, o + 1, vs => match putO cs o vs with
   | some r => some (c :: r)
   | none => none
theorem putL_cons (c : Value) : ∀ (vs cs : List Value) (o : Nat), putL (c :: cs) (o + 1) vs = c :: putL cs o vs
 | [], _, _ => rfl
 | v :: vs, cs, o => by rw [putL, putL, List.set_cons_succ, putL_cons c vs]
theorem overO_eq : ∀ {cs vs r : List Value}, overO cs vs = some r → putL cs 0 vs = r ∧ vs.length ≤ cs.length
 | cs, [], _, h => by unfold overO at h; injection h with h; subst h; simp [putL]
 | [], _ :: _, _, h => by cases h
 | c :: cs, v :: vs, _, h => by
   unfold overO at h
   cases hr : overO cs vs with
   | none => rw [hr] at h; cases h
   | some r =>
     rw [hr] at h
     injection h with h
     subst h
     have := overO_eq hr
     rw [putL, List.set_cons_zero, putL_cons, this.1]
     exact ⟨rfl, by simpa using this.2⟩
theorem putO_eq : ∀ {cs : List Value} {o : Nat} {vs r : List Value}, putO cs o vs = some r → putL cs o vs = r ∧ o + vs.length ≤ cs.length
 | cs, 0, vs, r, h => by unfold putO at h; simpa using overO_eq h
 | [], _ + 1, _, _, h => by cases h
 | c :: cs, o + 1, vs, _, h => by
   unfold putO at h
   cases hr : putO cs o vs with
   | none => rw [hr] at h; cases h
   | some r =>
     rw [hr] at h
     injection h with h
     subst h
     have := putO_eq hr
     rw [putL_cons, this.1]
     refine ⟨rfl, ?_⟩
     have h2 := this.2
     simp only [List.length_cons]
     omega
def fillL (pl : List (Nat × Nat)) : List Value → List (Nat × Value) → Option (List Value)
 | cs, [] => some cs
 | cs, (i, v) :: rest => match pl[i]?, cellsO v with
   | some (off, size), some vs => if Nat.beq vs.length size then (match putO cs off vs with | some cs' => fillL pl cs' rest | none => none) else none
   | _, _ => none
theorem putL_length : ∀ (vs cs : List Value) (o : Nat), (putL cs o vs).length = cs.length
 | [], _, _ => rfl
 | v :: vs, cs, o => by rw [putL, putL_length vs]; simp
theorem foldl_put : ∀ (vs : List Value) (j o : Nat) (cs : List Value), (vs.zipIdx j).foldl (fun (cs : Array Value) (p : Value × Nat) => cs.setIfInBounds (o + p.2) p.1) cs.toArray = (putL cs (o + j) vs).toArray
 | [], _, _, _ => rfl
 | v :: vs, j, o, cs => by
   rw [List.zipIdx_cons, List.foldl_cons, putL]
   have := foldl_put vs (j + 1) o (cs.set (o + j) v)
   simp only [List.setIfInBounds_toArray] at this ⊢
   rw [this, Nat.add_assoc]
theorem fill_of {pl : List (Nat × Nat)} {g : Nat → Option (Nat × Nat)} (hg : ∀ i p, pl[i]? = some p → g i = some p) : ∀ (parts : List (Nat × Value)) (cs out : List Value), fillL pl cs parts = some out → Instr.fill g cs.toArray parts = some out.toArray
 | [], cs, out, h => by unfold fillL at h; injection h with h; subst h; rfl
 | (i, v) :: rest, cs, out, h => by
   unfold fillL at h
   unfold Instr.fill
   cases hp : pl[i]? with
   | none => rw [hp] at h; cases h
   | some p =>
     obtain ⟨off, size⟩ := p
     rw [hg i _ hp]
     cases hvs : cellsO v with
     | none => rw [hp, hvs] at h; cases h
     | some vs =>
       rw [hp, hvs] at h
       simp only at h
       have hcl := cellsO_eq hvs
       split at h
       · rename_i hc
         have hc1 := Nat.eq_of_beq_eq_true hc
         cases hput : putO cs off vs with
         | none => rw [hput] at h; cases h
         | some cs' =>
           rw [hput] at h
           obtain ⟨hpu, hle⟩ := putO_eq hput
           have hsz : v.cells.size = size := by rw [cellsL_eq, hcl]; simpa using hc1
           simp only [hsz]
           rw [if_neg (by simp; omega)]
           have hz : v.cells.zipIdx.foldl (fun cs (p : Value × Nat) => cs.setIfInBounds (off + p.2) p.1) cs.toArray = cs'.toArray := by
             rw [cellsL_eq, ← Array.foldl_toList, ← hpu, ← hcl]
             have := foldl_put (cellsL v) 0 off cs
             simpa using this
           have ih := fill_of hg rest cs' out h
           rw [← hz] at ih
           exact ih
       · cases h
theorem mapM_places {fs : List Field} {pl : List (Nat × Nat)} (h : fs.mapM (fun f => (P.info? f.type).map fun j => (f.offset, j.size)) = some pl) :
   (fs.mapM fun f => (do pure (f.offset, ← sizeOf f.type) : Sem (Nat × Nat))).run P w = .ok pl w := by
 induction fs generalizing pl with
 | nil => simp at h; subst h; simp
 | cons f fs ih =>
   simp only [List.mapM_cons] at h ⊢
   cases hi : P.info? f.type with
   | none => simp [hi] at h
   | some j =>
     cases hr : fs.mapM (fun f => (P.info? f.type).map fun j => (f.offset, j.size)) with
     | none => simp [hi, hr] at h
     | some pr =>
       simp [hi, hr] at h
       subst h
       have := ih hr
       have hone : (do pure (f.offset, ← sizeOf f.type) : Sem (Nat × Nat)).run P w = .ok (f.offset, j.size) w := by simp [sizeOf, typeInfo, hi]
       rw [Sem.run_bind, hone, Result.andThen_ok, Sem.run_bind, this, Result.andThen_ok]
       rfl
theorem zer_spec {z : List Value} (h : zer P T = some z) : ∃ v, (zeroValue T).run P w = .ok v w ∧ v.cells = z.toArray := by
 unfold zer at h
 split at h
 · rename_i i hi
   cases hz : i.zero with
   | none => rw [hz] at h; cases h
   | some v => rw [hz] at h; simp at h; exact ⟨v, by simp [zeroValue, typeInfo, hi, hz], by rw [← h]⟩
 · cases h
theorem rn_build {parts : List (Nat × Operand)} {pv : List (Nat × Value)} {pl : List (Nat × Nat)} {z out : List Value} (hp : evParts σ parts = some pv) (hpl : plc P T = some pl)
   (hz : zer P T = some z) (hf : fillL pl z pv = some out) : Runs P σ (.build T parts.toArray) ty w (.agg out.toArray) w := fun ρ _ _ _ _ hρ => by
 unfold plc at hpl
 split at hpl
 · rename_i fs hu
   obtain ⟨v, hv, hvc⟩ := zer_spec (w := w) hz
   have hm := mapM_places (w := w) hpl
   have hm' : (fs.mapM fun f => (do pure (f.offset, ← sizeOf f.type) : Sem (Nat × Nat))).run P w = .ok pl.toArray w := by
     rw [← Array.toArray_toList (xs := fs), List.mapM_toArray]
     simp at hm
     simp [hm]
   have hpe := evParts_spec hρ hp
   have hfl := fill_of (g := fun i => pl[i]?) (fun i p h => h) pv z out hf
   have hpe' : (parts.toArray.map fun p => (p.1, ρ p.2)) = pv.toArray := by rw [← hpe]; simp
   simp only [execOp]
   have : (Instr.build T (parts.toArray.map fun (i, x) => (i, ρ x))).run P w = .ok (.agg out.toArray) w := by
     have e : (parts.toArray.map fun (p : Nat × Operand) => match p with | (i, x) => (i, ρ x)) = pv.toArray := hpe'
     rw [e]
     simp only [Instr.build, Sem.run_bind, hv, Result.andThen_ok, run_underlying hu, hvc]
     simp only [hm', Result.andThen_ok]
     simp [hfl]
   rw [Sem.run_bind, this]
   rfl
 · cases hpl
end
end Go.SW
namespace Go.SW
open Go.RowKit
section
variable {P : Program} {n : Nat} {Q : Post} {σ : Env} {ds : List Deferred} {w : World} {ops : Array Oper} {ty T T' : TypeId} {pos : String} {af : Array Edge} {rest : List Oper} {d b off k : Nat} {x y : Operand} {l : List Value}
theorem blk_new (w : World) (l : List Value) (T : TypeId) : Blk (w.alloc (.cells l.toArray T)) w.heap.size l T := heap_alloc_new w _
theorem ext_new (w : World) (o : Obj) : Ext w (w.alloc o) := Below.alloc (Below.refl _ _) (Nat.le_refl _) o
theorem size_new (w : World) (o : Obj) : (w.alloc o).heap.size = w.heap.size + 1 := by simp
/-- A new block: its number, the world with it. -/
def NewB (w : World) (l : List Value) (T : TypeId) (K : Nat → World → Prop) : Prop :=
 ∀ b w', Blk w' b l T → Ext w w' → w.heap.size = b → w'.heap.size = b + 1 → K b w'
theorem newB_alloc {K : Nat → World → Prop} (h : NewB w l T K) : K w.heap.size (w.alloc (.cells l.toArray T)) := h _ _ (blk_new w l T) (ext_new w _) rfl (size_new w _)
theorem rn_box {v : Value} (hx : ev σ x = some v) : Runs P σ (.box T x) ty w (.pointer (some ⟨w.heap.size, 0, none⟩)) (w.alloc (.cells (cellsL v).toArray T)) := fun ρ _ _ _ _ hρ => by
 simp [execOp, hρ _ _ hx, Instr.box, newVar, newRow, cellsL_eq]
theorem ewl_box {v : Value} (hd : Nat.blt d n = true) (hx : ev σ x = some v) (hl' : cellsO v = some l)
   (h : NewB w l T fun b w' => EWL P n ops Q rest (upd σ d (.pointer (some ⟨b, 0, none⟩))) ds w') : EWL P n ops Q (⟨some d, .box T x, ty, pos, af, none⟩ :: rest) σ ds w := by
 have hl := cellsO_eq hl'
 subst hl
 exact ewl_run hd (rn_box hx) (newB_alloc h)
theorem rn_alloc (hz : zer P T = some l) : Runs P σ (.alloc T) ty w (.pointer (some ⟨w.heap.size, 0, none⟩)) (w.alloc (.cells l.toArray T)) := fun ρ _ _ _ _ hρ => by
 obtain ⟨v, hv, hvc⟩ := zer_spec (w := w) hz
 simp [execOp, Instr.alloc, hv, newVar, newRow, hvc]
theorem ewl_alloc (hd : Nat.blt d n = true) (hz : zer P T = some l)
   (h : NewB w l T fun b w' => EWL P n ops Q rest (upd σ d (.pointer (some ⟨b, 0, none⟩))) ds w') : EWL P n ops Q (⟨some d, .alloc T, ty, pos, af, none⟩ :: rest) σ ds w :=
 ewl_run hd (rn_alloc hz) (newB_alloc h)
/-- A row of a literal. -/
theorem range_zero (m k : Nat) (z : List Value) (hz : z.length = k) (hk : 0 < k) : ((Array.range (m * k)).map fun i => z.toArray[i % z.toArray.size]!) = ((List.range (m * k)).map fun i => z.getD (i % k) default).toArray := by
 apply Array.ext'
 simp only [Array.toList_map, Array.toList_range]
 apply List.map_congr_left
 intro i _
 have h1 : i % k < k := Nat.mod_lt _ hk
 simp [hz, h1]
def zrow : Nat → List Value → List Value
 | 0, _ => []
 | m + 1, z => z ++ zrow m z
theorem zrow_eq (k : Nat) (z : List Value) (hz : z.length = k) (hk : 0 < k) : ∀ m, ((List.range (m * k)).map fun i => z.getD (i % k) default) = zrow m z
 | 0 => by simp [zrow]
 | m + 1 => by
   have ih := zrow_eq k z hz hk m
   rw [zrow, ← ih, Nat.add_mul, Nat.one_mul, Nat.add_comm, List.range_add, List.map_append, List.map_map]
   congr 1
   · apply List.ext_getElem?
     intro i
     by_cases hi : i < k
     · have : i < z.length := by omega
       simp [hi, Nat.mod_eq_of_lt hi, this]
     · simp [Nat.le_of_not_lt hi, hz]
   · apply List.map_congr_left
     intro i _
     simp [Nat.add_mod_left]
def rowPl (k : Nat) : Nat → Nat → List (Nat × Nat)
 | _, 0 => []
 | i, m + 1 => (i * k, k) :: rowPl k (i + 1) m
theorem rowPl_get (k : Nat) : ∀ (m i j : Nat), j < m → (rowPl k i m)[j]? = some ((i + j) * k, k)
 | 0, _, _, h => by omega
 | m + 1, i, 0, _ => by simp [rowPl]
 | m + 1, i, j + 1, h => by
   rw [rowPl, List.getElem?_cons_succ, rowPl_get k m (i + 1) j (by omega)]
   congr 3
   omega
theorem rowPl_len (k : Nat) : ∀ m i, (rowPl k i m).length = m
 | 0, _ => rfl
 | m + 1, i => by simp [rowPl, rowPl_len k m]
theorem fill_row {k m : Nat} (parts : List (Nat × Value)) (cs out : List Value) (h : fillL (rowPl k 0 m) cs parts = some out) : Instr.fill (fun i => some (i * k, k)) cs.toArray parts = some out.toArray :=
 fill_of (fun i p hp => by
   have hi : i < m := by
     rcases Nat.lt_or_ge i m with h' | h'
     · exact h'
     · rw [List.getElem?_eq_none (by rw [rowPl_len]; exact h')] at hp; cases hp
   rw [rowPl_get k m 0 i hi] at hp
   simpa using hp) parts cs out h
theorem rn_bs {e : TypeId} {m : Nat} {parts : List (Nat × Operand)} {pv : List (Nat × Value)} {z out : List Value} (hp : evParts σ parts = some pv) (hs : sle P T = some (e, k)) (hz : zer P e = some z)
   (hzk : Nat.beq z.length k = true) (hk : Nat.blt 0 k = true) (hm : Nat.blt 0 m = true) (hmk : Nat.ble (m * k) 16777216 = true) (hf : fillL (rowPl k 0 m) (zrow m z) pv = some out) :
   Runs P σ (.buildSlice T m parts.toArray) ty w (.slice (some ⟨w.heap.size, 0, none⟩) m m) (w.alloc (.cells out.toArray e)) := fun ρ _ _ _ _ hρ => by
 obtain ⟨j, hu, hj, rfl⟩ := sle_spec hs
 obtain ⟨v, hv, hvc⟩ := zer_spec (w := w) hz
 have hzk' := Nat.eq_of_beq_eq_true hzk
 have hk' : 0 < j.size := Nat.le_of_ble_eq_true hk
 have hm' : 0 < m := Nat.le_of_ble_eq_true hm
 have hmk' : m * j.size ≤ 16777216 := Nat.le_of_ble_eq_true hmk
 have hne : m * j.size ≠ 0 := Nat.ne_of_gt (Nat.mul_pos hm' hk')
 have hpe := evParts_spec hρ hp
 have hpe' : (parts.toArray.map fun (p : Nat × Operand) => match p with | (i, x) => (i, ρ x)) = pv.toArray := by rw [← hpe]; simp
 have hfl := fill_row pv (zrow m z) out hf
 have hsz : (sizeOf e).run P w = .ok j.size w := by simp [sizeOf, typeInfo, hj]
 have hrow : ((Array.range (m * j.size)).map fun i => z.toArray[i % z.toArray.size]!) = (zrow m z).toArray := by rw [range_zero m j.size z hzk' hk', zrow_eq j.size z hzk' hk' m]
 have : (Instr.buildSlice T m (parts.toArray.map fun (p : Nat × Operand) => match p with | (i, x) => (i, ρ x))).run P w = .ok (.slice (some ⟨w.heap.size, 0, none⟩) m m) (w.alloc (.cells out.toArray e)) := by
   rw [hpe']
   simp only [Instr.buildSlice, Sem.run_bind, run_underlying hu, Result.andThen_ok, hsz]
   rw [if_neg (by omega), if_neg hne]
   simp only [Sem.run_bind, hv, Result.andThen_ok, hvc, Sem.run_pure]
   rw [hrow]
   simp [hfl, newRow]
 simp only [execOp]
 rw [Sem.run_bind, this]
 rfl
theorem ewl_bs {e : TypeId} {m : Nat} {parts : List (Nat × Operand)} {pv : List (Nat × Value)} {z : List Value} (hd : Nat.blt d n = true) (hp : evParts σ parts = some pv) (hs : sle P T = some (e, k)) (hz : zer P e = some z)
   (hzk : Nat.beq z.length k = true) (hk : Nat.blt 0 k = true) (hm : Nat.blt 0 m = true) (hmk : Nat.ble (m * k) 16777216 = true) (hf : fillL (rowPl k 0 m) (zrow m z) pv = some l)
   (h : NewB w l e fun b w' => EWL P n ops Q rest (upd σ d (.slice (some ⟨b, 0, none⟩) m m)) ds w') : EWL P n ops Q (⟨some d, .buildSlice T m parts.toArray, ty, pos, af, none⟩ :: rest) σ ds w :=
 ewl_run hd (rn_bs hp hs hz hzk hk hm hmk hf) (newB_alloc h)
/-- A store. -/
def one1 : List Value → Bool
 | [] => true
 | v :: l => v.oneCell' && one1 l
theorem one1_spec : ∀ {l : List Value}, one1 l = true → ∀ v ∈ l, v.oneCell' = true
 | [], _, v, hv => by cases hv
 | u :: l, h, v, hv => by
   simp only [one1, Bool.and_eq_true] at h
   rcases List.mem_cons.1 hv with rfl | hv
   · exact h.1
   · exact one1_spec h.2 v hv
theorem putL_eq : ∀ (vs cs : List Value) (o : Nat), o + vs.length ≤ cs.length → putL cs o vs = cs.take o ++ vs ++ cs.drop (o + vs.length)
 | [], cs, o, _ => by simp [putL]
 | v :: vs, cs, o, h => by
   simp only [List.length_cons] at h
   rw [putL, putL_eq vs (cs.set o v) (o + 1) (by simp; omega)]
   have h1 : (cs.set o v).take (o + 1) = cs.take o ++ [v] := by
     rw [List.take_succ_eq_append_getElem (by simp; omega)]
     simp [List.take_set_of_le]
   have h2 : (cs.set o v).drop (o + 1 + vs.length) = cs.drop (o + (v :: vs).length) := by
     rw [List.drop_set_of_lt (by omega)]
     simp only [List.length_cons]
     congr 1
     omega
   rw [h1, h2]
   simp
theorem chg_setRow (w : World) (b : Nat) (cs : Array Value) : Chg b w (w.setRow b cs) := ⟨rfl, rfl, rfl, by simp [World.setRow], fun k hk => setRow_other w b k cs hk⟩
theorem rn_store {v : Value} {vs : List Value} {a : Bool} (hx : ev σ x = some (.pointer (some ⟨b, off, none⟩))) (hy : ev σ y = some v) (hv : cellsL v = vs) (hT : tinfo P T = some (a, k)) (hk : Nat.beq vs.length k = true)
   (hb : Blk w b l T') (h1 : one1 vs = true) (hf : off + vs.length ≤ l.length) : RunsU P σ (.store T x y) ty w (w.setRow b (putL l off vs).toArray) := fun ρ _ _ _ _ hρ => by
 have hk' := Nat.eq_of_beq_eq_true hk
 have hst := run_storeCells_at P b off T' vs 0 l.toArray w hb (by simpa using hf) (one1_spec h1)
 have hsz : v.cells.size = k := by rw [cellsL_eq, hv]; simpa using hk'
 have hcl : v.cells.toList = vs := by rw [cellsL_eq, hv]
 have hp : (List.take (off + 0) l.toArray.toList ++ vs ++ List.drop (off + 0 + vs.length) l.toArray.toList).toArray = (putL l off vs).toArray := by rw [putL_eq vs l off hf]; simp
 rw [hp] at hst
 simp [execOp, hρ _ _ hx, hρ _ _ hy, Instr.storeAt, Instr.sureAddr, storeVar, hsz, run_sizeOf hT, hcl, hst]
theorem ewl_store {v : Value} {vs l' : List Value} {a : Bool} (hx : ev σ x = some (.pointer (some ⟨b, off, none⟩))) (hy : ev σ y = some v) (hv : cellsO v = some vs) (hT : tinfo P T = some (a, k)) (hk : Nat.beq vs.length k = true)
   (hb : Blk w b l T') (h1 : one1 vs = true) (hf : putO l off vs = some l')
   (h : ∀ w', Blk w' b l' T' → Chg b w w' → EWL P n ops Q rest σ ds w') : EWL P n ops Q (⟨none, .store T x y, ty, pos, af, none⟩ :: rest) σ ds w := by
 obtain ⟨hpu, hle⟩ := putO_eq hf
 subst hpu
 exact ewl_runu (rn_store hx hy (cellsO_eq hv) hT hk hb h1 hle) (h _ (setRow_heap w b _ _ T' _ hb) (chg_setRow w b _))
/-! Calls. -/
def Ent (P : Program) (f : FuncId) : Prop := ∀ args w, (callFunc f args).run P w = .ok (.enter f args) w
theorem ent_of {f : FuncId} {fn : Func} (hf : P.funcs[f]? = some fn) (hn : (fn.name == "runtime.NumGoroutine") = false) (hb : fn.body.isNone = false) : Ent P f := fun args w => by
 simp only [callFunc, Sem.run_bind, run_program, Result.andThen_ok, hf, hn, hb]
 simp
theorem en_call {f : FuncId} {g : Operand} {args : List Operand} {vs : List Value} {ts : Array TypeId} (he : Ent P f) (hg : ev σ g = some (.func (.func f) #[] #[])) (ha : evAll σ args = some vs) :
   Enters P σ (.call { callee := .value g, args := args.toArray, argTypes := ts }) ty w f vs.toArray := fun ρ _ _ _ _ hρ => by
 have h := evAll_spec hρ ha
 simp [execOp, resolve, hρ _ _ hg, Deferred.ofValue, invoke, h, he vs.toArray w]
theorem pn_panic {v : Value} {t : TypeId} (hx : ev σ x = some (.iface t v)) : Pans P σ (.panic x) ty w (.iface t v) w := fun ρ _ _ _ _ hρ => by
 simp [execOp, hρ _ _ hx, Instr.panic, goPanic, Sem.run]
def ntI (P : Program) (T : TypeId) : Bool := match P.underlying T with | some (.interface _) => false | some _ => true | none => false
theorem rn_mki {v : Value} (hx : ev σ x = some v) (hi : ntI P T = true) : Runs P σ (.makeInterface T x) ty w (.iface T v) w := fun ρ _ _ _ _ hρ => by
 unfold ntI at hi
 cases hu : P.underlying T with
 | none => rw [hu] at hi; cases hi
 | some dsc =>
   rw [hu] at hi
   cases dsc <;> simp_all [execOp, Instr.makeInterface, run_underlying hu]
/-! Results that lie in memory. -/
theorem rv_cella {t : Nat} {vs : List Value} (hp : σ t = some (.pointer (some ⟨b, off, none⟩))) (hT : tinfo P T = some (true, k)) (hb : Blk w b l T') (hv : slc l off k = some vs) :
   Rv P σ w (.cell t T) (.agg vs.toArray) := fun tmps ht => by
 obtain ⟨hv, hk'⟩ := slc_spec hv
 have hc := run_loadCells_list (P := P) w ⟨b, off, none⟩ vs (fun j v hj => by
   rw [add_lit, hb.cell]
   rw [← hv] at hj
   have hlt : j < k := by
     rcases Nat.lt_or_ge j k with h | h
     · exact h
     · rw [List.getElem?_take, if_neg (by omega)] at hj; cases hj
   rwa [List.getElem?_take, if_pos hlt, List.getElem?_drop] at hj)
 rw [hk'] at hc
 have hl : (loadVar T ⟨b, off, none⟩).run P w = .ok (.agg vs.toArray) w := by simp [loadVar, run_isAgg hT, run_sizeOf hT, hc]
 simp only [rvS, ht t _ hp, asAddr]
 simp [hl]
theorem rv_cell {t : Nat} {v : Value} (hp : σ t = some (.pointer (some ⟨b, off, none⟩))) (hT : tinfo P T = some (false, k)) (hb : Blk w b l T') (hv : l[off]? = some v) : Rv P σ w (.cell t T) v := fun tmps ht => by
 have hc : w.cell? ⟨b, off, none⟩ = some v := by rw [hb.cell, hv]
 have hl : (loadVar T ⟨b, off, none⟩).run P w = .ok v w := by simp [loadVar, run_isAgg hT, run_load, hc]
 simp only [rvS, ht t _ hp, asAddr]
 simp [hl]
end
end Go.SW
namespace Go.SW
open Go.RowKit
def ordOk (ops : Array Oper) : List (Bool × Nat) → Array Bool → Bool
 | [], listed => (Region.ready .any ops listed).isEmpty
 | (true, i) :: r, listed => Region.free .any ops listed i && (Region.ready .any ops listed).contains i && ordOk ops r (listed.setIfInBounds i true)
 | (false, i) :: r, listed => (match Region.ready .any ops listed with | [j] => Nat.beq j i | _ => false) && ordOk ops r (listed.setIfInBounds i true)
def pick (l : List Oper) : List (Bool × Nat) → Option (List (Bool × Oper))
 | [] => some []
 | (f, i) :: r => match l[i]?, pick l r with
   | some o, some ol => some ((f, o) :: ol)
   | _, _ => none
def woL (P : Program) (ops : Array Oper) (Q : Exit → Act → World → Prop) (S : World → Prop) : List (Bool × Oper) → Act → World → Prop
 | [], a, w => Q .normal a w
 | (true, o) :: r, a, w => ∃ v, YieldsIf P ops S o v a ∧ woL P ops Q S r (a.put o.dst v) w
 | (false, o) :: r, a, w => wpList P ops (Exit.then (fun a' w' => S w' ∧ woL P ops Q S r a' w') Q) [o] a w
section
variable {P : Program} {n : Nat} {Q : Post} {S : World → Prop}
theorem wpOp_of_list {ops : Array Oper} {Qu : Exit → Act → World → Prop} {K : Act → World → Prop} {i : Nat} {o : Oper} {a : Act} {w : World} (hi : ops[i]? = some o)
   (hno : ∀ a w, ¬ Qu .outgrown a w) (h : wpList P ops (Exit.then K Qu) [o] a w) : wpOp P ops Qu i K a w := by
 unfold wpList at h
 unfold wpOp
 simp only [hi]
 split
 · rename_i hw
   rw [if_pos hw] at h
   rcases h with h | ⟨_, a', w', h'⟩
   · refine .inl ?_
     unfold Oper.wp at h ⊢
     generalize (execOp a.eval o).run P w = r at h ⊢
     cases r with
     | ok nx w' =>
       cases nx <;> simp only [Oper.upon, wpList, Exit.then] at h ⊢ <;> first
         | exact h
         | (refine Calls.mono h fun e w'' he => ?_
            cases e with
            | returned v => exact he
            | panicked c => exact he
            | outgrown => obtain ⟨a₁, w₁, h₁⟩ := he; exact (hno _ _ h₁).elim)
     | halt hh w' => cases hh <;> simp only [Oper.upon, Exit.then] at h ⊢ <;> exact h
   · exact (hno _ _ h').elim
 · rename_i hw
   rw [if_neg hw] at h
   exact h
/-- A panic, wherever the slots stand. -/
def PI (Q : Post) : Prop := ∀ c σ σ' ds w, Q.p c σ ds w → Q.p c σ' ds w
theorem up_put {Q : Post} {n : Nat} (hpi : PI Q) {c : List PanicEntry} {a : Act} {d : Nat} {v : Value} {w : World} (h : Q.up n (.panic c) (a.put (some d) v) w) : Q.up n (.panic c) a w := by
 obtain ⟨σ, ds, hs, hq⟩ := h
 exact ⟨e0, ds, ⟨by have := hs.size; simpa [Act.put] using this, hs.defs, fun _ _ h => by cases h⟩, hpi _ _ _ _ _ hq⟩
theorem wo_sound {l : List Oper} (hs : Region.noSelect l.toArray = true) (hpi : PI Q) : ∀ (ord : List (Bool × Nat)) (ol : List (Bool × Oper)) (listed : Array Bool) (a : Act) (w : World), pick l ord = some ol →
   ordOk l.toArray ord listed = true → S w → woL P l.toArray (Q.up n) S ol a w → wpAnyH P .any l.toArray (Q.up n) S ord.length listed a w
 | [], ol, listed, a, w, hp, ho, hS, h => by
   injection hp with hp
   subst hp
   exact wpAnyH_done (by simpa [ordOk] using ho) h 0
 | (f, i) :: ord, ol, listed, a, w, hp, ho, hS, h => by
   unfold pick at hp
   cases hi : l[i]? with
   | none => rw [hi] at hp; cases hp
   | some o =>
     cases hr : pick l ord with
     | none => rw [hi, hr] at hp; cases hp
     | some r =>
       rw [hi, hr] at hp
       injection hp with hp
       subst hp
       have hi' : l.toArray[i]? = some o := by simpa using hi
       cases f with
       | true =>
         simp only [ordOk, Bool.and_eq_true] at ho
         obtain ⟨v, hy, h'⟩ := h
         exact wpAnyH_take hi' hs ho.1.1 ho.1.2 (fun c a w hq => by
           cases hd : o.dst with
           | none => rw [hd] at hq; exact hq
           | some d => rw [hd] at hq; exact up_put hpi hq) hy hS (wo_sound hs hpi ord r _ _ w hr ho.2 hS h')
       | false =>
         simp only [ordOk, Bool.and_eq_true] at ho
         have hrd : Region.ready .any l.toArray listed = [i] := by
           have h1 := ho.1
           split at h1
           · rename_i j hj; rw [hj, Nat.eq_of_beq_eq_true h1]
           · cases h1
         refine wpAnyH_all hrd (by simp) fun j hj => ?_
         rw [List.mem_singleton] at hj
         subst hj
         exact wpOp_mono (fun a' w' hk => ⟨hk.1, wo_sound hs hpi ord r _ a' w' hr ho.2 hk.1 hk.2⟩) (wpOp_of_list hi' (fun _ _ h => h) h)
def EWO (P : Program) (n : Nat) (ops : Array Oper) (Q : Post) (S : World → Prop) (ol : List (Bool × Oper)) (σ : Env) (ds : List Deferred) (w : World) : Prop :=
 ∀ a, St n σ ds a → woL P ops (Q.up n) S ol a w
variable {σ : Env} {ds : List Deferred} {w : World} {ops : Array Oper} {op : Op} {ty : TypeId} {pos : String} {af : Array Edge} {r : List (Bool × Oper)} {d : Nat}
/-- The region; S: what stays true of the world all the way (what the readers lean on). -/
theorem ewp_draw {i : Nat} {l : List Oper} (hm : P.follows .mixedOrders = true) (S : World → Prop) (ord : List (Bool × Nat)) {ol : List (Bool × Oper)} (hok : ordOk l.toArray ord (Array.replicate l.length false) = true)
   (hsel : Region.noSelect l.toArray = true) (hlen : Nat.beq ord.length l.length = true) (hp : pick l ord = some ol)
   (h : ∀ w', Ext w w' → w'.heap.size = w.heap.size → S w' ∧ EWO P n l.toArray Q S ol σ ds w') (hpi : PI Q := by exact fun _ _ _ _ _ h => h) : EWP P n (.region i l.toArray true) Q σ ds w := fun a ha => by
 refine wp_region_held (S := S) hm ?_
 obtain ⟨hS, hk⟩ := h w.drew Ext.drew rfl
 have := wo_sound (P := P) (n := n) (Q := Q) hsel hpi ord ol (Array.replicate l.length false) a w.drew hp hok hS (hk a ha)
 rw [Nat.eq_of_beq_eq_true hlen] at this
 simpa using this
theorem ewo_nil (h : Q.q .normal σ ds w) : EWO P n ops Q S [] σ ds w := fun _ ha => ⟨σ, ds, ha, h⟩
theorem ewo_rd {v : Value} (hd : Nat.blt d n = true) (hr : ∀ w, S w → Runs P σ op ty w v w) (h : EWO P n ops Q S r (upd σ d v) ds w) :
   EWO P n ops Q S ((true, ⟨some d, op, ty, pos, af, none⟩) :: r) σ ds w := fun a ha =>
 ⟨v, .inl ⟨by simp [Region.wanted], fun w hS => hr w hS a.eval _ _ _ _ ha.ev⟩, h _ (ha.put hd v)⟩
theorem ewo_rdg {v : Value} {j dj : Nat} {want b : Bool} (hd : Nat.blt d n = true) (hj : (ops[j]?).bind (·.dst) = some dj) (hv : σ dj = some (.bool b)) (hb : b = want) (hr : ∀ w, S w → Runs P σ op ty w v w)
   (h : EWO P n ops Q S r (upd σ d v) ds w) : EWO P n ops Q S ((true, ⟨some d, op, ty, pos, af, some (j, want)⟩) :: r) σ ds w := fun a ha =>
 ⟨v, .inl ⟨by rw [wanted_of ha hj hv, hb]; simp, fun w hS => hr w hS a.eval _ _ _ _ ha.ev⟩, h _ (ha.put hd v)⟩
theorem ewo_rdo {j dj : Nat} {want b : Bool} (hd : Nat.blt d n = true) (hj : (ops[j]?).bind (·.dst) = some dj) (hv : σ dj = some (.bool b)) (hb : b = !want)
   (h : EWO P n ops Q S r (upd σ d undef) ds w) : EWO P n ops Q S ((true, ⟨some d, op, ty, pos, af, some (j, want)⟩) :: r) σ ds w := fun a ha =>
 ⟨undef, .inr ⟨by rw [wanted_of ha hj hv, hb]; cases want <;> simp, rfl⟩, h _ (ha.put hd undef)⟩
theorem ewo_split (dj : Nat) {b : Bool} {l : List (Bool × Oper)} (hv : σ dj = some (.bool b)) (ht : b = true → EWO P n ops Q S l σ ds w) (hf : b = false → EWO P n ops Q S l σ ds w) : EWO P n ops Q S l σ ds w := by
 have _ := hv
 cases hb : b with
 | true => exact ht hb
 | false => exact hf hb
/-- Blocks that stay as they are. -/
def Keeps (w : World) (bs : List Nat) (w' : World) : Prop := ∀ b, b ∈ bs → b < w'.heap.size ∧ w'.heap[b]? = w.heap[b]?
theorem Keeps.nil (w w' : World) : Keeps w [] w' := fun _ h => by cases h
theorem Keeps.cons {w w' : World} {b : Nat} {l : List Value} {T : TypeId} {bs : List Nat} (hb : Blk w b l T) (hE : Ext w w') (h : Keeps w bs w') : Keeps w (b :: bs) w' := fun c hc => by
 rcases List.mem_cons.1 hc with rfl | hc
 · exact ⟨Nat.lt_of_lt_of_le hb.lt hE.size, hE.block _ hb.lt⟩
 · exact h c hc
theorem Keeps.ext {w w' w2 : World} {bs : List Nat} (h : Keeps w bs w') (hE : Ext w' w2) : Keeps w bs w2 := fun c hc => ⟨Nat.lt_of_lt_of_le (h c hc).1 hE.size, (hE.block c (h c hc).1).trans (h c hc).2⟩
theorem Keeps.chg {w w' w2 : World} {bs : List Nat} {b : Nat} (h : Keeps w bs w') (hC : Chg b w' w2) (hn : ∀ c, c ∈ bs → c ≠ b) : Keeps w bs w2 :=
 fun c hc => ⟨by rw [hC.size]; exact (h c hc).1, (hC.block c (hn c hc)).trans (h c hc).2⟩
theorem Blk.keep {w w' : World} {b : Nat} {l : List Value} {T : TypeId} {bs : List Nat} (hb : Blk w b l T) (h : Keeps w bs w') (hm : b ∈ bs) : Blk w' b l T := (h b hm).2.trans hb
def onw (P : Program) (n : Nat) (ops : Array Oper) (Q : Post) (S : World → Prop) (r : List (Bool × Oper)) : Post :=
 { q := fun e σ ds w => match e with | .normal => S w ∧ EWO P n ops Q S r σ ds w | e => Q.q e σ ds w, p := Q.p }
theorem ewo_sp {o : Oper} (h : EWL P n ops (onw P n ops Q S r) [o] σ ds w) : EWO P n ops Q S ((false, o) :: r) σ ds w := fun a ha => by
 have h1 := h a ha
 show wpList P ops (Exit.then (fun a' w' => S w' ∧ woL P ops (Q.up n) S r a' w') (Q.up n)) [o] a w
 unfold wpList at h1 ⊢
 split
 · rename_i hw
   rw [if_pos hw] at h1
   rcases h1 with h1 | ⟨_, a', w', h'⟩
   · refine .inl ?_
     unfold Oper.wp at h1 ⊢
     generalize (execOp a.eval o).run P w = rr at h1 ⊢
     have key : ∀ a' w', wpList P ops ((onw P n ops Q S r).up n) [] a' w' → wpList P ops (Exit.then (fun a' w' => S w' ∧ woL P ops (Q.up n) S r a' w') (Q.up n)) [] a' w' := fun a' w' hk => by
       obtain ⟨σ', ds', hs', hq⟩ := hk
       exact ⟨hq.1, hq.2 a' hs'⟩
     cases rr with
     | ok nx w' =>
       cases nx <;> simp only [Oper.upon] at h1 ⊢ <;> first
         | exact key _ _ h1
         | (refine Calls.mono h1 fun e w'' he => ?_
            cases e with
            | returned v => exact key _ _ he
            | panicked c => exact he
            | outgrown => obtain ⟨a₁, w₁, h₁⟩ := he; exact h₁.elim)
         | exact Rows.mono h1 fun v w'' he => key _ _ he
     | halt hh w' => cases hh <;> simp only [Oper.upon] at h1 ⊢ <;> exact h1
   · exact h'.elim
 · rename_i hw
   rw [if_neg hw] at h1
   obtain ⟨σ', ds', hs', hq⟩ := h1
   exact ⟨hq.1, hq.2 _ hs'⟩
theorem onw_n (hS : S w) (h : EWO P n ops Q S r σ ds w) : (onw P n ops Q S r).q .normal σ ds w := ⟨hS, h⟩
end
end Go.SW
namespace Go.SW
open Go.RowKit
/-- fin: all have come up; rd: a reader is taken; br: an operation comes up, then k; or one of the others. -/
inductive OT where
 | fin
 | rd (i : Nat) (k : OT)
 | br (i : Nat) (k o : OT)
def OT.alts : OT → List Nat
 | .br i _ o => i :: o.alts
 | _ => []
def OT.ok (ops : Array Oper) : Bool → OT → Array Bool → Bool
 | top, .fin, listed => !top || (Region.ready .any ops listed).isEmpty
 | top, .rd i k, listed => top && Region.free .any ops listed i && (Region.ready .any ops listed).contains i && k.ok ops true (listed.setIfInBounds i true)
 | top, .br i k o, listed => (!top || Region.ready .any ops listed == i :: o.alts) && k.ok ops true (listed.setIfInBounds i true) && o.ok ops false listed
def OT.depth : OT → Nat
 | .fin => 0
 | .rd _ k => k.depth + 1
 | .br _ k _ => k.depth + 1
/-- All ways are equally long. -/
def OT.even : Bool → Nat → OT → Bool
 | top, n, .fin => !top || n == 0
 | _, 0, _ => false
 | _, n + 1, .rd _ k => k.even true n
 | _, n + 1, .br _ k o => k.even true n && o.even false (n + 1)
def woT (P : Program) (l : List Oper) (Q : Exit → Act → World → Prop) (S : World → Prop) : Bool → OT → Act → World → Prop
 | top, .fin, a, w => top = true → Q .normal a w
 | _, .rd i k, a, w => ∃ o v, l[i]? = some o ∧ YieldsIf P l.toArray S o v a ∧ woT P l Q S true k (a.put o.dst v) w
 | _, .br i k o', a, w => (∃ o, l[i]? = some o ∧ wpList P l.toArray (Exit.then (fun a' w' => S w' ∧ woT P l Q S true k a' w') Q) [o] a w) ∧ woT P l Q S false o' a w
section
variable {P : Program} {n : Nat} {Q : Post} {S : World → Prop} {l : List Oper}
theorem OT.alts_mem : ∀ (t : OT) (ops : Array Oper) (listed : Array Bool) (m : Nat) (j : Nat), t.ok ops false listed = true → t.even false m = true → j ∈ t.alts → ∃ k, k.ok ops true (listed.setIfInBounds j true) = true ∧ (∃ m', m = m' + 1 ∧ k.even true m' = true) ∧
   ∀ (P : Program) (l : List Oper) (Qu : Exit → Act → World → Prop) (S : World → Prop) (a : Act) (w : World), woT P l Qu S false t a w → ∃ o, l[j]? = some o ∧ wpList P l.toArray (Exit.then (fun a' w' => S w' ∧ woT P l Qu S true k a' w') Qu) [o] a w
 | .fin, _, _, _, _, _, _, h => by cases h
 | .rd _ _, _, _, _, _, _, _, h => by cases h
 | .br i k o, ops, listed, m, j, hok, hev, hj => by
   simp only [OT.ok, Bool.and_eq_true] at hok
   cases m with
   | zero => simp [OT.even] at hev
   | succ m =>
     simp only [OT.even, Bool.and_eq_true] at hev
     simp only [OT.alts, List.mem_cons] at hj
     rcases hj with rfl | hj
     · exact ⟨k, hok.1.2, ⟨m, rfl, hev.1⟩, fun P l Qu S a w h => h.1⟩
     · obtain ⟨k', h1, h2, h3⟩ := OT.alts_mem o ops listed (m + 1) j hok.2 hev.2 hj
       exact ⟨k', h1, h2, fun P l Qu S a w h => h3 P l Qu S a w h.2⟩
theorem wot_sound (hs : Region.noSelect l.toArray = true) (hpi : PI Q) : ∀ (m : Nat) (t : OT) (listed : Array Bool) (a : Act) (w : World), t.even true m = true → t.ok l.toArray true listed = true → S w → woT P l (Q.up n) S true t a w → wpAnyH P .any l.toArray (Q.up n) S m listed a w
 | m, .fin, listed, a, w, hev, ho, hS, h => by
   simp [OT.even] at hev
   subst hev
   exact wpAnyH_done (by simpa [OT.ok] using ho) (h rfl) 0
 | 0, .rd _ _, _, _, _, hev, _, _, _ => by simp [OT.even] at hev
 | 0, .br _ _ _, _, _, _, hev, _, _, _ => by simp [OT.even] at hev
 | m + 1, .rd i k, listed, a, w, hev, ho, hS, h => by
   simp only [OT.ok, Bool.and_eq_true, Bool.true_and] at ho
   obtain ⟨o, v, hi, hy, h'⟩ := h
   exact wpAnyH_take (by simpa using hi) hs ho.1.1 ho.1.2 (fun c a w hq => by
     cases hd : o.dst with
     | none => rw [hd] at hq; exact hq
     | some d => rw [hd] at hq; exact up_put hpi hq) hy hS (wot_sound hs hpi m k _ _ w hev ho.2 hS h')
 | m + 1, .br i k o, listed, a, w, hev, ho, hS, h => by
   have hok' : (OT.br i k o).ok l.toArray false listed = true := by
     simp only [OT.ok, Bool.and_eq_true] at ho ⊢
     exact ⟨⟨rfl, ho.1.2⟩, ho.2⟩
   have hev' : (OT.br i k o).even false (m + 1) = true := hev
   have hrd : Region.ready .any l.toArray listed = (OT.br i k o).alts := by
     simp only [OT.ok, Bool.and_eq_true, Bool.not_true, Bool.false_or, beq_iff_eq] at ho
     exact ho.1.1
   have hw' : woT P l (Q.up n) S false (.br i k o) a w := h
   refine wpAnyH_all hrd (by simp [OT.alts]) fun j hj => ?_
   obtain ⟨k', h1, ⟨m', hm, h2⟩, h3⟩ := OT.alts_mem (.br i k o) l.toArray listed (m + 1) j hok' hev' hj
   obtain rfl : m = m' := by omega
   obtain ⟨op, hop, hwl⟩ := h3 P l (Q.up n) S a w hw'
   exact wpOp_mono (fun a' w' hk => ⟨hk.1, wot_sound hs hpi m k' _ a' w' h2 h1 hk.1 hk.2⟩) (wpOp_of_list (by simpa using hop) (fun _ _ h => h) hwl)
def EWT (P : Program) (n : Nat) (l : List Oper) (Q : Post) (S : World → Prop) (top : Bool) (t : OT) (σ : Env) (ds : List Deferred) (w : World) : Prop :=
 ∀ a, St n σ ds a → woT P l (Q.up n) S top t a w
variable {σ : Env} {ds : List Deferred} {w : World} {op : Op} {ty : TypeId} {pos : String} {af : Array Edge} {d i : Nat} {k o : OT} {top : Bool}
theorem ewp_drawt {id : Nat} (hm : P.follows .mixedOrders = true) (S : World → Prop) (t : OT) (hok : t.ok l.toArray true (Array.replicate l.length false) = true) (hev : t.even true l.length = true) (hsel : Region.noSelect l.toArray = true)
   (h : ∀ w', Ext w w' → w'.heap.size = w.heap.size → S w' ∧ EWT P n l Q S true t σ ds w') (hpi : PI Q := by exact fun _ _ _ _ _ h => h) : EWP P n (.region id l.toArray true) Q σ ds w := fun a ha => by
 refine wp_region_held (S := S) hm ?_
 obtain ⟨hS, hk⟩ := h w.drew Ext.drew rfl
 have := wot_sound (P := P) (n := n) (Q := Q) hsel hpi l.length t (Array.replicate l.length false) a w.drew hev hok hS (hk a ha)
 simpa using this
theorem ewt_fin (h : Q.q .normal σ ds w) : EWT P n l Q S true .fin σ ds w := fun _ ha _ => ⟨σ, ds, ha, h⟩
theorem ewt_none : EWT P n l Q S false .fin σ ds w := fun _ _ h => by cases h
theorem ewt_rd {v : Value} (hi : l[i]? = some ⟨some d, op, ty, pos, af, none⟩) (hd : Nat.blt d n = true) (hr : ∀ w, S w → Runs P σ op ty w v w) (h : EWT P n l Q S true k (upd σ d v) ds w) : EWT P n l Q S top (.rd i k) σ ds w := fun a ha =>
 ⟨_, v, hi, .inl ⟨by simp [Region.wanted], fun w hS => hr w hS a.eval _ _ _ _ ha.ev⟩, h _ (ha.put hd v)⟩
theorem ewt_rdg {v : Value} {j dj : Nat} {want b : Bool} (hi : l[i]? = some ⟨some d, op, ty, pos, af, some (j, want)⟩) (hd : Nat.blt d n = true) (hj : (l.toArray[j]?).bind (·.dst) = some dj) (hv : σ dj = some (.bool b)) (hb : b = want) (hr : ∀ w, S w → Runs P σ op ty w v w)
   (h : EWT P n l Q S true k (upd σ d v) ds w) : EWT P n l Q S top (.rd i k) σ ds w := fun a ha =>
 ⟨_, v, hi, .inl ⟨by rw [wanted_of ha hj hv, hb]; simp, fun w hS => hr w hS a.eval _ _ _ _ ha.ev⟩, h _ (ha.put hd v)⟩
theorem ewt_rdo {j dj : Nat} {want b : Bool} (hi : l[i]? = some ⟨some d, op, ty, pos, af, some (j, want)⟩) (hd : Nat.blt d n = true) (hj : (l.toArray[j]?).bind (·.dst) = some dj) (hv : σ dj = some (.bool b)) (hb : b = !want)
   (h : EWT P n l Q S true k (upd σ d undef) ds w) : EWT P n l Q S top (.rd i k) σ ds w := fun a ha =>
 ⟨_, undef, hi, .inr ⟨by rw [wanted_of ha hj hv, hb]; cases want <;> simp, rfl⟩, h _ (ha.put hd undef)⟩
def onwt (P : Program) (n : Nat) (l : List Oper) (Q : Post) (S : World → Prop) (k : OT) : Post :=
 { q := fun e σ ds w => match e with | .normal => S w ∧ EWT P n l Q S true k σ ds w | e => Q.q e σ ds w, p := Q.p }
theorem onwt_n (hS : S w) (h : EWT P n l Q S true k σ ds w) : (onwt P n l Q S k).q .normal σ ds w := ⟨hS, h⟩
theorem ewt_br {x : Oper} (hi : l[i]? = some x) (h : EWL P n l.toArray (onwt P n l Q S k) [x] σ ds w) (h2 : EWT P n l Q S false o σ ds w) : EWT P n l Q S top (.br i k o) σ ds w := fun a ha => by
 refine ⟨⟨x, hi, ?_⟩, h2 a ha⟩
 have h1 := h a ha
 unfold wpList at h1 ⊢
 split
 · rename_i hw
   rw [if_pos hw] at h1
   rcases h1 with h1 | ⟨_, a', w', h'⟩
   · refine .inl ?_
     unfold Oper.wp at h1 ⊢
     generalize (execOp a.eval x).run P w = rr at h1 ⊢
     have key : ∀ a' w', wpList P l.toArray ((onwt P n l Q S k).up n) [] a' w' → wpList P l.toArray (Exit.then (fun a' w' => S w' ∧ woT P l (Q.up n) S true k a' w') (Q.up n)) [] a' w' := fun a' w' hk => by
       obtain ⟨σ', ds', hs', hq⟩ := hk
       exact ⟨hq.1, hq.2 a' hs'⟩
     cases rr with
     | ok nx w' =>
       cases nx <;> simp only [Oper.upon] at h1 ⊢ <;> first
         | exact key _ _ h1
         | (refine Calls.mono h1 fun e w'' he => ?_
            cases e with
            | returned v => exact key _ _ he
            | panicked c => exact he
            | outgrown => obtain ⟨a₁, w₁, h₁⟩ := he; exact h₁.elim)
         | exact Rows.mono h1 fun v w'' he => key _ _ he
     | halt hh w' => cases hh <;> simp only [Oper.upon] at h1 ⊢ <;> exact h1
   · exact h'.elim
 · rename_i hw
   rw [if_neg hw] at h1
   obtain ⟨σ', ds', hs', hq⟩ := h1
   exact ⟨hq.1, hq.2 _ hs'⟩
theorem ewt_split (dj : Nat) {b : Bool} {t : OT} (hv : σ dj = some (.bool b)) (ht : b = true → EWT P n l Q S top t σ ds w) (hf : b = false → EWT P n l Q S top t σ ds w) : EWT P n l Q S top t σ ds w := by
 have _ := hv
 cases hb : b with
 | true => exact ht hb
 | false => exact hf hb
end
end Go.SW
namespace Go.SW
open Go.RowKit
/-- '.slice a n c' has the cells xs at the head of a block of its own (or is nil). -/
def Row (w : World) (e : TypeId) (size : Nat) (a : Option Addr) (c n : Nat) (xs : List Value) : Prop :=
 xs.length = n * size ∧ ((a = none ∧ c = 0 ∧ n = 0) ∨ ∃ b l, a = some ⟨b, 0, none⟩ ∧ Blk w b l e ∧ n ≤ c ∧ c ≤ maxLen ∧ l.length = c * size ∧ l.take (n * size) = xs)
def rb (a : Option Addr) : Option Nat := a.map (·.block)
theorem row_nil (w : World) (e : TypeId) (size : Nat) : Row w e size none 0 0 [] := ⟨by simp, .inl ⟨rfl, rfl, rfl⟩⟩
/-- Only the block of one row may have changed; that row may lie in a new block. -/
structure Grow (a : Option Addr) (w : World) (a' : Option Addr) (w' : World) : Prop where
 os : w'.os = w.os
 tape : w'.tape = w.tape
 output : w'.output = w.output
 size : w.heap.size ≤ w'.heap.size
 block : ∀ k, k < w.heap.size → some k ≠ rb a → w'.heap[k]? = w.heap[k]?
 own : rb a' = rb a ∨ rb a' = some w.heap.size
theorem Row.ext {w w' : World} {e : TypeId} {size : Nat} {a : Option Addr} {c n : Nat} {xs : List Value} (h : Row w e size a c n xs) (hE : Ext w w') : Row w' e size a c n xs :=
 ⟨h.1, h.2.imp id fun ⟨b, l, h1, h2, h3⟩ => ⟨b, l, h1, h2.ext hE, h3⟩⟩
theorem Row.chg {w w' : World} {e : TypeId} {size b : Nat} {a : Option Addr} {c n : Nat} {xs : List Value} (h : Row w e size a c n xs) (hC : Chg b w w') (hne : rb a ≠ some b) : Row w' e size a c n xs :=
 ⟨h.1, h.2.imp id fun ⟨g, l, h1, h2, h3⟩ => ⟨g, l, h1, h2.chg hC (fun e => hne (by rw [h1, ← e]; rfl)), h3⟩⟩
theorem Blk.grow {w w' : World} {b : Nat} {l : List Value} {T : TypeId} {a a' : Option Addr} (h : Blk w b l T) (hG : Grow a w a' w') (hne : some b ≠ rb a) : Blk w' b l T := (hG.block b h.lt hne).trans h
theorem Row.grow {w w' : World} {e : TypeId} {size : Nat} {a : Option Addr} {c n : Nat} {xs : List Value} {q q' : Option Addr} (h : Row w e size a c n xs) (hG : Grow q w q' w') (hne : rb a = none ∨ rb a ≠ rb q) : Row w' e size a c n xs :=
 ⟨h.1, h.2.imp id fun ⟨g, l, h1, h2, h3⟩ => ⟨g, l, h1, h2.grow hG (fun e => by
   rcases hne with hn | hn
   · rw [h1] at hn; cases hn
   · exact hn (by rw [h1]; exact e)), h3⟩⟩
theorem Ext.grow {w w1 w2 : World} {a a' : Option Addr} (h : Ext w w1) (hG : Grow a w1 a' w2) (hb : ∀ b, rb a = some b → w.heap.size ≤ b) : Ext w w2 :=
 ⟨hG.os.trans h.os, hG.tape.trans h.tape, hG.output.trans h.output, Nat.le_trans h.size hG.size, fun k hk => (hG.block k (Nat.lt_of_lt_of_le hk h.size) (fun e => by have := hb k e.symm; omega)).trans (h.block k hk)⟩
theorem Row.lt {w : World} {e : TypeId} {size : Nat} {a : Option Addr} {c n b : Nat} {xs : List Value} (h : Row w e size a c n xs) (hb : rb a = some b) : b < w.heap.size := by
 rcases h.2 with ⟨h1, _⟩ | ⟨g, l, h1, h2, _⟩
 · rw [h1] at hb; cases hb
 · rw [h1] at hb; cases hb; exact h2.lt
theorem Row.n_le {w : World} {e : TypeId} {size : Nat} {a : Option Addr} {c n : Nat} {xs : List Value} (h : Row w e size a c n xs) : n ≤ c := by
 rcases h.2 with ⟨_, h1, h2⟩ | ⟨g, l, h1, h2, h3, _⟩ <;> omega
section
variable {P : Program} {n : Nat} {Q : Post} {σ : Env} {ds : List Deferred} {w : World} {ops : Array Oper} {ty T : TypeId} {pos : String} {af : Array Edge} {rest : List Oper} {d : Nat} {x y : Operand}
/-- What append wants to know of a type. -/
def apI (P : Program) (T : TypeId) : Option (TypeId × Nat × Nat × List Value) :=
 match P.underlying T with
 | some (.slice e) => match P.info? e with
   | some i => match i.zero with
     | some z => some (e, i.size, i.bytes, z.cells.toList)
     | none => none
   | none => none
 | _ => none
theorem rn_app {e : TypeId} {size bytes : Nat} {zl : List Value} (hT : apI P T = some (e, size, bytes, zl)) (hzl : Nat.beq zl.length size = true) (hsz : Nat.blt 0 size = true) {a : Option Addr} {c k m cs src off : Nat} {xs sl news : List Value} {Ts : TypeId}
   (hs : ev σ x = some (.slice a k c)) (hx : ev σ y = some (.slice (some ⟨src, off, none⟩) m cs)) (hrow : Row w e size a c k xs) (hsrc : Blk w src sl Ts) (hnews : (sl.drop off).take (m * size) = news) (hl : news.length = m * size)
   (h1 : ∀ v ∈ news, v.oneCell' = true) (hm : 0 < m) (h47 : (k + m) * bytes ≤ 140737488355328) (h63 : k + m ≤ 9223372036854775807) :
   ∃ a' c' w', Runs P σ (.call { callee := .builtin .append, args := #[x, y], argTypes := #[T, T] }) ty w (.slice a' (k + m) c') w' ∧ Row w' e size a' c' (k + m) (xs ++ news) ∧ Grow a w a' w' := by
 unfold apI at hT
 split at hT
 · rename_i e' hu
   split at hT
   · rename_i i hi
     split at hT
     · rename_i z hz
       injection hT with hT
       obtain ⟨rfl, rfl, rfl, rfl⟩ := by simpa using hT
       have hzl' : z.cells.size = i.size := by have := Nat.eq_of_beq_eq_true hzl; simpa using this
       have hsz' : 0 < i.size := Nat.le_of_ble_eq_true hsz
       have hnews' : ∀ j u, news[j]? = some u → w.cell? ((⟨src, off, none⟩ : Addr).add j) = some u := fun j u hj => by
         rw [add_lit, hsrc.cell]
         rw [← hnews] at hj
         have hlt : j < m * i.size := by
           rcases Nat.lt_or_ge j (m * i.size) with h | h
           · exact h
           · rw [List.getElem?_take, if_neg (by omega)] at hj; cases hj
         rwa [List.getElem?_take, if_pos hlt, List.getElem?_drop] at hj
       have hlen : (xs ++ news).length = (k + m) * i.size := by rw [List.length_append, hrow.1, hl, Nat.add_mul]
       have grown : ∀ old : Nat, Row (w.drew.alloc (.cells (xs.toArray ++ news.toArray ++ Builtin.zeroCells z.cells (grownCap w (k + m) old e' - (k + m))) e')) e' i.size (some ⟨w.heap.size, 0, none⟩) (grownCap w (k + m) old e') (k + m) (xs ++ news) ∧
           Grow a w (some ⟨w.heap.size, 0, none⟩) (w.drew.alloc (.cells (xs.toArray ++ news.toArray ++ Builtin.zeroCells z.cells (grownCap w (k + m) old e' - (k + m))) e')) := by
         intro old
         have hge := grownCap_ge w (k + m) old e'
         have hcm : grownCap w (k + m) old e' ≤ maxLen := grownCap_le_maxLen w (k + m) old e' (by unfold maxLen; omega)
         refine ⟨⟨hlen, .inr ⟨w.heap.size, xs ++ news ++ (Builtin.zeroCells z.cells (grownCap w (k + m) old e' - (k + m))).toList, rfl, ?_, hge, hcm, ?_, ?_⟩⟩, ⟨rfl, rfl, rfl, by simp, fun j hj _ => Below.heap_alloc w.drew _ j hj, .inr rfl⟩⟩
         · have := heap_alloc_new w.drew (.cells (xs.toArray ++ news.toArray ++ Builtin.zeroCells z.cells (grownCap w (k + m) old e' - (k + m))) e')
           unfold Blk
           have e2 : (xs ++ news ++ (Builtin.zeroCells z.cells (grownCap w (k + m) old e' - (k + m))).toList).toArray = xs.toArray ++ news.toArray ++ Builtin.zeroCells z.cells (grownCap w (k + m) old e' - (k + m)) := by
             apply Array.ext'
             simp
           rw [e2]
           exact this
         · simp only [List.length_append, Array.length_toList, size_zeroCells, hzl', hrow.1, hl, ← Nat.add_mul]
           congr 1
           omega
         · rw [← hlen]; exact List.take_left
       have hexec : ∀ (v' : Value) (w' : World), (Builtin.append_ #[T, T] ty #[.slice a k c, .slice (some ⟨src, off, none⟩) m cs]).run P w = .ok v' w' →
           Runs P σ (.call { callee := .builtin .append, args := #[x, y], argTypes := #[T, T] }) ty w v' w' := fun v' w' hr ρ _ _ _ _ hρ => by
         simp only [execOp, resolve, invoke, builtin, Sem.run_bind, Sem.run_pure, Result.andThen_ok, List.map_toArray, List.map_cons, List.map_nil, hρ _ _ hs, hρ _ _ hx, hr]
       rcases hrow.2 with ⟨rfl, rfl, rfl⟩ | ⟨g, l, rfl, hg, hnc, hcm, hcs, htake⟩
       · have hxs : xs = [] := List.eq_nil_of_length_eq_zero (by simpa using hrow.1)
         subst hxs
         have hr := run_append_nil (P := P) w T ty e' i z hu hi hz ⟨src, off, none⟩ m cs news hl hnews' hm (by omega) (by have hb := h47; simp only [Nat.zero_add] at hb; omega)
         have hgr := grown 0
         simp only [Nat.zero_add, List.nil_append, Array.empty_append] at hgr ⊢
         exact ⟨_, _, _, hexec _ _ hr, hgr.1, hgr.2⟩
       · by_cases hroom : k + m ≤ c
         · have hfit : k * i.size + news.length ≤ l.toArray.size := by rw [hl, List.size_toArray, hcs, ← Nat.add_mul]; exact Nat.mul_le_mul_right _ hroom
           have hr := run_append_room (P := P) w T ty e' i hu hi g k c l.toArray hg ⟨src, off, none⟩ m cs news hl hnews' h1 hroom hfit
           refine ⟨some ⟨g, 0, none⟩, c, _, hexec _ _ hr, ⟨hlen, .inr ⟨g, l.take (k * i.size) ++ news ++ l.drop (k * i.size + news.length), rfl, setRow_heap w g _ _ e' _ hg, hroom, hcm, ?_, ?_⟩⟩,
             ⟨rfl, rfl, rfl, by simp [World.setRow], fun j _ hj => setRow_other w g j _ (fun e => hj (by rw [e]; rfl)), .inl rfl⟩⟩
           · simp only [List.size_toArray] at hfit
             simp only [List.length_append, List.length_take, List.length_drop]
             omega
           · rw [htake, ← hlen]; exact List.take_left
         · have holds : ∀ j u, xs[j]? = some u → w.cell? ((⟨g, 0, none⟩ : Addr).add j) = some u := fun j u hj => by
             rw [add_lit, hg.cell, Nat.zero_add]
             rw [← htake] at hj
             have hlt : j < k * i.size := by
               rcases Nat.lt_or_ge j (k * i.size) with h | h
               · exact h
               · rw [List.getElem?_take, if_neg (by omega)] at hj; cases hj
             rwa [List.getElem?_take, if_pos hlt] at hj
           have hr := run_append_grow (P := P) w T ty e' i z hu hi hz ⟨g, 0, none⟩ k c xs hrow.1 holds ⟨src, off, none⟩ m cs news hl hnews' (by omega) (by omega) (growslice_fits (by omega) h47)
           have hgr := grown c
           exact ⟨_, _, _, hexec _ _ hr, hgr.1, hgr.2⟩
     · cases hT
   · cases hT
 · cases hT
theorem ewl_app {e : TypeId} {size bytes : Nat} {zl : List Value} (hd : Nat.blt d n = true) (hT : apI P T = some (e, size, bytes, zl)) (hzl : Nat.beq zl.length size = true) (hsz : Nat.blt 0 size = true) {a : Option Addr} {c k m cs src off : Nat} {xs sl news : List Value} {Ts : TypeId}
   (hs : ev σ x = some (.slice a k c)) (hx : ev σ y = some (.slice (some ⟨src, off, none⟩) m cs)) (hrow : Row w e size a c k xs) (hsrc : Blk w src sl Ts) (hnews : (sl.drop off).take (m * size) = news) (hl : news.length = m * size)
   (h1 : ∀ v ∈ news, v.oneCell' = true) (hm : 0 < m) (h47 : (k + m) * bytes ≤ 140737488355328)
   (h : ∀ a' c' w', Row w' e size a' c' (k + m) (xs ++ news) → Grow a w a' w' → EWL P n ops Q rest (upd σ d (.slice a' (k + m) c')) ds w') (h63 : k + m ≤ 9223372036854775807) :
   EWL P n ops Q (⟨some d, .call { callee := .builtin .append, args := #[x, y], argTypes := #[T, T] }, ty, pos, af, none⟩ :: rest) σ ds w := by
 obtain ⟨a', c', w', hr, hrw, hg⟩ := rn_app (ty := ty) hT hzl hsz hs hx hrow hsrc hnews hl h1 hm h47 h63
 exact ewl_run hd hr (h a' c' w' hrw hg)
/-- One element, of a block of its own. -/
theorem ewl_app1 {e : TypeId} {size bytes : Nat} {zl : List Value} (hd : Nat.blt d n = true) (hT : apI P T = some (e, size, bytes, zl)) (hzl : Nat.beq zl.length size = true) (hsz : Nat.blt 0 size = true) {a : Option Addr} {c k cs src : Nat} {xs news : List Value} {Ts : TypeId}
   (hs : ev σ x = some (.slice a k c)) (hx : ev σ y = some (.slice (some ⟨src, 0, none⟩) 1 cs)) (hrow : Row w e size a c k xs) (hsrc : Blk w src news Ts) (hl : Nat.beq news.length size = true)
   (h1 : one1 news = true) (h47 : (k + 1) * bytes ≤ 140737488355328) (h63 : k + 1 ≤ 9223372036854775807)
   (h : ∀ a' c' w', Row w' e size a' c' (k + 1) (xs ++ news) → Grow a w a' w' → EWL P n ops Q rest (upd σ d (.slice a' (k + 1) c')) ds w') :
   EWL P n ops Q (⟨some d, .call { callee := .builtin .append, args := #[x, y], argTypes := #[T, T] }, ty, pos, af, none⟩ :: rest) σ ds w := by
 have hl' := Nat.eq_of_beq_eq_true hl
 exact ewl_app hd hT hzl hsz hs hx hrow hsrc (by simp [← hl']) (by simpa using hl') (one1_spec h1) (by omega) h47 h h63
end
def ifT (P : Program) (T : TypeId) : Bool := match P.underlying T with | some (.interface _) => true | _ => false
def tas (P : Program) (T : TypeId) : Bool := match P.underlying T with | some (.interface _) => false | some _ => true | none => false
def cvI (P : Program) (s d : TypeId) : Option IntKind := match P.underlying s, P.underlying d with | some _, some (.int k) => some k | _, _ => none
def btsI (P : Program) (s d : TypeId) : Option TypeId := match P.underlying s with
 | some (.slice e) => match P.underlying e, P.underlying d with
   | some (.int .u8), some .string => some e
   | _, _ => none
 | _ => none
def mapSB (P : Program) (T : TypeId) : Bool :=
 match P.underlying T with
 | some (.map k e) => (match P.underlying k with | some .string => true | _ => false) && (match P.info? e with | some i => (match i.zero with | some (.bool false) => true | _ => false) | none => false)
 | _ => false
end Go.SW
namespace Go.SP
structure Tok where
 k : Int
 ln : Int
 co : Int
 nm : Int
 tx : List UInt8
/-- Trees, one behind the other. -/
inductive Fo where
 | nil
 | cons (t : Tok) (kids rest : Fo)
def Fo.len : Fo → Nat
 | .nil => 0
 | .cons _ _ r => r.len + 1
def Tok.ok (t : Tok) : Prop := (t.k = 5 → t.tx ≠ []) ∧ t.tx.length ≤ 100000
def Fo.ok : Fo → Prop
 | .nil => True
 | .cons t k r => t.ok ∧ k.ok ∧ k.len ≤ 100000 ∧ r.ok
def Fo.all (p : Tok → Fo → Prop) : Fo → Prop
 | .nil => True
 | .cons t k r => p t k ∧ r.all p
def Fo.snoc : Fo → Tok → Fo → Fo
 | .nil, t, k => .cons t k .nil
 | .cons u l r, t, k => .cons u l (r.snoc t k)
def Fo.app : Fo → Fo → Fo
 | .nil, y => y
 | .cons u l r, y => .cons u l (r.app y)
/-- How deep: more than so many brackets within one another? -/
def Fo.deep : Nat → Fo → Bool
 | _, .nil => true
 | 0, .cons _ _ _ => false
 | n + 1, .cons _ l r => l.deep n && r.deep (n + 1)
/-- What is asked of a tree, so deep. -/
def okT (n : Nat) (t : Tok) (k : Fo) : Prop := t.ok ∧ k.ok ∧ k.len ≤ 100000 ∧ k.deep n = true
theorem all_of : ∀ (n : Nat) (fo : Fo), fo.ok → fo.deep (n + 1) = true → fo.all (okT n)
 | _, .nil, _, _ => trivial
 | n, .cons t k r, h, hd => by
   simp only [Fo.deep, Bool.and_eq_true] at hd
   exact ⟨⟨h.1, h.2.1, h.2.2.1, hd.1⟩, all_of n r h.2.2.2 hd.2⟩
/-- Nodes, one behind the other. -/
inductive Nd where
 | nil
 | cons (op ln co : Int) (tx : List UInt8) (nm : Int) (kids rest : Nd)
def Nd.len : Nd → Nat
 | .nil => 0
 | .cons _ _ _ _ _ _ r => r.len + 1
def Nd.app : Nd → Nd → Nd
 | .nil, y => y
 | .cons a b c d e l r, y => .cons a b c d e l (r.app y)
structure N where
 op : Int
 ln : Int
 co : Int
 tx : List UInt8
 nm : Int
 kids : Nd
def N.cons (a : N) (r : Nd) : Nd := .cons a.op a.ln a.co a.tx a.nm a.kids r
def N.one (a : N) : Nd := a.cons .nil
abbrev R := Except (Int × Int)
/-- Does a text lie in another? -/
def hasSub : List UInt8 → List UInt8 → Bool
 | [], sub => sub.isEmpty
 | b :: l, sub => sub.isPrefixOf (b :: l) || hasSub l sub
theorem index_ge (sub : List UInt8) : ∀ l, -1 ≤ Lib.index l sub
 | [] => by unfold Lib.index; split <;> omega
 | b :: l => by
   have := index_ge sub l
   unfold Lib.index
   split
   · omega
   · split <;> omega
theorem contains_eq (sub : List UInt8) : ∀ l, Lib.contains l sub = hasSub l sub
 | [] => by unfold Lib.contains Lib.index hasSub; cases h : sub.isEmpty <;> simp
 | b :: l => by
   have ih := contains_eq sub l
   have hge := index_ge sub l
   unfold Lib.contains at ih ⊢
   unfold Lib.index hasSub
   cases hp : sub.isPrefixOf (b :: l) with
   | true => simp
   | false =>
     rw [← ih]
     simp only [Bool.false_eq_true, if_false, Bool.false_or]
     by_cases h1 : Lib.index l sub = -1
     · simp [h1]
     · have h2 : ¬ (Lib.index l sub == -1) = true := by simpa using h1
       rw [if_neg h2]
       simp only [decide_eq_decide]
       omega
def keptB : List UInt8 := [32, 102, 110, 32, 108, 101, 116, 32, 114, 101, 99, 32, 105, 102, 32, 115, 101, 113, 32, 116, 117, 112, 108, 101, 32, 99, 97, 115, 101, 32, 116, 114, 121, 32, 114, 97, 105, 115, 101, 32, 116, 114, 97, 110, 115, 97, 99, 116, 32, 100, 97, 116, 97, 32, 114, 111, 111, 116, 32, 100, 101, 102, 32, 100, 111, 32]
def builtB : List UInt8 := [32, 45, 62, 32, 116, 117, 112, 108, 101, 32, 114, 101, 102, 32, 112, 114, 101, 102, 32]
def keptM (tx : List UInt8) : Bool := hasSub keptB ([32] ++ tx ++ [32])
def builtM (tx : List UInt8) : Bool := hasSub builtB ([32] ++ tx ++ [32])
def hd0 (tx : List UInt8) : UInt8 := tx.headD 0
namespace Tok
def isWord (t : Tok) (s : List UInt8) : Bool := t.k == 5 && t.tx == s
def isVar (t : Tok) : Bool := t.k == 5 && (!(t.tx == [95]) && (((hd0 t.tx).toNat : Int) != 39 && !keptM t.tx))
def isHole (t : Tok) : Bool := t.isVar || t.isWord [95]
def isTypeName (t : Tok) : Bool := t.isVar && !builtM t.tx
def isTypeVar (t : Tok) : Bool := t.k == 5 && (((hd0 t.tx).toNat : Int) == 39 && decide (1 < (t.tx.length : Int)))
end Tok
def within (n lo hi : Int) : Bool := decide (lo ≤ n) && decide (n ≤ hi)
def isFn (t : Tok) : Fo → Bool
 | .nil => false
 | .cons h _ _ => t.k == 0 && h.isWord [102, 110]
def need {α : Type} (t : Tok) (b : Bool) (x : R α) : R α := if b then x else .error (t.ln, t.co)
def node (t : Tok) (op : Int) (tx : List UInt8) (kids : Nd) : N := ⟨op, t.ln, t.co, tx, 0, kids⟩
def eachM (f : Tok → Fo → R N) : Fo → R Nd
 | .nil => .ok .nil
 | .cons t k r => match f t k with
   | .error e => .error e
   | .ok a => match eachM f r with
     | .error e => .error e
     | .ok b => .ok (a.cons b)
def holeM (t : Tok) (_ : Fo) : R N := .ok (if t.isWord [95] then node t 21 [] .nil else node t 22 t.tx .nil)
def holes : Fo → Bool
 | .nil => true
 | .cons t _ r => t.isHole && holes r
/-- The variables of a pattern, unlike one another: none is told twice; what has been seen. -/
def onceM (seen : List (List UInt8)) : Nd → Option (List (List UInt8))
 | .nil => some seen
 | .cons op _ _ tx _ kids rest =>
   match (if op == 22 then (if seen.contains tx then none else some (tx :: seen)) else some seen) with
   | none => none
   | some s1 => match onceM s1 kids with
     | none => none
     | some s2 => onceM s2 rest
def patM : Nat → Tok → Fo → R N
 | 0, t, _ => .error (t.ln, t.co)
 | n + 1, t, kids =>
   if t.k == 2 then .ok ⟨23, t.ln, t.co, [], t.nm, .nil⟩
   else if t.k == 4 then .ok (node t 24 t.tx .nil)
   else if t.k == 6 then .ok (node t 26 t.tx .nil)
   else if t.k == 5 then need t t.isHole (holeM t kids)
   else if t.k == 3 then .error (t.ln, t.co)
   else match kids with
     | .nil => .ok (node t 25 [] .nil)
     | .cons h _ l =>
       if h.k == 6 then need t (within l.len 1 8) (match eachM (patM n) l with | .error e => .error e | .ok ks => .ok (node t 26 h.tx ks))
       else need t (h.isWord [116, 117, 112, 108, 101] && within l.len 2 8) (match eachM (patM n) l with | .error e => .error e | .ok ks => .ok (node t 27 [] ks))
/-- (-> a b c): nested. -/
def arrowM (t : Tok) : Nd → Option N
 | .nil => none
 | .cons op ln co tx nm kids r => match r with
   | .nil => some ⟨op, ln, co, tx, nm, kids⟩
   | _ => match arrowM t r with
     | none => none
     | some o => some (node t 32 [45, 62] (.cons op ln co tx nm kids o.one))
def typM : Nat → Tok → Fo → R N
 | 0, t, _ => .error (t.ln, t.co)
 | n + 1, t, kids =>
   if t.k == 0 then match kids with
     | .nil => .error (t.ln, t.co)
     | .cons h _ l =>
       if h.isWord [45, 62] then need t (decide ((2 : Int) ≤ l.len)) (match eachM (typM n) l with
         | .error e => .error e
         | .ok ks => match arrowM t ks with
           | some o => .ok o
           | none => .error (t.ln, t.co))
       else
         let ok := if h.isWord [116, 117, 112, 108, 101] then within l.len 2 8
           else if h.isWord [114, 101, 102] || h.isWord [112, 114, 101, 102] then (l.len : Int) == 1
           else h.isTypeName && within l.len 1 8
         need t ok (match eachM (typM n) l with | .error e => .error e | .ok ks => .ok (node t 32 h.tx ks))
   else if t.isTypeVar then .ok (node t 31 t.tx .nil)
   else need t t.isTypeName (.ok (node t 32 t.tx .nil))
def armM (n : Nat) (ex : Tok → Fo → R N) (t : Tok) (kids : Fo) : R N :=
 match kids with
 | .cons p pk (.cons b bk .nil) => need t (t.k == 0) (match patM n p pk with
   | .error e => .error e
   | .ok q => need p (onceM [] q.one).isSome (match ex b bk with
     | .error e => .error e
     | .ok x => .ok (node t 18 [] (q.cons x.one))))
 | _ => .error (t.ln, t.co)
def formM (n : Nat) (ex : Tok → Fo → R N) (t : Tok) (w : List UInt8) (l : Fo) : R N :=
 if w == [102, 110] then match l with
   | .cons p pk (.cons b bk .nil) => need t (p.k == 0 && (within pk.len 1 8 && holes pk)) (match eachM holeM pk with
     | .error e => .error e
     | .ok hs => match ex b bk with
       | .error e => .error e
       | .ok x => .ok (node t 7 [] (hs.app x.one)))
   | _ => .error (t.ln, t.co)
 else if w == [108, 101, 116] then match l with
   | .cons v _ (.cons e ek (.cons b bk .nil)) => need t v.isHole (match ex e ek with
     | .error e => .error e
     | .ok x => match ex b bk with
       | .error e => .error e
       | .ok y => .ok (node t 9 v.tx (x.cons y.one)))
   | _ => .error (t.ln, t.co)
 else if w == [114, 101, 99] then match l with
   | .cons v _ (.cons e ek (.cons b bk .nil)) => need t (v.isVar && isFn e ek) (match ex e ek with
     | .error e => .error e
     | .ok x => match ex b bk with
       | .error e => .error e
       | .ok y => .ok (node t 10 v.tx (x.cons y.one)))
   | _ => .error (t.ln, t.co)
 else if w == [105, 102] then need t ((l.len : Int) == 3) (match eachM ex l with | .error e => .error e | .ok ks => .ok (node t 11 [] ks))
 else if w == [115, 101, 113] then need t (decide ((1 : Int) ≤ l.len)) (match eachM ex l with | .error e => .error e | .ok ks => .ok (node t 12 [] ks))
 else if w == [116, 117, 112, 108, 101] then need t (within l.len 2 8) (match eachM ex l with | .error e => .error e | .ok ks => .ok (node t 13 [] ks))
 else if w == [99, 97, 115, 101] || w == [116, 114, 121] then need t (decide ((2 : Int) ≤ l.len)) (match l with
   | .nil => .error (t.ln, t.co)
   | .cons e ek arms => match ex e ek with
     | .error e => .error e
     | .ok x => match eachM (armM n ex) arms with
       | .error e => .error e
       | .ok ars => .ok (node t (if w == [116, 114, 121] then 15 else 14) [] (x.cons ars)))
 else if w == [114, 97, 105, 115, 101] || w == [116, 114, 97, 110, 115, 97, 99, 116] then match l with
   | .cons e ek .nil => match ex e ek with
     | .error e => .error e
     | .ok x => .ok (node t (if w == [116, 114, 97, 110, 115, 97, 99, 116] then 17 else 16) [] x.one)
   | _ => .error (t.ln, t.co)
 else .error (t.ln, t.co)
def expM : Nat → Tok → Fo → R N
 | 0, t, _ => .error (t.ln, t.co)
 | n + 1, t, kids =>
   if t.k == 2 then .ok ⟨1, t.ln, t.co, [], t.nm, .nil⟩
   else if t.k == 3 then .ok (node t 2 t.tx .nil)
   else if t.k == 4 then .ok (node t 3 t.tx .nil)
   else if t.k == 6 then .ok (node t 6 t.tx .nil)
   else if t.k == 5 then need t t.isVar (.ok (node t 5 t.tx .nil))
   else match kids with
     | .nil => .ok (node t 4 [] .nil)
     | .cons h _ l =>
       if h.k == 6 then need t (within l.len 1 8) (match eachM (expM n) l with | .error e => .error e | .ok ks => .ok (node t 6 h.tx ks))
       else if h.k == 5 && keptM h.tx then formM n (expM n) t h.tx l
       else need t (within l.len 1 8) (match eachM (expM n) kids with | .error e => .error e | .ok ks => .ok (node t 8 [] ks))
def dconM (n : Nat) (t : Tok) (kids : Fo) : R N :=
 match kids with
 | .nil => .error (t.ln, t.co)
 | .cons h _ l => need t (t.k == 0 && (h.k == 6 && decide ((kids.len : Int) ≤ 9))) (match eachM (typM n) l with | .error e => .error e | .ok ks => .ok (node t 42 h.tx ks))
def tvarsM : Fo → Option Nd
 | .nil => some .nil
 | .cons v _ r => if v.isTypeVar then (match tvarsM r with | none => none | some x => some ((node v 31 v.tx .nil).cons x)) else none
def topM (n : Nat) (t : Tok) (kids : Fo) : R N :=
 match kids with
 | .nil => .error (t.ln, t.co)
 | .cons h _ l => need t (t.k == 0 && h.k == 5) (
   if h.tx == [100, 97, 116, 97] then match l with
     | .cons a _ (.cons b bk (.cons c ck r)) => need t (a.isTypeName && (b.k == 0 && decide ((bk.len : Int) ≤ 8))) (match tvarsM bk with
       | none => .error (t.ln, t.co)
       | some vs => match eachM (dconM n) (.cons c ck r) with
         | .error e => .error e
         | .ok cs => .ok (node t 41 a.tx (vs.app cs)))
     | _ => .error (t.ln, t.co)
   else if h.tx == [114, 111, 111, 116] then match l with
     | .cons a _ (.cons b bk (.cons c ck .nil)) => need t a.isVar (match typM n b bk with
       | .error e => .error e
       | .ok x => match expM n c ck with
         | .error e => .error e
         | .ok y => .ok (node t 43 a.tx (x.cons y.one)))
     | _ => .error (t.ln, t.co)
   else if h.tx == [100, 101, 102] then match l with
     | .cons a _ (.cons b bk .nil) => need t a.isVar (match expM n b bk with | .error e => .error e | .ok x => .ok (node t 44 a.tx x.one))
     | _ => .error (t.ln, t.co)
   else if h.tx == [114, 101, 99] then match l with
     | .cons a _ (.cons b bk .nil) => need t (a.isVar && isFn b bk) (match expM n b bk with | .error e => .error e | .ok x => .ok (node t 45 a.tx x.one))
     | _ => .error (t.ln, t.co)
   else if h.tx == [100, 111] then match l with
     | .cons b bk .nil => match expM n b bk with | .error e => .error e | .ok x => .ok (node t 46 [] x.one)
     | _ => .error (t.ln, t.co)
   else .error (t.ln, t.co))
/-- Tokens as trees: what is open (its bracket, what stood ahead of it), what stands behind it. -/
def treesM : List Tok → List (Tok × Fo) → Fo → R Fo
 | [], [], cur => .ok cur
 | [], (o, p) :: s, _ => match ((o, p) :: s).getLast? with
   | some (q, _) => .error (q.ln, q.co)
   | none => .error (0, 0)
 | k :: l, st, cur =>
   if k.k == 0 then (if st.length == 200 then .error (k.ln, k.co) else treesM l ((k, cur) :: st) .nil)
   else if k.k == 1 then (match st with
     | [] => .error (k.ln, k.co)
     | (o, p) :: s => treesM l s (p.snoc o cur))
   else treesM l st (cur.snoc k .nil)
end Go.SP
namespace Go.SP
/-- What Program hands back: the nodes, a place, a code. -/
def progM (n : Nat) (lx : Except (Int × Int × Int) (List Tok)) : Nd × Int × Int × Int :=
 match lx with
 | .error e => (.nil, e)
 | .ok toks => match treesM toks [] .nil with
   | .error e => (.nil, e.1, e.2, 10)
   | .ok fo => match eachM (topM n) fo with
     | .error e => (.nil, e.1, e.2, 10)
     | .ok nds => (nds, 0, 0, 0)
end Go.SP
namespace Go.SP
open Go.SW Go.RowKit
def tokC (t : Tok) : List Value := [.int .i64 t.k, .int .i64 t.ln, .int .i64 t.co, .int .i64 t.nm, S t.tx]
/-- A slice's cells lie in a block of U, and are as C says. -/
def Sl (U : Nat → Prop) (w : World) (a : Option Addr) (n c len : Nat) (C : List Value → Prop) : Prop :=
 n = len ∧ n ≤ c ∧ (n = 0 ∨ ∃ b off l T, U b ∧ a = some ⟨b, off, none⟩ ∧ Blk w b l T ∧ C (l.drop off))
def FoC (U : Nat → Prop) (w : World) : Fo → List Value → Prop
 | .nil, _ => True
 | .cons t kids rest, l => ∃ a n c l', l = .int .i64 t.k :: .int .i64 t.ln :: .int .i64 t.co :: .int .i64 t.nm :: S t.tx :: .slice a n c :: l' ∧ Sl U w a n c kids.len (FoC U w kids) ∧ FoC U w rest l'
abbrev FoS (U : Nat → Prop) (w : World) (a : Option Addr) (n c : Nat) (fo : Fo) : Prop := Sl U w a n c fo.len (FoC U w fo)
def NdC (U : Nat → Prop) (w : World) : Nd → List Value → Prop
 | .nil, _ => True
 | .cons op ln co tx nm kids rest, l => ∃ a n c l', l = .int .i64 op :: .int .i64 ln :: .int .i64 co :: S tx :: .int .i64 nm :: .slice a n c :: l' ∧ Sl U w a n c kids.len (NdC U w kids) ∧ NdC U w rest l'
abbrev NdS (U : Nat → Prop) (w : World) (a : Option Addr) (n c : Nat) (nd : Nd) : Prop := Sl U w a n c nd.len (NdC U w nd)
theorem Sl.imp {U U' : Nat → Prop} {w w' : World} {a : Option Addr} {n c len : Nat} {C C' : List Value → Prop} (h : Sl U w a n c len C) (hU : ∀ b, U b → b < w.heap.size → U' b ∧ w'.heap[b]? = w.heap[b]?) (hC : ∀ l, C l → C' l) : Sl U' w' a n c len C' :=
 ⟨h.1, h.2.1, h.2.2.imp id fun ⟨b, off, l, T, hu, ha, hb, hc⟩ => ⟨b, off, l, T, (hU b hu hb.lt).1, ha, (hU b hu hb.lt).2.trans hb, hC _ hc⟩⟩
theorem FoC.imp {U U' : Nat → Prop} {w w' : World} (hU : ∀ b, U b → b < w.heap.size → U' b ∧ w'.heap[b]? = w.heap[b]?) : ∀ (fo : Fo) (l : List Value), FoC U w fo l → FoC U' w' fo l
 | .nil, _, _ => trivial
 | .cons _ kids rest, _, ⟨a, n, c, l', h1, h2, h3⟩ => ⟨a, n, c, l', h1, h2.imp hU (FoC.imp hU kids), FoC.imp hU rest l' h3⟩
theorem NdC.imp {U U' : Nat → Prop} {w w' : World} (hU : ∀ b, U b → b < w.heap.size → U' b ∧ w'.heap[b]? = w.heap[b]?) : ∀ (nd : Nd) (l : List Value), NdC U w nd l → NdC U' w' nd l
 | .nil, _, _ => trivial
 | .cons _ _ _ _ _ kids rest, _, ⟨a, n, c, l', h1, h2, h3⟩ => ⟨a, n, c, l', h1, h2.imp hU (NdC.imp hU kids), NdC.imp hU rest l' h3⟩
theorem FoS.imp {U U' : Nat → Prop} {w w' : World} {a : Option Addr} {n c : Nat} {fo : Fo} (h : FoS U w a n c fo) (hU : ∀ b, U b → b < w.heap.size → U' b ∧ w'.heap[b]? = w.heap[b]?) : FoS U' w' a n c fo := Sl.imp h hU (FoC.imp hU fo)
theorem NdS.imp {U U' : Nat → Prop} {w w' : World} {a : Option Addr} {n c : Nat} {nd : Nd} (h : NdS U w a n c nd) (hU : ∀ b, U b → b < w.heap.size → U' b ∧ w'.heap[b]? = w.heap[b]?) : NdS U' w' a n c nd := Sl.imp h hU (NdC.imp hU nd)
section
variable {U : Nat → Prop} {w w' : World} {a : Option Addr} {n c : Nat} {fo : Fo} {nd : Nd} {l : List Value}
theorem FoS.ext (h : FoS U w a n c fo) (hE : Ext w w') : FoS U w' a n c fo := FoS.imp h fun b hu hl => ⟨hu, hE.block b hl⟩
theorem NdS.ext (h : NdS U w a n c nd) (hE : Ext w w') : NdS U w' a n c nd := NdS.imp h fun b hu hl => ⟨hu, hE.block b hl⟩
theorem FoC.ext (h : FoC U w fo l) (hE : Ext w w') : FoC U w' fo l := FoC.imp (fun b hu hl => ⟨hu, hE.block b hl⟩) fo l h
theorem NdC.ext (h : NdC U w nd l) (hE : Ext w w') : NdC U w' nd l := NdC.imp (fun b hu hl => ⟨hu, hE.block b hl⟩) nd l h
theorem FoS.chg {b : Nat} (h : FoS U w a n c fo) (hC : Chg b w w') (hb : ¬ U b) : FoS U w' a n c fo := FoS.imp h fun k hu _ => ⟨hu, hC.block k (fun e => hb (e ▸ hu))⟩
theorem NdS.chg {b : Nat} (h : NdS U w a n c nd) (hC : Chg b w w') (hb : ¬ U b) : NdS U w' a n c nd := NdS.imp h fun k hu _ => ⟨hu, hC.block k (fun e => hb (e ▸ hu))⟩
theorem NdC.chg {b : Nat} (h : NdC U w nd l) (hC : Chg b w w') (hb : ¬ U b) : NdC U w' nd l := NdC.imp (fun k hu _ => ⟨hu, hC.block k (fun e => hb (e ▸ hu))⟩) nd l h
theorem FoS.mono {U' : Nat → Prop} (h : FoS U w a n c fo) (hU : ∀ b, U b → U' b) : FoS U' w a n c fo := FoS.imp h fun b hu _ => ⟨hU b hu, rfl⟩
theorem NdS.mono {U' : Nat → Prop} (h : NdS U w a n c nd) (hU : ∀ b, U b → U' b) : NdS U' w a n c nd := NdS.imp h fun b hu _ => ⟨hU b hu, rfl⟩
theorem NdC.mono {U' : Nat → Prop} (h : NdC U w nd l) (hU : ∀ b, U b → U' b) : NdC U' w nd l := NdC.imp (fun b hu _ => ⟨hU b hu, rfl⟩) nd l h
theorem NdC.more : ∀ (nd : Nd) (l m : List Value), NdC U w nd l → NdC U w nd (l ++ m)
 | .nil, _, _, _ => trivial
 | .cons _ _ _ _ _ kids rest, l, m, ⟨a, n, c, l', h1, h2, h3⟩ => ⟨a, n, c, l' ++ m, by rw [h1]; rfl, h2, NdC.more rest l' m h3⟩
theorem FoC.more : ∀ (fo : Fo) (l m : List Value), FoC U w fo l → FoC U w fo (l ++ m)
 | .nil, _, _, _ => trivial
 | .cons _ kids rest, l, m, ⟨a, n, c, l', h1, h2, h3⟩ => ⟨a, n, c, l' ++ m, by rw [h1]; rfl, h2, FoC.more rest l' m h3⟩
theorem FoS.nil (U : Nat → Prop) (w : World) (a : Option Addr) (c : Nat) : FoS U w a 0 c .nil := ⟨rfl, Nat.zero_le _, .inl rfl⟩
theorem NdS.nil (U : Nat → Prop) (w : World) (a : Option Addr) (c : Nat) : NdS U w a 0 c .nil := ⟨rfl, Nat.zero_le _, .inl rfl⟩
/-- The first one of trees that aren't none. -/
theorem FoS.head {t : Tok} {kids rest : Fo} (h : FoS U w a n c (.cons t kids rest)) : ∃ b off l T ka kn kc l', U b ∧ a = some ⟨b, off, none⟩ ∧ Blk w b l T ∧
   l.drop off = .int .i64 t.k :: .int .i64 t.ln :: .int .i64 t.co :: .int .i64 t.nm :: S t.tx :: .slice ka kn kc :: l' ∧ FoS U w ka kn kc kids ∧ FoC U w rest l' := by
 obtain ⟨h1, h2, h3 | ⟨b, off, l, T, hu, ha, hb, ka, kn, kc, l', h4, h5, h6⟩⟩ := h
 · rw [h3] at h1; cases h1
 · exact ⟨b, off, l, T, ka, kn, kc, l', hu, ha, hb, h4, h5, h6⟩
end
/-- All but the first. -/
def restA (a : Option Addr) (c sz : Nat) : Option Addr := if c = 1 then a else a.map (·.add (1 * sz))
theorem FoS.rest {U : Nat → Prop} {w : World} {a : Option Addr} {n c : Nat} {t : Tok} {kids rest : Fo} (h : FoS U w a n c (.cons t kids rest)) : FoS U w (restA a c 6) rest.len (c - 1) rest := by
 obtain ⟨h1, h2, h3 | ⟨b, off, l, T, hu, ha, hb, ka, kn, kc, l', h4, h5, h6⟩⟩ := h
 · rw [h3] at h1; cases h1
 · have hn : n = rest.len + 1 := h1
   refine ⟨rfl, by omega, ?_⟩
   by_cases hc : c = 1
   · left; omega
   · right
     refine ⟨b, off + 1 * 6, l, T, hu, by simp [restA, hc, ha, add_lit], hb, ?_⟩
     have : l.drop (off + 1 * 6) = l' := by
       rw [← List.drop_drop, h4]; rfl
     rw [this]; exact h6
section
variable {P : Program} {σ : Env} {w : World} {ty T : TypeId} {x y lo : Operand} {k b p off q : Nat} {l cells : List Value} {T' : TypeId}
theorem rn_rest {e : TypeId} {a : Option Addr} {m c : Nat} (hx : ev σ x = some (.slice a (m + 1) c)) (hlo : ev σ lo = some (.int .i64 1)) (hs : sle P T = some (e, k)) : Runs P σ (.slice T x (some lo) none none) ty w (.slice (restA a c k) m (c - 1)) w := by
 have := rn_slfrom (w := w) (ty := ty) (i := 1) hx (by simpa using hlo) hs (by omega)
 simpa [restA] using this
/-- Loads from a block of which a part is known from a place on. -/
theorem rn_loadd {v : Value} (q : Nat) (hx : ev σ x = some (.pointer (some ⟨b, p, none⟩))) (hT : tinfo P T = some (false, k)) (hb : Blk w b cells T') (hd : cells.drop off = l) (hp : p = off + q) (hv : l[q]? = some v) : Runs P σ (.load T x) ty w v w := by
 refine rn_load hx hT hb ?_
 rw [hp, ← List.getElem?_drop, hd, hv]
theorem slc_of : ∀ {cells : List Value} {off q k : Nat} {l vs : List Value}, cells.drop off = l → slc l q (k + 1) = some vs → slc cells (off + q) (k + 1) = some vs
 | cells, 0, q, k, l, vs, h, hv => by rw [Nat.zero_add]; rw [List.drop_zero] at h; rw [h]; exact hv
 | [], off + 1, q, k, l, vs, h, hv => by
   rw [List.drop_nil] at h
   subst h
   cases q <;> cases hv
 | c :: cells, off + 1, q, k, l, vs, h, hv => by
   rw [List.drop_succ_cons] at h
   have := slc_of h hv
   rw [show off + 1 + q = (off + q) + 1 by omega]
   exact this
theorem rn_loadad {vs : List Value} (q : Nat) (hx : ev σ x = some (.pointer (some ⟨b, p, none⟩))) (hT : tinfo P T = some (true, k + 1)) (hb : Blk w b cells T') (hd : cells.drop off = l) (hp : p = off + q) (hv : slc l q (k + 1) = some vs) :
   Runs P σ (.load T x) ty w (.agg vs.toArray) w := by
 refine rn_loada hx hT hb ?_
 rw [hp]
 exact slc_of hd hv
end
end Go.SP
namespace Go.Proofs.YthjdnhnbgjgbkaaGreatDoor
open Go.SW Go.RowKit
theorem ap23 : apI Tryz.prog 23 = some (40, 6, 72, [.int .i64 0, .int .i64 0, .int .i64 0, .string ⟨#[]⟩, .int .i64 0, .slice none 0 0]) := by kernel_rfl
theorem ap41 : apI Tryz.prog 41 = some (59, 5, 48, [.int .i64 0, .int .i64 0, .int .i64 0, .int .i64 0, .string ⟨#[]⟩]) := by kernel_rfl
theorem ap47 : apI Tryz.prog 47 = some (61, 6, 72, [.int .i64 0, .int .i64 0, .int .i64 0, .int .i64 0, .string ⟨#[]⟩, .slice none 0 0]) := by kernel_rfl
theorem ap62 : apI Tryz.prog 62 = some (47, 1, 24, [.slice none 0 0]) := by kernel_rfl
theorem ap71 : apI Tryz.prog 71 = some (5, 1, 1, [.int .u8 0]) := by kernel_rfl
theorem bts71_9 : btsI Tryz.prog 71 9 = some 5 := by kernel_rfl
theorem cv3_5 : cvI Tryz.prog 3 5 = some .u8 := by kernel_rfl
theorem cv3_33 : cvI Tryz.prog 3 33 = some .u64 := by kernel_rfl
theorem cv3_81 : cvI Tryz.prog 3 81 = some .u64 := by kernel_rfl
theorem cv5_33 : cvI Tryz.prog 5 33 = some .u64 := by kernel_rfl
theorem cv33_2 : cvI Tryz.prog 33 2 = some .i64 := by kernel_rfl
theorem cv74_5 : cvI Tryz.prog 74 5 = some .u8 := by kernel_rfl
theorem ent13 : Ent Tryz.prog 13 := ent_of Tryz.func13 (by kernel_rfl) (by kernel_rfl)
theorem ent14 : Ent Tryz.prog 14 := ent_of Tryz.func14 (by kernel_rfl) (by kernel_rfl)
theorem ent15 : Ent Tryz.prog 15 := ent_of Tryz.func15 (by kernel_rfl) (by kernel_rfl)
theorem ent16 : Ent Tryz.prog 16 := ent_of Tryz.func16 (by kernel_rfl) (by kernel_rfl)
theorem ent17 : Ent Tryz.prog 17 := ent_of Tryz.func17 (by kernel_rfl) (by kernel_rfl)
theorem ent19 : Ent Tryz.prog 19 := ent_of Tryz.func19 (by kernel_rfl) (by kernel_rfl)
theorem ent20 : Ent Tryz.prog 20 := ent_of Tryz.func20 (by kernel_rfl) (by kernel_rfl)
theorem ent21 : Ent Tryz.prog 21 := ent_of Tryz.func21 (by kernel_rfl) (by kernel_rfl)
theorem ent22 : Ent Tryz.prog 22 := ent_of Tryz.func22 (by kernel_rfl) (by kernel_rfl)
theorem ent23 : Ent Tryz.prog 23 := ent_of Tryz.func23 (by kernel_rfl) (by kernel_rfl)
theorem ent24 : Ent Tryz.prog 24 := ent_of Tryz.func24 (by kernel_rfl) (by kernel_rfl)
theorem ent25 : Ent Tryz.prog 25 := ent_of Tryz.func25 (by kernel_rfl) (by kernel_rfl)
theorem ent26 : Ent Tryz.prog 26 := ent_of Tryz.func26 (by kernel_rfl) (by kernel_rfl)
theorem ent27 : Ent Tryz.prog 27 := ent_of Tryz.func27 (by kernel_rfl) (by kernel_rfl)
theorem ent28 : Ent Tryz.prog 28 := ent_of Tryz.func28 (by kernel_rfl) (by kernel_rfl)
theorem ent29 : Ent Tryz.prog 29 := ent_of Tryz.func29 (by kernel_rfl) (by kernel_rfl)
theorem ent30 : Ent Tryz.prog 30 := ent_of Tryz.func30 (by kernel_rfl) (by kernel_rfl)
theorem ent31 : Ent Tryz.prog 31 := ent_of Tryz.func31 (by kernel_rfl) (by kernel_rfl)
theorem ent32 : Ent Tryz.prog 32 := ent_of Tryz.func32 (by kernel_rfl) (by kernel_rfl)
theorem ent33 : Ent Tryz.prog 33 := ent_of Tryz.func33 (by kernel_rfl) (by kernel_rfl)
theorem ent34 : Ent Tryz.prog 34 := ent_of Tryz.func34 (by kernel_rfl) (by kernel_rfl)
theorem ent35 : Ent Tryz.prog 35 := ent_of Tryz.func35 (by kernel_rfl) (by kernel_rfl)
theorem ent36 : Ent Tryz.prog 36 := ent_of Tryz.func36 (by kernel_rfl) (by kernel_rfl)
theorem ent37 : Ent Tryz.prog 37 := ent_of Tryz.func37 (by kernel_rfl) (by kernel_rfl)
theorem ent38 : Ent Tryz.prog 38 := ent_of Tryz.func38 (by kernel_rfl) (by kernel_rfl)
theorem ent39 : Ent Tryz.prog 39 := ent_of Tryz.func39 (by kernel_rfl) (by kernel_rfl)
theorem ent40 : Ent Tryz.prog 40 := ent_of Tryz.func40 (by kernel_rfl) (by kernel_rfl)
theorem ent41 : Ent Tryz.prog 41 := ent_of Tryz.func41 (by kernel_rfl) (by kernel_rfl)
theorem ent43 : Ent Tryz.prog 43 := ent_of Tryz.func43 (by kernel_rfl) (by kernel_rfl)
theorem ent44 : Ent Tryz.prog 44 := ent_of Tryz.func44 (by kernel_rfl) (by kernel_rfl)
theorem ent45 : Ent Tryz.prog 45 := ent_of Tryz.func45 (by kernel_rfl) (by kernel_rfl)
theorem ent46 : Ent Tryz.prog 46 := ent_of Tryz.func46 (by kernel_rfl) (by kernel_rfl)
theorem ent47 : Ent Tryz.prog 47 := ent_of Tryz.func47 (by kernel_rfl) (by kernel_rfl)
theorem ent48 : Ent Tryz.prog 48 := ent_of Tryz.func48 (by kernel_rfl) (by kernel_rfl)
theorem ent50 : Ent Tryz.prog 50 := ent_of Tryz.func50 (by kernel_rfl) (by kernel_rfl)
theorem ent51 : Ent Tryz.prog 51 := ent_of Tryz.func51 (by kernel_rfl) (by kernel_rfl)
theorem ent52 : Ent Tryz.prog 52 := ent_of Tryz.func52 (by kernel_rfl) (by kernel_rfl)
theorem ent53 : Ent Tryz.prog 53 := ent_of Tryz.func53 (by kernel_rfl) (by kernel_rfl)
theorem ent55 : Ent Tryz.prog 55 := ent_of Tryz.func55 (by kernel_rfl) (by kernel_rfl)
theorem ent56 : Ent Tryz.prog 56 := ent_of Tryz.func56 (by kernel_rfl) (by kernel_rfl)
theorem ent57 : Ent Tryz.prog 57 := ent_of Tryz.func57 (by kernel_rfl) (by kernel_rfl)
theorem ent58 : Ent Tryz.prog 58 := ent_of Tryz.func58 (by kernel_rfl) (by kernel_rfl)
theorem ent59 : Ent Tryz.prog 59 := ent_of Tryz.func59 (by kernel_rfl) (by kernel_rfl)
theorem ent61 : Ent Tryz.prog 61 := ent_of Tryz.func61 (by kernel_rfl) (by kernel_rfl)
theorem ent63 : Ent Tryz.prog 63 := ent_of Tryz.func63 (by kernel_rfl) (by kernel_rfl)
theorem ent64 : Ent Tryz.prog 64 := ent_of Tryz.func64 (by kernel_rfl) (by kernel_rfl)
theorem ent65 : Ent Tryz.prog 65 := ent_of Tryz.func65 (by kernel_rfl) (by kernel_rfl)
theorem ent66 : Ent Tryz.prog 66 := ent_of Tryz.func66 (by kernel_rfl) (by kernel_rfl)
theorem ent68 : Ent Tryz.prog 68 := ent_of Tryz.func68 (by kernel_rfl) (by kernel_rfl)
theorem ent69 : Ent Tryz.prog 69 := ent_of Tryz.func69 (by kernel_rfl) (by kernel_rfl)
theorem ent82 : Ent Tryz.prog 82 := ent_of Tryz.func82 (by kernel_rfl) (by kernel_rfl)
theorem ent87 : Ent Tryz.prog 87 := ent_of Tryz.func87 (by kernel_rfl) (by kernel_rfl)
theorem ent93 : Ent Tryz.prog 93 := ent_of Tryz.func93 (by kernel_rfl) (by kernel_rfl)
theorem ent99 : Ent Tryz.prog 99 := ent_of Tryz.func99 (by kernel_rfl) (by kernel_rfl)
theorem ent104 : Ent Tryz.prog 104 := ent_of Tryz.func104 (by kernel_rfl) (by kernel_rfl)
theorem ent105 : Ent Tryz.prog 105 := ent_of Tryz.func105 (by kernel_rfl) (by kernel_rfl)
theorem ent113 : Ent Tryz.prog 113 := ent_of Tryz.func113 (by kernel_rfl) (by kernel_rfl)
theorem ent115 : Ent Tryz.prog 115 := ent_of Tryz.func115 (by kernel_rfl) (by kernel_rfl)
theorem ent119 : Ent Tryz.prog 119 := ent_of Tryz.func119 (by kernel_rfl) (by kernel_rfl)
theorem fl25_0 : fld Tryz.prog 25 0 = some 0 := by kernel_rfl
theorem fl25_1 : fld Tryz.prog 25 1 = some 1 := by kernel_rfl
theorem fl40_0 : fld Tryz.prog 40 0 = some 0 := by kernel_rfl
theorem fl40_2 : fld Tryz.prog 40 2 = some 3 := by kernel_rfl
theorem fl40_4 : fld Tryz.prog 40 4 = some 5 := by kernel_rfl
theorem fl45_0 : fld Tryz.prog 45 0 = some 0 := by kernel_rfl
theorem fl54_0 : fld Tryz.prog 54 0 = some 0 := by kernel_rfl
theorem fl57_0 : fld Tryz.prog 57 0 = some 0 := by kernel_rfl
theorem fl57_1 : fld Tryz.prog 57 1 = some 1 := by kernel_rfl
theorem fl57_2 : fld Tryz.prog 57 2 = some 2 := by kernel_rfl
theorem fl57_3 : fld Tryz.prog 57 3 = some 4 := by kernel_rfl
theorem fl59_0 : fld Tryz.prog 59 0 = some 0 := by kernel_rfl
theorem fl59_1 : fld Tryz.prog 59 1 = some 1 := by kernel_rfl
theorem fl59_2 : fld Tryz.prog 59 2 = some 3 := by kernel_rfl
theorem fl59_3 : fld Tryz.prog 59 3 = some 4 := by kernel_rfl
theorem fl61_0 : fld Tryz.prog 61 0 = some 0 := by kernel_rfl
theorem fl61_1 : fld Tryz.prog 61 1 = some 5 := by kernel_rfl
theorem fl142_0 : fld Tryz.prog 142 0 = some 0 := by kernel_rfl
theorem ift20 : ifT Tryz.prog 20 = true := by kernel_rfl
theorem ift83 : ifT Tryz.prog 83 = true := by kernel_rfl
theorem mixed : Tryz.prog.follows .mixedOrders = true := by kernel_rfl
theorem mp93 : mapSB Tryz.prog 93 = true := by kernel_rfl
theorem ni45 : ntI Tryz.prog 45 = true := by kernel_rfl
theorem ni54 : ntI Tryz.prog 54 = true := by kernel_rfl
theorem ni105 : ntI Tryz.prog 105 = true := by kernel_rfl
theorem pl25 : plc Tryz.prog 25 = some [(0, 1), (1, 1)] := by kernel_rfl
theorem pl40 : plc Tryz.prog 40 = some [(0, 1), (1, 2), (3, 1), (4, 1), (5, 1)] := by kernel_rfl
theorem pl45 : plc Tryz.prog 45 = some [(0, 2)] := by kernel_rfl
theorem pl54 : plc Tryz.prog 54 = some [(0, 2)] := by kernel_rfl
theorem pl57 : plc Tryz.prog 57 = some [(0, 1), (1, 1), (2, 2), (4, 1)] := by kernel_rfl
theorem pl59 : plc Tryz.prog 59 = some [(0, 1), (1, 2), (3, 1), (4, 1)] := by kernel_rfl
theorem pl61 : plc Tryz.prog 61 = some [(0, 5), (5, 1)] := by kernel_rfl
theorem sl23 : sle Tryz.prog 23 = some (40, 6) := by kernel_rfl
theorem sl41 : sle Tryz.prog 41 = some (59, 5) := by kernel_rfl
theorem sl47 : sle Tryz.prog 47 = some (61, 6) := by kernel_rfl
theorem sl62 : sle Tryz.prog 62 = some (47, 1) := by kernel_rfl
theorem sl71 : sle Tryz.prog 71 = some (5, 1) := by kernel_rfl
theorem sl181 : sle Tryz.prog 181 = some (88, 1) := by kernel_rfl
theorem tas45 : tas Tryz.prog 45 = true := by kernel_rfl
theorem tas54 : tas Tryz.prog 54 = true := by kernel_rfl
theorem ti3 : tinfo Tryz.prog 3 = some (false, 1) := by kernel_rfl
theorem ti4 : tinfo Tryz.prog 4 = some (false, 1) := by kernel_rfl
theorem ti5 : tinfo Tryz.prog 5 = some (false, 1) := by kernel_rfl
theorem ti9 : tinfo Tryz.prog 9 = some (false, 1) := by kernel_rfl
theorem ti23 : tinfo Tryz.prog 23 = some (false, 1) := by kernel_rfl
theorem ti25 : tinfo Tryz.prog 25 = some (true, 2) := by kernel_rfl
theorem ti26 : tinfo Tryz.prog 26 = some (false, 1) := by kernel_rfl
theorem ti40 : tinfo Tryz.prog 40 = some (true, 6) := by kernel_rfl
theorem ti41 : tinfo Tryz.prog 41 = some (false, 1) := by kernel_rfl
theorem ti45 : tinfo Tryz.prog 45 = some (true, 2) := by kernel_rfl
theorem ti47 : tinfo Tryz.prog 47 = some (false, 1) := by kernel_rfl
theorem ti54 : tinfo Tryz.prog 54 = some (true, 2) := by kernel_rfl
theorem ti59 : tinfo Tryz.prog 59 = some (true, 5) := by kernel_rfl
theorem ti61 : tinfo Tryz.prog 61 = some (true, 6) := by kernel_rfl
theorem ti81 : tinfo Tryz.prog 81 = some (false, 1) := by kernel_rfl
theorem ti88 : tinfo Tryz.prog 88 = some (false, 1) := by kernel_rfl
theorem ti181 : tinfo Tryz.prog 181 = some (false, 1) := by kernel_rfl
theorem un4 : Tryz.prog.underlying 4 = some .bool := by kernel_rfl
theorem un9 : Tryz.prog.underlying 9 = some .string := by kernel_rfl
theorem zr4 : zer Tryz.prog 4 = some [.bool false] := by kernel_rfl
theorem zr5 : zer Tryz.prog 5 = some [.int .u8 0] := by kernel_rfl
theorem zr23 : zer Tryz.prog 23 = some [.slice none 0 0] := by kernel_rfl
theorem zr25 : zer Tryz.prog 25 = some [.int .i64 0, .int .i64 0] := by kernel_rfl
theorem zr26 : zer Tryz.prog 26 = some [.int .i64 0] := by kernel_rfl
theorem zr40 : zer Tryz.prog 40 = some [.int .i64 0, .int .i64 0, .int .i64 0, .string ⟨#[]⟩, .int .i64 0, .slice none 0 0] := by kernel_rfl
theorem zr41 : zer Tryz.prog 41 = some [.slice none 0 0] := by kernel_rfl
theorem zr45 : zer Tryz.prog 45 = some [.int .i64 0, .int .i64 0] := by kernel_rfl
theorem zr47 : zer Tryz.prog 47 = some [.slice none 0 0] := by kernel_rfl
theorem zr54 : zer Tryz.prog 54 = some [.int .i64 0, .int .i64 0] := by kernel_rfl
theorem zr57 : zer Tryz.prog 57 = some [.string ⟨#[]⟩, .int .i64 0, .int .i64 0, .int .i64 0, .slice none 0 0] := by kernel_rfl
theorem zr59 : zer Tryz.prog 59 = some [.int .i64 0, .int .i64 0, .int .i64 0, .int .i64 0, .string ⟨#[]⟩] := by kernel_rfl
theorem zr61 : zer Tryz.prog 61 = some [.int .i64 0, .int .i64 0, .int .i64 0, .int .i64 0, .string ⟨#[]⟩, .slice none 0 0] := by kernel_rfl
end Go.Proofs.YthjdnhnbgjgbkaaGreatDoor
namespace Go.SP
/-- Powers of ten, as floats. -/
def pow10B : List Nat := [4607182418800017408, 4621819117588971520, 4636737291354636288, 4652007308841189376, 4666723172467343360, 4681608360884174848, 4696837146684686336, 4711630319722168320, 4726483295884279808, 4741671816366391296, 4756540486875873280, 4771362005757984768, 4786511204640096256, 4801453603149578240, 4816244402031689728]
end Go.SP
namespace Go.Proofs.YthjdnhnbgjgbkaaGreatDoor
open Go.SW Go.SP Go.RowKit Go.Shelf Go.Lib
/-- What is asked of the library's variables. -/
structure Gl (w : World) : Prop where
 maxLen : ∃ m : Int, w.cell? ⟨0, 0, none⟩ = some (.int .i64 m)
 errRange : ∃ v : Value, w.cell? ⟨3, 0, none⟩ = some v ∧ (v = .nilIface ∨ ∃ te pe, v = .iface te pe)
 optimize : w.cell? ⟨5, 0, none⟩ = some (.bool true)
 finfo : w.cell? ⟨6, 0, none⟩ = some (.int .u64 52)
 pow10 : ∃ b off n c, w.cell? ⟨11, 0, none⟩ = some (.slice (some ⟨b, off, none⟩) n c) ∧ 15 ≤ n ∧ ∀ j v, pow10B[j]? = some v → w.cell? ⟨b, off + j, none⟩ = some (.float .f64 v)
theorem lt_of_cell {w : World} {b o : Nat} {v : Value} (h : w.cell? ⟨b, o, none⟩ = some v) : b < w.heap.size := by
 rcases Nat.lt_or_ge b w.heap.size with h' | h'
 · exact h'
 · simp [World.cell?, Array.getElem?_eq_none h'] at h
theorem cell_ext {w w' : World} {b o : Nat} {v : Value} (h : w.cell? ⟨b, o, none⟩ = some v) (hE : Ext w w') : w'.cell? ⟨b, o, none⟩ = some v := (hE.cell (p := ⟨b, o, none⟩) (lt_of_cell h)).trans h
theorem Gl.ext {w w' : World} (h : Gl w) (hE : Ext w w') : Gl w' :=
 ⟨let ⟨m, hm⟩ := h.maxLen; ⟨m, cell_ext hm hE⟩, let ⟨v, hv, h2⟩ := h.errRange; ⟨v, cell_ext hv hE, h2⟩, cell_ext h.optimize hE, cell_ext h.finfo hE,
   let ⟨b, off, n, c, h1, h2, h3⟩ := h.pow10; ⟨b, off, n, c, cell_ext h1 hE, h2, fun j v hv => cell_ext (h3 j v hv) hE⟩⟩
theorem data_S (l : List UInt8) : (⟨l.toArray⟩ : ByteArray).data.toList = l := rfl
theorem size_S (l : List UInt8) : (⟨l.toArray⟩ : ByteArray).size = l.length := by simp [ByteArray.size]
theorem ret_of_calls {P : Program} {f : FuncId} {args : Array Value} {w : World} {v : Value} {R : World → Prop} (h : Calls P f args w fun e w' => e = .returned v ∧ R w') (hR : ∀ w', R w' → Ext w w') :
   Ret P f args w fun u w' => u = v ∧ Ext w w' := Calls.mono h fun _ _ ⟨he, hr⟩ => ⟨v, he, rfl, hR _ hr⟩
theorem contains_spec (w : World) (hG : Gl w) (a b : List UInt8) (ha : a.length < 4294967281) : Ret Tryz.prog 38 #[S a, S b] w fun v w' => v = .bool (hasSub a b) ∧ Ext w w' := by
 obtain ⟨m, hm⟩ := hG.maxLen
 have h := Any.strings_Contains Tryz.lays144 ⟨a.toArray⟩ ⟨b.toArray⟩ m w (by rw [size_S]; exact ha) hm
 rw [data_S, data_S, contains_eq] at h
 exact ret_of_calls h (fun w' e => by subst e; exact Ext.refl _)
theorem indexByte_spec (w : World) (a : List UInt8) (c : UInt8) : Ret Tryz.prog 35 #[S a, .int .u8 c.toNat] w fun v w' => v = .int .i64 (Lib.indexByte a c) ∧ Ext w w' := by
 have h := Any.strings_IndexByte Tryz.lays137 ⟨a.toArray⟩ c.toNat w
 rw [data_S] at h
 have e : ((c.toNat : Int).toNat).toUInt8 = c := by simp
 rw [e] at h
 exact ret_of_calls h (fun w' e => by subst e; exact Ext.refl _)
theorem trimPrefix_spec (w : World) (a b : List UInt8) : Ret Tryz.prog 47 #[S a, S b] w fun v w' => v = S (Lib.trimPrefix a b) ∧ Ext w w' := by
 have h := Any.strings_TrimPrefix Tryz.lays101 ⟨a.toArray⟩ ⟨b.toArray⟩ w
 rw [data_S, data_S] at h
 exact ret_of_calls h (fun w' e => by subst e; exact Ext.refl _)
theorem cut_spec (w : World) (hG : Gl w) (a b : List UInt8) (ha : a.length < 4294967281) :
   Ret Tryz.prog 57 #[S a, S b] w fun v w' => v = .tuple #[S (Lib.cut a b).1, S (Lib.cut a b).2.1, .bool (Lib.cut a b).2.2] ∧ Ext w w' := by
 obtain ⟨m, hm⟩ := hG.maxLen
 have h := Any.strings_Cut Tryz.lays145 ⟨a.toArray⟩ ⟨b.toArray⟩ m w (by rw [size_S]; exact ha) hm
 rw [data_S, data_S] at h
 exact ret_of_calls h (fun w' ⟨n, e⟩ => by subst e; exact ⟨rfl, rfl, rfl, Nat.le_refl _, fun _ _ => rfl⟩)
theorem trim_spec (w : World) (a b : List UInt8) (ha : a.length ≤ 9223372036854775807) (hb : b.length < 4294967281) (h128 : b.all (fun c => decide (c.toNat < 128)) = true) :
   Ret Tryz.prog 61 #[S a, S b] w fun v w' => v = S (Lib.trimS a b) ∧ Ext w w' := by
 have h := Any.strings_Trim_laid Tryz.lays160 (by kernel_rfl) ⟨a.toArray⟩ ⟨b.toArray⟩ w (by rw [size_S]; exact ha) (by rw [size_S]; exact hb) (fun j c hj => by
   rw [data_S] at hj
   have := List.all_eq_true.1 h128 c (List.mem_of_getElem? hj)
   simpa using this)
 rw [data_S, data_S] at h
 exact ret_of_calls h (fun w' h => h)
theorem toError_spec (w : World) (hG : Gl w) (fn s : List UInt8) (base bits : Int) (hs : s.length ≤ 100000) : Ret Tryz.prog 66 #[S fn, S s, .int .i64 base, .int .i64 bits, .iface 105 (.int .i64 1)] w fun v w' => (∃ T u, v = .iface T u) ∧ Ext w w' := by
 obtain ⟨ev, hv, hev⟩ := hG.errRange
 have h := Any.strconv_toError_range Tryz.lays245 ⟨fn.toArray⟩ ⟨s.toArray⟩ base bits ev w (by rw [size_S]; omega) hv hev
 exact Calls.mono h fun e w' ⟨N, he, _, _, hb⟩ => ⟨_, he, ⟨_, _, rfl⟩, hb⟩
end Go.Proofs.YthjdnhnbgjgbkaaGreatDoor
namespace Go.SP
open Go.SW Go.RowKit
/-- Behind i of them: these are left. -/
def At (U : Nat → Prop) (w : World) (a : Option Addr) (i : Nat) (r : Fo) : Prop :=
 r = .nil ∨ ∃ b off l T, U b ∧ a = some ⟨b, off, none⟩ ∧ Blk w b l T ∧ FoC U w r (l.drop (off + i * 6))
theorem FoS.at {U : Nat → Prop} {w : World} {a : Option Addr} {n c : Nat} {fo : Fo} (h : FoS U w a n c fo) : At U w a 0 fo := by
 obtain ⟨h1, h2, h3 | ⟨b, off, l, T, hu, ha, hb, hc⟩⟩ := h
 · left; cases fo with
   | nil => rfl
   | cons t k r => rw [h3] at h1; cases h1
 · exact .inr ⟨b, off, l, T, hu, ha, hb, by simpa using hc⟩
theorem At.ext {U : Nat → Prop} {w w' : World} {a : Option Addr} {i : Nat} {r : Fo} (h : At U w a i r) (hE : Ext w w') : At U w' a i r :=
 h.imp id fun ⟨b, off, l, T, hu, ha, hb, hc⟩ => ⟨b, off, l, T, hu, ha, hb.ext hE, hc.ext hE⟩
theorem At.head {U : Nat → Prop} {w : World} {a : Option Addr} {i : Nat} {t : Tok} {k r : Fo} (h : At U w a i (.cons t k r)) : ∃ b off l T ka kn kc l', U b ∧ a = some ⟨b, off, none⟩ ∧ Blk w b l T ∧
   l.drop (off + i * 6) = .int .i64 t.k :: .int .i64 t.ln :: .int .i64 t.co :: .int .i64 t.nm :: S t.tx :: .slice ka kn kc :: l' ∧ FoS U w ka kn kc k := by
 rcases h with h | ⟨b, off, l, T, hu, ha, hb, ka, kn, kc, l', h4, h5, h6⟩
 · cases h
 · exact ⟨b, off, l, T, ka, kn, kc, l', hu, ha, hb, h4, h5⟩
theorem At.next {U : Nat → Prop} {w : World} {a : Option Addr} {i : Nat} {t : Tok} {k r : Fo} (h : At U w a i (.cons t k r)) : At U w a (i + 1) r := by
 rcases h with h | ⟨b, off, l, T, hu, ha, hb, ka, kn, kc, l', h4, h5, h6⟩
 · cases h
 · refine .inr ⟨b, off, l, T, hu, ha, hb, ?_⟩
   have : l.drop (off + (i + 1) * 6) = l' := by
     rw [show off + (i + 1) * 6 = (off + i * 6) + 6 by omega, ← List.drop_drop, h4]; rfl
   rw [this]; exact h6
theorem Nd.len_app : ∀ (x y : Nd), (x.app y).len = x.len + y.len
 | .nil, y => by simp [Nd.app, Nd.len]
 | .cons _ _ _ _ _ _ r, y => by simp [Nd.app, Nd.len, Nd.len_app r y]; omega
theorem Nd.app_assoc : ∀ (x y z : Nd), (x.app y).app z = x.app (y.app z)
 | .nil, _, _ => rfl
 | .cons _ _ _ _ _ _ r, y, z => by simp [Nd.app, Nd.app_assoc r y z]
theorem Nd.app_nil : ∀ (x : Nd), x.app .nil = x
 | .nil => rfl
 | .cons _ _ _ _ _ _ r => by simp [Nd.app, Nd.app_nil r]
theorem NdC.app {U : Nat → Prop} {w : World} : ∀ (x y : Nd) (l m : List Value), NdC U w x l → l.length = x.len * 6 → NdC U w y m → NdC U w (x.app y) (l ++ m)
 | .nil, y, l, m, _, hl, h => by
   have : l = [] := List.eq_nil_of_length_eq_zero (by simpa [Nd.len] using hl)
   subst this; exact h
 | .cons _ _ _ _ _ kids rest, y, l, m, ⟨a, n, c, l', h1, h2, h3⟩, hl, h => by
   refine ⟨a, n, c, l' ++ m, by rw [h1]; rfl, h2, NdC.app rest y l' m h3 ?_ h⟩
   rw [h1] at hl
   simp [Nd.len] at hl
   omega
/-- A row of nodes of its own, none of whose parts lies in it; all of it is new. -/
structure NRow (e : TypeId) (w0 w : World) (a : Option Addr) (n c : Nat) (nds : Nd) : Prop where
 ex : ∃ xs, Row w e 6 a c n xs ∧ NdC (fun b => w0.heap.size ≤ b ∧ some b ≠ rb a) w nds xs
 len : n = nds.len
 new : ∀ b, rb a = some b → w0.heap.size ≤ b
theorem NRow.nil (e : TypeId) (w0 w : World) : NRow e w0 w none 0 0 .nil := ⟨⟨[], row_nil _ _ _, trivial⟩, rfl, fun _ h => by cases h⟩
theorem NRow.ext {e : TypeId} {w0 w w' : World} {a : Option Addr} {n c : Nat} {nds : Nd} (h : NRow e w0 w a n c nds) (hE : Ext w w') : NRow e w0 w' a n c nds :=
 ⟨let ⟨xs, h1, h2⟩ := h.ex; ⟨xs, h1.ext hE, h2.ext hE⟩, h.len, h.new⟩
theorem NRow.chg {e : TypeId} {w0 w w' : World} {a : Option Addr} {n c b : Nat} {nds : Nd} (h : NRow e w0 w a n c nds) (hC : Chg b w w') (hb : b < w0.heap.size) : NRow e w0 w' a n c nds :=
 ⟨let ⟨xs, h1, h2⟩ := h.ex; ⟨xs, h1.chg hC (fun e => by have := h.new b e; omega), h2.chg hC (fun e => by omega)⟩, h.len, h.new⟩
/-- As a slice of nodes. -/
theorem NRow.nds {e : TypeId} {w0 w : World} {a : Option Addr} {n c : Nat} {nds : Nd} (h : NRow e w0 w a n c nds) : NdS (fun b => w0.heap.size ≤ b) w a n c nds := by
 obtain ⟨xs, h1, h2⟩ := h.ex
 refine ⟨h.len, h1.n_le, ?_⟩
 rcases h1.2 with ⟨_, _, h3⟩ | ⟨b, l, ha, hb, hn, _, hl, ht⟩
 · exact .inl h3
 · refine .inr ⟨b, 0, l, e, h.new b (by rw [ha]; rfl), ha, hb, ?_⟩
   have h3 := NdC.more nds xs (l.drop (n * 6)) (h2.mono fun _ hh => hh.1)
   rw [List.drop_zero, ← List.take_append_drop (n * 6) l, ht]
   exact h3
/-- One node more. -/
theorem NRow.step {e : TypeId} {w0 w1 w w' : World} {a a' : Option Addr} {n c c' : Nat} {nds : Nd} {op ln co nm : Int} {tx : List UInt8} {ka : Option Addr} {kn kc : Nat} {kids : Nd} {xs : List Value}
   (hrow : Row w e 6 a c n xs) (hx : NdC (fun b => w0.heap.size ≤ b ∧ some b ≠ rb a) w nds xs) (hlen : n = nds.len) (hnew : ∀ b, rb a = some b → w0.heap.size ≤ b)
   (hk : NdS (fun b => w1.heap.size ≤ b) w ka kn kc kids) (h01 : w0.heap.size ≤ w1.heap.size) (h1w : w1.heap.size ≤ w.heap.size) (h1 : ∀ b, rb a = some b → b < w1.heap.size)
   (hr : Row w' e 6 a' c' (n + 1) (xs ++ [.int .i64 op, .int .i64 ln, .int .i64 co, S tx, .int .i64 nm, .slice ka kn kc])) (hG : Grow a w a' w') :
   NRow e w0 w' a' (n + 1) c' (nds.app (.cons op ln co tx nm kids .nil)) := by
 have hnew' : ∀ b, rb a' = some b → w0.heap.size ≤ b := fun b hb => by
   rcases hG.own with ho | ho
   · exact hnew b (by rw [← ho]; exact hb)
   · rw [ho] at hb; cases hb; omega
 have hold : ∀ b, (w0.heap.size ≤ b ∧ some b ≠ rb a) → b < w.heap.size → (w0.heap.size ≤ b ∧ some b ≠ rb a') ∧ w'.heap[b]? = w.heap[b]? := fun b hb hlt => by
   refine ⟨⟨hb.1, ?_⟩, hG.block b hlt hb.2⟩
   rcases hG.own with ho | ho
   · rw [ho]; exact hb.2
   · rw [ho]; intro e; cases e; omega
 have hkids : NdS (fun b => w0.heap.size ≤ b ∧ some b ≠ rb a') w' ka kn kc kids := NdS.imp hk fun b hb hlt => by
   refine hold b ⟨by omega, fun e => ?_⟩ hlt
   have := h1 b e.symm
   omega
 refine ⟨⟨_, hr, NdC.app nds _ xs _ (NdC.imp hold nds xs hx) (by rw [hrow.1, hlen]) ⟨ka, kn, kc, [], rfl, hkids, trivial⟩⟩, by rw [Nd.len_app, hlen]; rfl, hnew'⟩
theorem eachM_ok {f : Tok → Fo → R N} {t : Tok} {k r : Fo} {a : N} {b : Nd} (h : f t k = .ok a) (h2 : eachM f r = .ok b) : eachM f (.cons t k r) = .ok (a.cons b) := by simp [eachM, h, h2]
theorem eachM_bad2 {f : Tok → Fo → R N} {t : Tok} {k r : Fo} {a : N} {e : Int × Int} (h : f t k = .ok a) (h2 : eachM f r = .error e) : eachM f (.cons t k r) = .error e := by simp [eachM, h, h2]
theorem eachM_bad {f : Tok → Fo → R N} {t : Tok} {k r : Fo} {e : Int × Int} (h : f t k = .error e) : eachM f (.cons t k r) = .error e := by simp [eachM, h]
/-- What a function that throws throws. -/
def trb (T : TypeId) (e : Int × Int) : List PanicEntry := [{ v := .iface T (.agg #[.int .i64 e.1, .int .i64 e.2]), recovered := false }]
/-- A node as a value. -/
def NV (w0 w : World) (v : Value) (nd : N) : Prop :=
 ∃ ka kn kc, v = .agg #[.int .i64 nd.op, .int .i64 nd.ln, .int .i64 nd.co, S nd.tx, .int .i64 nd.nm, .slice ka kn kc] ∧ NdS (fun b => w0.heap.size ≤ b) w ka kn kc nd.kids
/-- A function that makes a node of a tree, as m says, or throws. -/
def NodeFn (P : Program) (f : FuncId) (T : TypeId) (m : Tok → Fo → R N) (w : World) (t : Tok) (k : Fo) (ka : Option Addr) (kn kc : Nat) : Prop :=
 RetP P f #[.agg #[.int .i64 t.k, .int .i64 t.ln, .int .i64 t.co, .int .i64 t.nm, S t.tx, .slice ka kn kc]] w (fun v w' => ∃ nd, m t k = .ok nd ∧ NV w w' v nd ∧ Ext w w') (fun c w' => ∃ e, m t k = .error e ∧ c = trb T e ∧ Ext w w')
end Go.SP
namespace Go.SP
open Go.SW Go.RowKit
def Nd.drop : Nat → Nd → Nd
 | 0, x => x
 | _ + 1, .nil => .nil
 | n + 1, .cons _ _ _ _ _ _ r => Nd.drop n r
theorem Nd.drop_lt : ∀ (i : Nat) (x : Nd), i < x.len → ∃ op ln co tx nm kids, x.drop i = .cons op ln co tx nm kids (x.drop (i + 1))
 | 0, .cons op ln co tx nm kids r, _ => ⟨op, ln, co, tx, nm, kids, by simp [Nd.drop]⟩
 | i + 1, .cons _ _ _ _ _ _ r, h => by
   obtain ⟨op, ln, co, tx, nm, kids, e⟩ := Nd.drop_lt i r (by simp [Nd.len] at h; omega)
   exact ⟨op, ln, co, tx, nm, kids, by simpa [Nd.drop] using e⟩
theorem Nd.drop_len : ∀ (x : Nd), x.drop x.len = .nil
 | .nil => rfl
 | .cons _ _ _ _ _ _ r => by simp [Nd.len, Nd.drop, Nd.drop_len r]
theorem NdC.dropc {U : Nat → Prop} {w : World} : ∀ (i : Nat) (x : Nd) (l : List Value), NdC U w x l → NdC U w (x.drop i) (l.drop (i * 6))
 | 0, x, l, h => by simpa [Nd.drop] using h
 | i + 1, .nil, l, h => trivial
 | i + 1, .cons _ _ _ _ _ _ r, l, ⟨a, n, c, l', h1, h2, h3⟩ => by
   have := NdC.dropc i r l' h3
   rw [show (i + 1) * 6 = 6 + i * 6 by omega, ← List.drop_drop, h1]
   exact this
/-- A node of a slice of nodes. -/
theorem NdS.get {U : Nat → Prop} {w : World} {a : Option Addr} {n c : Nat} {nds : Nd} (h : NdS U w a n c nds) (i : Nat) (hi : i < n) : ∃ b off l T op ln co tx nm kids ka kn kc l', U b ∧ a = some ⟨b, off, none⟩ ∧ Blk w b l T ∧
   nds.drop i = .cons op ln co tx nm kids (nds.drop (i + 1)) ∧
   l.drop (off + i * 6) = .int .i64 op :: .int .i64 ln :: .int .i64 co :: S tx :: .int .i64 nm :: .slice ka kn kc :: l' ∧ NdS U w ka kn kc kids := by
 obtain ⟨h1, h2, h3 | ⟨b, off, l, T, hu, ha, hb, hc⟩⟩ := h
 · omega
 · obtain ⟨op, ln, co, tx, nm, kids, e⟩ := Nd.drop_lt i nds (by omega)
   have := NdC.dropc i nds _ hc
   rw [e, List.drop_drop] at this
   obtain ⟨ka, kn, kc, l', h4, h5, h6⟩ := this
   exact ⟨b, off, l, T, op, ln, co, tx, nm, kids, ka, kn, kc, l', hu, ha, hb, e, h4, h5⟩
theorem arrowM_last {t : Tok} {x : Nd} {i : Nat} {op ln co nm : Int} {tx : List UInt8} {kids : Nd} (e : x.drop i = .cons op ln co tx nm kids (x.drop (i + 1))) (h : i + 1 = x.len) : arrowM t (x.drop i) = some ⟨op, ln, co, tx, nm, kids⟩ := by
 rw [e, h, Nd.drop_len]; rfl
theorem arrowM_more {t : Tok} {x : Nd} {i : Nat} {op ln co nm : Int} {tx : List UInt8} {kids : Nd} {o : N} (e : x.drop i = .cons op ln co tx nm kids (x.drop (i + 1))) (h : arrowM t (x.drop (i + 1)) = some o) :
   arrowM t (x.drop i) = some (node t 32 [45, 62] (.cons op ln co tx nm kids o.one)) := by
 rw [e]
 cases hx : x.drop (i + 1) with
 | nil => rw [hx] at h; cases h
 | cons a b c d f g r => rw [hx] at h; simp only [arrowM] at h ⊢; rw [h]
end Go.SP
namespace Go.SP
open Go.SW Go.RowKit
theorem eachM_len {f : Tok → Fo → R N} : ∀ {fo : Fo} {nds : Nd}, eachM f fo = .ok nds → nds.len = fo.len
 | .nil, nds, h => by simp [eachM] at h; subst h; rfl
 | .cons t k r, nds, h => by
   unfold eachM at h
   cases h1 : f t k with
   | error e => rw [h1] at h; cases h
   | ok a =>
     cases h2 : eachM f r with
     | error e => rw [h1, h2] at h; cases h
     | ok b =>
       rw [h1, h2] at h
       injection h with h
       subst h
       simp [N.cons, Nd.len, Fo.len, eachM_len h2]
theorem rn_ixe {P : Program} {σ : Env} {w : World} {ty T e : TypeId} {x y : Operand} {b off k : Nat} {kk : IntKind} {z : Int} (i : Nat) {len cap : Nat} (hx : ev σ x = some (.slice (some ⟨b, off, none⟩) len cap)) (hy : ev σ y = some (.int kk z)) (hz : z = (i : Int)) (hs : sle P T = some (e, k))
   (hi : i < len) : Runs P σ (.indexAddr T x y) ty w (.pointer (some ⟨b, off + i * k, none⟩)) w := by
 subst hz
 exact rn_ixc hx hy hs hi
end Go.SP
namespace Go.SP
open Go.SW Go.RowKit
theorem nds_two {U : Nat → Prop} {w : World} {s : Nat} {T : TypeId} {op1 ln1 co1 nm1 op2 ln2 co2 nm2 : Int} {tx1 tx2 : List UInt8} {ka1 ka2 : Option Addr} {kn1 kc1 kn2 kc2 : Nat} {kids1 kids2 : Nd}
   (hb : Blk w s [.int .i64 op1, .int .i64 ln1, .int .i64 co1, S tx1, .int .i64 nm1, .slice ka1 kn1 kc1, .int .i64 op2, .int .i64 ln2, .int .i64 co2, S tx2, .int .i64 nm2, .slice ka2 kn2 kc2] T) (hU : U s)
   (h1 : NdS U w ka1 kn1 kc1 kids1) (h2 : NdS U w ka2 kn2 kc2 kids2) : NdS U w (some ⟨s, 0, none⟩) 2 2 (.cons op1 ln1 co1 tx1 nm1 kids1 (.cons op2 ln2 co2 tx2 nm2 kids2 .nil)) :=
 ⟨rfl, Nat.le_refl _, .inr ⟨s, 0, _, T, hU, rfl, hb, ka1, kn1, kc1, _, rfl, h1, ka2, kn2, kc2, _, rfl, h2, trivial⟩⟩
theorem nds_one {U : Nat → Prop} {w : World} {s : Nat} {T : TypeId} {op1 ln1 co1 nm1 : Int} {tx1 : List UInt8} {ka1 : Option Addr} {kn1 kc1 : Nat} {kids1 : Nd}
   (hb : Blk w s [.int .i64 op1, .int .i64 ln1, .int .i64 co1, S tx1, .int .i64 nm1, .slice ka1 kn1 kc1] T) (hU : U s)
   (h1 : NdS U w ka1 kn1 kc1 kids1) : NdS U w (some ⟨s, 0, none⟩) 1 1 (.cons op1 ln1 co1 tx1 nm1 kids1 .nil) :=
 ⟨rfl, Nat.le_refl _, .inr ⟨s, 0, _, T, hU, rfl, hb, ka1, kn1, kc1, _, rfl, h1, trivial⟩⟩
end Go.SP
namespace Go.SP
open Go.SW Go.RowKit
/-- All blocks but one are as they were. -/
structure ExB (m : Nat) (w w' : World) : Prop where
 os : w'.os = w.os
 tape : w'.tape = w.tape
 output : w'.output = w.output
 size : w.heap.size ≤ w'.heap.size
 block : ∀ k, k < w.heap.size → k ≠ m → w'.heap[k]? = w.heap[k]?
theorem ExB.refl (m : Nat) (w : World) : ExB m w w := ⟨rfl, rfl, rfl, Nat.le_refl _, fun _ _ _ => rfl⟩
theorem ExB.trans {m : Nat} {w w1 w2 : World} (h : ExB m w w1) (hE : Ext w1 w2) : ExB m w w2 :=
 ⟨hE.os.trans h.os, hE.tape.trans h.tape, hE.output.trans h.output, Nat.le_trans h.size hE.size, fun k hk hn => (hE.block k (Nat.lt_of_lt_of_le hk h.size)).trans (h.block k hk hn)⟩
theorem ExB.trans2 {m : Nat} {w w1 w2 : World} (h : ExB m w w1) (hE : ExB m w1 w2) : ExB m w w2 :=
 ⟨hE.os.trans h.os, hE.tape.trans h.tape, hE.output.trans h.output, Nat.le_trans h.size hE.size, fun k hk hn => (hE.block k (Nat.lt_of_lt_of_le hk h.size) hn).trans (h.block k hk hn)⟩
theorem ExB.chg {m b : Nat} {w w1 w2 : World} (h : ExB m w w1) (hC : Chg b w1 w2) (hb : w.heap.size ≤ b ∨ b = m) : ExB m w w2 :=
 ⟨hC.os.trans h.os, hC.tape.trans h.tape, hC.output.trans h.output, by rw [hC.size]; exact h.size, fun k hk hn => (hC.block k (by omega)).trans (h.block k hk hn)⟩
end Go.SP
namespace Go.SW
open Go.SP Go.RowKit
theorem Blk.exb {m b : Nat} {w w' : World} {l : List Value} {T : TypeId} (h : Blk w b l T) (hE : ExB m w w') (hne : b ≠ m) : Blk w' b l T := (hE.block b h.lt hne).trans h
end Go.SW
namespace Go.SP
open Go.SW Go.RowKit
theorem NdS.exb {m : Nat} {U : Nat → Prop} {w w' : World} {a : Option Addr} {n c : Nat} {nd : Nd} (h : NdS U w a n c nd) (hE : ExB m w w') (hm : ¬ U m) : NdS U w' a n c nd := NdS.imp h fun k hu hl => ⟨hu, hE.block k hl (fun e => hm (e ▸ hu))⟩
theorem ExB.ext {m : Nat} {w w' : World} (h : ExB m w w') {w0 : World} (h0 : Ext w0 w) (hm : w0.heap.size ≤ m) : Ext w0 w' :=
 ⟨h.os.trans h0.os, h.tape.trans h0.tape, h.output.trans h0.output, Nat.le_trans h0.size h.size, fun k hk => (h.block k (Nat.lt_of_lt_of_le hk h0.size) (by omega)).trans (h0.block k hk)⟩
/-- A map whose keys are these texts, each with true. -/
def SetB (w : World) (m : Nat) (seen : List (List UInt8)) : Prop :=
 ∃ (es : List MapEntry) (clock : Nat), w.heap[m]? = some (.map es.toArray clock) ∧ es.map (fun e => (e.key, e.val)) = seen.reverse.map fun s => (S s, Value.bool true)
theorem SetB.lt {w : World} {m : Nat} {seen : List (List UInt8)} (h : SetB w m seen) : m < w.heap.size := by
 obtain ⟨es, c, h1, _⟩ := h
 rcases Nat.lt_or_ge m w.heap.size with h' | h'
 · exact h'
 · rw [Array.getElem?_eq_none h'] at h1; cases h1
theorem SetB.ext {w w' : World} {m : Nat} {seen : List (List UInt8)} (h : SetB w m seen) (hE : Ext w w') : SetB w' m seen := let ⟨es, c, h1, h2⟩ := h; ⟨es, c, (hE.block m h.lt).trans h1, h2⟩
theorem SetB.chg {w w' : World} {m b : Nat} {seen : List (List UInt8)} (h : SetB w m seen) (hC : Chg b w w') (hne : m ≠ b) : SetB w' m seen := let ⟨es, c, h1, h2⟩ := h; ⟨es, c, (hC.block m hne).trans h1, h2⟩
theorem find_set (tx : List UInt8) : ∀ (es : List MapEntry) (l : List (List UInt8)) (i : Nat), es.map (fun e => (e.key, e.val)) = l.map (fun s => (S s, Value.bool true)) →
   (l.contains tx = true → ∃ j, Instr.findNow .string (S tx) es i = some (some (j, .bool true))) ∧ (l.contains tx = false → Instr.findNow .string (S tx) es i = some none)
 | [], [], i, _ => ⟨fun h => by simp at h, fun _ => rfl⟩
 | [], _ :: _, _, h => by simp at h
 | _ :: _, [], _, h => by simp at h
 | e :: es, s :: l, i, h => by
   simp only [List.map_cons, List.cons.injEq, Prod.mk.injEq] at h
   obtain ⟨⟨hk, hv⟩, hr⟩ := h
   have ih := find_set tx es l (i + 1) hr
   have hs : Instr.sameNow .string (S tx) e.key = some ((⟨tx.toArray⟩ : ByteArray) == ⟨s.toArray⟩) := by rw [hk]; rfl
   have hb : ((⟨tx.toArray⟩ : ByteArray) == ⟨s.toArray⟩) = (tx == s) := by
     rw [beq_toListBytes, toList_mk, toList_mk]
   unfold Instr.findNow
   rw [hs, hb]
   cases hc : tx == s with
   | true => exact ⟨fun _ => ⟨i, by simp [hv]⟩, fun h => by rw [List.contains_cons, hc] at h; cases h⟩
   | false => exact ⟨fun h => ih.1 (by rw [List.contains_cons, hc] at h; simpa using h), fun h => ih.2 (by rw [List.contains_cons, hc] at h; simpa using h)⟩
section
variable {P : Program} {n : Nat} {Q : Post} {σ : Env} {ds : List Deferred} {w : World} {ops : Array Oper} {ty T : TypeId} {pos : String} {af : Array Edge} {rest : List Oper} {d m : Nat} {x y z : Operand} {tx : List UInt8} {seen : List (List UInt8)}
theorem mapSB_spec (h : mapSB P T = true) : ∃ k e i, P.underlying T = some (.map k e) ∧ P.underlying k = some .string ∧ P.info? e = some i ∧ i.zero = some (.bool false) := by
 unfold mapSB at h
 split at h
 · rename_i k e hu
   simp only [Bool.and_eq_true] at h
   obtain ⟨h1, h2⟩ := h
   split at h1
   · rename_i hk
     split at h2
     · rename_i i hi
       split at h2
       · rename_i hz; exact ⟨k, e, i, hu, hk, hi, hz⟩
       · cases h2
     · cases h2
   · cases h1
 · cases h
theorem run_checkKey_string {k : TypeId} {b : Bool} {v : Value} (hk : P.underlying k = some .string) : (Instr.checkKey b 10000 k v).run P w = .ok () w := by
 rw [Instr.checkKey]
 simp [run_underlying hk]
theorem rn_lookB (hx : ev σ x = some (.map (some m))) (hy : ev σ y = some (S tx)) (hT : mapSB P T = true) (hm : SetB w m seen) : Runs P σ (.lookup T x y false) ty w (.bool (seen.contains tx)) w := fun ρ _ _ _ _ hρ => by
 obtain ⟨k, e, i, hu, hk, hi, hz⟩ := mapSB_spec hT
 obtain ⟨es, c, h1, h2⟩ := hm
 obtain ⟨f1, f2⟩ := find_set tx es seen.reverse 0 h2
 have hget : (getObj m).run P w = .ok (.map es.toArray c) w := by simp [getObj, Sem.run, h1]
 have hrun : (Instr.lookup T (.map (some m)) (S tx) false).run P w = .ok (.bool (seen.contains tx)) w := by
   cases hc : seen.contains tx with
   | true =>
     obtain ⟨j, hj⟩ := f1 (by simpa using hc)
     simp only [Instr.lookup, Sem.run_bind, run_underlying hu, Result.andThen_ok, hget]
     simp [run_checkKey_string hk, Instr.findKey, run_underlying hk, hj]
   | false =>
     have hj := f2 (by simpa using hc)
     simp only [Instr.lookup, Sem.run_bind, run_underlying hu, Result.andThen_ok, hget]
     simp [run_checkKey_string hk, Instr.findKey, run_underlying hk, hj, zeroValue, typeInfo, hi, hz]
 simp only [execOp, hρ _ _ hx, hρ _ _ hy]
 rw [Sem.run_bind, hrun]
 rfl
theorem ewl_mapB (hx : ev σ x = some (.map (some m))) (hy : ev σ y = some (S tx)) (hz : ev σ z = some (.bool true)) (hT : mapSB P T = true) (hm : SetB w m seen) (hn : seen.contains tx = false)
   (h : ∀ w', SetB w' m (tx :: seen) → Chg m w w' → EWL P n ops Q rest σ ds w') : EWL P n ops Q (⟨none, .mapUpdate T x y z, ty, pos, af, none⟩ :: rest) σ ds w := by
 obtain ⟨k, e, i, hu, hk, hi, hz0⟩ := mapSB_spec hT
 obtain ⟨es, c, h1, h2⟩ := id hm
 have hj := (find_set tx es seen.reverse 0 h2).2 (by simpa using hn)
 have hget : (getObj m).run P w = .ok (.map es.toArray c) w := by simp [getObj, Sem.run, h1]
 have hlt := hm.lt
 have hset : (setObj m (.map (es.toArray.push { key := S tx, val := .bool true, born := c }) (c + 1))).run P w = .ok () { w with heap := w.heap.setIfInBounds m (.map (es.toArray.push { key := S tx, val := .bool true, born := c }) (c + 1)) } := by
   simp [setObj, Sem.run, h1]
 refine ewl_runu (w' := { w with heap := w.heap.setIfInBounds m (.map (es.toArray.push { key := S tx, val := .bool true, born := c }) (c + 1)) }) (fun ρ _ _ _ _ hρ => ?_) (h _ ?_ ?_)
 · have hrun : (Instr.mapUpdate T (.map (some m)) (S tx) (.bool true)).run P w = .ok () { w with heap := w.heap.setIfInBounds m (.map (es.toArray.push { key := S tx, val := .bool true, born := c }) (c + 1)) } := by
     simp only [Instr.mapUpdate, Sem.run_bind, run_underlying hu, Result.andThen_ok, hget]
     simp only [run_checkKey_string hk, Result.andThen_ok, Instr.findKey, Sem.run_bind, run_underlying hk, hj]
     simp only [Sem.run_pure, Result.andThen_ok]
     exact hset
   simp only [execOp, hρ _ _ hx, hρ _ _ hy, hρ _ _ hz]
   rw [Sem.run_bind, hrun]
   rfl
 · refine ⟨es ++ [{ key := S tx, val := .bool true, born := c }], c + 1, ?_, ?_⟩
   · simp [hlt]
   · simp [h2]
 · refine ⟨rfl, rfl, rfl, by simp, fun j hjm => ?_⟩
   show (w.heap.setIfInBounds m _)[j]? = _
   rw [Array.getElem?_setIfInBounds_ne (fun e => hjm e.symm)]
theorem ewl_mkmap (hd : Nat.blt d n = true) (h : ∀ b w', SetB w' b [] → Ext w w' → w.heap.size = b → w'.heap.size = b + 1 → EWL P n ops Q rest (upd σ d (.map (some b))) ds w') :
   EWL P n ops Q (⟨some d, .makeMap T none, ty, pos, af, none⟩ :: rest) σ ds w :=
 ewl_run (w' := w.alloc (.map #[] 0)) hd (fun ρ _ _ _ _ hρ => by simp [execOp, Instr.makeMap]) (h _ _ ⟨[], 0, heap_alloc_new w _, rfl⟩ (ext_new w _) rfl (size_new w _))
end
theorem onceM_cons (s : List (List UInt8)) (op ln co : Int) (tx : List UInt8) (nm : Int) (kids rest : Nd) : onceM s (.cons op ln co tx nm kids rest) = match onceM s (.cons op ln co tx nm kids .nil) with | none => none | some s2 => onceM s2 rest := by
 simp only [onceM]
 cases (if op == 22 then (if s.contains tx then none else some (tx :: s)) else some s) with
 | none => rfl
 | some s1 =>
   simp only
   cases onceM s1 kids <;> rfl
def Nd.size : Nd → Nat
 | .nil => 0
 | .cons _ _ _ _ _ kids rest => kids.size + rest.size + 1
theorem Nd.size_drop : ∀ (i : Nat) (x : Nd), (x.drop i).size ≤ x.size
 | 0, _ => Nat.le_refl _
 | _ + 1, .nil => Nat.le_refl _
 | i + 1, .cons _ _ _ _ _ k r => by have := Nd.size_drop i r; simp only [Nd.drop, Nd.size]; omega
/-- No node has too many parts. -/
def Nd.ok : Nd → Prop
 | .nil => True
 | .cons _ _ _ _ _ kids rest => kids.len ≤ 100000 ∧ kids.ok ∧ rest.ok
def N.ok (nd : N) : Prop := nd.kids.len ≤ 100000 ∧ nd.kids.ok
theorem Nd.ok_drop : ∀ (i : Nat) (x : Nd), x.ok → (x.drop i).ok
 | 0, _, h => h
 | _ + 1, .nil, h => h
 | i + 1, .cons _ _ _ _ _ _ r, h => Nd.ok_drop i r h.2.2
theorem Nd.ok.get {x : Nd} (h : x.ok) {i : Nat} {op ln co nm : Int} {tx : List UInt8} {kids rest : Nd} (e : x.drop i = .cons op ln co tx nm kids rest) : N.ok ⟨op, ln, co, tx, nm, kids⟩ := by
 have := Nd.ok_drop i x h
 rw [e] at this
 exact ⟨this.1, this.2.1⟩
end Go.SP
namespace Go.SW
theorem Keeps.grow {w w' w2 : World} {bs : List Nat} {a a' : Option Addr} (h : Keeps w bs w') (hG : Grow a w' a' w2) (hn : ∀ c, c ∈ bs → some c ≠ rb a) : Keeps w bs w2 :=
 fun c hc => ⟨Nat.lt_of_lt_of_le (h c hc).1 hG.size, (hG.block c (h c hc).1 (hn c hc)).trans (h c hc).2⟩
end Go.SW
namespace Go.SP
open Go.SW Go.RowKit
theorem FoS.two {U : Nat → Prop} {w : World} {a : Option Addr} {n c : Nat} {t0 t1 : Tok} {k0 k1 r : Fo} (h : FoS U w a n c (.cons t0 k0 (.cons t1 k1 r))) : ∃ b off l T a0 n0 c0 a1 n1 c1 l', U b ∧ a = some ⟨b, off, none⟩ ∧ Blk w b l T ∧
   l.drop off = .int .i64 t0.k :: .int .i64 t0.ln :: .int .i64 t0.co :: .int .i64 t0.nm :: S t0.tx :: .slice a0 n0 c0 :: .int .i64 t1.k :: .int .i64 t1.ln :: .int .i64 t1.co :: .int .i64 t1.nm :: S t1.tx :: .slice a1 n1 c1 :: l' ∧
   FoS U w a0 n0 c0 k0 ∧ FoS U w a1 n1 c1 k1 ∧ FoC U w r l' := by
 obtain ⟨b, off, l, T, a0, n0, c0, l0, hU, ha, hb, hd, hk0, a1, n1, c1, l1, hl, hk1, hr⟩ := FoS.head h
 exact ⟨b, off, l, T, a0, n0, c0, a1, n1, c1, l1, hU, ha, hb, by rw [hd, hl], hk0, hk1, hr⟩
theorem FoS.three {U : Nat → Prop} {w : World} {a : Option Addr} {n c : Nat} {t0 t1 t2 : Tok} {k0 k1 k2 r : Fo} (h : FoS U w a n c (.cons t0 k0 (.cons t1 k1 (.cons t2 k2 r)))) : ∃ b off l T a0 n0 c0 a1 n1 c1 a2 n2 c2 l', U b ∧ a = some ⟨b, off, none⟩ ∧ Blk w b l T ∧
   l.drop off = .int .i64 t0.k :: .int .i64 t0.ln :: .int .i64 t0.co :: .int .i64 t0.nm :: S t0.tx :: .slice a0 n0 c0 :: .int .i64 t1.k :: .int .i64 t1.ln :: .int .i64 t1.co :: .int .i64 t1.nm :: S t1.tx :: .slice a1 n1 c1 ::
     .int .i64 t2.k :: .int .i64 t2.ln :: .int .i64 t2.co :: .int .i64 t2.nm :: S t2.tx :: .slice a2 n2 c2 :: l' ∧
   FoS U w a0 n0 c0 k0 ∧ FoS U w a1 n1 c1 k1 ∧ FoS U w a2 n2 c2 k2 ∧ FoC U w r l' := by
 obtain ⟨b, off, l, T, a0, n0, c0, a1, n1, c1, l1, hU, ha, hb, hd, hk0, hk1, a2, n2, c2, l2, hl, hk2, hr⟩ := FoS.two h
 exact ⟨b, off, l, T, a0, n0, c0, a1, n1, c1, a2, n2, c2, l2, hU, ha, hb, by rw [hd, hl], hk0, hk1, hk2, hr⟩
theorem deep_mono : ∀ (n : Nat) (fo : Fo), fo.deep n = true → fo.deep (n + 1) = true
 | _, .nil, _ => by simp [Fo.deep]
 | 0, .cons _ _ _, h => by simp [Fo.deep] at h
 | n + 1, .cons t k r, h => by
   simp only [Fo.deep, Bool.and_eq_true] at h ⊢
   exact ⟨deep_mono n k h.1, by have := deep_mono (n + 1) r h.2; exact this⟩
theorem okT_mono {n : Nat} {t : Tok} {k : Fo} (h : okT n t k) : okT (n + 1) t k := ⟨h.1, h.2.1, h.2.2.1, deep_mono n k h.2.2.2⟩
/-- The parts of a tree. -/
theorem okT_kids {n : Nat} {t : Tok} {k : Fo} (h : okT (n + 1) t k) : k.all (okT n) := all_of n k h.2.1 h.2.2.2
theorem NdC.one {U : Nat → Prop} {w : World} : ∀ (x : Nd) (l : List Value), NdC U w x l → l.length = x.len * 6 → ∀ v ∈ l, v.oneCell' = true
 | .nil, l, _, hl, v, hv => by
   have : l = [] := List.eq_nil_of_length_eq_zero (by simpa [Nd.len] using hl)
   subst this; cases hv
 | .cons _ _ _ _ _ kids rest, l, ⟨a, n, c, l', h1, h2, h3⟩, hl, v, hv => by
   subst h1
   simp only [List.mem_cons] at hv
   rcases hv with rfl | rfl | rfl | rfl | rfl | rfl | hv
   all_goals first | rfl | exact NdC.one rest l' h3 (by simp [Nd.len] at hl; omega) v hv
/-- A literal slice of one node. -/
theorem NRow.lit {e : TypeId} {w0 w : World} {s : Nat} {op ln co nm : Int} {tx : List UInt8} {ka : Option Addr} {kn kc : Nat} {kids : Nd} (hb : Blk w s [.int .i64 op, .int .i64 ln, .int .i64 co, S tx, .int .i64 nm, .slice ka kn kc] e) (hs : w0.heap.size ≤ s)
   (hk : NdS (fun b => w0.heap.size ≤ b ∧ b ≠ s) w ka kn kc kids) : NRow e w0 w (some ⟨s, 0, none⟩) 1 1 (.cons op ln co tx nm kids .nil) :=
 ⟨⟨_, ⟨rfl, .inr ⟨s, _, rfl, hb, Nat.le_refl _, by unfold maxLen; omega, rfl, rfl⟩⟩, ka, kn, kc, [], rfl, NdS.mono hk (fun b hb => ⟨hb.1, fun e => hb.2 (by cases e; rfl)⟩), trivial⟩, rfl, fun b hb => by cases hb; exact hs⟩
/-- Two rows. -/
theorem NRow.join {e : TypeId} {w0 w w' : World} {a a' : Option Addr} {n c c' : Nat} {x y : Nd} {xs ys : List Value} {U2 : Nat → Prop}
   (hrow : Row w e 6 a c n xs) (hx : NdC (fun b => w0.heap.size ≤ b ∧ some b ≠ rb a) w x xs) (hlen : n = x.len) (hnew : ∀ b, rb a = some b → w0.heap.size ≤ b)
   (hy : NdC U2 w y ys) (h2 : ∀ b, U2 b → w0.heap.size ≤ b ∧ some b ≠ rb a)  (h0w : w0.heap.size ≤ w.heap.size)
   (hr : Row w' e 6 a' c' (n + y.len) (xs ++ ys)) (hG : Grow a w a' w') : NRow e w0 w' a' (n + y.len) c' (x.app y) := by
 have hnew' : ∀ b, rb a' = some b → w0.heap.size ≤ b := fun b hb => by
   rcases hG.own with ho | ho
   · exact hnew b (by rw [← ho]; exact hb)
   · rw [ho] at hb; cases hb; omega
 have hold : ∀ b, (w0.heap.size ≤ b ∧ some b ≠ rb a) → b < w.heap.size → (w0.heap.size ≤ b ∧ some b ≠ rb a') ∧ w'.heap[b]? = w.heap[b]? := fun b hb hlt => by
   refine ⟨⟨hb.1, ?_⟩, hG.block b hlt hb.2⟩
   rcases hG.own with ho | ho
   · rw [ho]; exact hb.2
   · rw [ho]; intro e; cases e; omega
 have hyy := NdC.imp (U' := fun b => w0.heap.size ≤ b ∧ some b ≠ rb a') (w' := w') (fun b (hb : U2 b) hlt => hold b (h2 b hb) hlt) y ys hy
 exact ⟨⟨_, hr, NdC.app x y xs ys (NdC.imp hold x xs hx) (by rw [hrow.1, hlen]) hyy⟩, by rw [Nd.len_app, hlen], hnew'⟩
theorem NRow.rowBlk {e : TypeId} {w0 w : World} {a : Option Addr} {n c : Nat} {x : Nd} (h : NRow e w0 w a n c x) (hn : 0 < n) : ∃ b l xs, a = some ⟨b, 0, none⟩ ∧ Blk w b l e ∧ (l.drop 0).take (n * 6) = xs ∧ xs.length = n * 6 ∧ NdC (fun b => w0.heap.size ≤ b ∧ some b ≠ rb a) w x xs := by
 obtain ⟨xs, ⟨h1, h2⟩, h3⟩ := h.ex
 rcases h2 with ⟨_, _, h0⟩ | ⟨b, l, ha, hb, _, _, _, ht⟩
 · omega
 · exact ⟨b, l, xs, ha, hb, by simpa using ht, h1, h3⟩
end Go.SP
namespace Go.SW
open Go.SP
theorem Keeps.exb {m : Nat} {w w' w2 : World} {bs : List Nat} (h : Keeps w bs w') (hE : ExB m w' w2) (hn : ∀ c, c ∈ bs → c ≠ m) : Keeps w bs w2 :=
 fun c hc => ⟨Nat.lt_of_lt_of_le (h c hc).1 hE.size, (hE.block c (h c hc).1 (hn c hc)).trans (h c hc).2⟩
end Go.SW
namespace Go.SP
theorem eachM_nok {f : Tok → Fo → R N} {p : Tok → Fo → Prop} (hf : ∀ t k nd, p t k → f t k = .ok nd → nd.ok) : ∀ {fo : Fo} {nds : Nd}, fo.all p → eachM f fo = .ok nds → nds.ok
 | .nil, nds, _, h => by simp [eachM] at h; subst h; trivial
 | .cons t k r, nds, hp, h => by
   unfold eachM at h
   cases h1 : f t k with
   | error e => rw [h1] at h; cases h
   | ok a =>
     cases h2 : eachM f r with
     | error e => rw [h1, h2] at h; cases h
     | ok b =>
       rw [h1, h2] at h
       injection h with h
       subst h
       have := hf t k a hp.1 h1
       exact ⟨this.1, this.2, eachM_nok hf hp.2 h2⟩
theorem patM_nok : ∀ (n : Nat) (t : Tok) (k : Fo) (nd : N), okT n t k → patM (n + 1) t k = .ok nd → nd.ok := by
 intro n
 induction n with
 | zero =>
   intro t k nd hok h
   cases k with
   | cons a b c => exact absurd hok.2.2.2 (by simp [Fo.deep])
   | nil =>
     unfold patM at h
     simp only [holeM, need] at h
     repeat' split at h
     all_goals first | (injection h with h; subst h; exact ⟨by simp [node, Nd.len], trivial⟩) | (cases h; done) | skip
     all_goals first | contradiction | (injection h with h; subst h; split <;> exact ⟨by simp [node, Nd.len], trivial⟩)
 | succ n ih =>
   intro t k nd hok h
   have key : ∀ (l : Fo) (ks : Nd) (op : Int) (tx : List UInt8), l.all (okT n) → l.len ≤ 100000 → eachM (patM (n + 1)) l = .ok ks → N.ok (node t op tx ks) := fun l ks op tx hl hlen he =>
     ⟨by have := eachM_len he; simp [node]; omega, eachM_nok (p := okT n) ih hl he⟩
   unfold patM at h
   simp only [holeM, need] at h
   cases k with
   | nil =>
     repeat' split at h
     all_goals first | (injection h with h; subst h; exact ⟨by simp [node, Nd.len], trivial⟩) | (cases h; done) | skip
     all_goals first | contradiction | (injection h with h; subst h; split <;> exact ⟨by simp [node, Nd.len], trivial⟩)
   | cons a b c =>
     have hall := (okT_kids hok).2
     have hlen : c.len ≤ 100000 := by have := hok.2.2.1; simp only [Fo.len] at this; omega
     simp only at h
     repeat' split at h
     all_goals first | (injection h with h; subst h; first | exact key _ _ _ _ hall hlen (by assumption) | exact ⟨by simp [node, Nd.len], trivial⟩) | (cases h; done) | skip
     all_goals first | contradiction | (injection h with h; subst h; split <;> exact ⟨by simp [node, Nd.len], trivial⟩)
end Go.SP
namespace Go.SP
theorem Fo.ok.all : ∀ {fo : Fo}, fo.ok → fo.all (fun t _ => t.ok)
 | .nil, _ => trivial
 | .cons _ _ _, h => ⟨h.1, Fo.ok.all h.2.2.2⟩
theorem Fo.all_true : ∀ (fo : Fo), fo.all (fun _ _ => True)
 | .nil => trivial
 | .cons _ _ r => ⟨trivial, Fo.all_true r⟩
end Go.SP
namespace Go.SP
open Go.SW Go.RowKit
theorem FoS.four {U : Nat → Prop} {w : World} {a : Option Addr} {n c : Nat} {t0 t1 t2 t3 : Tok} {k0 k1 k2 k3 r : Fo} (h : FoS U w a n c (.cons t0 k0 (.cons t1 k1 (.cons t2 k2 (.cons t3 k3 r))))) : ∃ b off l T a0 n0 c0 a1 n1 c1 a2 n2 c2 a3 n3 c3 l', U b ∧ a = some ⟨b, off, none⟩ ∧ Blk w b l T ∧
   l.drop off = .int .i64 t0.k :: .int .i64 t0.ln :: .int .i64 t0.co :: .int .i64 t0.nm :: S t0.tx :: .slice a0 n0 c0 :: .int .i64 t1.k :: .int .i64 t1.ln :: .int .i64 t1.co :: .int .i64 t1.nm :: S t1.tx :: .slice a1 n1 c1 ::
     .int .i64 t2.k :: .int .i64 t2.ln :: .int .i64 t2.co :: .int .i64 t2.nm :: S t2.tx :: .slice a2 n2 c2 :: .int .i64 t3.k :: .int .i64 t3.ln :: .int .i64 t3.co :: .int .i64 t3.nm :: S t3.tx :: .slice a3 n3 c3 :: l' ∧
   FoS U w a0 n0 c0 k0 ∧ FoS U w a1 n1 c1 k1 ∧ FoS U w a2 n2 c2 k2 ∧ FoS U w a3 n3 c3 k3 ∧ FoC U w r l' := by
 obtain ⟨b, off, l, T, a0, n0, c0, a1, n1, c1, a2, n2, c2, l2, hU, ha, hb, hd, hk0, hk1, hk2, a3, n3, c3, l3, hl, hk3, hr⟩ := FoS.three h
 exact ⟨b, off, l, T, a0, n0, c0, a1, n1, c1, a2, n2, c2, a3, n3, c3, l3, hU, ha, hb, by rw [hd, hl], hk0, hk1, hk2, hk3, hr⟩
theorem rn_resta {P : Program} {σ : Env} {w : World} {ty T : TypeId} {x lo : Operand} {k e b off m c : Nat} (hx : ev σ x = some (.slice (some ⟨b, off, none⟩) (m + 1) c)) (hlo : ev σ lo = some (.int .i64 1)) (hs : sle P T = some (e, k)) (hc : c ≠ 1) : Runs P σ (.slice T x (some lo) none none) ty w (.slice (some ⟨b, off + 1 * k, none⟩) m (c - 1)) w := by
 have := rn_rest (w := w) (ty := ty) hx hlo hs
 rwa [restA, if_neg hc, Option.map_some, add_lit] at this
end Go.SP
namespace Go.SP
open Go.SW Go.RowKit
theorem rn_restb {P : Program} {σ : Env} {w : World} {ty T : TypeId} {x lo : Operand} {k e b off m c : Nat} (hx : ev σ x = some (.slice (some ⟨b, off, none⟩) (m + 2) c)) (hlo : ev σ lo = some (.int .i64 2)) (hs : sle P T = some (e, k)) (hc : c ≠ 2) : Runs P σ (.slice T x (some lo) none none) ty w (.slice (some ⟨b, off + 2 * k, none⟩) m (c - 2)) w := by
 have := rn_slfrom (w := w) (ty := ty) (i := 2) hx (by simpa using hlo) hs (by omega)
 rwa [if_neg hc, Option.map_some, add_lit, Nat.add_sub_cancel] at this
theorem tvars_none {v : Tok} {k r : Fo} (h : v.isTypeVar = false) : tvarsM (.cons v k r) = none := by simp [tvarsM, h]
theorem tvars_some {v : Tok} {k r : Fo} {x : Nd} (h : v.isTypeVar = true) (hx : tvarsM r = some x) : tvarsM (.cons v k r) = some ((node v 31 v.tx .nil).cons x) := by simp [tvarsM, h, hx]
theorem tvars_none2 {v : Tok} {k r : Fo} (hx : tvarsM r = none) : tvarsM (.cons v k r) = none := by simp [tvarsM, hx]
theorem tvars_len : ∀ {fo : Fo} {x : Nd}, tvarsM fo = some x → x.len = fo.len
 | .nil, x, h => by simp [tvarsM] at h; subst h; rfl
 | .cons v k r, x, h => by
   simp only [tvarsM] at h
   split at h
   · split at h
     · cases h
     · rename_i y hy
       injection h with h
       subst h
       have := tvars_len hy
       simp only [Fo.len]
       show _ + 1 = _
       omega
   · cases h
end Go.SP
namespace Go.SP
open Go.SW Go.RowKit
def opC : List (Tok × Fo) → List Value
 | [] => []
 | (o, _) :: s => opC s ++ tokC o
theorem opC_length : ∀ s, (opC s).length = s.length * 5
 | [] => rfl
 | (o, p) :: s => by simp [opC, opC_length s, tokC]; omega
def Lab (u : Nat → Nat) (w0 : World) (a : Option Addr) (L : Nat) : Prop := ∀ b, rb a = some b → w0.heap.size ≤ b ∧ u b = L
def Fz (u : Nat → Nat) (w0 : World) (b : Nat) : Prop := w0.heap.size ≤ b ∧ u b = 0
def Lv (eT : TypeId) (u : Nat → Nat) (w0 w : World) (j : Nat) (a : Option Addr) (c : Nat) (p : Fo) : Prop :=
 ∃ xs, Row w eT 6 a c p.len xs ∧ FoC (Fz u w0) w p xs ∧ Lab u w0 a (3 + j)
def Lvs (eT : TypeId) (u : Nat → Nat) (w0 w : World) : List (Tok × Fo) → List Value → Prop
 | [], [] => True
 | (_, p) :: s, v :: vs => (∃ a c, v = .slice a p.len c ∧ Lv eT u w0 w s.length a c p) ∧ Lvs eT u w0 w s vs
 | _, _ => False
structure SV (eT eK eS : TypeId) (u : Nat → Nat) (w0 w : World) (so sl : List (Tok × Fo)) (oa : Option Addr) (oc : Nat) (sa : Option Addr) (sc : Nat) (x : Value) (a : Option Addr) (c : Nat) (p : Fo) (vs : List Value) (ka : Option Addr) (kn kc : Nat) (kf : Fo) : Prop where
 o : Row w eK 5 oa oc so.length (opC so)
 ol : Lab u w0 oa 1
 s : Row w eS 1 sa sc (sl.length + 1) (vs.reverse ++ [x])
 sla : Lab u w0 sa 2
 top : Lv eT u w0 w sl.length a c p
 lv : Lvs eT u w0 w sl vs
 kid : FoS (Fz u w0) w ka kn kc kf
/-- Blocks of other labels are as they were. -/
def Kp (L : Nat) (u u' : Nat → Nat) (w0 w w' : World) : Prop := ∀ b, b < w.heap.size → w0.heap.size ≤ b → u b ≠ L → u' b = u b ∧ w'.heap[b]? = w.heap[b]?
section
variable {eT eK eS : TypeId} {u u' : Nat → Nat} {w0 w w' : World} {L M : Nat} {a : Option Addr} {c n : Nat} {p : Fo}
theorem Row.kp {e : TypeId} {k : Nat} {xs : List Value} (h : Row w e k a c n xs) (hl : Lab u w0 a M) (hK : Kp L u u' w0 w w') (hM : M ≠ L) : Row w' e k a c n xs ∧ Lab u' w0 a M := by
 refine ⟨⟨h.1, h.2.imp id fun ⟨b, l, h1, h2, h3⟩ => ⟨b, l, h1, ((hK b h2.lt (hl b (by rw [h1]; rfl)).1 (by rw [(hl b (by rw [h1]; rfl)).2]; exact hM)).2).trans h2, h3⟩⟩, fun b hb => ?_⟩
 · have := hl b hb
   exact ⟨this.1, by rw [(hK b (h.lt hb) this.1 (by rw [this.2]; exact hM)).1]; exact this.2⟩
theorem fz_kp (hK : Kp L u u' w0 w w') (h0 : 0 ≠ L) : ∀ b, Fz u w0 b → b < w.heap.size → Fz u' w0 b ∧ w'.heap[b]? = w.heap[b]? := fun b hb hlt => by
 have := hK b hlt hb.1 (by rw [hb.2]; exact h0)
 exact ⟨⟨hb.1, this.1.trans hb.2⟩, this.2⟩
theorem Lv.kp {j : Nat} (h : Lv eT u w0 w j a c p) (hK : Kp L u u' w0 w w') (h0 : 0 ≠ L) (hj : 3 + j ≠ L) : Lv eT u' w0 w' j a c p := by
 obtain ⟨xs, h1, h2, h3⟩ := h
 obtain ⟨h4, h5⟩ := Row.kp h1 h3 hK hj
 exact ⟨xs, h4, FoC.imp (fz_kp hK h0) p xs h2, h5⟩
theorem Lvs.kp : ∀ {sl : List (Tok × Fo)} {vs : List Value}, Lvs eT u w0 w sl vs → Kp L u u' w0 w w' → 0 ≠ L → (∀ j, j < sl.length → 3 + j ≠ L) → Lvs eT u' w0 w' sl vs
 | [], [], _, _, _, _ => trivial
 | (_, p) :: s, v :: vs, h, hK, h0, hj => ⟨let ⟨a, c, h1, h2⟩ := h.1; ⟨a, c, h1, h2.kp hK h0 (hj _ (by simp))⟩, Lvs.kp h.2 hK h0 fun j hl => hj j (by simp; omega)⟩
 | [], _ :: _, h, _, _, _ => h.elim
 | _ :: _, [], h, _, _, _ => h.elim
theorem kp_ext (hE : Ext w w') : Kp L u u w0 w w' := fun b hb _ _ => ⟨rfl, hE.block b hb⟩
theorem kp_chg {b : Nat} (hC : Chg b w w') (hb : u b = L) : Kp L u u w0 w w' := fun k _ _ hk => ⟨rfl, hC.block k (fun e => hk (e ▸ hb))⟩
def lab (u : Nat → Nat) (w : World) (L : Nat) (b : Nat) : Nat := if b < w.heap.size then u b else L
theorem kp_grow {a' : Option Addr} (hG : Grow a w a' w') (hl : Lab u w0 a L) : Kp L u (lab u w L) w0 w w' := fun b hb _ hk => by
 refine ⟨by simp [lab, hb], hG.block b hb fun e => hk (hl b e.symm).2⟩
theorem lab_grow {a' : Option Addr} {e : TypeId} {k : Nat} {xs : List Value} (hr : Row w e k a c n xs) (hG : Grow a w a' w') (hl : Lab u w0 a L) (h0 : w0.heap.size ≤ w.heap.size) : Lab (lab u w L) w0 a' L := fun b hb => by
 rcases hG.own with h | h
 · rw [h] at hb
   have := hl b hb
   exact ⟨this.1, by simp [lab, hr.lt hb, this.2]⟩
 · rw [h] at hb; cases hb
   exact ⟨h0, by simp [lab]⟩
theorem Row.take {e : TypeId} {k m : Nat} {xs : List Value} (h : Row w e k a c n xs) (hm : m ≤ n) : Row w e k a c m (xs.take (m * k)) := by
 refine ⟨by rw [List.length_take, h.1]; exact Nat.min_eq_left (Nat.mul_le_mul_right _ hm), h.2.imp (fun h => ⟨h.1, h.2.1, by omega⟩) fun ⟨b, l, h1, h2, h3, h4, h5, h6⟩ => ⟨b, l, h1, h2, by omega, h4, h5, ?_⟩⟩
 rw [← h6, List.take_take, Nat.min_eq_left (Nat.mul_le_mul_right _ hm)]
theorem FoC.snoc {U : Nat → Prop} {t : Tok} {k : Fo} {ka : Option Addr} {kn kc : Nat} (hk : FoS U w ka kn kc k) : ∀ (p : Fo) (xs : List Value), FoC U w p xs → xs.length = p.len * 6 → FoC U w (p.snoc t k) (xs ++ (tokC t ++ [.slice ka kn kc]))
 | .nil, xs, _, hx => by
   have : xs = [] := List.eq_nil_of_length_eq_zero (by simpa [Fo.len] using hx)
   subst this
   exact ⟨ka, kn, kc, [], rfl, hk, trivial⟩
 | .cons t' k' r, xs, ⟨a, n, c, l', h1, h2, h3⟩, hx => by
   subst h1
   exact ⟨a, n, c, _, rfl, h2, FoC.snoc hk r l' h3 (by simp [Fo.len] at hx; omega)⟩
theorem FoC.init {U : Nat → Prop} {t : Tok} {k : Fo} : ∀ (p : Fo) (xs : List Value), FoC U w (p.snoc t k) xs → FoC U w p (xs.take (p.len * 6))
 | .nil, _, _ => trivial
 | .cons t' k' r, xs, ⟨a, n, c, l', h1, h2, h3⟩ => by
   subst h1
   refine ⟨a, n, c, l'.take (r.len * 6), ?_, h2, FoC.init r l' h3⟩
   simp only [Fo.len]
   rw [show (r.len + 1) * 6 = r.len * 6 + 6 by omega]
   rfl
theorem Fo.len_snoc (t : Tok) (k : Fo) : ∀ (p : Fo), (p.snoc t k).len = p.len + 1
 | .nil => rfl
 | .cons _ _ r => by simp [Fo.snoc, Fo.len, Fo.len_snoc t k r]
end
section
variable {eT eK eS : TypeId} {u : Nat → Nat} {w0 w w' : World} {so sl : List (Tok × Fo)} {oa : Option Addr} {oc : Nat} {sa : Option Addr} {sc : Nat} {x : Value} {a : Option Addr} {c : Nat} {p : Fo} {vs : List Value} {ka : Option Addr} {kn kc : Nat} {kf : Fo}
theorem SV.ext (h : SV eT eK eS u w0 w so sl oa oc sa sc x a c p vs ka kn kc kf) (hE : Ext w w') : SV eT eK eS u w0 w' so sl oa oc sa sc x a c p vs ka kn kc kf := by
 have hK : Kp 2 u u w0 w w' := kp_ext hE
 exact ⟨h.o.ext hE, h.ol, h.s.ext hE, h.sla, let ⟨xs, h1, h2, h3⟩ := h.top; ⟨xs, h1.ext hE, h2.ext hE, h3⟩, h.lv.kp hK (by decide) (fun j _ => by omega), FoS.ext h.kid hE⟩
theorem SV.pushTok (h : SV eT eK eS u w0 w so sl oa oc sa sc x a c p vs ka kn kc kf) (k : Tok) (q : Fo) {oa' : Option Addr} {oc' : Nat} (hr : Row w' eK 5 oa' oc' (so.length + 1) (opC so ++ tokC k)) (hG : Grow oa w oa' w') (h0 : w0.heap.size ≤ w.heap.size) :
   ∃ u', SV eT eK eS u' w0 w' ((k, q) :: so) sl oa' oc' sa sc x a c p vs ka kn kc kf := by
 have hK := kp_grow hG h.ol
 obtain ⟨h1, h2⟩ := Row.kp h.s h.sla hK (by decide)
 exact ⟨_, hr, lab_grow h.o hG h.ol h0, h1, h2, h.top.kp hK (by decide) (by omega), h.lv.kp hK (by decide) (fun j _ => by omega), FoS.imp h.kid (fz_kp hK (by decide))⟩
theorem SV.pushLev (h : SV eT eK eS u w0 w so sl oa oc sa sc x a c p vs ka kn kc kf) (hx : x = .slice a p.len c) (k : Tok) {sa' : Option Addr} {sc' : Nat} (hr : Row w' eS 1 sa' sc' (sl.length + 1 + 1) (vs.reverse ++ [x] ++ [.slice none 0 0])) (hG : Grow sa w sa' w') (h0 : w0.heap.size ≤ w.heap.size) :
   ∃ u', SV eT eK eS u' w0 w' so ((k, p) :: sl) oa oc sa' sc' (.slice none 0 0) none 0 .nil (x :: vs) ka kn kc kf := by
 have hK := kp_grow hG h.sla
 obtain ⟨h1, h2⟩ := Row.kp h.o h.ol hK (by decide)
 refine ⟨_, h1, h2, by simpa using hr, lab_grow h.s hG h.sla h0, ⟨[], row_nil _ _ _, trivial, fun b hb => by cases hb⟩, ⟨⟨a, c, hx, h.top.kp hK (by decide) (by omega)⟩, h.lv.kp hK (by decide) (fun j _ => by omega)⟩, FoS.imp h.kid (fz_kp hK (by decide))⟩
def thaw (u : Nat → Nat) (L : Nat) (b : Nat) : Nat := if u b = L then 0 else u b
theorem SV.pop {o : Tok} {q : Fo} {so : List (Tok × Fo)} {y : Value} (h : SV eT eK eS u w0 w ((o, q) :: so) ((o, q) :: so) oa oc sa sc x a c p (y :: vs) ka kn kc kf) :
   ∃ u' a' c', y = .slice a' q.len c' ∧ SV eT eK eS u' w0 w so so oa oc sa sc y a' c' q vs a p.len c p := by
 have hK : Kp (3 + ((o, q) :: so).length) u (thaw u (3 + ((o, q) :: so).length)) w0 w w := fun b _ _ hb => ⟨by simp only [thaw, if_neg hb], rfl⟩
 obtain ⟨⟨a', c', h1, h2⟩, h3⟩ := h.lv
 obtain ⟨xs, t1, t2, t3⟩ := h.top
 have ho := Row.take (m := so.length) h.o (by simp)
 have hs := Row.take (m := so.length + 1) h.s (by simp)
 have e1 : (opC ((o, q) :: so)).take (so.length * 5) = opC so := by rw [opC, ← opC_length so]; exact List.take_left
 have hvl : (y :: vs).length = so.length + 1 := by
   have := h.s.1
   simp at this
   simp
   omega
 have e2 : ((y :: vs).reverse ++ [x]).take ((so.length + 1) * 1) = vs.reverse ++ [y] := by
   rw [List.reverse_cons, Nat.mul_one, ← hvl]
   have : (vs.reverse ++ [y]).length = (y :: vs).length := by simp
   rw [← this]; exact List.take_left
 rw [e1] at ho
 rw [e2] at hs
 obtain ⟨o1, o2⟩ := Row.kp ho h.ol hK (by simp only [List.length_cons]; omega)
 obtain ⟨s1, s2⟩ := Row.kp hs h.sla hK (by simp only [List.length_cons]; omega)
 refine ⟨_, a', c', h1, o1, o2, s1, s2, h2.kp hK (by simp only [List.length_cons]; omega) (by simp only [List.length_cons]; omega), h3.kp hK (by simp only [List.length_cons]; omega) (fun j hj => by simp only [List.length_cons]; omega), ?_⟩
 refine ⟨rfl, t1.n_le, ?_⟩
 rcases t1.2 with ⟨_, _, h0⟩ | ⟨b, l, ha, hb, _, _, _, ht⟩
 · exact .inl h0
 · have hl := t3 b (by rw [ha]; rfl)
   refine .inr ⟨b, 0, l, eT, ⟨hl.1, by simp only [thaw, hl.2, if_true]⟩, ha, hb, ?_⟩
   rw [List.drop_zero, ← List.take_append_drop (p.len * 6) l, ht]
   exact FoC.more p xs _ (FoC.imp (fz_kp hK (by simp only [List.length_cons]; omega)) p xs t2)
theorem SV.app (h : SV eT eK eS u w0 w so sl oa oc sa sc x a c p vs ka kn kc kf) {xs : List Value} (hrow : Row w eT 6 a c p.len xs) (hfc : FoC (Fz u w0) w p xs) (hla : Lab u w0 a (3 + sl.length)) (t : Tok) {k1 : Option Addr} {n1 c1 : Nat} {kf0 : Fo} (hk : FoS (Fz u w0) w k1 n1 c1 kf0)
   {a' : Option Addr} {c' : Nat} (hr : Row w' eT 6 a' c' (p.len + 1) (xs ++ (tokC t ++ [.slice k1 n1 c1]))) (hG : Grow a w a' w') (h0 : w0.heap.size ≤ w.heap.size) :
   ∃ u', SV eT eK eS u' w0 w' so sl oa oc sa sc x a' c' (p.snoc t kf0) vs ka kn kc kf := by
 have hK := kp_grow hG hla
 obtain ⟨o1, o2⟩ := Row.kp h.o h.ol hK (by omega)
 obtain ⟨s1, s2⟩ := Row.kp h.s h.sla hK (by omega)
 refine ⟨_, o1, o2, s1, s2, ⟨_, by rw [Fo.len_snoc]; exact hr, FoC.snoc (FoS.imp hk (fz_kp hK (by omega))) p xs (FoC.imp (fz_kp hK (by omega)) p xs hfc) hrow.1, lab_grow hrow hG hla h0⟩, h.lv.kp hK (by omega) (fun j _ => by omega), FoS.imp h.kid (fz_kp hK (by omega))⟩
theorem SV.sblk (h : SV eT eK eS u w0 w so sl oa oc sa sc x a c p vs ka kn kc kf) : ∃ sb l, sa = some ⟨sb, 0, none⟩ ∧ Blk w sb l eS ∧ l[sl.length]? = some x ∧ sl.length + 1 ≤ l.length ∧ w0.heap.size ≤ sb ∧ u sb = 2 := by
 rcases h.s.2 with ⟨_, _, h0⟩ | ⟨b, l, ha, hb, h1, h2, h3, h4⟩
 · cases h0
 · have hl := h.sla b (by rw [ha]; rfl)
   have hlen := h.s.1
   refine ⟨b, l, ha, hb, ?_, by omega, hl⟩
   have e : (vs.reverse ++ [x])[sl.length]? = some x := by
     have : vs.length = sl.length := by simp at hlen; omega
     simp [← this]
   rw [← h4, List.getElem?_take, if_pos (by omega)] at e
   exact e
theorem take_putL {l vs : List Value} {o : Nat} (h : o + vs.length ≤ l.length) : (putL l o vs).take (o + vs.length) = l.take o ++ vs := by
 rw [putL_eq vs l o h]
 have : (l.take o ++ vs).length = o + vs.length := by rw [List.length_append, List.length_take]; omega
 rw [← this]; exact List.take_left
theorem SV.cell (h : SV eT eK eS u w0 w so sl oa oc sa sc x a c p vs ka kn kc kf) {sb : Nat} {l : List Value} {y : Value} (hsa : sa = some ⟨sb, 0, none⟩) (hb : Blk w sb l eS) (hb' : Blk w' sb (putL l sl.length [y]) eS) (hC : Chg sb w w') :
   SV eT eK eS u w0 w' so sl oa oc sa sc y a c p vs ka kn kc kf := by
 have hK : Kp 2 u u w0 w w' := kp_chg hC (h.sla sb (by rw [hsa]; rfl)).2
 obtain ⟨o1, o2⟩ := Row.kp h.o h.ol hK (by decide)
 refine ⟨o1, o2, ⟨by have := h.s.1; simpa using this, ?_⟩, h.sla, h.top.kp hK (by decide) (by omega), h.lv.kp hK (by decide) (fun j _ => by omega), FoS.imp h.kid (fz_kp hK (by decide))⟩
 rcases h.s.2 with ⟨_, _, h0⟩ | ⟨b, l1, ha, hb1, h1, h2, h3, h4⟩
 · cases h0
 · rw [hsa] at ha; cases ha
   have hll : l = l1 := by have := hb.symm.trans hb1; simpa using this
   subst hll
   have hle : sl.length + [y].length ≤ l.length := by simp only [List.length_singleton]; omega
   refine .inr ⟨sb, _, hsa, hb', h1, h2, by rw [putL_length]; exact h3, ?_⟩
   have := take_putL hle
   rw [Nat.mul_one]
   rw [List.length_singleton] at this
   rw [this]
   have e : (vs.reverse ++ [x]).take sl.length = vs.reverse := by
     have hv : vs.reverse.length = sl.length := by have := h.s.1; simp at this; simp; omega
     rw [← hv]; exact List.take_left
   rw [← e, ← h4, List.take_take, Nat.mul_one, Nat.min_eq_left (by omega)]
theorem SV.tblk {t : Tok} {k : Fo} (h : SV eT eK eS u w0 w so sl oa oc sa sc x a c (p.snoc t k) vs ka kn kc kf) : ∃ b l, a = some ⟨b, 0, none⟩ ∧ Blk w b l eT ∧ (p.len + 1) * 6 ≤ l.length ∧ w0.heap.size ≤ b ∧ u b = 3 + sl.length := by
 obtain ⟨xs, h1, h2, h3⟩ := h.top
 rw [Fo.len_snoc] at h1
 rcases h1.2 with ⟨_, _, h0⟩ | ⟨b, l, ha, hb, h4, _, h5, _⟩
 · cases h0
 · exact ⟨b, l, ha, hb, by rw [h5]; exact Nat.mul_le_mul_right _ h4, h3 b (by rw [ha]; rfl)⟩
theorem SV.last {t0 : Tok} {k0 : Fo} (h : SV eT eK eS u w0 w so sl oa oc sa sc x a c (p.snoc t0 k0) vs ka kn kc kf) {b : Nat} {l : List Value} (ha : a = some ⟨b, 0, none⟩) (hb : Blk w b l eT) (t : Tok) {k1 : Option Addr} {n1 c1 : Nat} {kf0 : Fo} (hk : FoS (Fz u w0) w k1 n1 c1 kf0)
   (hb' : Blk w' b (putL l (p.len * 6) (tokC t ++ [.slice k1 n1 c1])) eT) (hC : Chg b w w') : SV eT eK eS u w0 w' so sl oa oc sa sc x a c (p.snoc t kf0) vs ka kn kc kf := by
 obtain ⟨xs, h1, h2, h3⟩ := h.top
 have hlb := (h3 b (by rw [ha]; rfl)).2
 have hK : Kp (3 + sl.length) u u w0 w w' := kp_chg hC hlb
 obtain ⟨o1, o2⟩ := Row.kp h.o h.ol hK (by omega)
 obtain ⟨s1, s2⟩ := Row.kp h.s h.sla hK (by omega)
 rw [Fo.len_snoc] at h1
 refine ⟨o1, o2, s1, s2, ⟨xs.take (p.len * 6) ++ (tokC t ++ [.slice k1 n1 c1]), ?_, ?_, h3⟩, h.lv.kp hK (by omega) (fun j _ => by omega), FoS.imp h.kid (fz_kp hK (by omega))⟩
 · rw [Fo.len_snoc]
   refine ⟨by rw [List.length_append, List.length_take, h1.1]; simp [tokC]; omega, ?_⟩
   rcases h1.2 with ⟨_, _, h0⟩ | ⟨b1, l1, ha1, hb1, h4, h5, h6, h7⟩
   · cases h0
   · rw [ha] at ha1; cases ha1
     have hll : l = l1 := by have := hb.symm.trans hb1; simpa using this
     subst hll
     refine .inr ⟨b, _, ha, hb', h4, h5, by rw [putL_length]; exact h6, ?_⟩
     have hle : p.len * 6 + (tokC t ++ [Value.slice k1 n1 c1]).length ≤ l.length := by simp [tokC]; omega
     have := take_putL hle
     have e : p.len * 6 + (tokC t ++ [Value.slice k1 n1 c1]).length = (p.len + 1) * 6 := by simp [tokC]; omega
     rw [e] at this
     rw [this, ← h7, List.take_take, Nat.min_eq_left (by omega)]
 · exact FoC.snoc (FoS.imp hk (fz_kp hK (by omega))) p _ (FoC.imp (fz_kp hK (by omega)) p _ (FoC.init p xs h2)) (by rw [List.length_take, h1.1]; omega)
end
end Go.SP
namespace Go.SW
open Go.RowKit
section
variable {P : Program} {n : Nat} {Q : Post} {σ : Env} {ds : List Deferred} {w : World} {ops : Array Oper} {ty T T' : TypeId} {pos : String} {af : Array Edge} {rest : List Oper} {b off k : Nat} {x y : Operand} {l : List Value}
theorem ewl_storeG {v : Value} {vs : List Value} {a : Bool} (hx : ev σ x = some (.pointer (some ⟨b, off, none⟩))) (hy : ev σ y = some v) (hv : cellsO v = some vs) (hT : tinfo P T = some (a, k)) (hk : Nat.beq vs.length k = true)
   (hb : Blk w b l T') (h1 : one1 vs = true) (hf : off + vs.length ≤ l.length)
   (h : ∀ w', Blk w' b (putL l off vs) T' → Chg b w w' → EWL P n ops Q rest σ ds w') : EWL P n ops Q (⟨none, .store T x y, ty, pos, af, none⟩ :: rest) σ ds w :=
 ewl_runu (rn_store hx hy (cellsO_eq hv) hT hk hb h1 hf) (h _ (setRow_heap w b _ _ T' _ hb) (chg_setRow w b _))
theorem rn_slte {e : TypeId} {hi : Operand} {k1 : IntKind} {z : Int} (i : Nat) {a : Option Addr} {len cap : Nat} (hx : ev σ x = some (.slice a len cap)) (hhi : ev σ hi = some (.int k1 z)) (hz : z = (i : Int))
   (hs : sle P T = some (e, k)) (h : i ≤ cap) : Runs P σ (.slice T x none (some hi) none) ty w (.slice a i cap) w := by
 subst hz; exact rn_slto hx hhi hs h
end
end Go.SW
namespace Go.SP
open Go.SW Go.RowKit
def toksC : List Tok → List Value
 | [] => []
 | t :: l => tokC t ++ toksC l
theorem toksC_length : ∀ l, (toksC l).length = l.length * 5
 | [] => rfl
 | t :: l => by simp [toksC, toksC_length l, tokC]; omega
theorem toksC_app : ∀ l m, toksC (l ++ m) = toksC l ++ toksC m
 | [], _ => rfl
 | t :: l, m => by simp [toksC, toksC_app l m]
theorem drop_take_eq {l xs ys : List Value} {n : Nat} (h : l.take n = xs ++ ys) : l.drop xs.length = ys ++ l.drop n := by
 have h2 := List.take_append_drop n l
 rw [h, List.append_assoc] at h2
 rw [← h2]
 have h3 : (xs ++ (ys ++ l.drop n)).drop xs.length = ys ++ l.drop n := List.drop_left
 rw [h2] at h3 ⊢
 exact h3
theorem tok_at {w : World} {e : TypeId} {a : Option Addr} {c i : Nat} {pre rest : List Tok} {k : Tok} (h : Row w e 5 a c (pre ++ k :: rest).length (toksC (pre ++ k :: rest))) (hi : pre.length = i) :
   ∃ b l l', a = some ⟨b, 0, none⟩ ∧ Blk w b l e ∧ l.drop (0 + i * 5) = .int .i64 k.k :: .int .i64 k.ln :: .int .i64 k.co :: .int .i64 k.nm :: S k.tx :: l' := by
 rcases h.2 with ⟨_, _, h0⟩ | ⟨b, l, ha, hb, _, _, _, ht⟩
 · simp at h0
 · rw [toksC_app, toksC] at ht
   have := drop_take_eq ht
   rw [toksC_length, hi] at this
   exact ⟨b, l, _, ha, hb, by rw [Nat.zero_add, this]; rfl⟩
section
variable {eT eK eS : TypeId} {u : Nat → Nat} {w0 w w' : World} {so sl : List (Tok × Fo)} {oa : Option Addr} {oc : Nat} {sa : Option Addr} {sc : Nat} {x : Value} {a : Option Addr} {c : Nat} {p : Fo} {vs : List Value} {ka : Option Addr} {kn kc : Nat} {kf : Fo}
theorem SV.oblk {o : Tok} {q : Fo} {s : List (Tok × Fo)} (h : SV eT eK eS u w0 w ((o, q) :: s) sl oa oc sa sc x a c p vs ka kn kc kf) : ∃ b l l', oa = some ⟨b, 0, none⟩ ∧ Blk w b l eK ∧
   l.drop (0 + s.length * 5) = .int .i64 o.k :: .int .i64 o.ln :: .int .i64 o.co :: .int .i64 o.nm :: S o.tx :: l' := by
 rcases h.o.2 with ⟨_, _, h0⟩ | ⟨b, l, ha, hb, _, _, _, ht⟩
 · cases h0
 · rw [opC] at ht
   have := drop_take_eq ht
   rw [opC_length] at this
   exact ⟨b, l, _, ha, hb, by rw [Nat.zero_add, this]; rfl⟩
theorem opC_last : ∀ (o : Tok × Fo) (s : List (Tok × Fo)), ∃ q l', (o :: s).getLast? = some q ∧ opC (o :: s) = tokC q.1 ++ l'
 | o, [] => ⟨o, [], rfl, by simp [opC]⟩
 | o, o' :: s => by
   obtain ⟨q, l', h1, h2⟩ := opC_last o' s
   refine ⟨q, l' ++ tokC o.1, by rw [List.getLast?_cons_cons]; exact h1, ?_⟩
   show opC (o' :: s) ++ tokC o.1 = _
   rw [h2, List.append_assoc]
theorem SV.oblk0 {o : Tok × Fo} {s : List (Tok × Fo)} (h : SV eT eK eS u w0 w (o :: s) sl oa oc sa sc x a c p vs ka kn kc kf) : ∃ b l l' t f, oa = some ⟨b, 0, none⟩ ∧ Blk w b l eK ∧ (o :: s).getLast? = some (t, f) ∧
   l.drop (0 + 0 * 5) = .int .i64 t.k :: .int .i64 t.ln :: .int .i64 t.co :: .int .i64 t.nm :: S t.tx :: l' := by
 obtain ⟨⟨t, f⟩, l', h1, h2⟩ := opC_last o s
 rcases h.o.2 with ⟨_, _, h0⟩ | ⟨b, l, ha, hb, _, _, _, ht⟩
 · cases h0
 · refine ⟨b, l, l' ++ l.drop ((o :: s).length * 5), t, f, ha, hb, h1, ?_⟩
   rw [h2] at ht
   exact drop_take_eq (xs := []) ht
theorem SV.knil (h : SV eT eK eS u w0 w so sl oa oc sa sc x a c p vs ka kn kc kf) : SV eT eK eS u w0 w so sl oa oc sa sc x a c p vs none 0 0 .nil := { h with kid := FoS.nil _ _ _ _ }
theorem SV.olt (h : SV eT eK eS u w0 w so sl oa oc sa sc x a c p vs ka kn kc kf) : ∀ b, rb oa = some b → b < w.heap.size := fun _ hb => h.o.lt hb
theorem SV.slt (h : SV eT eK eS u w0 w so sl oa oc sa sc x a c p vs ka kn kc kf) : ∀ b, rb sa = some b → b < w.heap.size := fun _ hb => h.s.lt hb
theorem SV.tlt (h : SV eT eK eS u w0 w so sl oa oc sa sc x a c p vs ka kn kc kf) : ∀ b, rb a = some b → b < w.heap.size := fun _ hb => let ⟨_, h1, _⟩ := h.top; h1.lt hb
theorem SV.start {b : Nat} (hb : Blk w b [.slice none 0 0] eS) (h0 : w0.heap.size ≤ b) : SV eT eK eS (fun _ => 2) w0 w [] [] none 0 (some ⟨b, 0, none⟩) 1 (.slice none 0 0) none 0 .nil [] none 0 0 .nil :=
 ⟨row_nil _ _ _, (fun _ h => by cases h), ⟨rfl, .inr ⟨b, _, rfl, hb, Nat.le_refl _, by unfold maxLen; omega, rfl, rfl⟩⟩, (fun c hc => by cases hc; exact ⟨h0, rfl⟩), ⟨[], row_nil _ _ _, trivial, (fun _ h => by cases h)⟩, trivial, FoS.nil _ _ _ _⟩
/-- What is left in the end. -/
theorem SV.out (h : SV eT eK eS u w0 w so sl oa oc sa sc x a c p vs ka kn kc kf) : FoS (fun b => w0.heap.size ≤ b) w a p.len c p := by
 obtain ⟨xs, t1, t2, t3⟩ := h.top
 refine ⟨rfl, t1.n_le, ?_⟩
 rcases t1.2 with ⟨_, _, h0⟩ | ⟨b, l, ha, hb, _, _, _, ht⟩
 · exact .inl h0
 · have hl := t3 b (by rw [ha]; rfl)
   refine .inr ⟨b, 0, l, eT, hl.1, ha, hb, ?_⟩
   rw [List.drop_zero, ← List.take_append_drop (p.len * 6) l, ht]
   exact FoC.more p xs _ (FoC.imp (fun b hb _ => ⟨hb.1, rfl⟩) p xs t2)
theorem SV.cell' (h : SV eT eK eS u w0 w so sl oa oc sa sc x a c p vs ka kn kc kf) {sb : Nat} {l : List Value} {y : Value} (hsa : sa = some ⟨sb, 0, none⟩) (hb : Blk w sb l eS) (hb' : Blk w' sb (putL l (0 + sl.length * 1) [y]) eS) (hC : Chg sb w w') :
   SV eT eK eS u w0 w' so sl oa oc sa sc y a c p vs ka kn kc kf := h.cell hsa hb (by rwa [Nat.zero_add, Nat.mul_one] at hb') hC
theorem SV.last' {t0 : Tok} {k0 : Fo} (h : SV eT eK eS u w0 w so sl oa oc sa sc x a c (p.snoc t0 k0) vs ka kn kc kf) {b : Nat} {l : List Value} (ha : a = some ⟨b, 0, none⟩) (hb : Blk w b l eT) (t : Tok) {k1 : Option Addr} {n1 c1 : Nat} {kf0 : Fo} (hk : FoS (Fz u w0) w k1 n1 c1 kf0)
   (hb' : Blk w' b (putL l (0 + p.len * 6) (tokC t ++ [.slice k1 n1 c1])) eT) (hC : Chg b w w') : SV eT eK eS u w0 w' so sl oa oc sa sc x a c (p.snoc t kf0) vs ka kn kc kf := h.last ha hb t hk (by rwa [Nat.zero_add] at hb') hC
end
theorem lens_up {st : List (Tok × Fo)} {i : Nat} (h : ∀ z ∈ st, z.2.len ≤ i) : ∀ z ∈ st, z.2.len ≤ i + 1 := fun z hz => Nat.le_succ_of_le (h z hz)
theorem lens_push {st : List (Tok × Fo)} {i : Nat} (k : Tok) {cur : Fo} (h : ∀ z ∈ st, z.2.len ≤ i) (hc : cur.len ≤ i) : ∀ z ∈ (k, cur) :: st, z.2.len ≤ i + 1 := fun z hz => by
 rcases List.mem_cons.1 hz with rfl | hz
 · exact Nat.le_succ_of_le hc
 · exact lens_up h z hz
theorem lens_pop {st : List (Tok × Fo)} {i : Nat} {o : Tok × Fo} (h : ∀ z ∈ o :: st, z.2.len ≤ i) : ∀ z ∈ st, z.2.len ≤ i + 1 := fun z hz => lens_up h z (.tail _ hz)
section
variable {k : Tok} {l : List Tok} {st : List (Tok × Fo)} {cur : Fo}
theorem treesM_full (h : (k.k == 0) = true) (h2 : st.length = 200) : treesM (k :: l) st cur = .error (k.ln, k.co) := by unfold treesM; simp [h, h2]
theorem treesM_open (h : (k.k == 0) = true) (h2 : st.length ≠ 200) : treesM (k :: l) st cur = treesM l ((k, cur) :: st) .nil := by rw [treesM.eq_def]; simp [h, h2]
theorem treesM_bad (h : (k.k == 0) = false) (h1 : (k.k == 1) = true) : treesM (k :: l) [] cur = .error (k.ln, k.co) := by unfold treesM; simp [h, h1]
theorem treesM_close {o : Tok} {q : Fo} {s : List (Tok × Fo)} (h : (k.k == 0) = false) (h1 : (k.k == 1) = true) : treesM (k :: l) ((o, q) :: s) cur = treesM l s (q.snoc o cur) := by rw [treesM.eq_def]; simp [h, h1]
theorem treesM_other (h : (k.k == 0) = false) (h1 : (k.k == 1) = false) : treesM (k :: l) st cur = treesM l st (cur.snoc k .nil) := by rw [treesM.eq_def]; simp [h, h1]
theorem treesM_end {o : Tok × Fo} {s : List (Tok × Fo)} {t : Tok} {f : Fo} (h : (o :: s).getLast? = some (t, f)) : treesM [] (o :: s) cur = .error (t.ln, t.co) := by
 obtain ⟨o1, o2⟩ := o
 unfold treesM
 rw [h]
theorem treesM_done : treesM [] [] cur = .ok cur := by unfold treesM; rfl
end
end Go.SP
namespace Go.SW
open Go.RowKit
section
variable {P : Program} {n : Nat} {Q : Post} {σ : Env} {ds : List Deferred} {w : World} {ops : Array Oper} {ty T : TypeId} {pos : String} {af : Array Edge} {rest : List Oper} {x : Operand}
/-- A function's end where calls may wait. -/
def fnPostD (P : Program) (fn : Func) (R : Ending → World → Prop) : Post :=
 { q := fun e σ ds w => match e with
     | .normal | .ret => ∀ tmps : Array Value, (∀ t v, σ t = some v → tmps.getD t undef = v) → Leaves P fn tmps R ds .returning w
     | _ => False
   p := fun c σ ds w => ∀ tmps : Array Value, (∀ t v, σ t = some v → tmps.getD t undef = v) → Leaves P fn tmps R ds (.panicking c) w }
theorem enterD {f : FuncId} {fn : Func} {c : Code} {l : List Value} {R : Ending → World → Prop} (hf : P.funcs[f]? = some fn) (hb : fn.body = some c)
   (hn : fn.ntmps = n) (hl : Nat.ble l.length n = true) (h : EWP P n c (fnPostD P fn R) (envOf l 0) [] w) : Calls P f l.toArray w R := by
 refine calls_of_wp_defers hf hb ?_
 rw [hn]
 refine wp_mono (h _ (st_enter hl)) fun e a w' he => ?_
 cases e with
 | normal => obtain ⟨σ, ds, hs, hq⟩ := he; show Leaves _ _ _ _ a.defers _ _; rw [hs.defs]; exact hq _ hs.val
 | ret => obtain ⟨σ, ds, hs, hq⟩ := he; show Leaves _ _ _ _ a.defers _ _; rw [hs.defs]; exact hq _ hs.val
 | panic c => obtain ⟨σ, ds, hs, hq⟩ := he; show Leaves _ _ _ _ a.defers _ _; rw [hs.defs]; exact hq _ hs.val
 | outgrown => exact he.elim
 | exit i => obtain ⟨σ, ds, hs, hq⟩ := he; exact hq.elim
 | goto i => obtain ⟨σ, ds, hs, hq⟩ := he; exact hq.elim
/-- Code that doesn't panic. -/
theorem ewp_nop {c : Code} (h : EWP P n c { q := Q.q, p := fun _ _ _ _ => False } σ ds w) : EWP P n c Q σ ds w := fun a ha =>
 wp_mono (h a ha) fun e a' w' he => by
   cases e with
   | normal => exact he
   | panic c => obtain ⟨_, _, _, hf⟩ := he; exact hf.elim
   | outgrown => exact he
   | ret => exact he
   | exit i => exact he
   | goto i => exact he
theorem rn_mkf {f : FuncId} {caps : List Operand} {cv : List Value} (hc : evAll σ caps = some cv) : Runs P σ (.makeFunc (.func f) #[] caps.toArray) ty w (.func (.func f) #[] cv.toArray) w := fun ρ _ _ _ _ hρ => by
 have h := evAll_spec hρ hc
 simp only [execOp, Instr.makeFunc, List.map_toArray, h, Array.map_empty]
 rfl
theorem ewl_defer {g : Operand} {f : FuncId} {cv : List Value} {ts : Array TypeId} (hg : ev σ g = some (.func (.func f) #[] cv.toArray))
   (h : EWL P n ops Q rest σ ({ target := .fn (.func f) cv.toArray, args := #[] } :: ds) w) : EWL P n ops Q (⟨none, .defer { callee := .value g, args := #[], argTypes := ts }, ty, pos, af, none⟩ :: rest) σ ds w := fun a ha =>
 wpList_plain rfl fun K hK => by
   unfold Oper.wp
   have e : (execOp a.eval ⟨none, .defer { callee := .value g, args := #[], argTypes := ts }, ty, pos, af, none⟩).run P w = .ok (.defer { target := .fn (.func f) cv.toArray, args := #[] }) w := by
     simp [execOp, resolve, Deferred.ofValue, ha.ev _ _ hg]
   rw [e]
   exact hK _ _ (h _ ⟨ha.size, by show _ :: a.defers = _; rw [ha.defs], ha.val⟩)
/-- The deferred function's end. -/
theorem callsD_recover {f : FuncId} {fn : Func} {l : List Value} {i : Nat} {d : Nat} {c : Code} {u u' : FrameMode} {v : Value} {ty2 : TypeId} {pos2 : String} {af2 : Array Edge} {ts : Array TypeId} {R : World → Prop} {w : World}
   (hf : P.funcs[f]? = some fn) (hb : fn.body = some (.seq (.region i #[⟨some d, .call { callee := .builtin .recover, args := #[], argTypes := ts }, ty2, pos2, af2, none⟩] false) c)) (hn : fn.ntmps = n) (hl : Nat.ble l.length n = true) (hd : Nat.blt d n = true)
   (hrec : ∀ (c₀ : Frame) (cs : List Frame), c₀.mode = u → (recoverD (c₀ :: cs) = some (v, { c₀ with mode := u' } :: cs) ∨ (recoverD (c₀ :: cs) = none ∧ v = .nilIface ∧ u' = u)))
   (h : EWP P n c (fnPost P fn (fun _ w' => R w') fun _ _ => False) (upd (envOf l 0) d v) [] w) : CallsD P f l.toArray u w fun e m w' => ∃ x, e = .returned x ∧ m = u' ∧ R w' := by
 refine callsD_of_wpS hf hb fun c₀ cs hu => wpS_seq (wpS_region ?_)
 have hx : ∀ ρ, (execOp ρ ⟨some d, .call { callee := .builtin .recover, args := #[], argTypes := ts }, ty2, pos2, af2, none⟩).run P w = .ok .recover w := fun ρ => by
   simp [execOp, resolve, invoke, builtin]
 have hgo : ∀ cs', cs' = { c₀ with mode := u' } :: cs → (c.wpS P (bodyPostS P fn c₀ cs fun e m w' => ∃ x, e = .returned x ∧ m = u' ∧ R w') (Act.put { tmps := l.toArray ++ Array.replicate (fn.ntmps - l.toArray.size) undef, defers := [] } (some d) v) cs' w) := fun cs' hcs => by
   subst hcs
   refine wpS_of_wp ?_
   have hst := st_enter (n := n) hl
   rw [hn]
   refine wp_mono (h _ (hst.put hd v)) fun e a w' he => ?_
   cases e with
   | normal => obtain ⟨σ, ds, hs, hds, x, hx, hr⟩ := he; exact ⟨by rw [hs.defs, hds], u', rfl, x, hx _ hs.val, x, rfl, rfl, hr⟩
   | ret => obtain ⟨σ, ds, hs, hds, x, hx, hr⟩ := he; exact ⟨by rw [hs.defs, hds], u', rfl, x, hx _ hs.val, x, rfl, rfl, hr⟩
   | panic c => obtain ⟨_, _, _, hq⟩ := he; exact hq.2.elim
   | outgrown => exact he.elim
   | exit i => obtain ⟨σ, ds, hs, hq⟩ := he; exact hq.elim
   | goto i => obtain ⟨σ, ds, hs, hq⟩ := he; exact hq.elim
 have hsame : ({ c₀ with mode := u } : Frame) = c₀ := by subst hu; rfl
 show wpOpsS P _ _ [0] _ _ _
 simp only [wpOpsS, List.getElem?_toArray, List.getElem?_cons_zero, Region.wanted, if_true, hx]
 rcases hrec c₀ cs hu with hr | ⟨hr, hv, hu'⟩
 · rw [hr]; exact hgo _ rfl
 · rw [hr]
   subst hv hu'
   exact hgo _ (by rw [hsame])
theorem leaves_one {fn : Func} {tmps : Array Value} {R : Ending → World → Prop} {f : FuncId} {cv : List Value} {u u' : FrameMode} {R' : World → Prop} (hu : u ≠ .run) (he : Ent P f) (h : CallsD P f cv.toArray u w fun e m w' => ∃ x, e = .returned x ∧ m = u' ∧ R' w')
   (hr : ∀ w', R' w' → Leaves P fn tmps R [] (settle u') w') : Leaves P fn tmps R [{ target := .fn (.func f) cv.toArray, args := #[] }] u w := by
 refine leaves_cons (f := f) (args := cv.toArray) hu (by simp only [invoke, Array.empty_append]; exact he _ _) (CallsD.mono h ?_)
 rintro e m w' ⟨x, rfl, rfl, hw⟩
 exact hr w' hw
theorem leaves_out {fn : Func} {tmps : Array Value} {R : Ending → World → Prop} {v : Value} (hσ : ∀ t v, σ t = some v → tmps.getD t undef = v) (hv : Res P fn σ w v) (h : R (.returned v) w) : Leaves P fn tmps R [] .returning w := ⟨v, hv _ hσ, h⟩
theorem rn_tas {v : Value} {X : TypeId} (hx : ev σ x = some (.iface T v)) (hT : tas P T = true) : Runs P σ (.typeAssert x X T true) ty w (.tuple #[v, .bool true]) w := fun ρ _ _ _ _ hρ => by
 unfold tas at hT
 cases hu : P.underlying T with
 | none => rw [hu] at hT; cases hT
 | some d =>
   rw [hu] at hT
   cases d <;> simp_all [execOp, Instr.typeAssert, underlying, hρ _ _ hx, run_underlying hu]
end
end Go.SW
namespace Go.SW
open Go.RowKit
section
variable {P : Program} {σ : Env} {w : World} {ty T : TypeId} {x y : Operand}
theorem ifT_spec (h : ifT P T = true) : ∃ ms, P.underlying T = some (.interface ms) := by
 unfold ifT at h
 split at h
 · exact ⟨_, by assumption⟩
 · cases h
theorem eqIn0 {ms} (d : Nat) {t : TypeId} (hu : P.underlying t = some (.interface ms)) : (Op.equalIn (d + 1) t .nilIface .nilIface).run P w = .ok true w := by simp [Op.equalIn, run_underlying hu]
theorem eqIn1 {ms} (d : Nat) {t : TypeId} {v : Value} (hu : P.underlying t = some (.interface ms)) : (Op.equalIn (d + 1) t (.iface T v) .nilIface).run P w = .ok false w := by simp [Op.equalIn, run_underlying hu]
theorem rn_nil0 {t t' : TypeId} (ht : ifT P t = true) (hx : ev σ x = some .nilIface) : Runs P σ (.binOp .eql t x (.const .nilIface) t') ty w (.bool true) w := by
 obtain ⟨ms, hu⟩ := ifT_spec ht
 have e : (Op.equal t .nilIface .nilIface).run P w = .ok true w := eqIn0 (Op.maxDepth - 1) hu
 exact fun ρ _ _ _ _ hρ => by
   have hy : ρ (.const .nilIface) = .nilIface := hρ _ _ rfl
   simp [execOp, hρ _ _ hx, hy, eqGuard, binOp, e]
theorem rn_nil1 {t t' : TypeId} {v : Value} (ht : ifT P t = true) (hx : ev σ x = some (.iface T v)) : Runs P σ (.binOp .eql t x (.const .nilIface) t') ty w (.bool false) w := by
 obtain ⟨ms, hu⟩ := ifT_spec ht
 have e : (Op.equal t (.iface T v) .nilIface).run P w = .ok false w := eqIn1 (Op.maxDepth - 1) hu
 exact fun ρ _ _ _ _ hρ => by
   have hy : ρ (.const .nilIface) = .nilIface := hρ _ _ rfl
   simp [execOp, hρ _ _ hx, hy, eqGuard, binOp, e]
theorem rec_idle : ∀ (c₀ : Frame) (cs : List Frame), c₀.mode = .returning → (recoverD (c₀ :: cs) = some (Value.nilIface, { c₀ with mode := .returning } :: cs) ∨ (recoverD (c₀ :: cs) = none ∧ Value.nilIface = Value.nilIface ∧ FrameMode.returning = .returning)) := fun c₀ cs h => .inr ⟨by simp [recoverD, h], rfl, rfl⟩
theorem rec_hit {v : Value} : ∀ (c₀ : Frame) (cs : List Frame), c₀.mode = .panicking [{ v := v, recovered := false }] → (recoverD (c₀ :: cs) = some (v, { c₀ with mode := .panicking [{ v := v, recovered := true }] } :: cs) ∨ (recoverD (c₀ :: cs) = none ∧ v = Value.nilIface ∧ FrameMode.panicking [{ v := v, recovered := true }] = .panicking [{ v := v, recovered := false }])) := fun c₀ cs h => .inl (by simp [recoverD, h])
theorem settle_hit {v : Value} : settle (.panicking [{ v := v, recovered := true }]) = .returning := by simp [settle]
end
end Go.SW
namespace Go.Proofs.YthjdnhnbgjgbkaaGreatDoor
open Go.SW Go.SP Go.RowKit
theorem pcatch_idle (w : World) (c2 c3 c4 : Nat) :
   CallsD Tryz.prog 14 [.pointer (some ⟨c2, 0, none⟩), .pointer (some ⟨c3, 0, none⟩), .pointer (some ⟨c4, 0, none⟩)].toArray .returning w fun r m w' => ∃ x, r = .returned x ∧ m = .returning ∧ (Ext w w') := by
 have hX := Ext.refl w
 refine callsD_recover (R := fun w' => Ext w w') Tryz.func14 rfl rfl rfl rfl rec_idle ?_
 refine ewp_block ?_
 refine ewp_seq ?_
 refine ewp_reg ?_
 refine ewl_run rfl (rn_nil0 ift20 rfl) ?_
 refine ewl_nil ?_
 refine thn_n ?_
 refine ewp_ift rfl rfl ?_
 refine ewp_reg ?_
 refine ewl_run rfl (rn_assign rfl) ?_
 refine ewl_nil ?_
 refine blk_n ?_
 refine fn_n (res0 rfl) ?_
 exact hX
theorem pcatch_hit (w0 w : World) (hX0 : Ext w0 w) (c2 c3 c4 : Nat) (v2 x3 y3 v4 : Value) (hc2 : Blk w c2 [v2] 23) (hc3 : Blk w c3 [x3, y3] 25) (hc4 : Blk w c4 [v4] 26) (g2 : w0.heap.size ≤ c2) (g3 : w0.heap.size ≤ c3) (g4 : w0.heap.size ≤ c4) (n23 : c2 ≠ c3) (n24 : c2 ≠ c4) (n34 : c3 ≠ c4) (e : Int × Int) :
   CallsD Tryz.prog 14 [.pointer (some ⟨c2, 0, none⟩), .pointer (some ⟨c3, 0, none⟩), .pointer (some ⟨c4, 0, none⟩)].toArray (.panicking (trb 45 e)) w fun r m w' => ∃ x, r = .returned x ∧ m = .panicking [{ v := .iface 45 (.agg #[.int .i64 e.1, .int .i64 e.2]), recovered := true }] ∧ (Ext w0 w' ∧ Blk w' c2 [.slice none 0 0] 23 ∧ Blk w' c3 [.int .i64 e.1, .int .i64 e.2] 25 ∧ Blk w' c4 [.int .i64 10] 26) := by
 have l2 := hc2.lt
 have l3 := hc3.lt
 have l4 := hc4.lt
 have hX := hX0
 have szx := hX.size
 refine callsD_recover (R := fun w' => Ext w0 w' ∧ Blk w' c2 [.slice none 0 0] 23 ∧ Blk w' c3 [.int .i64 e.1, .int .i64 e.2] 25 ∧ Blk w' c4 [.int .i64 10] 26) Tryz.func14 rfl rfl rfl rfl rec_hit ?_
 refine ewp_block ?_
 refine ewp_seq ?_
 refine ewp_reg ?_
 refine ewl_run rfl (rn_nil1 ift20 rfl) ?_
 refine ewl_nil ?_
 refine thn_n ?_
 refine ewp_iff rfl rfl ?_
 refine ewp_seq ?_
 refine ewp_reg ?_
 refine ewl_run rfl (rn_tas rfl tas45) ?_
 refine ewl_run rfl (rn_exs rfl rfl) ?_
 refine ewl_run rfl (rn_exs rfl rfl) ?_
 refine ewl_nil ?_
 refine thn_n ?_
 refine ewp_ift rfl rfl ?_
 refine ewp_seq ?_
 refine ewp_reg ?_
 refine ewl_alloc rfl zr45 fun b1 w1 hb1 hE1 hs1 hz1 => ?_
 replace hc2 := hc2.ext hE1
 replace hc3 := hc3.ext hE1
 replace hc4 := hc4.ext hE1
 replace hX := hX.trans hE1
 refine ewl_store rfl rfl rfl ti45 rfl hb1 rfl rfl fun w2 hb2 hC1 => ?_
 replace hc2 := hc2.chg hC1 (by omega)
 replace hc3 := hc3.chg hC1 (by omega)
 replace hc4 := hc4.chg hC1 (by omega)
 replace hX := hX.chg hC1 (by omega)
 have sz1 := hC1.size
 refine ewl_nil ?_
 refine thn_n ?_
 have hr1 := hb2
 refine ewp_draw mixed (Keeps w2 [b1]) [(true, 0), (true, 1), (false, 2), (false, 3), (false, 4)] (by kernel_rfl) (by kernel_rfl) rfl rfl fun w3 hE2 hz2 => ?_
 have hKp : Keeps w2 [b1] w3 := Keeps.cons hr1 hE2 (Keeps.nil _ _)
 refine ⟨hKp, ?_⟩
 replace hc2 := hc2.ext hE2
 replace hc3 := hc3.ext hE2
 replace hc4 := hc4.ext hE2
 replace hb2 := hb2.ext hE2
 replace hX := hX.trans hE2
 refine ewo_rd rfl (fun _ hS => rn_fa rfl fl45_0) ?_
 refine ewo_rd rfl (fun _ hS => rn_loada rfl ti25 (hr1.keep hS (.head _)) rfl) ?_
 refine ewo_sp ?_
 refine ewl_store rfl rfl rfl ti23 rfl hc2 rfl rfl fun w4 hb3 hC2 => ?_
 replace hc3 := hc3.chg hC2 (by omega)
 replace hc4 := hc4.chg hC2 (by omega)
 replace hb2 := hb2.chg hC2 (by omega)
 replace hX := hX.chg hC2 (by omega)
 replace hKp := hKp.chg hC2 (by simp only [List.mem_cons, List.not_mem_nil, or_false]; omega)
 have sz2 := hC2.size
 refine ewl_nil (onw_n hKp ?_)
 refine ewo_sp ?_
 refine ewl_store rfl rfl rfl ti25 rfl hc3 rfl rfl fun w5 hb4 hC3 => ?_
 replace hb3 := hb3.chg hC3 (by omega)
 replace hc4 := hc4.chg hC3 (by omega)
 replace hb2 := hb2.chg hC3 (by omega)
 replace hX := hX.chg hC3 (by omega)
 replace hKp := hKp.chg hC3 (by simp only [List.mem_cons, List.not_mem_nil, or_false]; omega)
 have sz3 := hC3.size
 refine ewl_nil (onw_n hKp ?_)
 refine ewo_sp ?_
 refine ewl_store rfl rfl rfl ti26 rfl hc4 rfl rfl fun w6 hb5 hC4 => ?_
 replace hb3 := hb3.chg hC4 (by omega)
 replace hb4 := hb4.chg hC4 (by omega)
 replace hb2 := hb2.chg hC4 (by omega)
 replace hX := hX.chg hC4 (by omega)
 replace hKp := hKp.chg hC4 (by simp only [List.mem_cons, List.not_mem_nil, or_false]; omega)
 have sz4 := hC4.size
 refine ewl_nil (onw_n hKp ?_)
 refine ewo_nil ?_
 refine blk_n ?_
 refine fn_n (res0 rfl) ?_
 exact ⟨hX, hb3, hb4, hb5⟩
end Go.Proofs.YthjdnhnbgjgbkaaGreatDoor
namespace Go.Proofs.YthjdnhnbgjgbkaaGreatDoor
open Go.SW Go.SP Go.RowKit
theorem hd0_get {l : List UInt8} (h : l ≠ []) : l[(0 : Int).toNat]? = some (hd0 l) := by cases l <;> simp_all [hd0]
theorem isList_spec (w : World) (t : Tok) (kv : Value) :
   Ret Tryz.prog 23 #[.agg #[.int .i64 t.k, .int .i64 t.ln, .int .i64 t.co, .int .i64 t.nm, S t.tx, kv]] w fun v w' => v = .bool (t.k == 0) ∧ Ext w w' := by
 have hX := Ext.refl w
 refine enter Tryz.func23 rfl rfl rfl ?_
 refine ewp_seq ?_
 refine ewp_reg ?_
 refine ewl_box rfl rfl rfl fun b1 w1 hb1 hE1 hs1 hz1 => ?_
 replace hX := hX.trans hE1
 refine ewl_run rfl (rn_assign rfl) ?_
 refine ewl_nil ?_
 refine thn_n ?_
 refine ewp_seq ?_
 refine ewp_reg ?_
 refine ewl_run rfl (rn_fa rfl fl61_0) ?_
 refine ewl_run rfl (rn_fa rfl fl59_0) ?_
 refine ewl_run rfl (rn_load rfl ti3 hb1 rfl) ?_
 refine ewl_run rfl (rn_eqI rfl rfl) ?_
 refine ewl_run rfl (rn_assign rfl) ?_
 refine ewl_nil ?_
 refine thn_n ?_
 refine ewp_ret ?_
 refine fn_r (resv rfl (rv_tmp rfl)) ?_
 exact ⟨rfl, hX⟩
theorem isName_spec (w : World) (t : Tok) (kv : Value) :
   Ret Tryz.prog 24 #[.agg #[.int .i64 t.k, .int .i64 t.ln, .int .i64 t.co, .int .i64 t.nm, S t.tx, kv]] w fun v w' => v = .bool (t.k == 5) ∧ Ext w w' := by
 have hX := Ext.refl w
 refine enter Tryz.func24 rfl rfl rfl ?_
 refine ewp_seq ?_
 refine ewp_reg ?_
 refine ewl_box rfl rfl rfl fun b1 w1 hb1 hE1 hs1 hz1 => ?_
 replace hX := hX.trans hE1
 refine ewl_run rfl (rn_assign rfl) ?_
 refine ewl_nil ?_
 refine thn_n ?_
 refine ewp_seq ?_
 refine ewp_reg ?_
 refine ewl_run rfl (rn_fa rfl fl61_0) ?_
 refine ewl_run rfl (rn_fa rfl fl59_0) ?_
 refine ewl_run rfl (rn_load rfl ti3 hb1 rfl) ?_
 refine ewl_run rfl (rn_eqI rfl rfl) ?_
 refine ewl_run rfl (rn_assign rfl) ?_
 refine ewl_nil ?_
 refine thn_n ?_
 refine ewp_ret ?_
 refine fn_r (resv rfl (rv_tmp rfl)) ?_
 exact ⟨rfl, hX⟩
theorem isWord_spec (w : World) (t : Tok) (kv : Value) (s : List UInt8) :
   Ret Tryz.prog 39 #[.agg #[.int .i64 t.k, .int .i64 t.ln, .int .i64 t.co, .int .i64 t.nm, S t.tx, kv], S s] w fun v w' => v = .bool (t.isWord s) ∧ Ext w w' := by
 have hX := Ext.refl w
 refine enter Tryz.func39 rfl rfl rfl ?_
 refine ewp_seq ?_
 refine ewp_reg ?_
 refine ewl_box rfl rfl rfl fun b1 w1 hb1 hE1 hs1 hz1 => ?_
 replace hX := hX.trans hE1
 refine ewl_run rfl (rn_assign rfl) ?_
 refine ewl_nil ?_
 refine thn_n ?_
 refine ewp_seq ?_
 refine ewp_reg ?_
 refine ewl_run rfl (rn_loada rfl ti61 hb1 rfl) ?_
 refine ewl_ret rfl (en_call ent24 rfl rfl) (isName_spec _ ⟨_, _, _, _, _⟩ _) ?_
 rintro _ w2 ⟨rfl, hE2⟩
 replace hb1 := hb1.ext hE2
 replace hX := hX.trans hE2
 have sz1 := hE2.size
 refine ewl_run rfl (rn_move rfl) ?_
 refine ewl_split 7 rfl (fun h1 => ?_) (fun h1 => ?_)
 refine ewl_grd rfl rfl h1 ?_
 refine ewl_run rfl (rn_fa rfl fl61_0) ?_
 refine ewl_grd rfl rfl h1 ?_
 refine ewl_run rfl (rn_fa rfl fl59_3) ?_
 refine ewl_grd rfl rfl h1 ?_
 refine ewl_run rfl (rn_load rfl ti9 hb1 rfl) ?_
 refine ewl_grd rfl rfl h1 ?_
 refine ewl_run rfl (rn_move rfl) ?_
 refine ewl_grd rfl rfl h1 ?_
 refine ewl_run rfl (rn_eqS rfl rfl) ?_
 refine ewl_run rfl (rn_pickt rfl h1 rfl) ?_
 refine ewl_run rfl (rn_assign rfl) ?_
 refine ewl_nil ?_
 refine thn_n ?_
 refine ewp_ret ?_
 refine fn_r (resv rfl (rv_tmp rfl)) ?_
 exact ⟨by simp [Tok.isWord, h1], hX⟩
 refine ewl_off rfl rfl rfl h1 ?_
 refine ewl_off rfl rfl rfl h1 ?_
 refine ewl_off rfl rfl rfl h1 ?_
 refine ewl_off rfl rfl rfl h1 ?_
 refine ewl_off rfl rfl rfl h1 ?_
 refine ewl_run rfl (rn_pickf rfl h1 rfl) ?_
 refine ewl_run rfl (rn_assign rfl) ?_
 refine ewl_nil ?_
 refine thn_n ?_
 refine ewp_ret ?_
 refine fn_r (resv rfl (rv_tmp rfl)) ?_
 exact ⟨by simp [Tok.isWord, h1], hX⟩
theorem within_spec (w : World) (n lo hi : Int) :
   Ret Tryz.prog 40 #[.int .i64 n, .int .i64 lo, .int .i64 hi] w fun v w' => v = .bool (SP.within n lo hi) ∧ Ext w w' := by
 have hX := Ext.refl w
 refine enter Tryz.func40 rfl rfl rfl ?_
 refine ewp_seq ?_
 refine ewp_reg ?_
 refine ewl_run rfl (rn_assign rfl) ?_
 refine ewl_nil ?_
 refine thn_n ?_
 refine ewp_seq ?_
 refine ewp_reg ?_
 refine ewl_run rfl (rn_move rfl) ?_
 refine ewl_run rfl (rn_move rfl) ?_
 refine ewl_run rfl (rn_geI rfl rfl) ?_
 refine ewl_run rfl (rn_move rfl) ?_
 refine ewl_split 10 rfl (fun h1 => ?_) (fun h1 => ?_)
 refine ewl_grd rfl rfl h1 ?_
 refine ewl_run rfl (rn_move rfl) ?_
 refine ewl_grd rfl rfl h1 ?_
 refine ewl_run rfl (rn_move rfl) ?_
 refine ewl_grd rfl rfl h1 ?_
 refine ewl_run rfl (rn_leI rfl rfl) ?_
 refine ewl_run rfl (rn_pickt rfl h1 rfl) ?_
 refine ewl_run rfl (rn_assign rfl) ?_
 refine ewl_nil ?_
 refine thn_n ?_
 refine ewp_ret ?_
 refine fn_r (resv rfl (rv_tmp rfl)) ?_
 exact ⟨by simp [SP.within, h1], hX⟩
 refine ewl_off rfl rfl rfl h1 ?_
 refine ewl_off rfl rfl rfl h1 ?_
 refine ewl_off rfl rfl rfl h1 ?_
 refine ewl_run rfl (rn_pickf rfl h1 rfl) ?_
 refine ewl_run rfl (rn_assign rfl) ?_
 refine ewl_nil ?_
 refine thn_n ?_
 refine ewp_ret ?_
 refine fn_r (resv rfl (rv_tmp rfl)) ?_
 exact ⟨by simp [SP.within, h1], hX⟩
theorem isVar_spec (w : World) (hG : Gl w) (t : Tok) (kv : Value) (htx : t.k = 5 → t.tx ≠ []) (hlen : t.tx.length ≤ 100000) :
   Ret Tryz.prog 29 #[.agg #[.int .i64 t.k, .int .i64 t.ln, .int .i64 t.co, .int .i64 t.nm, S t.tx, kv]] w fun v w' => v = .bool t.isVar ∧ Ext w w' := by
 have hX := Ext.refl w
 refine enter Tryz.func29 rfl rfl rfl ?_
 refine ewp_seq ?_
 refine ewp_reg ?_
 refine ewl_box rfl rfl rfl fun b1 w1 hb1 hE1 hs1 hz1 => ?_
 replace hX := hX.trans hE1
 refine ewl_run rfl (rn_assign rfl) ?_
 refine ewl_nil ?_
 refine thn_n ?_
 refine ewp_seq ?_
 refine ewp_reg ?_
 refine ewl_run rfl (rn_loada rfl ti61 hb1 rfl) ?_
 refine ewl_ret rfl (en_call ent24 rfl rfl) (isName_spec _ ⟨_, _, _, _, _⟩ _) ?_
 rintro _ w2 ⟨rfl, hE2⟩
 replace hb1 := hb1.ext hE2
 replace hX := hX.trans hE2
 have sz1 := hE2.size
 refine ewl_run rfl (rn_move rfl) ?_
 refine ewl_split 5 rfl (fun h1 => ?_) (fun h1 => ?_)
 refine ewl_grd rfl rfl h1 ?_
 refine ewl_run rfl (rn_fa rfl fl61_0) ?_
 refine ewl_grd rfl rfl h1 ?_
 refine ewl_run rfl (rn_fa rfl fl59_3) ?_
 refine ewl_grd rfl rfl h1 ?_
 refine ewl_run rfl (rn_load rfl ti9 hb1 rfl) ?_
 refine ewl_grd rfl rfl h1 ?_
 refine ewl_run rfl (rn_neS rfl rfl) ?_
 refine ewl_run rfl (rn_pickt rfl h1 rfl) ?_
 refine ewl_run rfl (rn_move rfl) ?_
 refine ewl_split 11 rfl (fun h2 => ?_) (fun h2 => ?_)
 refine ewl_grd rfl rfl h2 ?_
 refine ewl_run rfl (rn_fa rfl fl61_0) ?_
 refine ewl_grd rfl rfl h2 ?_
 refine ewl_run rfl (rn_fa rfl fl59_3) ?_
 refine ewl_grd rfl rfl h2 ?_
 refine ewl_run rfl (rn_load rfl ti9 hb1 rfl) ?_
 refine ewl_grd rfl rfl h2 ?_
 refine ewl_run rfl (rn_ixS rfl rfl un9 (by decide) (hd0_get (htx (by simpa using h1)))) ?_
 refine ewl_grd rfl rfl h2 ?_
 refine ewl_run rfl (rn_neI rfl rfl) ?_
 refine ewl_run rfl (rn_pickt rfl h2 rfl) ?_
 refine ewl_run rfl (rn_move rfl) ?_
 refine ewl_split 18 rfl (fun h3 => ?_) (fun h3 => ?_)
 refine ewl_grd rfl rfl h3 ?_
 refine ewl_run rfl (rn_fa rfl fl61_0) ?_
 refine ewl_grd rfl rfl h3 ?_
 refine ewl_run rfl (rn_fa rfl fl59_3) ?_
 refine ewl_grd rfl rfl h3 ?_
 refine ewl_run rfl (rn_load rfl ti9 hb1 rfl) ?_
 refine ewl_grd rfl rfl h3 ?_
 refine ewl_run rfl (rn_addS rfl rfl (by simp; omega)) ?_
 refine ewl_grd rfl rfl h3 ?_
 refine ewl_run rfl (rn_addS rfl rfl (by simp; omega)) ?_
 refine ewl_grd rfl rfl h3 ?_
 refine ewl_ret rfl (en_call ent38 rfl rfl) (contains_spec _ (hG.ext hX) _ _ (by decide)) ?_
 rintro _ w3 ⟨rfl, hE3⟩
 replace hb1 := hb1.ext hE3
 replace hX := hX.trans hE3
 have sz2 := hE3.size
 refine ewl_grd rfl rfl h3 ?_
 refine ewl_run rfl (rn_not rfl) ?_
 refine ewl_run rfl (rn_pickt rfl h3 rfl) ?_
 refine ewl_run rfl (rn_assign rfl) ?_
 refine ewl_nil ?_
 refine thn_n ?_
 refine ewp_ret ?_
 refine fn_r (resv rfl (rv_tmp rfl)) ?_
 refine ⟨?_, hX⟩
 show _ = Value.bool (t.k == 5 && (!(t.tx == [95]) && (((hd0 t.tx).toNat : Int) != 39 && !keptM t.tx)))
 rw [h1, h2, h3]; rfl
 refine ewl_off rfl rfl rfl h3 ?_
 refine ewl_off rfl rfl rfl h3 ?_
 refine ewl_off rfl rfl rfl h3 ?_
 refine ewl_off rfl rfl rfl h3 ?_
 refine ewl_off rfl rfl rfl h3 ?_
 refine ewl_off rfl rfl rfl h3 ?_
 refine ewl_off rfl rfl rfl h3 ?_
 refine ewl_run rfl (rn_pickf rfl h3 rfl) ?_
 refine ewl_run rfl (rn_assign rfl) ?_
 refine ewl_nil ?_
 refine thn_n ?_
 refine ewp_ret ?_
 refine fn_r (resv rfl (rv_tmp rfl)) ?_
 refine ⟨?_, hX⟩
 show _ = Value.bool (t.k == 5 && (!(t.tx == [95]) && (((hd0 t.tx).toNat : Int) != 39 && !keptM t.tx)))
 simp [h1, h2, h3]
 refine ewl_off rfl rfl rfl h2 ?_
 refine ewl_off rfl rfl rfl h2 ?_
 refine ewl_off rfl rfl rfl h2 ?_
 refine ewl_off rfl rfl rfl h2 ?_
 refine ewl_off rfl rfl rfl h2 ?_
 refine ewl_run rfl (rn_pickf rfl h2 rfl) ?_
 refine ewl_run rfl (rn_move rfl) ?_
 refine ewl_off rfl rfl rfl rfl ?_
 refine ewl_off rfl rfl rfl rfl ?_
 refine ewl_off rfl rfl rfl rfl ?_
 refine ewl_off rfl rfl rfl rfl ?_
 refine ewl_off rfl rfl rfl rfl ?_
 refine ewl_off rfl rfl rfl rfl ?_
 refine ewl_off rfl rfl rfl rfl ?_
 refine ewl_run rfl (rn_pickf rfl rfl rfl) ?_
 refine ewl_run rfl (rn_assign rfl) ?_
 refine ewl_nil ?_
 refine thn_n ?_
 refine ewp_ret ?_
 refine fn_r (resv rfl (rv_tmp rfl)) ?_
 refine ⟨?_, hX⟩
 show _ = Value.bool (t.k == 5 && (!(t.tx == [95]) && (((hd0 t.tx).toNat : Int) != 39 && !keptM t.tx)))
 simp [h1, h2]
 refine ewl_off rfl rfl rfl h1 ?_
 refine ewl_off rfl rfl rfl h1 ?_
 refine ewl_off rfl rfl rfl h1 ?_
 refine ewl_off rfl rfl rfl h1 ?_
 refine ewl_run rfl (rn_pickf rfl h1 rfl) ?_
 refine ewl_run rfl (rn_move rfl) ?_
 refine ewl_off rfl rfl rfl rfl ?_
 refine ewl_off rfl rfl rfl rfl ?_
 refine ewl_off rfl rfl rfl rfl ?_
 refine ewl_off rfl rfl rfl rfl ?_
 refine ewl_off rfl rfl rfl rfl ?_
 refine ewl_run rfl (rn_pickf rfl rfl rfl) ?_
 refine ewl_run rfl (rn_move rfl) ?_
 refine ewl_off rfl rfl rfl rfl ?_
 refine ewl_off rfl rfl rfl rfl ?_
 refine ewl_off rfl rfl rfl rfl ?_
 refine ewl_off rfl rfl rfl rfl ?_
 refine ewl_off rfl rfl rfl rfl ?_
 refine ewl_off rfl rfl rfl rfl ?_
 refine ewl_off rfl rfl rfl rfl ?_
 refine ewl_run rfl (rn_pickf rfl rfl rfl) ?_
 refine ewl_run rfl (rn_assign rfl) ?_
 refine ewl_nil ?_
 refine thn_n ?_
 refine ewp_ret ?_
 refine fn_r (resv rfl (rv_tmp rfl)) ?_
 refine ⟨?_, hX⟩
 show _ = Value.bool (t.k == 5 && (!(t.tx == [95]) && (((hd0 t.tx).toNat : Int) != 39 && !keptM t.tx)))
 simp [h1]
end Go.Proofs.YthjdnhnbgjgbkaaGreatDoor
