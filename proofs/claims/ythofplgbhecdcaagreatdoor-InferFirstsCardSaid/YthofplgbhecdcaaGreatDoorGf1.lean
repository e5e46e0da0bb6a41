/- What it rests on, part 1. -/
import Derived.KernelRfl
import Derived.Shelf.Small.Strs
import Derived.Shelf.Strings.Search1
import Derived.Shelf.Strings.Search2
import Derived.Shelf.Strings.Search3
import Derived.Shelf.Strings.Cut
import Derived.Shelf.Strings.Prefix
import Derived.Shelf.Strings.SlTrimAscii
import Derived.Shelf.Strconv.ToErrorRange
import Derived.Ground.NamesProg
import Derived.Test.YthofplgbhecdcaaGreatDoorProg
import Derived.WalkKit
import Derived.OrdersHeld
import Derived.Below
import Derived.Laws.AppendOwn
import Derived.Lib.IndexMore
import Derived.Deep.Draws
import Derived.Laws.StructEq
import Derived.Defers
import Derived.Recover
import Derived.Laws.IdiomStrings
import Derived.Laws.BytesArg
import Derived.Lib.SlTrimSet
import Derived.Lib.Strings
import GoSem.Core.Float
import GoSem.Op.Unary
import GoSem.Op.Equal
import Derived.Lib.ConvBytes
import Derived.Laws.Externs
import Derived.Scope
import Derived.Laws.FloatArith
set_option linter.unusedVariables false
set_option linter.unusedSimpArgs false
namespace Go
theorem oM{p:Prop}(h:p:=by omega):p:=h
theorem dC{p:Prop}(h:p:=by decide):p:=h
theorem kR{p:Prop}(h:p:=by kernel_rfl):p:=h
theorem nM{p:Prop}(h:p:=by simp only[List.mem_cons,List.not_mem_nil,or_false];omega):p:=h
end Go
namespace Go.Proofs
open Go.Shelf
def Tryz.lays137_ren:Go.Shelf.Ren:=⟨fun|137=>60|217=>84|266=>109|n=>n,fun|9=>9|5=>5|3=>3|n=>n,fun|n=>n⟩
theorem Tryz.lays137:Go.Proofs.Lays.n137 Tryz.prog Tryz.lays137_ren:={
 mixed:=kR
 f137:=Tryz.func60.trans (congrArg some kR)
 f217:=Tryz.func84.trans (congrArg some kR)
 f266:=Tryz.func109.trans (congrArg some kR)
 t3:=Tryz.underlying3
 a3:=Tryz.isAgg3
 z3:=Tryz.sizeOf3
 v3:=Tryz.zeroValue3
 t5:=Tryz.underlying5
 a5:=Tryz.isAgg5
 z5:=Tryz.sizeOf5
 v5:=Tryz.zeroValue5
 t9:=Tryz.underlying9
 a9:=Tryz.isAgg9
 z9:=Tryz.sizeOf9
 v9:=Tryz.zeroValue9}
def Tryz.lays144_ren:Go.Shelf.Ren:=⟨fun|144=>46|143=>71|219=>98|217=>84|225=>121|224=>122|267=>123|266=>109|314=>144|n=>n,fun|9=>9|4=>4|3=>3|5=>5|46=>177|146=>218|51=>190|n=>n,fun|1=>2|n=>n⟩
theorem Tryz.lays144:Go.Proofs.Lays.n144 Tryz.prog Tryz.lays144_ren:={
 mixed:=kR
 f143:=Tryz.func71.trans (congrArg some kR)
 f144:=Tryz.func46.trans (congrArg some kR)
 f217:=Tryz.func84.trans (congrArg some kR)
 f219:=Tryz.func98.trans (congrArg some kR)
 f224:=Tryz.func122.trans (congrArg some kR)
 f225:=Tryz.func121.trans (congrArg some kR)
 f266:=Tryz.func109.trans (congrArg some kR)
 f267:=Tryz.func123.trans (congrArg some kR)
 f314:=Tryz.func144.trans (congrArg some kR)
 t3:=Tryz.underlying3
 a3:=Tryz.isAgg3
 z3:=Tryz.sizeOf3
 v3:=Tryz.zeroValue3
 t4:=Tryz.underlying4
 a4:=Tryz.isAgg4
 z4:=Tryz.sizeOf4
 v4:=Tryz.zeroValue4
 t5:=Tryz.underlying5
 a5:=Tryz.isAgg5
 z5:=Tryz.sizeOf5
 v5:=Tryz.zeroValue5
 t9:=Tryz.underlying9
 a9:=Tryz.isAgg9
 z9:=Tryz.sizeOf9
 v9:=Tryz.zeroValue9
 t46:=Tryz.underlying177
 a46:=Tryz.isAgg177
 z46:=Tryz.sizeOf177
 v46:=Tryz.zeroValue177
 t51:=Tryz.underlying190
 a51:=Tryz.isAgg190
 z51:=Tryz.sizeOf190
 v51:=Tryz.zeroValue190
 t146:=Tryz.underlying218
 a146:=Tryz.isAgg218
 z146:=Tryz.sizeOf218
 v146:=Tryz.zeroValue218
 g1:=by kernel_rfl}
def Tryz.lays145_ren:Go.Shelf.Ren:=⟨fun|145=>112|220=>130|219=>98|217=>84|225=>121|224=>122|267=>123|266=>109|314=>144|n=>n,fun|9=>9|4=>4|59=>180|3=>3|5=>5|46=>177|146=>218|51=>190|n=>n,fun|1=>2|n=>n⟩
theorem Tryz.lays145:Go.Proofs.Lays.n145 Tryz.prog Tryz.lays145_ren:={
 mixed:=kR
 f145:=Tryz.func112.trans (congrArg some kR)
 f217:=Tryz.func84.trans (congrArg some kR)
 f219:=Tryz.func98.trans (congrArg some kR)
 f220:=Tryz.func130.trans (congrArg some kR)
 f224:=Tryz.func122.trans (congrArg some kR)
 f225:=Tryz.func121.trans (congrArg some kR)
 f266:=Tryz.func109.trans (congrArg some kR)
 f267:=Tryz.func123.trans (congrArg some kR)
 f314:=Tryz.func144.trans (congrArg some kR)
 t3:=Tryz.underlying3
 a3:=Tryz.isAgg3
 z3:=Tryz.sizeOf3
 v3:=Tryz.zeroValue3
 t4:=Tryz.underlying4
 a4:=Tryz.isAgg4
 z4:=Tryz.sizeOf4
 v4:=Tryz.zeroValue4
 t5:=Tryz.underlying5
 a5:=Tryz.isAgg5
 z5:=Tryz.sizeOf5
 v5:=Tryz.zeroValue5
 t9:=Tryz.underlying9
 a9:=Tryz.isAgg9
 z9:=Tryz.sizeOf9
 v9:=Tryz.zeroValue9
 t46:=Tryz.underlying177
 a46:=Tryz.isAgg177
 z46:=Tryz.sizeOf177
 v46:=Tryz.zeroValue177
 t51:=Tryz.underlying190
 a51:=Tryz.isAgg190
 z51:=Tryz.sizeOf190
 v51:=Tryz.zeroValue190
 t59:=Tryz.underlying180
 a59:=Tryz.isAgg180
 z59:=Tryz.sizeOf180
 v59:=Tryz.zeroValue180
 t146:=Tryz.underlying218
 a146:=Tryz.isAgg218
 z146:=Tryz.sizeOf218
 v146:=Tryz.zeroValue218
 g1:=by kernel_rfl}
def Tryz.lays101_ren:Go.Shelf.Ren:=⟨fun|101=>89|208=>115|206=>134|n=>n,fun|9=>9|4=>4|3=>3|n=>n,fun|n=>n⟩
theorem Tryz.lays101:Go.Proofs.Lays.n101 Tryz.prog Tryz.lays101_ren:={
 mixed:=kR
 f101:=Tryz.func89.trans (congrArg some kR)
 f206:=Tryz.func134.trans (congrArg some kR)
 f208:=Tryz.func115.trans (congrArg some kR)
 t3:=Tryz.underlying3
 a3:=Tryz.isAgg3
 z3:=Tryz.sizeOf3
 v3:=Tryz.zeroValue3
 t4:=Tryz.underlying4
 a4:=Tryz.isAgg4
 z4:=Tryz.sizeOf4
 v4:=Tryz.zeroValue4
 t9:=Tryz.underlying9
 a9:=Tryz.isAgg9
 z9:=Tryz.sizeOf9
 v9:=Tryz.zeroValue9}
def Tryz.lays160_ren:Go.Shelf.Ren:=⟨fun|160=>116|232=>136|231=>135|227=>137|234=>139|233=>138|236=>141|235=>140|228=>157|271=>160|151=>159|197=>158|120=>174|152=>173|260=>172|137=>60|119=>190|224=>122|225=>121|217=>84|266=>109|n=>n,fun|9=>9|4=>4|3=>3|5=>5|117=>203|116=>202|0=>0|124=>206|21=>21|105=>237|46=>177|119=>157|139=>287|138=>286|n=>n,fun|3=>10|4=>11|n=>n⟩
theorem Tryz.lays160:Go.Proofs.Lays.n160 Tryz.prog Tryz.lays160_ren:={
 mixed:=kR
 f119:=Tryz.func190.trans (congrArg some kR)
 f120:=Tryz.func174.trans (congrArg some kR)
 f137:=Tryz.func60.trans (congrArg some kR)
 f151:=Tryz.func159.trans (congrArg some kR)
 f152:=Tryz.func173.trans (congrArg some kR)
 f160:=Tryz.func116.trans (congrArg some kR)
 f197:=Tryz.func158.trans (congrArg some kR)
 f217:=Tryz.func84.trans (congrArg some kR)
 f224:=Tryz.func122.trans (congrArg some kR)
 f225:=Tryz.func121.trans (congrArg some kR)
 f227:=Tryz.func137.trans (congrArg some kR)
 f228:=Tryz.func157.trans (congrArg some kR)
 f231:=Tryz.func135.trans (congrArg some kR)
 f232:=Tryz.func136.trans (congrArg some kR)
 f233:=Tryz.func138.trans (congrArg some kR)
 f234:=Tryz.func139.trans (congrArg some kR)
 f235:=Tryz.func140.trans (congrArg some kR)
 f236:=Tryz.func141.trans (congrArg some kR)
 f260:=Tryz.func172.trans (congrArg some kR)
 f266:=Tryz.func109.trans (congrArg some kR)
 f271:=Tryz.func160.trans (congrArg some kR)
 t0:=Tryz.underlying0
 a0:=Tryz.isAgg0
 z0:=Tryz.sizeOf0
 v0:=Tryz.zeroValue0
 t3:=Tryz.underlying3
 a3:=Tryz.isAgg3
 z3:=Tryz.sizeOf3
 v3:=Tryz.zeroValue3
 t4:=Tryz.underlying4
 a4:=Tryz.isAgg4
 z4:=Tryz.sizeOf4
 v4:=Tryz.zeroValue4
 t5:=Tryz.underlying5
 a5:=Tryz.isAgg5
 z5:=Tryz.sizeOf5
 v5:=Tryz.zeroValue5
 t9:=Tryz.underlying9
 a9:=Tryz.isAgg9
 z9:=Tryz.sizeOf9
 v9:=Tryz.zeroValue9
 t21:=Tryz.underlying21
 a21:=Tryz.isAgg21
 z21:=Tryz.sizeOf21
 v21:=Tryz.zeroValue21
 t46:=Tryz.underlying177
 a46:=Tryz.isAgg177
 z46:=Tryz.sizeOf177
 v46:=Tryz.zeroValue177
 t105:=Tryz.underlying237
 a105:=Tryz.isAgg237
 z105:=Tryz.sizeOf237
 v105:=Tryz.zeroValue237
 t116:=Tryz.underlying202
 a116:=Tryz.isAgg202
 z116:=Tryz.sizeOf202
 t117:=Tryz.underlying203
 a117:=Tryz.isAgg203
 z117:=Tryz.sizeOf203
 v117:=Tryz.zeroValue203
 t119:=Tryz.underlying157
 a119:=Tryz.isAgg157
 z119:=Tryz.sizeOf157
 t124:=Tryz.underlying206
 a124:=Tryz.isAgg206
 z124:=Tryz.sizeOf206
 v124:=Tryz.zeroValue206
 t138:=Tryz.underlying286
 a138:=Tryz.isAgg286
 z138:=Tryz.sizeOf286
 v138:=Tryz.zeroValue286
 t139:=Tryz.underlying287
 a139:=Tryz.isAgg287
 z139:=Tryz.sizeOf287
 v139:=Tryz.zeroValue287
 g3:=kR
 g4:=by kernel_rfl}
def Tryz.lays245_ren:Go.Shelf.Ren:=⟨fun|245=>129|279=>152|280=>153|281=>154|282=>155|316=>168|171=>80|205=>169|243=>103|246=>125|283=>145|284=>146|285=>147|286=>148|129=>162|317=>161|318=>163|319=>164|320=>165|337=>175|338=>176|n=>n,fun|9=>9|3=>3|75=>172|167=>228|4=>4|168=>231|210=>250|37=>148|0=>0|127=>196|145=>260|143=>258|2=>2|171=>220|53=>29|5=>5|173=>223|212=>243|51=>190|20=>20|213=>244|46=>177|232=>288|233=>289|80=>175|n=>n,fun|15=>5|16=>6|17=>4|18=>12|19=>13|n=>n⟩
theorem Tryz.lays245:Go.Proofs.LaysC.n245 Tryz.prog Tryz.lays245_ren:={
 mixed:=kR
 f129:=Tryz.func162.trans (congrArg some kR)
 f171:=Tryz.func80.trans (congrArg some kR)
 f205:=Tryz.func169.trans (congrArg some kR)
 f243:=Tryz.func103.trans (congrArg some kR)
 f245:=Tryz.func129.trans (congrArg some kR)
 f246:=Tryz.func125.trans (congrArg some kR)
 f279:=Tryz.func152.trans (congrArg some kR)
 f280:=Tryz.func153.trans (congrArg some kR)
 f281:=Tryz.func154.trans (congrArg some kR)
 f282:=Tryz.func155.trans (congrArg some kR)
 f283:=Tryz.func145.trans (congrArg some kR)
 f284:=Tryz.func146.trans (congrArg some kR)
 f285:=Tryz.func147.trans (congrArg some kR)
 f286:=Tryz.func148.trans (congrArg some kR)
 f316:=Tryz.func168.trans (congrArg some kR)
 f317:=Tryz.func161.trans (congrArg some kR)
 f318:=Tryz.func163.trans (congrArg some kR)
 f319:=Tryz.func164.trans (congrArg some kR)
 f320:=Tryz.func165.trans (congrArg some kR)
 f337:=Tryz.func175.trans (congrArg some kR)
 f338:=Tryz.func176.trans (congrArg some kR)
 t0:=Tryz.underlying0
 a0:=Tryz.isAgg0
 z0:=Tryz.sizeOf0
 v0:=Tryz.zeroValue0
 t2:=Tryz.underlying2
 a2:=Tryz.isAgg2
 z2:=Tryz.sizeOf2
 v2:=Tryz.zeroValue2
 t3:=Tryz.underlying3
 a3:=Tryz.isAgg3
 z3:=Tryz.sizeOf3
 v3:=Tryz.zeroValue3
 t4:=Tryz.underlying4
 a4:=Tryz.isAgg4
 z4:=Tryz.sizeOf4
 v4:=Tryz.zeroValue4
 t5:=Tryz.underlying5
 a5:=Tryz.isAgg5
 z5:=Tryz.sizeOf5
 v5:=Tryz.zeroValue5
 t9:=Tryz.underlying9
 a9:=Tryz.isAgg9
 z9:=Tryz.sizeOf9
 v9:=Tryz.zeroValue9
 t20:=Tryz.underlying20
 a20:=Tryz.isAgg20
 z20:=Tryz.sizeOf20
 v20:=Tryz.zeroValue20
 t37:=Tryz.underlying148
 a37:=Tryz.isAgg148
 z37:=Tryz.sizeOf148
 v37:=Tryz.zeroValue148
 t46:=Tryz.underlying177
 a46:=Tryz.isAgg177
 z46:=Tryz.sizeOf177
 v46:=Tryz.zeroValue177
 t51:=Tryz.underlying190
 a51:=Tryz.isAgg190
 z51:=Tryz.sizeOf190
 v51:=Tryz.zeroValue190
 t53:=Tryz.underlying29
 a53:=Tryz.isAgg29
 z53:=Tryz.sizeOf29
 v53:=Tryz.zeroValue29
 t75:=Tryz.underlying172
 a75:=Tryz.isAgg172
 z75:=Tryz.sizeOf172
 v75:=Tryz.zeroValue172
 t127:=Tryz.underlying196
 a127:=Tryz.isAgg196
 z127:=Tryz.sizeOf196
 v127:=Tryz.zeroValue196
 t143:=Tryz.underlying258
 a143:=Tryz.isAgg258
 z143:=Tryz.sizeOf258
 v143:=Tryz.zeroValue258
 t145:=Tryz.underlying260
 a145:=Tryz.isAgg260
 z145:=Tryz.sizeOf260
 v145:=Tryz.zeroValue260
 t167:=Tryz.underlying228
 a167:=Tryz.isAgg228
 z167:=Tryz.sizeOf228
 v167:=Tryz.zeroValue228
 t168:=Tryz.underlying231
 a168:=Tryz.isAgg231
 z168:=Tryz.sizeOf231
 v168:=Tryz.zeroValue231
 t171:=Tryz.underlying220
 a171:=Tryz.isAgg220
 z171:=Tryz.sizeOf220
 v171:=Tryz.zeroValue220
 t173:=Tryz.underlying223
 a173:=Tryz.isAgg223
 z173:=Tryz.sizeOf223
 v173:=Tryz.zeroValue223
 t210:=Tryz.underlying250
 a210:=Tryz.isAgg250
 z210:=Tryz.sizeOf250
 v210:=Tryz.zeroValue250
 t212:=Tryz.underlying243
 a212:=Tryz.isAgg243
 z212:=Tryz.sizeOf243
 v212:=Tryz.zeroValue243
 t213:=Tryz.underlying244
 a213:=Tryz.isAgg244
 z213:=Tryz.sizeOf244
 t232:=Tryz.underlying288
 a232:=Tryz.isAgg288
 z232:=Tryz.sizeOf288
 v232:=Tryz.zeroValue288
 t233:=Tryz.underlying289
 a233:=Tryz.isAgg289
 z233:=Tryz.sizeOf289
 v233:=Tryz.zeroValue289
 g15:=kR
 g16:=kR
 g17:=kR
 g18:=kR
 g19:=kR
 t80:=Tryz.underlying175
 a80:=Tryz.isAgg175
 z80:=Tryz.sizeOf175
 v80:=Tryz.zeroValue175
 i0:=kR
 i2:=kR
 i3:=kR
 i4:=kR
 i5:=kR
 i9:=kR
 i20:=kR
 i37:=kR
 i46:=kR
 i51:=kR
 i53:=kR
 i75:=kR
 i80:=kR
 i127:=kR
 i143:=kR
 i145:=kR
 i167:=kR
 i168:=kR
 i171:=kR
 i173:=kR
 i210:=kR
 i212:=kR
 i232:=kR
 i233:=kR
 m15:=kR
 m16:=kR
 m17:=kR
 m18:=kR
 m19:=kR
 c0:=kR
 c2:=kR
 c3:=kR
 c4:=kR
 c5:=kR
 c9:=kR
 c20:=kR
 c37:=kR
 c46:=kR
 c51:=kR
 c53:=kR
 c75:=kR
 c80:=kR
 c127:=kR
 c143:=kR
 c145:=kR
 c167:=kR
 c168:=kR
 c171:=kR
 c173:=kR
 c210:=kR
 c212:=kR
 c213:=kR
 c232:=kR
 c233:=by kernel_rfl}
end Go.Proofs
namespace Go.SW
open Go.RowKit
abbrev Bo:=Nat→Option Value
def e0:Bo:=fun _=>none
def AL(σ:Bo)(d:Nat)(v:Value):Bo:=fun t=>bif Nat.beq t d then some v else σ t
def ev(σ:Bo):Operand→Option Value
 |.tmp t=>σ t
 |.const v=>some v
 |.global g=>some (.pointer (some ⟨g,0,none⟩))
 |.func f=>some (.func (.func f) #[] #[])
def Le(σ' σ:Bo):Prop:=∀t v,σ' t=some v→σ t=some v
theorem Kv(σ:Bo):Le e0 σ:=fun _ _ h=>by cases h
theorem le_refl(σ:Bo):Le σ σ:=fun _ _ h=>h
theorem AD{σ' σ:Bo}{d:Nat}{v:Value}(h:Le σ' σ)(hd:σ d=some v):Le (AL σ' d v) σ:=by
 intro t u ht
 unfold AL at ht
 cases hb:Nat.beq t d with
 |true=>rw[hb] at ht;have:=Nat.eq_of_beq_eq_true hb;subst this;simpa[← hd] using ht
 |false=>rw[hb] at ht;exact h t u ht
structure St(n:Nat)(σ:Bo)(ds:List Deferred)(a:Act):Prop where
 size:a.tmps.size=n
 defs:a.defers=ds
 val:∀t v,σ t=some v→a.tmps.getD t undef=v
theorem St.le{n:Nat}{σ σ':Bo}{ds:List Deferred}{a:Act}(h:St n σ ds a)(hl:Le σ' σ):St n σ' ds a:=⟨h.size,h.defs,fun t v ht=>h.val t v (hl t v ht)⟩
theorem St.ev{n:Nat}{σ:Bo}{ds:List Deferred}{a:Act}(h:St n σ ds a):∀x v,ev σ x=some v→a.eval x=v:=by
 intro x v hx
 cases x with
 |tmp t=>exact h.val t v hx
 |const u=>exact Option.some.inj hx
 |global g=>exact Option.some.inj hx
 |func f=>exact Option.some.inj hx
theorem St.put{n:Nat}{σ:Bo}{ds:List Deferred}{a:Act}(h:St n σ ds a){d:Nat}(hd:Nat.blt d n=true)(v:Value):St n (AL σ d v) ds (a.put (some d) v):=by
 have hd':d<n:=Nat.le_of_ble_eq_true hd
 refine⟨by simp[Act.put,h.size],h.defs,fun t u ht=>?_⟩
 unfold AL at ht
 cases hb:Nat.beq t d with
 |true =>
   rw[hb] at ht
   have:=Nat.eq_of_beq_eq_true hb
   subst this
   simp at ht
   subst ht
   simp[Act.put,Array.getD_eq_getD_getElem?,h.size,hd']
 |false =>
   rw[hb] at ht
   have hne:d≠t:=fun e=>by rw[e,Nat.beq_refl] at hb;cases hb
   have:=h.val t u ht
   simpa[Act.put,Array.getD_eq_getD_getElem?,Array.getElem?_setIfInBounds_ne hne] using this
structure Bk where
 q:Exit→Bo→List Deferred→World→Prop
 p:List PanicEntry→Bo→List Deferred→World→Prop
def Bk.up(n:Nat)(Q:Bk):Exit→Act→World→Prop
 |.panic c,a,w=>∃σ ds,St n σ ds a∧Q.p c σ ds w
 |.outgrown,_,_=>False
 |.normal,a,w=>∃σ ds,St n σ ds a∧Q.q .normal σ ds w
 |.ret,a,w=>∃σ ds,St n σ ds a∧Q.q .ret σ ds w
 |.exit i,a,w=>∃σ ds,St n σ ds a∧Q.q (.exit i) σ ds w
 |.goto i,a,w=>∃σ ds,St n σ ds a∧Q.q (.goto i) σ ds w
def HK(P:Program)(n:Nat)(c:Code)(Q:Bk)(σ:Bo)(ds:List Deferred)(w:World):Prop :=
 ∀a,St n σ ds a→c.wp P (Q.up n) a w
def H3(P:Program)(n:Nat)(ops:Array Oper)(Q:Bk)(l:List Oper)(σ:Bo)(ds:List Deferred)(w:World):Prop :=
 ∀a,St n σ ds a→wpList P ops (Q.up n) l a w
section
variable{P:Program}{n:Nat}{Q:Bk}{σ:Bo}{ds:List Deferred}{w:World}
theorem N1{c:Code}{σ':Bo}(hl:Le σ' σ)(h:HK P n c Q σ' ds w):HK P n c Q σ ds w:=fun a ha=>h a (ha.le hl)
def oV(P:Program)(n:Nat)(y:Code)(Q:Bk):Bk :=
 {q:=fun e σ ds w=>match e with|.normal=>HK P n y Q σ ds w|e=>Q.q e σ ds w,p:=Q.p}
theorem Cc{x y:Code}(h:HK P n x (oV P n y Q) σ ds w):HK P n (.seq x y) Q σ ds w:=fun a ha =>
 wp_seq (wp_mono (h a ha) fun e a' w' he=>by
   cases e with
   |normal=>obtain⟨σ',ds',hs,hq⟩:=he;exact hq a' hs
   |panic c=>exact he
   |outgrown=>exact he
   |ret=>exact he
   |exit i=>exact he
   |goto i=>exact he)
theorem D3{y:Code}(h:HK P n y Q σ ds w):(oV P n y Q).q .normal σ ds w:=h
theorem HW(h:Q.q .normal σ ds w):HK P n .skip Q σ ds w:=fun _ ha=>wp_skip ⟨σ,ds,ha,h⟩
theorem JX(h:Q.q .ret σ ds w):HK P n .ret Q σ ds w:=fun _ ha=>wp_ret ⟨σ,ds,ha,h⟩
theorem Lh{i:Nat}(h:Q.q (.exit i) σ ds w):HK P n (.exit i) Q σ ds w:=fun _ ha=>wp_exit ⟨σ,ds,ha,h⟩
def blk(i:Nat)(Q:Bk):Bk :=
 {q:=fun e σ ds w=>match e with|.exit j=>if j=i then Q.q .normal σ ds w else Q.q (.exit j) σ ds w|e=>Q.q e σ ds w,p:=Q.p}
theorem Eo{i:Nat}{c:Code}(h:HK P n c (blk i Q) σ ds w):HK P n (.block i c) Q σ ds w:=fun a ha =>
 wp_block (wp_mono (h a ha) fun e a' w' he=>by
   cases e with
   |exit j =>
     obtain⟨σ',ds',hs,hq⟩:=he
     simp only[Exit.inBlock]
     split
     · rename_i hj;simp only[blk,hj,if_true] at hq;exact⟨σ',ds',hs,hq⟩
     · rename_i hj;simp only[blk,hj,if_false] at hq;exact⟨σ',ds',hs,hq⟩
   |normal=>exact he
   |panic c=>exact he
   |outgrown=>exact he
   |ret=>exact he
   |goto i=>exact he)
theorem DX{i:Nat}(h:Q.q .normal σ ds w):(blk i Q).q .normal σ ds w:=h
theorem UR{i:Nat}(h:Q.q .ret σ ds w):(blk i Q).q .ret σ ds w:=h
theorem OK{i:Nat}(h:Q.q .normal σ ds w):(blk i Q).q (.exit i) σ ds w:=by simp only[blk,if_true];exact h
theorem cW{i j:Nat}(hne:Nat.beq j i=false)(h:Q.q (.exit j) σ ds w):(blk i Q).q (.exit j) σ ds w:=by
 have:j≠i:=fun e=>by rw[e,Nat.beq_refl] at hne;cases hne
 simp only[blk,this,if_false];exact h
theorem Vu{y:Code}(h:Q.q .ret σ ds w):(oV P n y Q).q .ret σ ds w:=h
theorem Vq{y:Code}{j:Nat}(h:Q.q (.exit j) σ ds w):(oV P n y Q).q (.exit j) σ ds w:=h
theorem NY{c:Operand}{x y:Code}{b:Bool}(hc:ev σ c=some (.bool b))(ht:b=true→HK P n x Q σ ds w)(hf:b=false→HK P n y Q σ ds w) :
   HK P n (.cond c x y) Q σ ds w:=fun a ha =>
 wp_cond_split (t:=b) (ha.ev _ _ hc) (fun h=>ht h a ha) (fun h=>hf h a ha)
theorem FW{c:Operand}{x y:Code}{b:Bool}(hc:ev σ c=some (.bool b))(hb:b=true)(ht:HK P n x Q σ ds w):HK P n (.cond c x y) Q σ ds w :=
 NY hc (fun _=>ht) (fun h=>by rw[h] at hb;cases hb)
theorem Kb{c:Operand}{x y:Code}{b:Bool}(hc:ev σ c=some (.bool b))(hb:b=false)(hf:HK P n y Q σ ds w):HK P n (.cond c x y) Q σ ds w :=
 NY hc (fun h=>by rw[h] at hb;cases hb) (fun _=>hf)
def lp(I:Nat→Bo→List Deferred→World→Prop)(k:Nat)(Q:Bk):Bk :=
 {q:=fun e σ ds w=>match e with|.normal=>∃k' σ',k'<k∧Le σ' σ∧I k' σ' ds w|e=>Q.q e σ ds w,p:=Q.p}
theorem HA{I:Nat→Bo→List Deferred→World→Prop}{k:Nat}(k':Nat)(σ':Bo)(hk:k'<k)(hl:Le σ' σ)(h:I k' σ' ds w):(lp I k Q).q .normal σ ds w:=⟨k',σ',hk,hl,h⟩
theorem Wf{I:Nat→Bo→List Deferred→World→Prop}{k:Nat}(h:Q.q .ret σ ds w):(lp I k Q).q .ret σ ds w:=h
theorem Oc{I:Nat→Bo→List Deferred→World→Prop}{k j:Nat}(h:Q.q (.exit j) σ ds w):(lp I k Q).q (.exit j) σ ds w:=h
theorem Eh{c:Code}(I:Nat→Bo→List Deferred→World→Prop)(k:Nat)(σ':Bo)(hl:Le σ' σ)(h0:I k σ' ds w)
   (round:∀k σ ds w,I k σ ds w→HK P n c (lp I k Q) σ ds w):HK P n (.loop c) Q σ ds w:=by
 intro a ha b kk cs
 have key:∀k a w σ' ds,St n σ' ds a→I k σ' ds w →
     ∃e a' w',Q.up n e a' w'∧Arrives P (lone (b.at a (.code c::.inLoop c::kk)) cs w) b kk cs e a' w':=by
   intro k
   induction k using Nat.strongRecOn with
   |_ k ih =>
     intro a w σ' ds hs hI
     obtain⟨e,a₁,w₁,hq,harr⟩:=round k σ' ds w hI a hs b (.inLoop c::kk) cs
     cases e with
     |normal =>
       obtain⟨σ₁,ds₁,hs₁,k',σ₂,hk,hle,hI₁⟩:=hq
       obtain⟨e₂,a₂,w₂,hq₂,harr₂⟩:=ih k' hk a₁ w₁ σ₂ ds₁ (hs₁.le hle) hI₁
       exact⟨e₂,a₂,w₂,hq₂,.of_steps (Steps.trans harr (.one step_inLoop)) harr₂⟩
     |exit id=>exact⟨.exit id,a₁,w₁,hq,.pass (x:=.inLoop c) rfl (fun _ _=>.inl (by simp)) harr⟩
     |goto l=>exact⟨.goto l,a₁,w₁,hq,.pass (x:=.inLoop c) rfl (fun _ _=>.inl (by simp)) harr⟩
     |ret=>exact⟨.ret,a₁,w₁,hq,.pass (x:=.inLoop c) rfl (fun _ _=>.inl (by simp)) harr⟩
     |panic ch=>exact⟨.panic ch,a₁,w₁,hq,.pass (x:=.inLoop c) rfl (fun _ _=>.inl (by simp)) harr⟩
     |outgrown=>exact hq.elim
 obtain⟨e,a',w',hq,harr⟩:=key k a w σ' ds (ha.le hl) h0
 exact⟨e,a',w',hq,.of_steps (.one step_loop) harr⟩
def AO(P:Program)(σ:Bo)(op:Op)(ty:TypeId)(w:World)(v:Value)(w':World):Prop :=
 ∀(ρ:Operand→Value) d pos af g,(∀x v,ev σ x=some v→ρ x=v)→(execOp ρ ⟨d,op,ty,pos,af,g⟩).run P w=.ok (.value v) w'
def dP(P:Program)(σ:Bo)(op:Op)(ty:TypeId)(w:World)(w':World):Prop :=
 ∀(ρ:Operand→Value) d pos af g,(∀x v,ev σ x=some v→ρ x=v)→(execOp ρ ⟨d,op,ty,pos,af,g⟩).run P w=.ok .skip w'
def Enters(P:Program)(σ:Bo)(op:Op)(ty:TypeId)(w:World)(f:FuncId)(args:Array Value):Prop :=
 ∀(ρ:Operand→Value) d pos af g,(∀x v,ev σ x=some v→ρ x=v)→(execOp ρ ⟨d,op,ty,pos,af,g⟩).run P w=.ok (.enter f args) w
def jM(P:Program)(σ:Bo)(op:Op)(ty:TypeId)(w:World)(v:Value)(w':World):Prop :=
 ∀(ρ:Operand→Value) d pos af g,(∀x v,ev σ x=some v→ρ x=v)→(execOp ρ ⟨d,op,ty,pos,af,g⟩).run P w=.halt (.panic v) w'
theorem CJ{i:Nat}{l:List Oper}(h:H3 P n l.toArray Q l σ ds w):HK P n (.region i l.toArray false) Q σ ds w:=fun a ha=>wp_region_lit (h a ha)
variable{ops:Array Oper}{op:Op}{ty:TypeId}{pos:String}{af:Array Edge}{rest:List Oper}{d:Nat}
theorem Ab(h:Q.q .normal σ ds w):H3 P n ops Q [] σ ds w:=fun _ ha=>wpList_nil ⟨σ,ds,ha,h⟩
theorem Aa{v:Value}{w':World}(hd:Nat.blt d n=true)(hr:AO P σ op ty w v w')(h:H3 P n ops Q rest (AL σ d v) ds w') :
   H3 P n ops Q (⟨some d,op,ty,pos,af,none⟩::rest) σ ds w:=fun a ha =>
 wpList_plain rfl fun K hK=>by
   unfold Oper.wp
   rw[hr a.eval _ _ _ _ ha.ev]
   exact hK _ _ (h _ (ha.put hd v))
theorem Jm{w':World}(hr:dP P σ op ty w w')(h:H3 P n ops Q rest σ ds w') :
   H3 P n ops Q (⟨none,op,ty,pos,af,none⟩::rest) σ ds w:=fun a ha =>
 wpList_plain rfl fun K hK=>by
   unfold Oper.wp
   rw[hr a.eval _ _ _ _ ha.ev]
   exact hK _ _ (h _ ha)
theorem Ct{dst:Option Tmp}{v:Value}{w':World}(hr:jM P σ op ty w v w')(h:Q.p [{v,recovered:=false}] σ ds w') :
   H3 P n ops Q (⟨dst,op,ty,pos,af,none⟩::rest) σ ds w:=fun a ha =>
 wpList_plain rfl fun K hK=>by
   unfold Oper.wp
   rw[hr a.eval _ _ _ _ ha.ev]
   exact⟨σ,ds,ha,h⟩
def BF(P:Program)(f:FuncId)(args:Array Value)(w:World)(R:Value→World→Prop):Prop :=
 Calls P f args w fun e w'=>∃v,e=.returned v∧R v w'
def BQ(P:Program)(f:FuncId)(args:Array Value)(w:World)(R:Value→World→Prop)(X:List PanicEntry→World→Prop):Prop :=
 Calls P f args w fun e w'=>(∃v,e=.returned v∧R v w')∨∃c,e=.panicked c∧X c w'
theorem BF.mono{f:FuncId}{args:Array Value}{R R':Value→World→Prop}(h:BF P f args w R)(hr:∀v w',R v w'→R' v w'):BF P f args w R' :=
 Calls.mono h fun _ _ ⟨v,he,hv⟩=>⟨v,he,hr _ _ hv⟩
theorem BQ.mono{f:FuncId}{args:Array Value}{R R':Value→World→Prop}{X X':List PanicEntry→World→Prop}(h:BQ P f args w R X)(hr:∀v w',R v w'→R' v w')
   (hx:∀c w',X c w'→X' c w'):BQ P f args w R' X' :=
 Calls.mono h fun _ _ he=>he.imp (fun⟨v,he,hv⟩=>⟨v,he,hr _ _ hv⟩) (fun⟨c,he,hv⟩=>⟨c,he,hx _ _ hv⟩)
theorem BF.retP{f:FuncId}{args:Array Value}{R:Value→World→Prop}{X:List PanicEntry→World→Prop}(h:BF P f args w R):BQ P f args w R X :=
 Calls.mono h fun _ _ he=>.inl he
theorem A7{f:FuncId}{args:Array Value}{R:Value→World→Prop}(hd:Nat.blt d n=true)(he:Enters P σ op ty w f args)(hc:BF P f args w R)
   (h:∀v w',R v w'→H3 P n ops Q rest (AL σ d v) ds w'):H3 P n ops Q (⟨some d,op,ty,pos,af,none⟩::rest) σ ds w:=fun a ha =>
 wpList_plain rfl fun K hK=>by
   unfold Oper.wp
   rw[he a.eval _ _ _ _ ha.ev]
   refine Calls.mono hc fun e w' hr=>?_
   obtain⟨v,rfl,hv⟩:=hr
   exact hK _ _ (h v w' hv _ (ha.put hd v))
theorem Cf{f:FuncId}{args:Array Value}{R:Value→World→Prop}{X:List PanicEntry→World→Prop}(hd:Nat.blt d n=true)(he:Enters P σ op ty w f args)
   (hc:BQ P f args w R X) (h:∀v w',R v w'→H3 P n ops Q rest (AL σ d v) ds w') (hx:∀c w',X c w'→Q.p c σ ds w') :
   H3 P n ops Q (⟨some d,op,ty,pos,af,none⟩::rest) σ ds w:=fun a ha =>
 wpList_plain rfl fun K hK=>by
   unfold Oper.wp
   rw[he a.eval _ _ _ _ ha.ev]
   refine Calls.mono hc fun e w' hr=>?_
   rcases hr with ⟨v,rfl,hv⟩|⟨c,rfl,hv⟩
   · exact hK _ _ (h v w' hv _ (ha.put hd v))
   · exact⟨σ,ds,ha,hx c w' hv⟩
theorem GU{a:Act}{dst:Option Tmp}{j dj:Nat}{want b:Bool}(ha:St n σ ds a)(hj:(ops[j]?).bind (·.dst)=some dj)(hv:σ dj=some (.bool b)) :
   Region.wanted ⟨dst,op,ty,pos,af,some (j,want)⟩ (yielded ops a.tmps)=(b==want):=by
 have h1:=ha.val dj _ hv
 have h2:a.tmps[dj]?=some (.bool b):=by
   rw[Array.getD_eq_getD_getElem?] at h1
   cases hx:a.tmps[dj]? with
   |none=>rw[hx] at h1;simp[undef] at h1
   |some u=>rw[hx] at h1;simpa using h1
 simp[Region.wanted,yielded,hj,h2]
theorem BG{dst:Option Tmp}{j dj:Nat}{want b:Bool}(hj:(ops[j]?).bind (·.dst)=some dj)(hv:σ dj=some (.bool b))(hb:b=want)
   (h:H3 P n ops Q (⟨dst,op,ty,pos,af,none⟩::rest) σ ds w):H3 P n ops Q (⟨dst,op,ty,pos,af,some (j,want)⟩::rest) σ ds w:=fun a ha=>by
 have h1:=h a ha
 unfold wpList at h1 ⊢
 rw[if_pos (by simp[Region.wanted])] at h1
 rw[if_pos (by rw[GU ha hj hv,hb];simp)]
 exact h1
theorem aX{j dj:Nat}{want b:Bool}(hd:Nat.blt d n=true)(hj:(ops[j]?).bind (·.dst)=some dj)(hv:σ dj=some (.bool b))(hb:b=!want)
   (h:H3 P n ops Q rest (AL σ d undef) ds w):H3 P n ops Q (⟨some d,op,ty,pos,af,some (j,want)⟩::rest) σ ds w:=fun a ha=>by
 unfold wpList
 rw[if_neg (by rw[GU ha hj hv,hb];cases want <;> simp)]
 exact h _ (ha.put hd undef)
def UO(P:Program)(fn:Func)(σ:Bo)(w:World)(v:Value):Prop :=
 ∀tmps:Array Value,(∀t v,σ t=some v→tmps.getD t undef=v)→(results fn tmps).run P w=.ok v w
def FN(P:Program)(fn:Func)(R:Value→World→Prop)(X:List PanicEntry→World→Prop):Bk :=
 {q:=fun e σ ds w=>match e with|.normal|.ret=>ds=[]∧∃v,UO P fn σ w v∧R v w|_=>False,p:=fun c _ ds w=>ds=[]∧X c w}
def Io:List Value→Nat→Bo
 | [],_=>e0
 |v::l,k=>AL (Io l (k+1)) k v
theorem Nh:∀(l:List Value)(k t:Nat)(v:Value),Io l k t=some v→k≤t∧l[t-k]?=some v
 | [],_,_,_,h=>by cases h
 |u::l,k,t,v,h=>by
   unfold Io AL at h
   cases hb:Nat.beq t k with
   |true=>rw[hb] at h;have:=Nat.eq_of_beq_eq_true hb;subst this;simp at h;simp[h]
   |false =>
     rw[hb] at h
     obtain⟨h1,h2⟩:=Nh l (k+1) t v h
     refine⟨oM,?_⟩
     have:t-k=(t-(k+1))+1:=oM
     rw[this];simpa using h2
theorem J7{l:List Value}(hn:Nat.ble l.length n=true):St n (Io l 0) [] {tmps:=l.toArray++Array.replicate (n-l.toArray.size) undef,defers:=[]}:=by
 have hn':l.length≤n:=by simpa using hn
 refine⟨by simp;omega,rfl,fun t v h=>?_⟩
 obtain⟨_,h2⟩:=Nh l 0 t v h
 have hlt:t<l.length:=by
   rcases Nat.lt_or_ge t l.length with h|h
   · exact h
   · simp[List.getElem?_eq_none h] at h2
 simp[Array.getElem?_append,hlt] at h2 ⊢
 simpa[hlt] using h2
theorem IF{f:FuncId}{fn:Func}{c:Code}{l:List Value}{R:Value→World→Prop}{X:List PanicEntry→World→Prop}(hf:P.funcs[f]?=some fn)(hb:fn.body=some c)
   (hn:fn.ntmps=n) (hl:Nat.ble l.length n=true) (h:HK P n c (FN P fn R X) (Io l 0) [] w):BQ P f l.toArray w R X:=by
 refine calls_of_wp hf hb ?_
 rw[hn]
 refine wp_mono (h _ (J7 hl)) fun e a w' he=>?_
 cases e with
 |normal=>obtain⟨σ,ds,hs,hd,v,hv,hr⟩:=he;exact⟨by rw[hs.defs,hd],v,hv _ hs.val,.inl ⟨v,rfl,hr⟩⟩
 |ret=>obtain⟨σ,ds,hs,hd,v,hv,hr⟩:=he;exact⟨by rw[hs.defs,hd],v,hv _ hs.val,.inl ⟨v,rfl,hr⟩⟩
 |panic c=>obtain⟨σ,ds,hs,hd,hx⟩:=he;exact⟨by rw[hs.defs,hd],.inr ⟨c,rfl,hx⟩⟩
 |outgrown=>exact he.elim
 |exit i=>obtain⟨σ,ds,hs,hq⟩:=he;exact hq.elim
 |goto i=>obtain⟨σ,ds,hs,hq⟩:=he;exact hq.elim
theorem enter{f:FuncId}{fn:Func}{c:Code}{l:List Value}{R:Value→World→Prop}(hf:P.funcs[f]?=some fn)(hb:fn.body=some c)
   (hn:fn.ntmps=n) (hl:Nat.ble l.length n=true) (h:HK P n c (FN P fn R fun _ _=>False) (Io l 0) [] w):BF P f l.toArray w R :=
 Calls.mono (IF hf hb hn hl h) fun _ _ he=>he.elim id fun⟨_,_,h⟩=>h.elim
theorem Gu{fn:Func}{R:Value→World→Prop}{X:List PanicEntry→World→Prop}{v:Value}(hv:UO P fn σ w v)(h:R v w):(FN P fn R X).q .normal σ [] w:=⟨rfl,v,hv,h⟩
theorem By{fn:Func}{R:Value→World→Prop}{X:List PanicEntry→World→Prop}{v:Value}(hv:UO P fn σ w v)(h:R v w):(FN P fn R X).q .ret σ [] w:=⟨rfl,v,hv,h⟩
def oB(tmps:Array Value):ResultVar→Sem Value
 |.tmp t=>pure (tmps.getD t undef)
 |.cell a t=>do loadVar t (← asAddr (tmps.getD a undef))
theorem ID(fn:Func)(tmps:Array Value):results fn tmps=(do let vs ← fn.results.mapM (oB tmps);pure (if h:vs.size=1 then vs[0] else .tuple vs)):=by
 unfold results
 congr
def Rv(P:Program)(σ:Bo)(w:World)(r:ResultVar)(v:Value):Prop :=
 ∀tmps:Array Value,(∀t v,σ t=some v→tmps.getD t undef=v)→(oB tmps r).run P w=.ok v w
theorem Aj{t:Nat}{v:Value}(hv:σ t=some v):Rv P σ w (.tmp t) v:=fun tmps ht=>by simp only[oB,ht t v hv];rfl
theorem DT{fn:Func}(h:fn.results=#[]):UO P fn σ w (.tuple #[]):=fun tmps _=>results_none h tmps P w
theorem AI{fn:Func}{r:ResultVar}{v:Value}(h:fn.results=#[r])(hv:Rv P σ w r v):UO P fn σ w v:=fun tmps ht=>by
 have h1:=hv tmps ht
 rw[ID,h,List.mapM_toArray]
 simp[h1]
theorem Cu{fn:Func}{r1 r2:ResultVar}{v1 v2:Value}(h:fn.results=#[r1,r2])(h1:Rv P σ w r1 v1)(h2:Rv P σ w r2 v2):UO P fn σ w (.tuple #[v1,v2]):=fun tmps ht=>by
 have g1:=h1 tmps ht
 have g2:=h2 tmps ht
 rw[ID,h,List.mapM_toArray]
 simp[g1,g2]
theorem Ex{fn:Func}{r1 r2 r3:ResultVar}{v1 v2 v3:Value}(h:fn.results=#[r1,r2,r3])(h1:Rv P σ w r1 v1)(h2:Rv P σ w r2 v2)(h3:Rv P σ w r3 v3):UO P fn σ w (.tuple #[v1,v2,v3]):=fun tmps ht=>by
 have g1:=h1 tmps ht
 have g2:=h2 tmps ht
 have g3:=h3 tmps ht
 rw[ID,h,List.mapM_toArray]
 simp[g1,g2,g3]
end
abbrev S(l:List UInt8):Value:=.string ⟨l.toArray⟩
theorem OH(l:List UInt8):(⟨l.toArray⟩:ByteArray).toList=l:=by
 rw[ByteArray.toList_eq]
theorem FL{b:Bool}(h:(!b)=true):b=false:=by simpa using h
theorem Gn{b:Bool}(h:(!b)=false):b=true:=by simpa using h
section
variable{P:Program}{σ:Bo}{w:World}{ty:TypeId}{x y c:Operand}
theorem A0{v:Value}(h:ev σ x=some v):AO P σ (.move x) ty w v w:=fun ρ _ _ _ _ hρ=>by simp[execOp,hρ _ _ h]
theorem Dm{v:Value}(h:ev σ x=some v):AO P σ (.assign x) ty w v w:=fun ρ _ _ _ _ hρ=>by simp[execOp,hρ _ _ h]
theorem MO{v:Value}{b:Bool}(hc:ev σ c=some (.bool b))(hb:b=true)(h:ev σ x=some v):AO P σ (.pick c x y) ty w v w:=fun ρ _ _ _ _ hρ=>by
 simp[execOp,hρ _ _ hc,hρ _ _ h,asBool,hb]
theorem N7{v:Value}{b:Bool}(hc:ev σ c=some (.bool b))(hb:b=false)(h:ev σ y=some v):AO P σ (.pick c x y) ty w v w:=fun ρ _ _ _ _ hρ=>by
 simp[execOp,hρ _ _ hc,hρ _ _ h,asBool,hb]
theorem Uq{t:TypeId}{b:Bool}(h:ev σ x=some (.bool b)):AO P σ (.unOp .not t x) ty w (.bool (!b)) w:=fun ρ _ _ _ _ hρ=>by
 simp[execOp,hρ _ _ h,Op.unary]
theorem iS{t t':TypeId}{k:IntKind}{a b:Int}(hx:ev σ x=some (.int k a))(hy:ev σ y=some (.int k b)):AO P σ (.binOp .eql t x y t') ty w (.bool (a==b)) w :=
 fun ρ _ _ _ _ hρ=>by simp[execOp,hρ _ _ hx,hρ _ _ hy,eqGuard,binOp,Op.intCmp]
theorem Xm{t t':TypeId}{k:IntKind}{a b:Int}(hx:ev σ x=some (.int k a))(hy:ev σ y=some (.int k b)):AO P σ (.binOp .neq t x y t') ty w (.bool (a != b)) w :=
 fun ρ _ _ _ _ hρ=>by simp[execOp,hρ _ _ hx,hρ _ _ hy,eqGuard,binOp,Op.intCmp]
theorem Tu{t t':TypeId}{k:IntKind}{a b:Int}(hx:ev σ x=some (.int k a))(hy:ev σ y=some (.int k b)):AO P σ (.binOp .lss t x y t') ty w (.bool (decide (a<b))) w :=
 fun ρ _ _ _ _ hρ=>by simp[execOp,hρ _ _ hx,hρ _ _ hy,eqGuard,binOp,Op.intCmp]
theorem X2{t t':TypeId}{k:IntKind}{a b:Int}(hx:ev σ x=some (.int k a))(hy:ev σ y=some (.int k b)):AO P σ (.binOp .leq t x y t') ty w (.bool (decide (a≤b))) w :=
 fun ρ _ _ _ _ hρ=>by simp[execOp,hρ _ _ hx,hρ _ _ hy,eqGuard,binOp,Op.intCmp]
theorem Xz{t t':TypeId}{k:IntKind}{a b:Int}(hx:ev σ x=some (.int k a))(hy:ev σ y=some (.int k b)):AO P σ (.binOp .gtr t x y t') ty w (.bool (decide (b<a))) w :=
 fun ρ _ _ _ _ hρ=>by simp[execOp,hρ _ _ hx,hρ _ _ hy,eqGuard,binOp,Op.intCmp]
theorem Yv{t t':TypeId}{k:IntKind}{a b:Int}(hx:ev σ x=some (.int k a))(hy:ev σ y=some (.int k b)):AO P σ (.binOp .geq t x y t') ty w (.bool (decide (b≤a))) w :=
 fun ρ _ _ _ _ hρ=>by simp[execOp,hρ _ _ hx,hρ _ _ hy,eqGuard,binOp,Op.intCmp]
def QB(n:Int):Prop := -9223372036854775808≤n∧n≤9223372036854775807
theorem MA{n:Int}(h:QB n):IntKind.i64.wrap n=n:=IntWalk.i64_in _ ⟨h.1,by have:=h.2;omega⟩
theorem Nj{t t':TypeId}{a b:Int}(hx:ev σ x=some (.int .i64 a))(hy:ev σ y=some (.int .i64 b))(h:QB (a+b)):AO P σ (.binOp .add t x y t') ty w (.int .i64 (a+b)) w :=
 fun ρ _ _ _ _ hρ=>by simp[execOp,hρ _ _ hx,hρ _ _ hy,eqGuard,binOp,Op.intArith,MA h]
theorem He{t t':TypeId}{a b:Int}(hx:ev σ x=some (.int .i64 a))(hy:ev σ y=some (.int .i64 b))(h:QB (a-b)):AO P σ (.binOp .sub t x y t') ty w (.int .i64 (a-b)) w :=
 fun ρ _ _ _ _ hρ=>by simp[execOp,hρ _ _ hx,hρ _ _ hy,eqGuard,binOp,Op.intArith,MA h]
theorem iT{t t':TypeId}{a b:List UInt8}(hx:ev σ x=some (S a))(hy:ev σ y=some (S b)):AO P σ (.binOp .eql t x y t') ty w (.bool (a==b)) w :=
 fun ρ _ _ _ _ hρ=>by simp[execOp,hρ _ _ hx,hρ _ _ hy,eqGuard,binOp,Op.stringOp]
theorem gZ{t t':TypeId}{a b:List UInt8}(hx:ev σ x=some (S a))(hy:ev σ y=some (S b)):AO P σ (.binOp .neq t x y t') ty w (.bool (!(a==b))) w :=
 fun ρ _ _ _ _ hρ=>by simp[execOp,hρ _ _ hx,hρ _ _ hy,eqGuard,binOp,Op.stringOp]
theorem JN{t t':TypeId}{a b:List UInt8}(hx:ev σ x=some (S a))(hy:ev σ y=some (S b))(h:a.length+b.length≤9223372036854775807) :
   AO P σ (.binOp .add t x y t') ty w (S (a++b)) w:=fun ρ _ _ _ _ hρ=>by
 have h1:¬(((⟨a.toArray⟩:ByteArray).size+(⟨b.toArray⟩:ByteArray).size:Nat):Int)>IntKind.i64.max:=by
   have hm:IntKind.i64.max=9223372036854775807:=dC
   rw[hm];simp[ByteArray.size];omega
 have h2:((⟨a.toArray⟩:ByteArray)++⟨b.toArray⟩)=⟨(a++b).toArray⟩:=by
   apply ByteArray.ext;simp
 simp only[execOp,hρ _ _ hx,hρ _ _ hy,eqGuard,binOp,Op.stringOp,h1,h2]
 simp
end
def Bb(P:Program)(T:TypeId):Option (Bool×Nat) :=
 match P.underlying T,P.info? T with
 |some d,some i=>some (match d with|.struct _|.array _ _=>true|_=>false,i.size)
 |_,_=>none
def FA(P:Program)(T:TypeId)(i:Nat):Option Nat :=
 match P.underlying T with
 |some (.struct fs)=>match fs[i]? with
   |some f=>match P.info? f.type with
     |some j=>if j.size=0 then none else some f.offset
     |none=>none
   |none=>none
 |_=>none
def JV(P:Program)(T:TypeId):Option (TypeId×Nat) :=
 match P.underlying T with
 |some (.slice e)=>(P.info? e).map fun j=>(e,j.size)
 |_=>none
def HU(P:Program)(T:TypeId):Option (List Value):=match P.info? T with|some i=>i.zero.map fun v=>v.cells.toList|none=>none
def AQ(w:World)(b:Nat)(l:List Value)(T:TypeId):Prop:=w.heap[b]?=some (.cells l.toArray T (0,0))
abbrev AV(w w':World):Prop:=Below w.heap.size w w'
structure GS(b:Nat)(w w':World):Prop where
 os:w'.os=w.os
 tape:w'.tape=w.tape
 output:w'.output=w.output
 size:w'.heap.size=w.heap.size
 block:∀k,k≠b→w'.heap[k]?=w.heap[k]?
theorem AV.refl(w:World):AV w w:=Below.refl _ _
theorem AV.trans{w w1 w2:World}(h:AV w w1)(h2:AV w1 w2):AV w w2:=Below.trans h (h2.mono h.size)
theorem AV.drew{w:World}:AV w w.drew:=Below.drew (Below.refl _ _)
theorem AQ.lt{w:World}{b:Nat}{l:List Value}{T:TypeId}(h:AQ w b l T):b<w.heap.size:=by
 rcases Nat.lt_or_ge b w.heap.size with h' | h'
 · exact h'
 · unfold AQ at h;rw[Array.getElem?_eq_none h'] at h;cases h
theorem AQ.ext{w w':World}{b:Nat}{l:List Value}{T:TypeId}(h:AQ w b l T)(he:AV w w'):AQ w' b l T:=(he.block b h.lt).trans h
theorem AQ.chg{w w':World}{b c:Nat}{l:List Value}{T:TypeId}(h:AQ w b l T)(he:GS c w w')(hne:b≠c):AQ w' b l T:=(he.block b hne).trans h
theorem AV.chg{w w1 w2:World}{b:Nat}(h:AV w w1)(hc:GS b w1 w2)(hb:w.heap.size≤b):AV w w2 :=
 ⟨hc.os.trans h.os,hc.tape.trans h.tape,hc.output.trans h.output,by rw[hc.size];exact h.size,fun k hk=>(hc.block k oM).trans (h.block k hk)⟩
theorem AQ.cell{w:World}{b:Nat}{l:List Value}{T:TypeId}(h:AQ w b l T)(o:Nat):w.cell? ⟨b,o,none⟩=l[o]?:=by
 unfold AQ at h;simp[World.cell?,h]
section
variable{P:Program}{w:World}
theorem Fc{T:TypeId}{a:Bool}{n:Nat}(h:Bb P T=some (a,n)):(isAgg T).run P w=.ok a w:=by
 unfold Bb at h
 cases hu:P.underlying T with
 |none=>rw[hu] at h;cases h
 |some d =>
   cases hi:P.info? T with
   |none=>rw[hu,hi] at h;cases h
   |some i =>
     rw[hu,hi] at h
     cases d <;> simp_all [isAgg,run_underlying hu]
theorem IM{T:TypeId}{a:Bool}{n:Nat}(h:Bb P T=some (a,n)):(sizeOf T).run P w=.ok n w:=by
 unfold Bb at h
 cases hu:P.underlying T with
 |none=>rw[hu] at h;cases h
 |some d =>
   cases hi:P.info? T with
   |none=>rw[hu,hi] at h;cases h
   |some i =>
     rw[hu,hi] at h
     have ha:i.size=n:=by injection h with h;exact (Prod.mk.inj h).2
     simp[sizeOf,typeInfo,hi,ha]
def Sx:Nat→List Value→Option (List Value)
 |0,_=>some []
 |_+1,[]=>none
 |k+1,v::l=>match Sx k l with
   |some r=>some (v::r)
   |none=>none
def U0:List Value→Nat→Nat→Option (List Value)
 |l,0,k=>Sx k l
 | [],_+1,_=>none
 |_::l,o+1,k=>U0 l o k
theorem Nf:∀{k:Nat}{l vs:List Value},Sx k l=some vs→l.take k=vs∧vs.length=k
 |0,_,_,h=>by injection h with h;subst h;simp
 |_+1,[],_,h=>by cases h
 |k+1,v::l,vs,h=>by
   unfold Sx at h
   cases hr:Sx k l with
   |none=>rw[hr] at h;cases h
   |some r =>
     rw[hr] at h
     injection h with h
     subst h
     have:=Nf hr
     simp[this.1,this.2]
theorem KV:∀{l:List Value}{o k:Nat}{vs:List Value},U0 l o k=some vs→(l.drop o).take k=vs∧vs.length=k
 |l,0,k,vs,h=>by unfold U0 at h;simpa using Nf h
 | [],_+1,_,_,h=>by cases h
 |_::l,o+1,k,vs,h=>by unfold U0 at h;simpa using KV (l:=l) h
def HP:Value→Option (List Value)
 |.agg ⟨l⟩=>some l
 |v=>some [v]
theorem EO(b o k:Nat):(⟨b,o,none⟩:Addr).add k=⟨b,o+k,none⟩:=by unfold Addr.add;split <;> simp_all
variable{σ:Bo}{ty T T':TypeId}{x y:Operand}{b off k:Nat}{l:List Value}
theorem Al{v:Value}(hx:ev σ x=some (.pointer (some ⟨b,off,none⟩)))(hT:Bb P T=some (false,k))(hb:AQ w b l T')(hv:l[off]?=some v) :
   AO P σ (.load T x) ty w v w:=fun ρ _ _ _ _ hρ=>by
 have hc:w.cell? ⟨b,off,none⟩=some v:=by rw[hb.cell,hv]
 simp[execOp,hρ _ _ hx,Instr.loadAt,Instr.sureAddr,loadVar,Fc hT,run_load,hc]
theorem Dt{vs:List Value}(hx:ev σ x=some (.pointer (some ⟨b,off,none⟩)))(hT:Bb P T=some (true,k))(hb:AQ w b l T')(hv':U0 l off k=some vs) :
   AO P σ (.load T x) ty w (.agg vs.toArray) w:=fun ρ _ _ _ _ hρ=>by
 obtain⟨hv,hk'⟩:=KV hv'
 have hc:=run_loadCells_list (P:=P) w ⟨b,off,none⟩ vs (fun j v hj=>by
   rw[EO,hb.cell]
   rw[← hv] at hj
   have hlt:j<k:=by
     rcases Nat.lt_or_ge j k with h|h
     · exact h
     · rw[List.getElem?_take,if_neg (by omega)] at hj;cases hj
   rwa[List.getElem?_take,if_pos hlt,List.getElem?_drop] at hj)
 rw[hk'] at hc
 simp[execOp,hρ _ _ hx,Instr.loadAt,Instr.sureAddr,loadVar,Fc hT,IM hT,hc]
theorem BO{i o:Nat}(hx:ev σ x=some (.pointer (some ⟨b,off,none⟩)))(hf:FA P T i=some o):AO P σ (.fieldAddr T x i) ty w (.pointer (some ⟨b,off+o,none⟩)) w:=fun ρ _ _ _ _ hρ=>by
 unfold FA at hf
 split at hf
 · rename_i fs hu
   split at hf
   · rename_i f hfs
     split at hf
     · rename_i j hj
       split at hf
       · cases hf
       · rename_i hz
         injection hf with hf
         subst hf
         simp[execOp,hρ _ _ hx,Instr.fieldAt,run_underlying hu,hfs,Instr.sureAddr,fieldPlace,sizeOf,typeInfo,hj,hz,EO]
     · cases hf
   · cases hf
 · cases hf
theorem Ho{e:TypeId}(h:JV P T=some (e,k)):∃i,P.underlying T=some (.slice e)∧P.info? e=some i∧i.size=k:=by
 unfold JV at h
 split at h
 · rename_i e' hu
   cases hj:P.info? e' with
   |none=>rw[hj] at h;cases h
   |some j =>
     rw[hj] at h
     simp at h
     obtain⟨rfl,h2⟩:=h
     exact⟨j,hu,hj,h2⟩
 · cases h
theorem MK{e:TypeId}{kk:IntKind}{i:Int}{len cap:Nat}(hx:ev σ x=some (.slice (some ⟨b,off,none⟩) len cap))(hy:ev σ y=some (.int kk i))(hs:JV P T=some (e,k))
   (hi:0≤i∧i<len):AO P σ (.indexAddr T x y) ty w (.pointer (some ⟨b,off+i.toNat*k,none⟩)) w:=fun ρ _ _ _ _ hρ=>by
 obtain⟨j,hu,hj,rfl⟩:=Ho hs
 simp[execOp,hρ _ _ hx,hρ _ _ hy,Instr.indexAt,asIntOf,run_underlying hu,hi,sizeOf,typeInfo,hj,EO]
theorem K8{e:TypeId}{kk:IntKind}{i:Nat}{len cap:Nat}(hx:ev σ x=some (.slice (some ⟨b,off,none⟩) len cap))(hy:ev σ y=some (.int kk (i:Int)))(hs:JV P T=some (e,k))
   (hi:i<len):AO P σ (.indexAddr T x y) ty w (.pointer (some ⟨b,off+i*k,none⟩)) w:=by
 have:=MK (w:=w) (ty:=ty) hx hy hs ⟨oM,oM⟩
 simpa using this
theorem Un{vs:List Value}{i:Nat}{v:Value}(hx:ev σ x=some (.tuple vs.toArray))(hv:vs[i]?=some v):AO P σ (.extract x i) ty w v w:=fun ρ _ _ _ _ hρ=>by
 simp[execOp,hρ _ _ hx,Instr.extract,hv]
def Jb(σ:Bo):List Operand→Option (List Value)
 | []=>some []
 |x::l=>match ev σ x,Jb σ l with
   |some v,some vs=>some (v::vs)
   |_,_=>none
theorem Fb{ρ:Operand→Value}(hρ:∀x v,ev σ x=some v→ρ x=v):∀{l:List Operand}{vs:List Value},Jb σ l=some vs→l.map ρ=vs
 | [],_,h=>by injection h with h
 |x::l,vs,h=>by
   unfold Jb at h
   cases hx:ev σ x with
   |none=>rw[hx] at h;cases h
   |some v =>
     cases hl:Jb σ l with
     |none=>rw[hx,hl] at h;cases h
     |some us =>
       rw[hx,hl] at h
       injection h with h
       subst h
       simp[hρ x v hx,Fb hρ hl]
theorem LX{e:TypeId}{a:Option Addr}{n cap:Nat}(hx:ev σ x=some (.slice a n cap))(hs:JV P T=some (e,k)) :
   AO P σ (.call {callee:=.builtin .len,args:=#[x],argTypes:=#[T]}) ty w (.int .i64 n) w:=fun ρ _ _ _ _ hρ=>by
 obtain⟨j,hu,hj,rfl⟩:=Ho hs
 simp[execOp,resolve,invoke,builtin,hρ _ _ hx,Builtin.len_,run_underlying hu,goInt]
theorem MF{s:List UInt8}(hx:ev σ x=some (S s))(hs:P.underlying T=some .string) :
   AO P σ (.call {callee:=.builtin .len,args:=#[x],argTypes:=#[T]}) ty w (.int .i64 s.length) w:=fun ρ _ _ _ _ hρ=>by
 have hsz:(⟨s.toArray⟩:ByteArray).size=s.length:=by simp[ByteArray.size]
 simp[execOp,resolve,invoke,builtin,hρ _ _ hx,Builtin.len_,run_underlying hs,goInt,hsz]
theorem DB{s:List UInt8}{kk:IntKind}{i:Int}{c:UInt8}(hx:ev σ x=some (S s))(hy:ev σ y=some (.int kk i))(hs:P.underlying T=some .string)(h0:0≤i)
   (hc:s[i.toNat]?=some c):AO P σ (.index T x y) ty w (.int .u8 c.toNat) w:=fun ρ _ _ _ _ hρ=>by
 have hlt:i.toNat<s.length:=by
   rcases Nat.lt_or_ge i.toNat s.length with h|h
   · exact h
   · rw[List.getElem?_eq_none h] at hc;cases hc
 have h2:(⟨s.toArray⟩:ByteArray)[i.toNat]?=some c:=by
   have h3:i.toNat<(⟨s.toArray⟩:ByteArray).size:=by simpa[ByteArray.size] using hlt
   rw[getElem?_pos (⟨s.toArray⟩:ByteArray) i.toNat h3]
   rw[List.getElem?_eq_getElem hlt] at hc
   exact hc
 simp[execOp,hρ _ _ hx,hρ _ _ hy,Instr.index,asIntOf,run_underlying hs,h0,h2]
theorem K6(s:List UInt8)(i j:Nat):(⟨s.toArray⟩:ByteArray).extract i j=⟨((s.take j).drop i).toArray⟩:=by
 apply ByteArray.ext
 simp[ByteArray.data_extract,List.extract_eq_take_drop,List.drop_take]
theorem LL{s:List UInt8}{lo hi:Operand}{k1 k2:IntKind}{i j:Int}(hx:ev σ x=some (S s))(hlo:ev σ lo=some (.int k1 i))(hhi:ev σ hi=some (.int k2 j))(hs:P.underlying T=some .string)
   (h:0≤i∧i≤j∧j≤s.length):AO P σ (.slice T x (some lo) (some hi) none) ty w (S ((s.take j.toNat).drop i.toNat)) w:=fun ρ _ _ _ _ hρ=>by
 have hsz:(⟨s.toArray⟩:ByteArray).size=s.length:=by simp[ByteArray.size]
 have hj:0≤j:=oM
 simp[execOp,hρ _ _ hx,hρ _ _ hlo,hρ _ _ hhi,Instr.sliceAt,Instr.slice,Instr.sliceBounds,Instr.sliceBound,asIntOf,run_underlying hs,hsz,h,hj,K6]
 intro hm
 omega
theorem Ti{s:List UInt8}{lo:Operand}{k1:IntKind}{i:Int}(hx:ev σ x=some (S s))(hlo:ev σ lo=some (.int k1 i))(hs:P.underlying T=some .string)
   (h:0≤i∧i≤s.length):AO P σ (.slice T x (some lo) none none) ty w (S (s.drop i.toNat)) w:=fun ρ _ _ _ _ hρ=>by
 have hsz:(⟨s.toArray⟩:ByteArray).size=s.length:=by simp[ByteArray.size]
 simp[execOp,hρ _ _ hx,hρ _ _ hlo,Instr.sliceAt,Instr.slice,Instr.sliceBounds,Instr.sliceBound,asIntOf,run_underlying hs,hsz,h,K6]
theorem HZ{s:List UInt8}{hi:Operand}{k1:IntKind}{j:Int}(hx:ev σ x=some (S s))(hhi:ev σ hi=some (.int k1 j))(hs:P.underlying T=some .string)
   (h:0≤j∧j≤s.length):AO P σ (.slice T x none (some hi) none) ty w (S (s.take j.toNat)) w:=fun ρ _ _ _ _ hρ=>by
 have hsz:(⟨s.toArray⟩:ByteArray).size=s.length:=by simp[ByteArray.size]
 simp[execOp,hρ _ _ hx,hρ _ _ hhi,Instr.sliceAt,Instr.slice,Instr.sliceBounds,Instr.sliceBound,asIntOf,run_underlying hs,hsz,h,K6]
theorem OA{e:TypeId}{lo:Operand}{k1:IntKind}{i:Nat}{a:Option Addr}{len cap:Nat}(hx:ev σ x=some (.slice a len cap))(hlo:ev σ lo=some (.int k1 (i:Int)))
   (hs:JV P T=some (e,k)) (h:i≤len):AO P σ (.slice T x (some lo) none none) ty w (.slice (if cap=i then a else a.map (·.add (i*k))) (len-i) (cap-i)) w:=fun ρ _ _ _ _ hρ=>by
 obtain⟨j,hu,hj,rfl⟩:=Ho hs
 simp[execOp,hρ _ _ hx,hρ _ _ hlo,Instr.sliceAt,Instr.slice,Instr.sliceBounds,Instr.sliceBound,asIntOf,run_underlying hu,sizeOf,typeInfo,hj]
 intro hm
 omega
theorem UF{e:TypeId}{hi:Operand}{k1:IntKind}{i:Nat}{a:Option Addr}{len cap:Nat}(hx:ev σ x=some (.slice a len cap))(hhi:ev σ hi=some (.int k1 (i:Int)))
   (hs:JV P T=some (e,k)) (h:i≤cap):AO P σ (.slice T x none (some hi) none) ty w (.slice a i cap) w:=fun ρ _ _ _ _ hρ=>by
 obtain⟨j,hu,hj,rfl⟩:=Ho hs
 simp[execOp,hρ _ _ hx,hρ _ _ hhi,Instr.sliceAt,Instr.slice,Instr.sliceBounds,Instr.sliceBound,asIntOf,run_underlying hu,sizeOf,typeInfo,hj]
 cases a <;> (simp[Addr.add];intro hm;omega)
def NB(P:Program)(T:TypeId):Option (List (Nat×Nat)) :=
 match P.underlying T with
 |some (.struct fs)=>fs.toList.mapM fun f=>(P.info? f.type).map fun j=>(f.offset,j.size)
 |_=>none
def GG(σ:Bo):List (Nat×Operand)→Option (List (Nat×Value))
 | []=>some []
 |(i,x)::l=>match ev σ x,GG σ l with
   |some v,some vs=>some ((i,v)::vs)
   |_,_=>none
theorem I3{ρ:Operand→Value}(hρ:∀x v,ev σ x=some v→ρ x=v):∀{l:List (Nat×Operand)}{vs:List (Nat×Value)},GG σ l=some vs→(l.map fun p=>(p.1,ρ p.2))=vs
 | [],_,h=>by injection h with h
 |(i,x)::l,vs,h=>by
   unfold GG at h
   cases hx:ev σ x with
   |none=>rw[hx] at h;cases h
   |some v =>
     cases hl:GG σ l with
     |none=>rw[hx,hl] at h;cases h
     |some us =>
       rw[hx,hl] at h
       injection h with h
       subst h
       simp[hρ x v hx,I3 hρ hl]
def L9:Value→List Value
 |.agg cs=>cs.toList
 |v=>[v]
theorem Iq(v:Value):v.cells=(L9 v).toArray:=by cases v <;> simp[Value.cells,L9]
theorem GQ{v:Value}{l:List Value}(h:HP v=some l):L9 v=l:=by
 cases v with
 |agg cs=>exact Option.some.inj h
 |_=>exact Option.some.inj h
def EC:List Value→Nat→List Value→List Value
 |cs,_,[]=>cs
 |cs,o,c::l=>EC (cs.set o c) (o+1) l
def Po:List Value→List Value→Option (List Value)
 |cs,[]=>some cs
 | [],_::_=>none
 |_::cs,v::vs=>match Po cs vs with
   |some r=>some (v::r)
   |none=>none
def Ou:List Value→Nat→List Value→Option (List Value)
 |cs,0,vs=>Po cs vs
 | [],_+1,_=>none
 |c::cs,o+1,vs=>match Ou cs o vs with
   |some r=>some (c::r)
   |none=>none
theorem LC(c:Value):∀(vs cs:List Value)(o:Nat),EC (c::cs) (o+1) vs=c::EC cs o vs
 | [],_,_=>rfl
 |v::vs,cs,o=>by rw[EC,EC,List.set_cons_succ,LC c vs]
theorem R6:∀{cs vs r:List Value},Po cs vs=some r→EC cs 0 vs=r∧vs.length≤cs.length
 |cs,[],_,h=>by unfold Po at h;injection h with h;subst h;simp[EC]
 | [],_::_,_,h=>by cases h
 |c::cs,v::vs,_,h=>by
   unfold Po at h
   cases hr:Po cs vs with
   |none=>rw[hr] at h;cases h
   |some r =>
     rw[hr] at h
     injection h with h
     subst h
     have:=R6 hr
     rw[EC,List.set_cons_zero,LC,this.1]
     exact⟨rfl,by simpa using this.2⟩
theorem PC:∀{cs:List Value}{o:Nat}{vs r:List Value},Ou cs o vs=some r→EC cs o vs=r∧o+vs.length≤cs.length
 |cs,0,vs,r,h=>by unfold Ou at h;simpa using R6 h
 | [],_+1,_,_,h=>by cases h
 |c::cs,o+1,vs,_,h=>by
   unfold Ou at h
   cases hr:Ou cs o vs with
   |none=>rw[hr] at h;cases h
   |some r =>
     rw[hr] at h
     injection h with h
     subst h
     have:=PC hr
     rw[LC,this.1]
     refine⟨rfl,?_⟩
     have h2:=this.2
     simp only[List.length_cons]
     omega
def Kr(pl:List (Nat×Nat)):List Value→List (Nat×Value)→Option (List Value)
 |cs,[]=>some cs
 |cs,(i,v)::rest=>match pl[i]?,HP v with
   |some (off,size),some vs=>if Nat.beq vs.length size then (match Ou cs off vs with|some cs'=>Kr pl cs' rest|none=>none) else none
   |_,_=>none
theorem Gf:∀(vs cs:List Value)(o:Nat),(EC cs o vs).length=cs.length
 | [],_,_=>rfl
 |v::vs,cs,o=>by rw[EC,Gf vs];simp
theorem Pq:∀(vs:List Value)(j o:Nat)(cs:List Value),(vs.zipIdx j).foldl (fun(cs:Array Value)(p:Value×Nat)=>cs.setIfInBounds (o+p.2) p.1) cs.toArray=(EC cs (o+j) vs).toArray
 | [],_,_,_=>rfl
 |v::vs,j,o,cs=>by
   rw[List.zipIdx_cons,List.foldl_cons,EC]
   have:=Pq vs (j+1) o (cs.set (o+j) v)
   simp only[List.setIfInBounds_toArray] at this ⊢
   rw[this,Nat.add_assoc]
theorem Qd{pl:List (Nat×Nat)}{g:Nat→Option (Nat×Nat)}(hg:∀i p,pl[i]?=some p→g i=some p):∀(parts:List (Nat×Value))(cs out:List Value),Kr pl cs parts=some out→Instr.fill g cs.toArray parts=some out.toArray
 | [],cs,out,h=>by unfold Kr at h;injection h with h;subst h;rfl
 |(i,v)::rest,cs,out,h=>by
   unfold Kr at h
   unfold Instr.fill
   cases hp:pl[i]? with
   |none=>rw[hp] at h;cases h
   |some p =>
     obtain⟨off,size⟩:=p
     rw[hg i _ hp]
     cases hvs:HP v with
     |none=>rw[hp,hvs] at h;cases h
     |some vs =>
       rw[hp,hvs] at h
       simp only at h
       have hcl:=GQ hvs
       split at h
       · rename_i hc
         have hc1:=Nat.eq_of_beq_eq_true hc
         cases hput:Ou cs off vs with
         |none=>rw[hput] at h;cases h
         |some cs' =>
           rw[hput] at h
           obtain⟨hpu,hle⟩:=PC hput
           have hsz:v.cells.size=size:=by rw[Iq,hcl];simpa using hc1
           simp only[hsz]
           rw[if_neg (by simp;omega)]
           have hz:v.cells.zipIdx.foldl (fun cs (p:Value×Nat)=>cs.setIfInBounds (off+p.2) p.1) cs.toArray=cs'.toArray:=by
             rw[Iq,← Array.foldl_toList,← hpu,← hcl]
             have:=Pq (L9 v) 0 off cs
             simpa using this
           have ih:=Qd hg rest cs' out h
           rw[← hz] at ih
           exact ih
       · cases h
theorem QW{fs:List Field}{pl:List (Nat×Nat)}(h:fs.mapM (fun f=>(P.info? f.type).map fun j=>(f.offset,j.size))=some pl) :
   (fs.mapM fun f=>(do pure (f.offset,← sizeOf f.type):Sem (Nat×Nat))).run P w=.ok pl w:=by
 induction fs generalizing pl with
 |nil=>simp at h;subst h;simp
 |cons f fs ih =>
   simp only[List.mapM_cons] at h ⊢
   cases hi:P.info? f.type with
   |none=>simp[hi] at h
   |some j =>
     cases hr:fs.mapM (fun f=>(P.info? f.type).map fun j=>(f.offset,j.size)) with
     |none=>simp[hi,hr] at h
     |some pr =>
       simp[hi,hr] at h
       subst h
       have:=ih hr
       have hone:(do pure (f.offset,← sizeOf f.type):Sem (Nat×Nat)).run P w=.ok (f.offset,j.size) w:=by simp[sizeOf,typeInfo,hi]
       rw[Sem.run_bind,hone,Result.andThen_ok,Sem.run_bind,this,Result.andThen_ok]
       rfl
theorem N6{z:List Value}(h:HU P T=some z):∃v,(zeroValue T).run P w=.ok v w∧v.cells=z.toArray:=by
 unfold HU at h
 split at h
 · rename_i i hi
   cases hz:i.zero with
   |none=>rw[hz] at h;cases h
   |some v=>rw[hz] at h;simp at h;exact⟨v,by simp[zeroValue,typeInfo,hi,hz],by rw[← h]⟩
 · cases h
theorem DK{parts:List (Nat×Operand)}{pv:List (Nat×Value)}{pl:List (Nat×Nat)}{z out:List Value}(hp:GG σ parts=some pv)(hpl:NB P T=some pl)
   (hz:HU P T=some z) (hf:Kr pl z pv=some out):AO P σ (.build T parts.toArray) ty w (.agg out.toArray) w:=fun ρ _ _ _ _ hρ=>by
 unfold NB at hpl
 split at hpl
 · rename_i fs hu
   obtain⟨v,hv,hvc⟩:=N6 (w:=w) hz
   have hm:=QW (w:=w) hpl
   have hm':(fs.mapM fun f=>(do pure (f.offset,← sizeOf f.type):Sem (Nat×Nat))).run P w=.ok pl.toArray w:=by
     rw[← Array.toArray_toList (xs:=fs),List.mapM_toArray]
     simp at hm
     simp[hm]
   have hpe:=I3 hρ hp
   have hfl:=Qd (g:=fun i=>pl[i]?) (fun i p h=>h) pv z out hf
   have hpe':(parts.toArray.map fun p=>(p.1,ρ p.2))=pv.toArray:=by rw[← hpe];simp
   simp only[execOp]
   have:(Instr.build T (parts.toArray.map fun(i,x)=>(i,ρ x))).run P w=.ok (.agg out.toArray) w:=by
     have e:(parts.toArray.map fun(p:Nat×Operand)=>match p with|(i,x)=>(i,ρ x))=pv.toArray:=hpe'
     rw[e]
     simp only[Instr.build,Sem.run_bind,hv,Result.andThen_ok,run_underlying hu,hvc]
     simp only[hm',Result.andThen_ok]
     simp[hfl]
   rw[Sem.run_bind,this]
   rfl
 · cases hpl
end
section
variable{P:Program}{n:Nat}{Q:Bk}{σ:Bo}{ds:List Deferred}{w:World}{ops:Array Oper}{ty T T':TypeId}{pos:String}{af:Array Edge}{rest:List Oper}{d b off k:Nat}{x y:Operand}{l:List Value}
theorem M4(w:World)(l:List Value)(T:TypeId):AQ (w.alloc (.cells l.toArray T)) w.heap.size l T:=heap_alloc_new w _
theorem Ki(w:World)(o:Obj):AV w (w.alloc o):=Below.alloc (Below.refl _ _) (Nat.le_refl _) o
theorem Hn(w:World)(o:Obj):(w.alloc o).heap.size=w.heap.size+1:=by simp
def aK(w:World)(l:List Value)(T:TypeId)(K:Nat→World→Prop):Prop :=
 ∀b w',AQ w' b l T→AV w w'→w.heap.size=b→w'.heap.size=b+1→K b w'
theorem KG{K:Nat→World→Prop}(h:aK w l T K):K w.heap.size (w.alloc (.cells l.toArray T)):=h _ _ (M4 w l T) (Ki w _) rfl (Hn w _)
theorem Y7{v:Value}(hx:ev σ x=some v):AO P σ (.box T x) ty w (.pointer (some ⟨w.heap.size,0,none⟩)) (w.alloc (.cells (L9 v).toArray T)):=fun ρ _ _ _ _ hρ=>by
 simp[execOp,hρ _ _ hx,Instr.box,newVar,newRow,Iq]
theorem En{v:Value}(hd:Nat.blt d n=true)(hx:ev σ x=some v)(hl':HP v=some l)
   (h:aK w l T fun b w'=>H3 P n ops Q rest (AL σ d (.pointer (some ⟨b,0,none⟩))) ds w'):H3 P n ops Q (⟨some d,.box T x,ty,pos,af,none⟩::rest) σ ds w:=by
 have hl:=GQ hl'
 subst hl
 exact Aa hd (Y7 hx) (KG h)
theorem Ss(hz:HU P T=some l):AO P σ (.alloc T) ty w (.pointer (some ⟨w.heap.size,0,none⟩)) (w.alloc (.cells l.toArray T)):=fun ρ _ _ _ _ hρ=>by
 obtain⟨v,hv,hvc⟩:=N6 (w:=w) hz
 simp[execOp,Instr.alloc,hv,newVar,newRow,hvc]
theorem CO(hd:Nat.blt d n=true)(hz:HU P T=some l)
   (h:aK w l T fun b w'=>H3 P n ops Q rest (AL σ d (.pointer (some ⟨b,0,none⟩))) ds w'):H3 P n ops Q (⟨some d,.alloc T,ty,pos,af,none⟩::rest) σ ds w :=
 Aa hd (Ss hz) (KG h)
theorem MM(m k:Nat)(z:List Value)(hz:z.length=k)(hk:0<k):((Array.range (m*k)).map fun i=>z.toArray[i % z.toArray.size]!)=((List.range (m*k)).map fun i=>z.getD (i % k) default).toArray:=by
 apply Array.ext'
 simp only[Array.toList_map,Array.toList_range]
 apply List.map_congr_left
 intro i _
 have h1:i % k<k:=Nat.mod_lt _ hk
 simp[hz,h1]
def Gh:Nat→List Value→List Value
 |0,_=>[]
 |m+1,z=>z++Gh m z
theorem QF(k:Nat)(z:List Value)(hz:z.length=k)(hk:0<k):∀m,((List.range (m*k)).map fun i=>z.getD (i % k) default)=Gh m z
 |0=>by simp[Gh]
 |m+1=>by
   have ih:=QF k z hz hk m
   rw[Gh,← ih,Nat.add_mul,Nat.one_mul,Nat.add_comm,List.range_add,List.map_append,List.map_map]
   congr 1
   · apply List.ext_getElem?
     intro i
     by_cases hi:i<k
     · have:i<z.length:=oM
       simp[hi,Nat.mod_eq_of_lt hi,this]
     · simp[Nat.le_of_not_lt hi,hz]
   · apply List.map_congr_left
     intro i _
     simp[Nat.add_mod_left]
def Kw(k:Nat):Nat→Nat→List (Nat×Nat)
 |_,0=>[]
 |i,m+1=>(i*k,k)::Kw k (i+1) m
theorem OE(k:Nat):∀(m i j:Nat),j<m→(Kw k i m)[j]?=some ((i+j)*k,k)
 |0,_,_,h=>by omega
 |m+1,i,0,_=>by simp[Kw]
 |m+1,i,j+1,h=>by
   rw[Kw,List.getElem?_cons_succ,OE k m (i+1) j (by omega)]
   congr 3
   omega
theorem OX(k:Nat):∀m i,(Kw k i m).length=m
 |0,_=>rfl
 |m+1,i=>by simp[Kw,OX k m]
theorem Yy{k m:Nat}(parts:List (Nat×Value))(cs out:List Value)(h:Kr (Kw k 0 m) cs parts=some out):Instr.fill (fun i=>some (i*k,k)) cs.toArray parts=some out.toArray :=
 Qd (fun i p hp=>by
   have hi:i<m:=by
     rcases Nat.lt_or_ge i m with h' | h'
     · exact h'
     · rw[List.getElem?_eq_none (by rw[OX];exact h')] at hp;cases hp
   rw[OE k m 0 i hi] at hp
   simpa using hp) parts cs out h
theorem dH{e:TypeId}{m:Nat}{parts:List (Nat×Operand)}{pv:List (Nat×Value)}{z out:List Value}(hp:GG σ parts=some pv)(hs:JV P T=some (e,k))(hz:HU P e=some z)
   (hzk:Nat.beq z.length k=true) (hk:Nat.blt 0 k=true) (hm:Nat.blt 0 m=true) (hmk:Nat.ble (m*k) 16777216=true) (hf:Kr (Kw k 0 m) (Gh m z) pv=some out) :
   AO P σ (.buildSlice T m parts.toArray) ty w (.slice (some ⟨w.heap.size,0,none⟩) m m) (w.alloc (.cells out.toArray e)):=fun ρ _ _ _ _ hρ=>by
 obtain⟨j,hu,hj,rfl⟩:=Ho hs
 obtain⟨v,hv,hvc⟩:=N6 (w:=w) hz
 have hzk':=Nat.eq_of_beq_eq_true hzk
 have hk':0<j.size:=Nat.le_of_ble_eq_true hk
 have hm':0<m:=Nat.le_of_ble_eq_true hm
 have hmk':m*j.size≤16777216:=Nat.le_of_ble_eq_true hmk
 have hne:m*j.size≠0:=Nat.ne_of_gt (Nat.mul_pos hm' hk')
 have hpe:=I3 hρ hp
 have hpe':(parts.toArray.map fun(p:Nat×Operand)=>match p with|(i,x)=>(i,ρ x))=pv.toArray:=by rw[← hpe];simp
 have hfl:=Yy pv (Gh m z) out hf
 have hsz:(sizeOf e).run P w=.ok j.size w:=by simp[sizeOf,typeInfo,hj]
 have hrow:((Array.range (m*j.size)).map fun i=>z.toArray[i % z.toArray.size]!)=(Gh m z).toArray:=by rw[MM m j.size z hzk' hk',QF j.size z hzk' hk' m]
 have:(Instr.buildSlice T m (parts.toArray.map fun(p:Nat×Operand)=>match p with|(i,x)=>(i,ρ x))).run P w=.ok (.slice (some ⟨w.heap.size,0,none⟩) m m) (w.alloc (.cells out.toArray e)):=by
   rw[hpe']
   simp only[Instr.buildSlice,Sem.run_bind,run_underlying hu,Result.andThen_ok,hsz]
   rw[if_neg (by omega),if_neg hne]
   simp only[Sem.run_bind,hv,Result.andThen_ok,hvc,Sem.run_pure]
   rw[hrow]
   simp[hfl,newRow]
 simp only[execOp]
 rw[Sem.run_bind,this]
 rfl
theorem Cj{e:TypeId}{m:Nat}{parts:List (Nat×Operand)}{pv:List (Nat×Value)}{z:List Value}(hd:Nat.blt d n=true)(hp:GG σ parts=some pv)(hs:JV P T=some (e,k))(hz:HU P e=some z)
   (hzk:Nat.beq z.length k=true) (hk:Nat.blt 0 k=true) (hm:Nat.blt 0 m=true) (hmk:Nat.ble (m*k) 16777216=true) (hf:Kr (Kw k 0 m) (Gh m z) pv=some l)
   (h:aK w l e fun b w'=>H3 P n ops Q rest (AL σ d (.slice (some ⟨b,0,none⟩) m m)) ds w'):H3 P n ops Q (⟨some d,.buildSlice T m parts.toArray,ty,pos,af,none⟩::rest) σ ds w :=
 Aa hd (dH hp hs hz hzk hk hm hmk hf) (KG h)
def Ms:List Value→Bool
 | []=>true
 |v::l=>v.oneCell'&&Ms l
theorem LR:∀{l:List Value},Ms l=true→∀v∈l,v.oneCell'=true
 | [],_,v,hv=>by cases hv
 |u::l,h,v,hv=>by
   simp only[Ms,Bool.and_eq_true] at h
   rcases List.mem_cons.1 hv with rfl|hv
   · exact h.1
   · exact LR h.2 v hv
theorem M3:∀(vs cs:List Value)(o:Nat),o+vs.length≤cs.length→EC cs o vs=cs.take o++vs++cs.drop (o+vs.length)
 | [],cs,o,_=>by simp[EC]
 |v::vs,cs,o,h=>by
   simp only[List.length_cons] at h
   rw[EC,M3 vs (cs.set o v) (o+1) (by simp;omega)]
   have h1:(cs.set o v).take (o+1)=cs.take o++[v]:=by
     rw[List.take_succ_eq_append_getElem (by simp;omega)]
     simp[List.take_set_of_le]
   have h2:(cs.set o v).drop (o+1+vs.length)=cs.drop (o+(v::vs).length):=by
     rw[List.drop_set_of_lt (by omega)]
     simp only[List.length_cons]
     congr 1
     omega
   rw[h1,h2]
   simp
theorem NJ(w:World)(b:Nat)(cs:Array Value):GS b w (w.setRow b cs):=⟨rfl,rfl,rfl,by simp[World.setRow],fun k hk=>setRow_other w b k cs hk⟩
theorem On{v:Value}{vs:List Value}{a:Bool}(hx:ev σ x=some (.pointer (some ⟨b,off,none⟩)))(hy:ev σ y=some v)(hv:L9 v=vs)(hT:Bb P T=some (a,k))(hk:Nat.beq vs.length k=true)
   (hb:AQ w b l T') (h1:Ms vs=true) (hf:off+vs.length≤l.length):dP P σ (.store T x y) ty w (w.setRow b (EC l off vs).toArray):=fun ρ _ _ _ _ hρ=>by
 have hk':=Nat.eq_of_beq_eq_true hk
 have hst:=run_storeCells_at P b off T' vs 0 l.toArray w hb (by simpa using hf) (LR h1)
 have hsz:v.cells.size=k:=by rw[Iq,hv];simpa using hk'
 have hcl:v.cells.toList=vs:=by rw[Iq,hv]
 have hp:(List.take (off+0) l.toArray.toList++vs++List.drop (off+0+vs.length) l.toArray.toList).toArray=(EC l off vs).toArray:=by rw[M3 vs l off hf];simp
 rw[hp] at hst
 simp[execOp,hρ _ _ hx,hρ _ _ hy,Instr.storeAt,Instr.sureAddr,storeVar,hsz,IM hT,hcl,hst]
theorem A4{v:Value}{vs l':List Value}{a:Bool}(hx:ev σ x=some (.pointer (some ⟨b,off,none⟩)))(hy:ev σ y=some v)(hv:HP v=some vs)(hT:Bb P T=some (a,k))(hk:Nat.beq vs.length k=true)
   (hb:AQ w b l T') (h1:Ms vs=true) (hf:Ou l off vs=some l')
   (h:∀w',AQ w' b l' T'→GS b w w'→H3 P n ops Q rest σ ds w'):H3 P n ops Q (⟨none,.store T x y,ty,pos,af,none⟩::rest) σ ds w:=by
 obtain⟨hpu,hle⟩:=PC hf
 subst hpu
 exact Jm (On hx hy (GQ hv) hT hk hb h1 hle) (h _ (setRow_heap w b _ _ T' _ hb) (NJ w b _))
def BS(P:Program)(f:FuncId):Prop:=∀args w,(callFunc f args).run P w=.ok (.enter f args) w
theorem Ao{f:FuncId}{fn:Func}(hf:P.funcs[f]?=some fn)(hn:(fn.name == "runtime.NumGoroutine")=false) (hb:fn.body.isNone=false):BS P f:=fun args w=>by
 simp only[callFunc,Sem.run_bind,run_program,Result.andThen_ok,hf,hn,hb]
 simp
theorem Aw{f:FuncId}{g:Operand}{args:List Operand}{vs:List Value}{ts:Array TypeId}(he:BS P f)(hg:ev σ g=some (.func (.func f) #[] #[]))(ha:Jb σ args=some vs) :
   Enters P σ (.call {callee:=.value g,args:=args.toArray,argTypes:=ts}) ty w f vs.toArray:=fun ρ _ _ _ _ hρ=>by
 have h:=Fb hρ ha
 simp[execOp,resolve,hρ _ _ hg,Deferred.ofValue,invoke,h,he vs.toArray w]
theorem BM{v:Value}{t:TypeId}(hx:ev σ x=some (.iface t v)):jM P σ (.panic x) ty w (.iface t v) w:=fun ρ _ _ _ _ hρ=>by
 simp[execOp,hρ _ _ hx,Instr.panic,goPanic,Sem.run]
def lF(P:Program)(T:TypeId):Bool:=match P.underlying T with|some (.interface _)=>false|some _=>true|none=>false
theorem BY{v:Value}(hx:ev σ x=some v)(hi:lF P T=true):AO P σ (.makeInterface T x) ty w (.iface T v) w:=fun ρ _ _ _ _ hρ=>by
 unfold lF at hi
 cases hu:P.underlying T with
 |none=>rw[hu] at hi;cases hi
 |some dsc =>
   rw[hu] at hi
   cases dsc <;> simp_all [execOp,Instr.makeInterface,run_underlying hu]
theorem Ac{t:Nat}{vs:List Value}(hp:σ t=some (.pointer (some ⟨b,off,none⟩)))(hT:Bb P T=some (true,k))(hb:AQ w b l T')(hv:U0 l off k=some vs) :
   Rv P σ w (.cell t T) (.agg vs.toArray):=fun tmps ht=>by
 obtain⟨hv,hk'⟩:=KV hv
 have hc:=run_loadCells_list (P:=P) w ⟨b,off,none⟩ vs (fun j v hj=>by
   rw[EO,hb.cell]
   rw[← hv] at hj
   have hlt:j<k:=by
     rcases Nat.lt_or_ge j k with h|h
     · exact h
     · rw[List.getElem?_take,if_neg (by omega)] at hj;cases hj
   rwa[List.getElem?_take,if_pos hlt,List.getElem?_drop] at hj)
 rw[hk'] at hc
 have hl:(loadVar T ⟨b,off,none⟩).run P w=.ok (.agg vs.toArray) w:=by simp[loadVar,Fc hT,IM hT,hc]
 simp only[oB,ht t _ hp,asAddr]
 simp[hl]
theorem B2{t:Nat}{v:Value}(hp:σ t=some (.pointer (some ⟨b,off,none⟩)))(hT:Bb P T=some (false,k))(hb:AQ w b l T')(hv:l[off]?=some v):Rv P σ w (.cell t T) v:=fun tmps ht=>by
 have hc:w.cell? ⟨b,off,none⟩=some v:=by rw[hb.cell,hv]
 have hl:(loadVar T ⟨b,off,none⟩).run P w=.ok v w:=by simp[loadVar,Fc hT,run_load,hc]
 simp only[oB,ht t _ hp,asAddr]
 simp[hl]
end
def Ny(ops:Array Oper):List (Bool×Nat)→Array Bool→Bool
 | [],listed=>(Region.ready .any ops listed).isEmpty
 |(true,i)::r,listed=>Region.free .any ops listed i&&(Region.ready .any ops listed).contains i&&Ny ops r (listed.setIfInBounds i true)
 |(false,i)::r,listed=>(match Region.ready .any ops listed with | [j]=>Nat.beq j i|_=>false)&&Ny ops r (listed.setIfInBounds i true)
def pick(l:List Oper):List (Bool×Nat)→Option (List (Bool×Oper))
 | []=>some []
 |(f,i)::r=>match l[i]?,pick l r with
   |some o,some ol=>some ((f,o)::ol)
   |_,_=>none
def lH(P:Program)(ops:Array Oper)(Q:Exit→Act→World→Prop)(S:World→Prop):List (Bool×Oper)→Act→World→Prop
 | [],a,w=>Q .normal a w
 |(true,o)::r,a,w=>∃v,YieldsIf P ops S o v a∧lH P ops Q S r (a.put o.dst v) w
 |(false,o)::r,a,w=>wpList P ops (Exit.then (fun a' w'=>S w'∧lH P ops Q S r a' w') Q) [o] a w
section
variable{P:Program}{n:Nat}{Q:Bk}{S:World→Prop}
theorem IC{ops:Array Oper}{Qu:Exit→Act→World→Prop}{K:Act→World→Prop}{i:Nat}{o:Oper}{a:Act}{w:World}(hi:ops[i]?=some o)
   (hno:∀a w,¬Qu .outgrown a w) (h:wpList P ops (Exit.then K Qu) [o] a w):wpOp P ops Qu i K a w:=by
 unfold wpList at h
 unfold wpOp
 simp only[hi]
 split
 · rename_i hw
   rw[if_pos hw] at h
   rcases h with h|⟨_,a',w',h'⟩
   · refine .inl ?_
     unfold Oper.wp at h ⊢
     generalize (execOp a.eval o).run P w=r at h ⊢
     cases r with
     |ok nx w' =>
       cases nx <;> simp only[Oper.upon,wpList,Exit.then] at h ⊢ <;> first
         |exact h
         |(
           refine Calls.mono h fun e w'' he=>?_
           cases e with
           |returned v=>exact he
           |panicked c=>exact he
           |outgrown=>obtain⟨a₁,w₁,h₁⟩:=he;exact (hno _ _ h₁).elim)
     |halt hh w'=>cases hh <;> simp only[Oper.upon,Exit.then] at h ⊢ <;> exact h
   · exact (hno _ _ h').elim
 · rename_i hw
   rw[if_neg hw] at h
   exact h
def PI(Q:Bk):Prop:=∀c σ σ' ds w,Q.p c σ ds w→Q.p c σ' ds w
theorem XF{Q:Bk}{n:Nat}(hpi:PI Q){c:List PanicEntry}{a:Act}{d:Nat}{v:Value}{w:World}(h:Q.up n (.panic c) (a.put (some d) v) w):Q.up n (.panic c) a w:=by
 obtain⟨σ,ds,hs,hq⟩:=h
 exact⟨e0,ds,⟨by have:=hs.size;simpa[Act.put] using this,hs.defs,fun _ _ h=>by cases h⟩,hpi _ _ _ _ _ hq⟩
theorem MG{l:List Oper}(hs:Region.noSelect l.toArray=true)(hpi:PI Q):∀(ord:List (Bool×Nat))(ol:List (Bool×Oper))(listed:Array Bool)(a:Act)(w:World),pick l ord=some ol →
   Ny l.toArray ord listed=true→S w→lH P l.toArray (Q.up n) S ol a w→wpAnyH P .any l.toArray (Q.up n) S ord.length listed a w
 | [],ol,listed,a,w,hp,ho,hS,h=>by
   injection hp with hp
   subst hp
   exact wpAnyH_done (by simpa[Ny] using ho) h 0
 |(f,i)::ord,ol,listed,a,w,hp,ho,hS,h=>by
   unfold pick at hp
   cases hi:l[i]? with
   |none=>rw[hi] at hp;cases hp
   |some o =>
     cases hr:pick l ord with
     |none=>rw[hi,hr] at hp;cases hp
     |some r =>
       rw[hi,hr] at hp
       injection hp with hp
       subst hp
       have hi':l.toArray[i]?=some o:=by simpa using hi
       cases f with
       |true =>
         simp only[Ny,Bool.and_eq_true] at ho
         obtain⟨v,hy,h'⟩:=h
         exact wpAnyH_take hi' hs ho.1.1 ho.1.2 (fun c a w hq=>by
           cases hd:o.dst with
           |none=>rw[hd] at hq;exact hq
           |some d=>rw[hd] at hq;exact XF hpi hq) hy hS (MG hs hpi ord r _ _ w hr ho.2 hS h')
       |false =>
         simp only[Ny,Bool.and_eq_true] at ho
         have hrd:Region.ready .any l.toArray listed=[i]:=by
           have h1:=ho.1
           split at h1
           · rename_i j hj;rw[hj,Nat.eq_of_beq_eq_true h1]
           · cases h1
         refine wpAnyH_all hrd (by simp) fun j hj=>?_
         rw[List.mem_singleton] at hj
         subst hj
         exact wpOp_mono (fun a' w' hk=>⟨hk.1,MG hs hpi ord r _ a' w' hr ho.2 hk.1 hk.2⟩) (IC hi' (fun _ _ h=>h) h)
def Vp(P:Program)(n:Nat)(ops:Array Oper)(Q:Bk)(S:World→Prop)(ol:List (Bool×Oper))(σ:Bo)(ds:List Deferred)(w:World):Prop :=
 ∀a,St n σ ds a→lH P ops (Q.up n) S ol a w
variable{σ:Bo}{ds:List Deferred}{w:World}{ops:Array Oper}{op:Op}{ty:TypeId}{pos:String}{af:Array Edge}{r:List (Bool×Oper)}{d:Nat}
theorem Ei{i:Nat}{l:List Oper}(hm:P.follows .mixedOrders=true)(S:World→Prop)(ord:List (Bool×Nat)){ol:List (Bool×Oper)}(hok:Ny l.toArray ord (Array.replicate l.length false)=true)
   (hsel:Region.noSelect l.toArray=true) (hlen:Nat.beq ord.length l.length=true) (hp:pick l ord=some ol)
   (h:∀w',AV w w'→w'.heap.size=w.heap.size→S w'∧Vp P n l.toArray Q S ol σ ds w') (hpi:PI Q:=by exact fun _ _ _ _ _ h=>h):HK P n (.region i l.toArray true) Q σ ds w:=fun a ha=>by
 refine wp_region_held (S:=S) hm ?_
 obtain⟨hS,hk⟩:=h w.drew AV.drew rfl
 have:=MG (P:=P) (n:=n) (Q:=Q) hsel hpi ord ol (Array.replicate l.length false) a w.drew hp hok hS (hk a ha)
 rw[Nat.eq_of_beq_eq_true hlen] at this
 simpa using this
theorem Em(h:Q.q .normal σ ds w):Vp P n ops Q S [] σ ds w:=fun _ ha=>⟨σ,ds,ha,h⟩
theorem A2{v:Value}(hd:Nat.blt d n=true)(hr:∀w,S w→AO P σ op ty w v w)(h:Vp P n ops Q S r (AL σ d v) ds w) :
   Vp P n ops Q S ((true,⟨some d,op,ty,pos,af,none⟩)::r) σ ds w:=fun a ha =>
 ⟨v,.inl ⟨by simp[Region.wanted],fun w hS=>hr w hS a.eval _ _ _ _ ha.ev⟩,h _ (ha.put hd v)⟩
theorem CC{v:Value}{j dj:Nat}{want b:Bool}(hd:Nat.blt d n=true)(hj:(ops[j]?).bind (·.dst)=some dj)(hv:σ dj=some (.bool b))(hb:b=want)(hr:∀w,S w→AO P σ op ty w v w)
   (h:Vp P n ops Q S r (AL σ d v) ds w):Vp P n ops Q S ((true,⟨some d,op,ty,pos,af,some (j,want)⟩)::r) σ ds w:=fun a ha =>
 ⟨v,.inl ⟨by rw[GU ha hj hv,hb];simp,fun w hS=>hr w hS a.eval _ _ _ _ ha.ev⟩,h _ (ha.put hd v)⟩
theorem CA{j dj:Nat}{want b:Bool}(hd:Nat.blt d n=true)(hj:(ops[j]?).bind (·.dst)=some dj)(hv:σ dj=some (.bool b))(hb:b=!want)
   (h:Vp P n ops Q S r (AL σ d undef) ds w):Vp P n ops Q S ((true,⟨some d,op,ty,pos,af,some (j,want)⟩)::r) σ ds w:=fun a ha =>
 ⟨undef,.inr ⟨by rw[GU ha hj hv,hb];cases want <;> simp,rfl⟩,h _ (ha.put hd undef)⟩
theorem O8(dj:Nat){b:Bool}{l:List (Bool×Oper)}(hv:σ dj=some (.bool b))(ht:b=true→Vp P n ops Q S l σ ds w)(hf:b=false→Vp P n ops Q S l σ ds w):Vp P n ops Q S l σ ds w:=by
 have _:=hv
 cases hb:b with
 |true=>exact ht hb
 |false=>exact hf hb
def A8(w:World)(bs:List Nat)(w':World):Prop:=∀b,b∈bs→b<w'.heap.size∧w'.heap[b]?=w.heap[b]?
theorem A8.nil(w w':World):A8 w [] w':=fun _ h=>by cases h
theorem A8.cons{w w':World}{b:Nat}{l:List Value}{T:TypeId}{bs:List Nat}(hb:AQ w b l T)(hE:AV w w')(h:A8 w bs w'):A8 w (b::bs) w':=fun c hc=>by
 rcases List.mem_cons.1 hc with rfl|hc
 · exact⟨Nat.lt_of_lt_of_le hb.lt hE.size,hE.block _ hb.lt⟩
 · exact h c hc
theorem A8.ext{w w' w2:World}{bs:List Nat}(h:A8 w bs w')(hE:AV w' w2):A8 w bs w2:=fun c hc=>⟨Nat.lt_of_lt_of_le (h c hc).1 hE.size,(hE.block c (h c hc).1).trans (h c hc).2⟩
theorem A8.chg{w w' w2:World}{bs:List Nat}{b:Nat}(h:A8 w bs w')(hC:GS b w' w2)(hn:∀c,c∈bs→c≠b):A8 w bs w2 :=
 fun c hc=>⟨by rw[hC.size];exact (h c hc).1,(hC.block c (hn c hc)).trans (h c hc).2⟩
theorem AQ.keep{w w':World}{b:Nat}{l:List Value}{T:TypeId}{bs:List Nat}(hb:AQ w b l T)(h:A8 w bs w')(hm:b∈bs):AQ w' b l T:=(h b hm).2.trans hb
def sO(P:Program)(n:Nat)(ops:Array Oper)(Q:Bk)(S:World→Prop)(r:List (Bool×Oper)):Bk :=
 {q:=fun e σ ds w=>match e with|.normal=>S w∧Vp P n ops Q S r σ ds w|e=>Q.q e σ ds w,p:=Q.p}
theorem EZ{o:Oper}(h:H3 P n ops (sO P n ops Q S r) [o] σ ds w):Vp P n ops Q S ((false,o)::r) σ ds w:=fun a ha=>by
 have h1:=h a ha
 show wpList P ops (Exit.then (fun a' w'=>S w'∧lH P ops (Q.up n) S r a' w') (Q.up n)) [o] a w
 unfold wpList at h1 ⊢
 split
 · rename_i hw
   rw[if_pos hw] at h1
   rcases h1 with h1|⟨_,a',w',h'⟩
   · refine .inl ?_
     unfold Oper.wp at h1 ⊢
     generalize (execOp a.eval o).run P w=rr at h1 ⊢
     have key:∀a' w',wpList P ops ((sO P n ops Q S r).up n) [] a' w'→wpList P ops (Exit.then (fun a' w'=>S w'∧lH P ops (Q.up n) S r a' w') (Q.up n)) [] a' w':=fun a' w' hk=>by
       obtain⟨σ',ds',hs',hq⟩:=hk
       exact⟨hq.1,hq.2 a' hs'⟩
     cases rr with
     |ok nx w' =>
       cases nx <;> simp only[Oper.upon] at h1 ⊢ <;> first
         |exact key _ _ h1
         |(
           refine Calls.mono h1 fun e w'' he=>?_
           cases e with
           |returned v=>exact key _ _ he
           |panicked c=>exact he
           |outgrown=>obtain⟨a₁,w₁,h₁⟩:=he;exact h₁.elim)
         |exact Rows.mono h1 fun v w'' he=>key _ _ he
     |halt hh w'=>cases hh <;> simp only[Oper.upon] at h1 ⊢ <;> exact h1
   · exact h'.elim
 · rename_i hw
   rw[if_neg hw] at h1
   obtain⟨σ',ds',hs',hq⟩:=h1
   exact⟨hq.1,hq.2 _ hs'⟩
theorem Hq(hS:S w)(h:Vp P n ops Q S r σ ds w):(sO P n ops Q S r).q .normal σ ds w:=⟨hS,h⟩
end
inductive OT where
 |fin
 |rd (i:Nat) (k:OT)
 |br (i:Nat) (k o:OT)
def OT.alts:OT→List Nat
 |.br i _ o=>i::o.alts
 |_=>[]
def OT.ok(ops:Array Oper):Bool→OT→Array Bool→Bool
 |top,.fin,listed=>!top||(Region.ready .any ops listed).isEmpty
 |top,.rd i k,listed=>top&&Region.free .any ops listed i&&(Region.ready .any ops listed).contains i&&k.ok ops true (listed.setIfInBounds i true)
 |top,.br i k o,listed=>(!top||Region.ready .any ops listed==i::o.alts)&&k.ok ops true (listed.setIfInBounds i true)&&o.ok ops false listed
def OT.depth:OT→Nat
 |.fin=>0
 |.rd _ k=>k.depth+1
 |.br _ k _=>k.depth+1
def OT.even:Bool→Nat→OT→Bool
 |top,n,.fin=>!top||n==0
 |_,0,_=>false
 |_,n+1,.rd _ k=>k.even true n
 |_,n+1,.br _ k o=>k.even true n&&o.even false (n+1)
def YS(P:Program)(l:List Oper)(Q:Exit→Act→World→Prop)(S:World→Prop):Bool→OT→Act→World→Prop
 |top,.fin,a,w=>top=true→Q .normal a w
 |_,.rd i k,a,w=>∃o v,l[i]?=some o∧YieldsIf P l.toArray S o v a∧YS P l Q S true k (a.put o.dst v) w
 |_,.br i k o',a,w=>(∃o,l[i]?=some o∧wpList P l.toArray (Exit.then (fun a' w'=>S w'∧YS P l Q S true k a' w') Q) [o] a w)∧YS P l Q S false o' a w
section
variable{P:Program}{n:Nat}{Q:Bk}{S:World→Prop}{l:List Oper}
theorem OT.alts_mem:∀(t:OT)(ops:Array Oper)(listed:Array Bool)(m:Nat)(j:Nat),t.ok ops false listed=true→t.even false m=true→j∈t.alts→∃k,k.ok ops true (listed.setIfInBounds j true)=true∧(∃m',m=m'+1∧k.even true m'=true) ∧
   ∀(P:Program)(l:List Oper)(Qu:Exit→Act→World→Prop)(S:World→Prop)(a:Act)(w:World),YS P l Qu S false t a w→∃o,l[j]?=some o∧wpList P l.toArray (Exit.then (fun a' w'=>S w'∧YS P l Qu S true k a' w') Qu) [o] a w
 |.fin,_,_,_,_,_,_,h=>by cases h
 |.rd _ _,_,_,_,_,_,_,h=>by cases h
 |.br i k o,ops,listed,m,j,hok,hev,hj=>by
   simp only[OT.ok,Bool.and_eq_true] at hok
   cases m with
   |zero=>simp[OT.even] at hev
   |succ m =>
     simp only[OT.even,Bool.and_eq_true] at hev
     simp only[OT.alts,List.mem_cons] at hj
     rcases hj with rfl|hj
     · exact⟨k,hok.1.2,⟨m,rfl,hev.1⟩,fun P l Qu S a w h=>h.1⟩
     · obtain⟨k',h1,h2,h3⟩:=OT.alts_mem o ops listed (m+1) j hok.2 hev.2 hj
       exact⟨k',h1,h2,fun P l Qu S a w h=>h3 P l Qu S a w h.2⟩
theorem LJ(hs:Region.noSelect l.toArray=true)(hpi:PI Q):∀(m:Nat)(t:OT)(listed:Array Bool)(a:Act)(w:World),t.even true m=true→t.ok l.toArray true listed=true→S w→YS P l (Q.up n) S true t a w→wpAnyH P .any l.toArray (Q.up n) S m listed a w
 |m,.fin,listed,a,w,hev,ho,hS,h=>by
   simp[OT.even] at hev
   subst hev
   exact wpAnyH_done (by simpa[OT.ok] using ho) (h rfl) 0
 |0,.rd _ _,_,_,_,hev,_,_,_=>by simp[OT.even] at hev
 |0,.br _ _ _,_,_,_,hev,_,_,_=>by simp[OT.even] at hev
 |m+1,.rd i k,listed,a,w,hev,ho,hS,h=>by
   simp only[OT.ok,Bool.and_eq_true,Bool.true_and] at ho
   obtain⟨o,v,hi,hy,h'⟩:=h
   exact wpAnyH_take (by simpa using hi) hs ho.1.1 ho.1.2 (fun c a w hq=>by
     cases hd:o.dst with
     |none=>rw[hd] at hq;exact hq
     |some d=>rw[hd] at hq;exact XF hpi hq) hy hS (LJ hs hpi m k _ _ w hev ho.2 hS h')
 |m+1,.br i k o,listed,a,w,hev,ho,hS,h=>by
   have hok':(OT.br i k o).ok l.toArray false listed=true:=by
     simp only[OT.ok,Bool.and_eq_true] at ho ⊢
     exact⟨⟨rfl,ho.1.2⟩,ho.2⟩
   have hev':(OT.br i k o).even false (m+1)=true:=hev
   have hrd:Region.ready .any l.toArray listed=(OT.br i k o).alts:=by
     simp only[OT.ok,Bool.and_eq_true,Bool.not_true,Bool.false_or,beq_iff_eq] at ho
     exact ho.1.1
   have hw':YS P l (Q.up n) S false (.br i k o) a w:=h
   refine wpAnyH_all hrd (by simp[OT.alts]) fun j hj=>?_
   obtain⟨k',h1,⟨m',hm,h2⟩,h3⟩:=OT.alts_mem (.br i k o) l.toArray listed (m+1) j hok' hev' hj
   obtain rfl:m=m':=oM
   obtain⟨op,hop,hwl⟩:=h3 P l (Q.up n) S a w hw'
   exact wpOp_mono (fun a' w' hk=>⟨hk.1,LJ hs hpi m k' _ a' w' h2 h1 hk.1 hk.2⟩) (IC (by simpa using hop) (fun _ _ h=>h) hwl)
def UT(P:Program)(n:Nat)(l:List Oper)(Q:Bk)(S:World→Prop)(top:Bool)(t:OT)(σ:Bo)(ds:List Deferred)(w:World):Prop :=
 ∀a,St n σ ds a→YS P l (Q.up n) S top t a w
variable{σ:Bo}{ds:List Deferred}{w:World}{op:Op}{ty:TypeId}{pos:String}{af:Array Edge}{d i:Nat}{k o:OT}{top:Bool}
theorem Es{id:Nat}(hm:P.follows .mixedOrders=true)(S:World→Prop)(t:OT)(hok:t.ok l.toArray true (Array.replicate l.length false)=true)(hev:t.even true l.length=true)(hsel:Region.noSelect l.toArray=true)
   (h:∀w',AV w w'→w'.heap.size=w.heap.size→S w'∧UT P n l Q S true t σ ds w') (hpi:PI Q:=by exact fun _ _ _ _ _ h=>h):HK P n (.region id l.toArray true) Q σ ds w:=fun a ha=>by
 refine wp_region_held (S:=S) hm ?_
 obtain⟨hS,hk⟩:=h w.drew AV.drew rfl
 have:=LJ (P:=P) (n:=n) (Q:=Q) hsel hpi l.length t (Array.replicate l.length false) a w.drew hev hok hS (hk a ha)
 simpa using this
theorem BC(h:Q.q .normal σ ds w):UT P n l Q S true .fin σ ds w:=fun _ ha _=>⟨σ,ds,ha,h⟩
theorem Ae:UT P n l Q S false .fin σ ds w:=fun _ _ h=>by cases h
theorem Av{v:Value}(hi:l[i]?=some ⟨some d,op,ty,pos,af,none⟩)(hd:Nat.blt d n=true)(hr:∀w,S w→AO P σ op ty w v w)(h:UT P n l Q S true k (AL σ d v) ds w):UT P n l Q S top (.rd i k) σ ds w:=fun a ha =>
 ⟨_,v,hi,.inl ⟨by simp[Region.wanted],fun w hS=>hr w hS a.eval _ _ _ _ ha.ev⟩,h _ (ha.put hd v)⟩
def Wi(P:Program)(n:Nat)(l:List Oper)(Q:Bk)(S:World→Prop)(k:OT):Bk :=
 {q:=fun e σ ds w=>match e with|.normal=>S w∧UT P n l Q S true k σ ds w|e=>Q.q e σ ds w,p:=Q.p}
theorem An(hS:S w)(h:UT P n l Q S true k σ ds w):(Wi P n l Q S k).q .normal σ ds w:=⟨hS,h⟩
theorem Am{x:Oper}(hi:l[i]?=some x)(h:H3 P n l.toArray (Wi P n l Q S k) [x] σ ds w)(h2:UT P n l Q S false o σ ds w):UT P n l Q S top (.br i k o) σ ds w:=fun a ha=>by
 refine⟨⟨x,hi,?_⟩,h2 a ha⟩
 have h1:=h a ha
 unfold wpList at h1 ⊢
 split
 · rename_i hw
   rw[if_pos hw] at h1
   rcases h1 with h1|⟨_,a',w',h'⟩
   · refine .inl ?_
     unfold Oper.wp at h1 ⊢
     generalize (execOp a.eval x).run P w=rr at h1 ⊢
     have key:∀a' w',wpList P l.toArray ((Wi P n l Q S k).up n) [] a' w'→wpList P l.toArray (Exit.then (fun a' w'=>S w'∧YS P l (Q.up n) S true k a' w') (Q.up n)) [] a' w':=fun a' w' hk=>by
       obtain⟨σ',ds',hs',hq⟩:=hk
       exact⟨hq.1,hq.2 a' hs'⟩
     cases rr with
     |ok nx w' =>
       cases nx <;> simp only[Oper.upon] at h1 ⊢ <;> first
         |exact key _ _ h1
         |(
           refine Calls.mono h1 fun e w'' he=>?_
           cases e with
           |returned v=>exact key _ _ he
           |panicked c=>exact he
           |outgrown=>obtain⟨a₁,w₁,h₁⟩:=he;exact h₁.elim)
         |exact Rows.mono h1 fun v w'' he=>key _ _ he
     |halt hh w'=>cases hh <;> simp only[Oper.upon] at h1 ⊢ <;> exact h1
   · exact h'.elim
 · rename_i hw
   rw[if_neg hw] at h1
   obtain⟨σ',ds',hs',hq⟩:=h1
   exact⟨hq.1,hq.2 _ hs'⟩
end
def Ck(w:World)(e:TypeId)(size:Nat)(a:Option Addr)(c n:Nat)(xs:List Value):Prop :=
 xs.length=n*size∧((a=none∧c=0∧n=0)∨∃b l,a=some ⟨b,0,none⟩∧AQ w b l e∧n≤c∧c≤maxLen∧l.length=c*size∧l.take (n*size)=xs)
def rb(a:Option Addr):Option Nat:=a.map (·.block)
theorem G9(w:World)(e:TypeId)(size:Nat):Ck w e size none 0 0 []:=⟨by simp,.inl ⟨rfl,rfl,rfl⟩⟩
structure G4(a:Option Addr)(w:World)(a':Option Addr)(w':World):Prop where
 os:w'.os=w.os
 tape:w'.tape=w.tape
 output:w'.output=w.output
 size:w.heap.size≤w'.heap.size
 block:∀k,k<w.heap.size→some k≠rb a→w'.heap[k]?=w.heap[k]?
 own:rb a'=rb a∨rb a'=some w.heap.size
theorem Ck.ext{w w':World}{e:TypeId}{size:Nat}{a:Option Addr}{c n:Nat}{xs:List Value}(h:Ck w e size a c n xs)(hE:AV w w'):Ck w' e size a c n xs :=
 ⟨h.1,h.2.imp id fun⟨b,l,h1,h2,h3⟩=>⟨b,l,h1,h2.ext hE,h3⟩⟩
theorem Ck.chg{w w':World}{e:TypeId}{size b:Nat}{a:Option Addr}{c n:Nat}{xs:List Value}(h:Ck w e size a c n xs)(hC:GS b w w')(hne:rb a≠some b):Ck w' e size a c n xs :=
 ⟨h.1,h.2.imp id fun⟨g,l,h1,h2,h3⟩=>⟨g,l,h1,h2.chg hC (fun e=>hne (by rw[h1,← e];rfl)),h3⟩⟩
theorem AQ.grow{w w':World}{b:Nat}{l:List Value}{T:TypeId}{a a':Option Addr}(h:AQ w b l T)(hG:G4 a w a' w')(hne:some b≠rb a):AQ w' b l T:=(hG.block b h.lt hne).trans h
theorem Ck.grow{w w':World}{e:TypeId}{size:Nat}{a:Option Addr}{c n:Nat}{xs:List Value}{q q':Option Addr}(h:Ck w e size a c n xs)(hG:G4 q w q' w')(hne:rb a=none∨rb a≠rb q):Ck w' e size a c n xs :=
 ⟨h.1,h.2.imp id fun⟨g,l,h1,h2,h3⟩=>⟨g,l,h1,h2.grow hG (fun e=>by
   rcases hne with hn|hn
   · rw[h1] at hn;cases hn
   · exact hn (by rw[h1];exact e)),h3⟩⟩
theorem AV.grow{w w1 w2:World}{a a':Option Addr}(h:AV w w1)(hG:G4 a w1 a' w2)(hb:∀b,rb a=some b→w.heap.size≤b):AV w w2 :=
 ⟨hG.os.trans h.os,hG.tape.trans h.tape,hG.output.trans h.output,Nat.le_trans h.size hG.size,fun k hk=>(hG.block k (Nat.lt_of_lt_of_le hk h.size) (fun e=>by have:=hb k e.symm;omega)).trans (h.block k hk)⟩
theorem Ck.lt{w:World}{e:TypeId}{size:Nat}{a:Option Addr}{c n b:Nat}{xs:List Value}(h:Ck w e size a c n xs)(hb:rb a=some b):b<w.heap.size:=by
 rcases h.2 with ⟨h1,_⟩|⟨g,l,h1,h2,_⟩
 · rw[h1] at hb;cases hb
 · rw[h1] at hb;cases hb;exact h2.lt
theorem Ck.n_le{w:World}{e:TypeId}{size:Nat}{a:Option Addr}{c n:Nat}{xs:List Value}(h:Ck w e size a c n xs):n≤c:=by
 rcases h.2 with ⟨_,h1,h2⟩|⟨g,l,h1,h2,h3,_⟩ <;> omega
section
variable{P:Program}{n:Nat}{Q:Bk}{σ:Bo}{ds:List Deferred}{w:World}{ops:Array Oper}{ty T:TypeId}{pos:String}{af:Array Edge}{rest:List Oper}{d:Nat}{x y:Operand}
def Oq(P:Program)(T:TypeId):Option (TypeId×Nat×Nat×List Value) :=
 match P.underlying T with
 |some (.slice e)=>match P.info? e with
   |some i=>match i.zero with
     |some z=>some (e,i.size,i.bytes,z.cells.toList)
     |none=>none
   |none=>none
 |_=>none
theorem V0{e:TypeId}{size bytes:Nat}{zl:List Value}(hT:Oq P T=some (e,size,bytes,zl))(hzl:Nat.beq zl.length size=true)(hsz:Nat.blt 0 size=true){a:Option Addr}{c k m cs src off:Nat}{xs news:List Value}
   (hs:ev σ x=some (.slice a k c)) (hx:ev σ y=some (.slice (some ⟨src,off,none⟩) m cs)) (hrow:Ck w e size a c k xs) (hnews':∀j u,news[j]?=some u→w.cell? ((⟨src,off,none⟩:Addr).add j)=some u) (hl:news.length=m*size)
   (h1:∀v∈news,v.oneCell'=true) (hm:0<m) (h47:(k+m)*bytes≤140737488355328) (h63:k+m≤9223372036854775807) :
   ∃a' c' w',AO P σ (.call {callee:=.builtin .append,args:=#[x,y],argTypes:=#[T,T]}) ty w (.slice a' (k+m) c') w'∧Ck w' e size a' c' (k+m) (xs++news)∧G4 a w a' w':=by
 unfold Oq at hT
 split at hT
 · rename_i e' hu
   split at hT
   · rename_i i hi
     split at hT
     · rename_i z hz
       injection hT with hT
       obtain⟨rfl,rfl,rfl,rfl⟩:=by simpa using hT
       have hzl':z.cells.size=i.size:=by have:=Nat.eq_of_beq_eq_true hzl;simpa using this
       have hsz':0<i.size:=Nat.le_of_ble_eq_true hsz
       have hlen:(xs++news).length=(k+m)*i.size:=by rw[List.length_append,hrow.1,hl,Nat.add_mul]
       have grown:∀old:Nat,Ck (w.drew.alloc (.cells (xs.toArray++news.toArray++Builtin.zeroCells z.cells (grownCap w (k+m) old e'-(k+m))) e')) e' i.size (some ⟨w.heap.size,0,none⟩) (grownCap w (k+m) old e') (k+m) (xs++news) ∧
           G4 a w (some ⟨w.heap.size,0,none⟩) (w.drew.alloc (.cells (xs.toArray++news.toArray++Builtin.zeroCells z.cells (grownCap w (k+m) old e'-(k+m))) e')):=by
         intro old
         have hge:=grownCap_ge w (k+m) old e'
         have hcm:grownCap w (k+m) old e'≤maxLen:=grownCap_le_maxLen w (k+m) old e' (by unfold maxLen;omega)
         refine⟨⟨hlen,.inr ⟨w.heap.size,xs++news++(Builtin.zeroCells z.cells (grownCap w (k+m) old e'-(k+m))).toList,rfl,?_,hge,hcm,?_,?_⟩⟩,⟨rfl,rfl,rfl,by simp,fun j hj _=>Below.heap_alloc w.drew _ j hj,.inr rfl⟩⟩
         · have:=heap_alloc_new w.drew (.cells (xs.toArray++news.toArray++Builtin.zeroCells z.cells (grownCap w (k+m) old e'-(k+m))) e')
           unfold AQ
           have e2:(xs++news++(Builtin.zeroCells z.cells (grownCap w (k+m) old e'-(k+m))).toList).toArray=xs.toArray++news.toArray++Builtin.zeroCells z.cells (grownCap w (k+m) old e'-(k+m)):=by
             apply Array.ext'
             simp
           rw[e2]
           exact this
         · simp only[List.length_append,Array.length_toList,size_zeroCells,hzl',hrow.1,hl,← Nat.add_mul]
           congr 1
           omega
         · rw[← hlen];exact List.take_left
       have hexec:∀(v':Value)(w':World),(Builtin.append_ #[T,T] ty #[.slice a k c,.slice (some ⟨src,off,none⟩) m cs]).run P w=.ok v' w' →
           AO P σ (.call {callee:=.builtin .append,args:=#[x,y],argTypes:=#[T,T]}) ty w v' w':=fun v' w' hr ρ _ _ _ _ hρ=>by
         simp only[execOp,resolve,invoke,builtin,Sem.run_bind,Sem.run_pure,Result.andThen_ok,List.map_toArray,List.map_cons,List.map_nil,hρ _ _ hs,hρ _ _ hx,hr]
       rcases hrow.2 with ⟨rfl,rfl,rfl⟩|⟨g,l,rfl,hg,hnc,hcm,hcs,htake⟩
       · have hxs:xs=[]:=List.eq_nil_of_length_eq_zero (by simpa using hrow.1)
         subst hxs
         have hr:=run_append_nil (P:=P) w T ty e' i z hu hi hz ⟨src,off,none⟩ m cs news hl hnews' hm oM (by have hb:=h47;simp only[Nat.zero_add] at hb;omega)
         have hgr:=grown 0
         simp only[Nat.zero_add,List.nil_append,Array.empty_append] at hgr ⊢
         exact⟨_,_,_,hexec _ _ hr,hgr.1,hgr.2⟩
       · by_cases hroom:k+m≤c
         · have hfit:k*i.size+news.length≤l.toArray.size:=by rw[hl,List.size_toArray,hcs,← Nat.add_mul];exact Nat.mul_le_mul_right _ hroom
           have hr:=run_append_room (P:=P) w T ty e' i hu hi g k c l.toArray hg ⟨src,off,none⟩ m cs news hl hnews' h1 hroom hfit
           refine⟨some ⟨g,0,none⟩,c,_,hexec _ _ hr,⟨hlen,.inr ⟨g,l.take (k*i.size)++news++l.drop (k*i.size+news.length),rfl,setRow_heap w g _ _ e' _ hg,hroom,hcm,?_,?_⟩⟩,
             ⟨rfl,rfl,rfl,by simp[World.setRow],fun j _ hj=>setRow_other w g j _ (fun e=>hj (by rw[e];rfl)),.inl rfl⟩⟩
           · simp only[List.size_toArray] at hfit
             simp only[List.length_append,List.length_take,List.length_drop]
             omega
           · rw[htake,← hlen];exact List.take_left
         · have holds:∀j u,xs[j]?=some u→w.cell? ((⟨g,0,none⟩:Addr).add j)=some u:=fun j u hj=>by
             rw[EO,hg.cell,Nat.zero_add]
             rw[← htake] at hj
             have hlt:j<k*i.size:=by
               rcases Nat.lt_or_ge j (k*i.size) with h|h
               · exact h
               · rw[List.getElem?_take,if_neg (by omega)] at hj;cases hj
             rwa[List.getElem?_take,if_pos hlt] at hj
           have hr:=run_append_grow (P:=P) w T ty e' i z hu hi hz ⟨g,0,none⟩ k c xs hrow.1 holds ⟨src,off,none⟩ m cs news hl hnews' oM oM (growslice_fits oM h47)
           have hgr:=grown c
           exact⟨_,_,_,hexec _ _ hr,hgr.1,hgr.2⟩
     · cases hT
   · cases hT
 · cases hT
theorem jQ{e:TypeId}{size bytes:Nat}{zl:List Value}(hT:Oq P T=some (e,size,bytes,zl))(hzl:Nat.beq zl.length size=true)(hsz:Nat.blt 0 size=true){a:Option Addr}{c k m cs src off:Nat}{xs sl news:List Value}{Ts:TypeId}
   (hs:ev σ x=some (.slice a k c)) (hx:ev σ y=some (.slice (some ⟨src,off,none⟩) m cs)) (hrow:Ck w e size a c k xs) (hsrc:AQ w src sl Ts) (hnews:(sl.drop off).take (m*size)=news) (hl:news.length=m*size)
   (h1:∀v∈news,v.oneCell'=true) (hm:0<m) (h47:(k+m)*bytes≤140737488355328) (h63:k+m≤9223372036854775807) :
   ∃a' c' w',AO P σ (.call {callee:=.builtin .append,args:=#[x,y],argTypes:=#[T,T]}) ty w (.slice a' (k+m) c') w'∧Ck w' e size a' c' (k+m) (xs++news)∧G4 a w a' w':=by
 refine V0 hT hzl hsz hs hx hrow (fun j u hj=>?_) hl h1 hm h47 h63
 rw[EO,hsrc.cell]
 rw[← hnews] at hj
 have hlt:j<m*size:=by
   rcases Nat.lt_or_ge j (m*size) with h|h
   · exact h
   · rw[List.getElem?_take,if_neg (by omega)] at hj;cases hj
 rwa[List.getElem?_take,if_pos hlt,List.getElem?_drop] at hj
theorem ZI{e:TypeId}{size bytes:Nat}{zl:List Value}(hd:Nat.blt d n=true)(hT:Oq P T=some (e,size,bytes,zl))(hzl:Nat.beq zl.length size=true)(hsz:Nat.blt 0 size=true){a:Option Addr}{c k m cs src off:Nat}{xs sl news:List Value}{Ts:TypeId}
   (hs:ev σ x=some (.slice a k c)) (hx:ev σ y=some (.slice (some ⟨src,off,none⟩) m cs)) (hrow:Ck w e size a c k xs) (hsrc:AQ w src sl Ts) (hnews:(sl.drop off).take (m*size)=news) (hl:news.length=m*size)
   (h1:∀v∈news,v.oneCell'=true) (hm:0<m) (h47:(k+m)*bytes≤140737488355328)
   (h:∀a' c' w',Ck w' e size a' c' (k+m) (xs++news)→G4 a w a' w'→H3 P n ops Q rest (AL σ d (.slice a' (k+m) c')) ds w') (h63:k+m≤9223372036854775807) :
   H3 P n ops Q (⟨some d,.call {callee:=.builtin .append,args:=#[x,y],argTypes:=#[T,T]},ty,pos,af,none⟩::rest) σ ds w:=by
 obtain⟨a',c',w',hr,hrw,hg⟩:=jQ (ty:=ty) hT hzl hsz hs hx hrow hsrc hnews hl h1 hm h47 h63
 exact Aa hd hr (h a' c' w' hrw hg)
theorem Be{e:TypeId}{size bytes:Nat}{zl:List Value}(hd:Nat.blt d n=true)(hT:Oq P T=some (e,size,bytes,zl))(hzl:Nat.beq zl.length size=true)(hsz:Nat.blt 0 size=true){a:Option Addr}{c k cs src:Nat}{xs news:List Value}{Ts:TypeId}
   (hs:ev σ x=some (.slice a k c)) (hx:ev σ y=some (.slice (some ⟨src,0,none⟩) 1 cs)) (hrow:Ck w e size a c k xs) (hsrc:AQ w src news Ts) (hl:Nat.beq news.length size=true)
   (h1:Ms news=true) (h47:(k+1)*bytes≤140737488355328) (h63:k+1≤9223372036854775807)
   (h:∀a' c' w',Ck w' e size a' c' (k+1) (xs++news)→G4 a w a' w'→H3 P n ops Q rest (AL σ d (.slice a' (k+1) c')) ds w') :
   H3 P n ops Q (⟨some d,.call {callee:=.builtin .append,args:=#[x,y],argTypes:=#[T,T]},ty,pos,af,none⟩::rest) σ ds w:=by
 have hl':=Nat.eq_of_beq_eq_true hl
 exact ZI hd hT hzl hsz hs hx hrow hsrc (by simp[← hl']) (by simpa using hl') (LR h1) oM h47 h h63
end
def Zg(P:Program)(T:TypeId):Bool:=match P.underlying T with|some (.interface _)=>true|_=>false
def nI(P:Program)(T:TypeId):Bool:=match P.underlying T with|some (.interface _)=>false|some _=>true|none=>false
def Xn(P:Program)(s d:TypeId):Option IntKind:=match P.underlying s,P.underlying d with|some _,some (.int k)=>some k|_,_=>none
def fE(P:Program)(s d:TypeId):Option TypeId:=match P.underlying s with
 |some (.slice e)=>match P.underlying e,P.underlying d with
   |some (.int .u8),some .string=>some e
   |_,_=>none
 |_=>none
end Go.SW
namespace Go.SP
structure AT where
 k:Int
 ln:Int
 co:Int
 nm:Int
 tx:List UInt8
inductive Fo where
 |nil
 |cons (t:AT) (kids rest:Fo)
def Fo.len:Fo→Nat
 |.nil=>0
 |.cons _ _ r=>r.len+1
def AT.ok(t:AT):Prop:=(t.k=5→t.tx≠[])∧t.tx.length≤100000
def Fo.ok:Fo→Prop
 |.nil=>True
 |.cons t k r=>t.ok∧k.ok∧k.len≤100000∧r.ok
def Fo.all(p:AT→Fo→Prop):Fo→Prop
 |.nil=>True
 |.cons t k r=>p t k∧r.all p
def Fo.snoc:Fo→AT→Fo→Fo
 |.nil,t,k=>.cons t k .nil
 |.cons u l r,t,k=>.cons u l (r.snoc t k)
def Fo.app:Fo→Fo→Fo
 |.nil,y=>y
 |.cons u l r,y=>.cons u l (r.app y)
def Fo.deep:Nat→Fo→Bool
 |_,.nil=>true
 |0,.cons _ _ _=>false
 |n+1,.cons _ l r=>l.deep n&&r.deep (n+1)
def GN(n:Nat)(t:AT)(k:Fo):Prop:=t.ok∧k.ok∧k.len≤100000∧k.deep n=true
theorem Nv:∀(n:Nat)(fo:Fo),fo.ok→fo.deep (n+1)=true→fo.all (GN n)
 |_,.nil,_,_=>trivial
 |n,.cons t k r,h,hd=>by
   simp only[Fo.deep,Bool.and_eq_true] at hd
   exact⟨⟨h.1,h.2.1,h.2.2.1,hd.1⟩,Nv n r h.2.2.2 hd.2⟩
inductive Nd where
 |nil
 |cons (op ln co:Int) (tx:List UInt8) (nm:Int) (kids rest:Nd)
def Nd.len:Nd→Nat
 |.nil=>0
 |.cons _ _ _ _ _ _ r=>r.len+1
def Nd.app:Nd→Nd→Nd
 |.nil,y=>y
 |.cons a b c d e l r,y=>.cons a b c d e l (r.app y)
structure N where
 op:Int
 ln:Int
 co:Int
 tx:List UInt8
 nm:Int
 kids:Nd
def N.cons(a:N)(r:Nd):Nd:=.cons a.op a.ln a.co a.tx a.nm a.kids r
def N.one(a:N):Nd:=a.cons .nil
abbrev R:=Except (Int×Int)
def DG:List UInt8→List UInt8→Bool
 | [],sub=>sub.isEmpty
 |b::l,sub=>sub.isPrefixOf (b::l)||DG l sub
theorem RV(sub:List UInt8):∀l,-1≤Lib.index l sub
 | []=>by unfold Lib.index;split <;> omega
 |b::l=>by
   have:=RV sub l
   unfold Lib.index
   split
   · omega
   · split <;> omega
theorem Jt(sub:List UInt8):∀l,Lib.contains l sub=DG l sub
 | []=>by unfold Lib.contains Lib.index DG;cases h:sub.isEmpty <;> simp
 |b::l=>by
   have ih:=Jt sub l
   have hge:=RV sub l
   unfold Lib.contains at ih ⊢
   unfold Lib.index DG
   cases hp:sub.isPrefixOf (b::l) with
   |true=>simp
   |false =>
     rw[← ih]
     simp only[Bool.false_eq_true,if_false,Bool.false_or]
     by_cases h1:Lib.index l sub = -1
     · simp[h1]
     · have h2:¬(Lib.index l sub == -1)=true:=by simpa using h1
       rw[if_neg h2]
       simp only[decide_eq_decide]
       omega
def eD:List UInt8:=[32,102,110,32,108,101,116,32,114,101,99,32,105,102,32,115,101,113,32,116,117,112,108,101,32,99,97,115,101,32,116,114,121,32,114,97,105,115,101,32,116,114,97,110,115,97,99,116,32,100,97,116,97,32,114,111,111,116,32,100,101,102,32,100,111,32]
def gM:List UInt8:=[32,45,62,32,116,117,112,108,101,32,114,101,102,32,112,114,101,102,32]
def ML(tx:List UInt8):Bool:=DG eD ([32]++tx++[32])
def Uh(tx:List UInt8):Bool:=DG gM ([32]++tx++[32])
def XD(tx:List UInt8):UInt8:=tx.headD 0
namespace AT
def isWord(t:AT)(s:List UInt8):Bool:=t.k==5&&t.tx==s
def isVar(t:AT):Bool:=t.k==5&&(!(t.tx==[95])&&(((XD t.tx).toNat:Int) != 39&&!ML t.tx))
def isHole(t:AT):Bool:=t.isVar||t.isWord [95]
def isTypeName(t:AT):Bool:=t.isVar&&!Uh t.tx
def isTypeVar(t:AT):Bool:=t.k==5&&(((XD t.tx).toNat:Int)==39&&decide (1<(t.tx.length:Int)))
end AT
def within(n lo hi:Int):Bool:=decide (lo≤n)&&decide (n≤hi)
def TF(t:AT):Fo→Bool
 |.nil=>false
 |.cons h _ _=>t.k==0&&h.isWord [102,110]
def need{α:Type}(t:AT)(b:Bool)(x:R α):R α:=if b then x else .error (t.ln,t.co)
def A3(t:AT)(op:Int)(tx:List UInt8)(kids:Nd):N:=⟨op,t.ln,t.co,tx,0,kids⟩
def Bw(f:AT→Fo→R N):Fo→R Nd
 |.nil=>.ok .nil
 |.cons t k r=>match f t k with
   |.error e=>.error e
   |.ok a=>match Bw f r with
     |.error e=>.error e
     |.ok b=>.ok (a.cons b)
def Kx(t:AT)(_:Fo):R N:=.ok (if t.isWord [95] then A3 t 21 [] .nil else A3 t 22 t.tx .nil)
def Nu:Fo→Bool
 |.nil=>true
 |.cons t _ r=>t.isHole&&Nu r
def BU(seen:List (List UInt8)):Nd→Option (List (List UInt8))
 |.nil=>some seen
 |.cons op _ _ tx _ kids rest =>
   match (if op==22 then (if seen.contains tx then none else some (tx::seen)) else some seen) with
   |none=>none
   |some s1=>match BU s1 kids with
     |none=>none
     |some s2=>BU s2 rest
def EU:Nat→AT→Fo→R N
 |0,t,_=>.error (t.ln,t.co)
 |n+1,t,kids =>
   if t.k==2 then .ok ⟨23,t.ln,t.co,[],t.nm,.nil⟩
   else if t.k==4 then .ok (A3 t 24 t.tx .nil)
   else if t.k==6 then .ok (A3 t 26 t.tx .nil)
   else if t.k==5 then need t t.isHole (Kx t kids)
   else if t.k==3 then .error (t.ln,t.co)
   else match kids with
     |.nil=>.ok (A3 t 25 [] .nil)
     |.cons h _ l =>
       if h.k==6 then need t (within l.len 1 8) (match Bw (EU n) l with|.error e=>.error e|.ok ks=>.ok (A3 t 26 h.tx ks))
       else need t (h.isWord [116,117,112,108,101]&&within l.len 2 8) (match Bw (EU n) l with|.error e=>.error e|.ok ks=>.ok (A3 t 27 [] ks))
def Gx(t:AT):Nd→Option N
 |.nil=>none
 |.cons op ln co tx nm kids r=>match r with
   |.nil=>some ⟨op,ln,co,tx,nm,kids⟩
   |_=>match Gx t r with
     |none=>none
     |some o=>some (A3 t 32 [45,62] (.cons op ln co tx nm kids o.one))
def DL:Nat→AT→Fo→R N
 |0,t,_=>.error (t.ln,t.co)
 |n+1,t,kids =>
   if t.k==0 then match kids with
     |.nil=>.error (t.ln,t.co)
     |.cons h _ l =>
       if h.isWord [45,62] then need t (decide ((2:Int)≤l.len)) (match Bw (DL n) l with
         |.error e=>.error e
         |.ok ks=>match Gx t ks with
           |some o=>.ok o
           |none=>.error (t.ln,t.co))
       else
         let ok:=if h.isWord [116,117,112,108,101] then within l.len 2 8
           else if h.isWord [114,101,102]||h.isWord [112,114,101,102] then (l.len:Int)==1
           else h.isTypeName&&within l.len 1 8
         need t ok (match Bw (DL n) l with|.error e=>.error e|.ok ks=>.ok (A3 t 32 h.tx ks))
   else if t.isTypeVar then .ok (A3 t 31 t.tx .nil)
   else need t t.isTypeName (.ok (A3 t 32 t.tx .nil))
def H6(n:Nat)(ex:AT→Fo→R N)(t:AT)(kids:Fo):R N :=
 match kids with
 |.cons p pk (.cons b bk .nil)=>need t (t.k==0) (match EU n p pk with
   |.error e=>.error e
   |.ok q=>need p (BU [] q.one).isSome (match ex b bk with
     |.error e=>.error e
     |.ok x=>.ok (A3 t 18 [] (q.cons x.one))))
 |_=>.error (t.ln,t.co)
def Bq(n:Nat)(ex:AT→Fo→R N)(t:AT)(w:List UInt8)(l:Fo):R N :=
 if w==[102,110] then match l with
   |.cons p pk (.cons b bk .nil)=>need t (p.k==0&&(within pk.len 1 8&&Nu pk)) (match Bw Kx pk with
     |.error e=>.error e
     |.ok hs=>match ex b bk with
       |.error e=>.error e
       |.ok x=>.ok (A3 t 7 [] (hs.app x.one)))
   |_=>.error (t.ln,t.co)
 else if w==[108,101,116] then match l with
   |.cons v _ (.cons e ek (.cons b bk .nil))=>need t v.isHole (match ex e ek with
     |.error e=>.error e
     |.ok x=>match ex b bk with
       |.error e=>.error e
       |.ok y=>.ok (A3 t 9 v.tx (x.cons y.one)))
   |_=>.error (t.ln,t.co)
 else if w==[114,101,99] then match l with
   |.cons v _ (.cons e ek (.cons b bk .nil))=>need t (v.isVar&&TF e ek) (match ex e ek with
     |.error e=>.error e
     |.ok x=>match ex b bk with
       |.error e=>.error e
       |.ok y=>.ok (A3 t 10 v.tx (x.cons y.one)))
   |_=>.error (t.ln,t.co)
 else if w==[105,102] then need t ((l.len:Int)==3) (match Bw ex l with|.error e=>.error e|.ok ks=>.ok (A3 t 11 [] ks))
 else if w==[115,101,113] then need t (decide ((1:Int)≤l.len)) (match Bw ex l with|.error e=>.error e|.ok ks=>.ok (A3 t 12 [] ks))
 else if w==[116,117,112,108,101] then need t (within l.len 2 8) (match Bw ex l with|.error e=>.error e|.ok ks=>.ok (A3 t 13 [] ks))
 else if w==[99,97,115,101]||w==[116,114,121] then need t (decide ((2:Int)≤l.len)) (match l with
   |.nil=>.error (t.ln,t.co)
   |.cons e ek arms=>match ex e ek with
     |.error e=>.error e
     |.ok x=>match Bw (H6 n ex) arms with
       |.error e=>.error e
       |.ok ars=>.ok (A3 t (if w==[116,114,121] then 15 else 14) [] (x.cons ars)))
 else if w==[114,97,105,115,101]||w==[116,114,97,110,115,97,99,116] then match l with
   |.cons e ek .nil=>match ex e ek with
     |.error e=>.error e
     |.ok x=>.ok (A3 t (if w==[116,114,97,110,115,97,99,116] then 17 else 16) [] x.one)
   |_=>.error (t.ln,t.co)
 else .error (t.ln,t.co)
def Cr:Nat→AT→Fo→R N
 |0,t,_=>.error (t.ln,t.co)
 |n+1,t,kids =>
   if t.k==2 then .ok ⟨1,t.ln,t.co,[],t.nm,.nil⟩
   else if t.k==3 then .ok (A3 t 2 t.tx .nil)
   else if t.k==4 then .ok (A3 t 3 t.tx .nil)
   else if t.k==6 then .ok (A3 t 6 t.tx .nil)
   else if t.k==5 then need t t.isVar (.ok (A3 t 5 t.tx .nil))
   else match kids with
     |.nil=>.ok (A3 t 4 [] .nil)
     |.cons h _ l =>
       if h.k==6 then need t (within l.len 1 8) (match Bw (Cr n) l with|.error e=>.error e|.ok ks=>.ok (A3 t 6 h.tx ks))
       else if h.k==5&&ML h.tx then Bq n (Cr n) t h.tx l
       else need t (within l.len 1 8) (match Bw (Cr n) kids with|.error e=>.error e|.ok ks=>.ok (A3 t 8 [] ks))
def Ih(n:Nat)(t:AT)(kids:Fo):R N :=
 match kids with
 |.nil=>.error (t.ln,t.co)
 |.cons h _ l=>need t (t.k==0&&(h.k==6&&decide ((kids.len:Int)≤9))) (match Bw (DL n) l with|.error e=>.error e|.ok ks=>.ok (A3 t 42 h.tx ks))
def Cg:Fo→Option Nd
 |.nil=>some .nil
 |.cons v _ r=>if v.isTypeVar then (match Cg r with|none=>none|some x=>some ((A3 v 31 v.tx .nil).cons x)) else none
def Da(n:Nat)(t:AT)(kids:Fo):R N :=
 match kids with
 |.nil=>.error (t.ln,t.co)
 |.cons h _ l=>need t (t.k==0&&h.k==5) (
   if h.tx==[100,97,116,97] then match l with
     |.cons a _ (.cons b bk (.cons c ck r))=>need t (a.isTypeName&&(b.k==0&&decide ((bk.len:Int)≤8))) (match Cg bk with
       |none=>.error (t.ln,t.co)
       |some vs=>match Bw (Ih n) (.cons c ck r) with
         |.error e=>.error e
         |.ok cs=>.ok (A3 t 41 a.tx (vs.app cs)))
     |_=>.error (t.ln,t.co)
   else if h.tx==[114,111,111,116] then match l with
     |.cons a _ (.cons b bk (.cons c ck .nil))=>need t a.isVar (match DL n b bk with
       |.error e=>.error e
       |.ok x=>match Cr n c ck with
         |.error e=>.error e
         |.ok y=>.ok (A3 t 43 a.tx (x.cons y.one)))
     |_=>.error (t.ln,t.co)
   else if h.tx==[100,101,102] then match l with
     |.cons a _ (.cons b bk .nil)=>need t a.isVar (match Cr n b bk with|.error e=>.error e|.ok x=>.ok (A3 t 44 a.tx x.one))
     |_=>.error (t.ln,t.co)
   else if h.tx==[114,101,99] then match l with
     |.cons a _ (.cons b bk .nil)=>need t (a.isVar&&TF b bk) (match Cr n b bk with|.error e=>.error e|.ok x=>.ok (A3 t 45 a.tx x.one))
     |_=>.error (t.ln,t.co)
   else if h.tx==[100,111] then match l with
     |.cons b bk .nil=>match Cr n b bk with|.error e=>.error e|.ok x=>.ok (A3 t 46 [] x.one)
     |_=>.error (t.ln,t.co)
   else .error (t.ln,t.co))
def Bz:List AT→List (AT×Fo)→Fo→R Fo
 | [],[],cur=>.ok cur
 | [],(o,p)::s,_=>match ((o,p)::s).getLast? with
   |some (q,_)=>.error (q.ln,q.co)
   |none=>.error (0,0)
 |k::l,st,cur =>
   if k.k==0 then (if st.length==200 then .error (k.ln,k.co) else Bz l ((k,cur)::st) .nil)
   else if k.k==1 then (match st with
     | []=>.error (k.ln,k.co)
     |(o,p)::s=>Bz l s (p.snoc o cur))
   else Bz l st (cur.snoc k .nil)
end Go.SP
namespace Go.SP
def La(n:Nat)(lx:Except (Int×Int×Int) (List AT)):Nd×Int×Int×Int :=
 match lx with
 |.error e=>(.nil,e)
 |.ok toks=>match Bz toks [] .nil with
   |.error e=>(.nil,e.1,e.2,10)
   |.ok fo=>match Bw (Da n) fo with
     |.error e=>(.nil,e.1,e.2,10)
     |.ok nds=>(nds,0,0,0)
end Go.SP
namespace Go.SP
open Go.SW Go.RowKit
def Jg(t:AT):List Value:=[.int .i64 t.k,.int .i64 t.ln,.int .i64 t.co,.int .i64 t.nm,S t.tx]
def Sl(U:Nat→Prop)(w:World)(a:Option Addr)(n c len:Nat)(C:List Value→Prop):Prop :=
 n=len∧n≤c∧(n=0∨∃b off l T,U b∧a=some ⟨b,off,none⟩∧AQ w b l T∧C (l.drop off))
def H2(U:Nat→Prop)(w:World):Fo→List Value→Prop
 |.nil,_=>True
 |.cons t kids rest,l=>∃a n c l',l=.int .i64 t.k::.int .i64 t.ln::.int .i64 t.co::.int .i64 t.nm::S t.tx::.slice a n c::l'∧Sl U w a n c kids.len (H2 U w kids)∧H2 U w rest l'
abbrev EF(U:Nat→Prop)(w:World)(a:Option Addr)(n c:Nat)(fo:Fo):Prop:=Sl U w a n c fo.len (H2 U w fo)
def FZ(U:Nat→Prop)(w:World):Nd→List Value→Prop
 |.nil,_=>True
 |.cons op ln co tx nm kids rest,l=>∃a n c l',l=.int .i64 op::.int .i64 ln::.int .i64 co::S tx::.int .i64 nm::.slice a n c::l'∧Sl U w a n c kids.len (FZ U w kids)∧FZ U w rest l'
abbrev H4(U:Nat→Prop)(w:World)(a:Option Addr)(n c:Nat)(nd:Nd):Prop:=Sl U w a n c nd.len (FZ U w nd)
theorem Sl.imp{U U':Nat→Prop}{w w':World}{a:Option Addr}{n c len:Nat}{C C':List Value→Prop}(h:Sl U w a n c len C)(hU:∀b,U b→b<w.heap.size→U' b∧w'.heap[b]?=w.heap[b]?)(hC:∀l,C l→C' l):Sl U' w' a n c len C' :=
 ⟨h.1,h.2.1,h.2.2.imp id fun⟨b,off,l,T,hu,ha,hb,hc⟩=>⟨b,off,l,T,(hU b hu hb.lt).1,ha,(hU b hu hb.lt).2.trans hb,hC _ hc⟩⟩
theorem H2.imp{U U':Nat→Prop}{w w':World}(hU:∀b,U b→b<w.heap.size→U' b∧w'.heap[b]?=w.heap[b]?):∀(fo:Fo)(l:List Value),H2 U w fo l→H2 U' w' fo l
 |.nil,_,_=>trivial
 |.cons _ kids rest,_,⟨a,n,c,l',h1,h2,h3⟩=>⟨a,n,c,l',h1,h2.imp hU (H2.imp hU kids),H2.imp hU rest l' h3⟩
theorem FZ.imp{U U':Nat→Prop}{w w':World}(hU:∀b,U b→b<w.heap.size→U' b∧w'.heap[b]?=w.heap[b]?):∀(nd:Nd)(l:List Value),FZ U w nd l→FZ U' w' nd l
 |.nil,_,_=>trivial
 |.cons _ _ _ _ _ kids rest,_,⟨a,n,c,l',h1,h2,h3⟩=>⟨a,n,c,l',h1,h2.imp hU (FZ.imp hU kids),FZ.imp hU rest l' h3⟩
theorem EF.imp{U U':Nat→Prop}{w w':World}{a:Option Addr}{n c:Nat}{fo:Fo}(h:EF U w a n c fo)(hU:∀b,U b→b<w.heap.size→U' b∧w'.heap[b]?=w.heap[b]?):EF U' w' a n c fo:=Sl.imp h hU (H2.imp hU fo)
theorem H4.imp{U U':Nat→Prop}{w w':World}{a:Option Addr}{n c:Nat}{nd:Nd}(h:H4 U w a n c nd)(hU:∀b,U b→b<w.heap.size→U' b∧w'.heap[b]?=w.heap[b]?):H4 U' w' a n c nd:=Sl.imp h hU (FZ.imp hU nd)
section
variable{U:Nat→Prop}{w w':World}{a:Option Addr}{n c:Nat}{fo:Fo}{nd:Nd}{l:List Value}
theorem EF.ext(h:EF U w a n c fo)(hE:AV w w'):EF U w' a n c fo:=EF.imp h fun b hu hl=>⟨hu,hE.block b hl⟩
theorem H4.ext(h:H4 U w a n c nd)(hE:AV w w'):H4 U w' a n c nd:=H4.imp h fun b hu hl=>⟨hu,hE.block b hl⟩
theorem H2.ext(h:H2 U w fo l)(hE:AV w w'):H2 U w' fo l:=H2.imp (fun b hu hl=>⟨hu,hE.block b hl⟩) fo l h
theorem FZ.ext(h:FZ U w nd l)(hE:AV w w'):FZ U w' nd l:=FZ.imp (fun b hu hl=>⟨hu,hE.block b hl⟩) nd l h
theorem EF.chg{b:Nat}(h:EF U w a n c fo)(hC:GS b w w')(hb:¬U b):EF U w' a n c fo:=EF.imp h fun k hu _=>⟨hu,hC.block k (fun e=>hb (e▸hu))⟩
theorem H4.chg{b:Nat}(h:H4 U w a n c nd)(hC:GS b w w')(hb:¬U b):H4 U w' a n c nd:=H4.imp h fun k hu _=>⟨hu,hC.block k (fun e=>hb (e▸hu))⟩
theorem FZ.chg{b:Nat}(h:FZ U w nd l)(hC:GS b w w')(hb:¬U b):FZ U w' nd l:=FZ.imp (fun k hu _=>⟨hu,hC.block k (fun e=>hb (e▸hu))⟩) nd l h
theorem EF.mono{U':Nat→Prop}(h:EF U w a n c fo)(hU:∀b,U b→U' b):EF U' w a n c fo:=EF.imp h fun b hu _=>⟨hU b hu,rfl⟩
theorem H4.mono{U':Nat→Prop}(h:H4 U w a n c nd)(hU:∀b,U b→U' b):H4 U' w a n c nd:=H4.imp h fun b hu _=>⟨hU b hu,rfl⟩
theorem FZ.mono{U':Nat→Prop}(h:FZ U w nd l)(hU:∀b,U b→U' b):FZ U' w nd l:=FZ.imp (fun b hu _=>⟨hU b hu,rfl⟩) nd l h
theorem FZ.more:∀(nd:Nd)(l m:List Value),FZ U w nd l→FZ U w nd (l++m)
 |.nil,_,_,_=>trivial
 |.cons _ _ _ _ _ kids rest,l,m,⟨a,n,c,l',h1,h2,h3⟩=>⟨a,n,c,l'++m,by rw[h1];rfl,h2,FZ.more rest l' m h3⟩
theorem H2.more:∀(fo:Fo)(l m:List Value),H2 U w fo l→H2 U w fo (l++m)
 |.nil,_,_,_=>trivial
 |.cons _ kids rest,l,m,⟨a,n,c,l',h1,h2,h3⟩=>⟨a,n,c,l'++m,by rw[h1];rfl,h2,H2.more rest l' m h3⟩
theorem EF.nil(U:Nat→Prop)(w:World)(a:Option Addr)(c:Nat):EF U w a 0 c .nil:=⟨rfl,Nat.zero_le _,.inl rfl⟩
theorem H4.nil(U:Nat→Prop)(w:World)(a:Option Addr)(c:Nat):H4 U w a 0 c .nil:=⟨rfl,Nat.zero_le _,.inl rfl⟩
theorem EF.head{t:AT}{kids rest:Fo}(h:EF U w a n c (.cons t kids rest)):∃b off l T ka kn kc l',U b∧a=some ⟨b,off,none⟩∧AQ w b l T ∧
   l.drop off=.int .i64 t.k::.int .i64 t.ln::.int .i64 t.co::.int .i64 t.nm::S t.tx::.slice ka kn kc::l'∧EF U w ka kn kc kids∧H2 U w rest l':=by
 obtain⟨h1,h2,h3|⟨b,off,l,T,hu,ha,hb,ka,kn,kc,l',h4,h5,h6⟩⟩:=h
 · rw[h3] at h1;cases h1
 · exact⟨b,off,l,T,ka,kn,kc,l',hu,ha,hb,h4,h5,h6⟩
end
def D4(a:Option Addr)(c sz:Nat):Option Addr:=if c=1 then a else a.map (·.add (1*sz))
theorem EF.rest{U:Nat→Prop}{w:World}{a:Option Addr}{n c:Nat}{t:AT}{kids rest:Fo}(h:EF U w a n c (.cons t kids rest)):EF U w (D4 a c 6) rest.len (c-1) rest:=by
 obtain⟨h1,h2,h3|⟨b,off,l,T,hu,ha,hb,ka,kn,kc,l',h4,h5,h6⟩⟩:=h
 · rw[h3] at h1;cases h1
 · have hn:n=rest.len+1:=h1
   refine⟨rfl,oM,?_⟩
   by_cases hc:c=1
   · left;omega
   · right
     refine⟨b,off+1*6,l,T,hu,by simp[D4,hc,ha,EO],hb,?_⟩
     have:l.drop (off+1*6)=l':=by
       rw[← List.drop_drop,h4];rfl
     rw[this];exact h6
section
variable{P:Program}{σ:Bo}{w:World}{ty T:TypeId}{x y lo:Operand}{k b p off q:Nat}{l cells:List Value}{T':TypeId}
theorem Vf{e:TypeId}{a:Option Addr}{m c:Nat}(hx:ev σ x=some (.slice a (m+1) c))(hlo:ev σ lo=some (.int .i64 1))(hs:JV P T=some (e,k)):AO P σ (.slice T x (some lo) none none) ty w (.slice (D4 a c k) m (c-1)) w:=by
 have:=OA (w:=w) (ty:=ty) (i:=1) hx (by simpa using hlo) hs oM
 simpa[D4] using this
theorem Zi:∀{cells:List Value}{off q k:Nat}{l vs:List Value},cells.drop off=l→U0 l q (k+1)=some vs→U0 cells (off+q) (k+1)=some vs
 |cells,0,q,k,l,vs,h,hv=>by rw[Nat.zero_add];rw[List.drop_zero] at h;rw[h];exact hv
 | [],off+1,q,k,l,vs,h,hv=>by
   rw[List.drop_nil] at h
   subst h
   cases q <;> cases hv
 |c::cells,off+1,q,k,l,vs,h,hv=>by
   rw[List.drop_succ_cons] at h
   have:=Zi h hv
   rw[show off+1+q=(off+q)+1 by omega]
   exact this
theorem L8{vs:List Value}(q:Nat)(hx:ev σ x=some (.pointer (some ⟨b,p,none⟩)))(hT:Bb P T=some (true,k+1))(hb:AQ w b cells T')(hd:cells.drop off=l)(hp:p=off+q)(hv:U0 l q (k+1)=some vs) :
   AO P σ (.load T x) ty w (.agg vs.toArray) w:=by
 refine Dt hx hT hb ?_
 rw[hp]
 exact Zi hd hv
end
end Go.SP
namespace Go.Proofs.YthofplgbhecdcaaGreatDoor
open Go.SW Go.RowKit
theorem Je:Oq Tryz.prog 37=some (79,5,48,[.int .i64 0,.int .i64 0,.int .i64 0,.int .i64 0,.string ⟨#[]⟩]):=kR
theorem W6:Oq Tryz.prog 43=some (81,6,72,[.int .i64 0,.int .i64 0,.int .i64 0,.int .i64 0,.string ⟨#[]⟩,.slice none 0 0]):=kR
theorem pX:Oq Tryz.prog 82=some (43,1,24,[.slice none 0 0]):=kR
theorem YL:Oq Tryz.prog 148=some (5,1,1,[.int .u8 0]):=kR
theorem R4:fE Tryz.prog 148 9=some 5:=kR
theorem cR:Xn Tryz.prog 3 5=some .u8:=kR
theorem fU:Xn Tryz.prog 3 29=some .u64:=kR
theorem L0:Xn Tryz.prog 3 177=some .u64:=kR
theorem Uc:Xn Tryz.prog 5 29=some .u64:=kR
theorem L5:Xn Tryz.prog 29 2=some .i64:=kR
theorem aJ:Xn Tryz.prog 151 5=some .u8:=kR
theorem cY:BS Tryz.prog 26:=Ao Tryz.func26 kR kR
theorem Rt:BS Tryz.prog 27:=Ao Tryz.func27 kR kR
theorem lT:BS Tryz.prog 28:=Ao Tryz.func28 kR kR
theorem Xl:BS Tryz.prog 31:=Ao Tryz.func31 kR kR
theorem dO:BS Tryz.prog 36:=Ao Tryz.func36 kR kR
theorem oD:BS Tryz.prog 40:=Ao Tryz.func40 kR kR
theorem cO:BS Tryz.prog 46:=Ao Tryz.func46 kR kR
theorem MU:BS Tryz.prog 59:=Ao Tryz.func59 kR kR
theorem Vv:BS Tryz.prog 60:=Ao Tryz.func60 kR kR
theorem dW:BS Tryz.prog 61:=Ao Tryz.func61 kR kR
theorem Mn:BS Tryz.prog 62:=Ao Tryz.func62 kR kR
theorem oH:BS Tryz.prog 63:=Ao Tryz.func63 kR kR
theorem lO:BS Tryz.prog 85:=Ao Tryz.func85 kR kR
theorem nK:BS Tryz.prog 86:=Ao Tryz.func86 kR kR
theorem mT:BS Tryz.prog 87:=Ao Tryz.func87 kR kR
theorem mW:BS Tryz.prog 88:=Ao Tryz.func88 kR kR
theorem XR:BS Tryz.prog 89:=Ao Tryz.func89 kR kR
theorem HV:BS Tryz.prog 90:=Ao Tryz.func90 kR kR
theorem TI:BS Tryz.prog 110:=Ao Tryz.func110 kR kR
theorem jZ:BS Tryz.prog 111:=Ao Tryz.func111 kR kR
theorem fB:BS Tryz.prog 112:=Ao Tryz.func112 kR kR
theorem hZ:BS Tryz.prog 113:=Ao Tryz.func113 kR kR
theorem kL:BS Tryz.prog 114:=Ao Tryz.func114 kR kR
theorem Xt:BS Tryz.prog 116:=Ao Tryz.func116 kR kR
theorem kY:BS Tryz.prog 128:=Ao Tryz.func128 kR kR
theorem fR:BS Tryz.prog 129:=Ao Tryz.func129 kR kR
theorem fL:BS Tryz.prog 131:=Ao Tryz.func131 kR kR
theorem gU:BS Tryz.prog 132:=Ao Tryz.func132 kR kR
theorem YR:BS Tryz.prog 151:=Ao Tryz.func151 kR kR
theorem jA:BS Tryz.prog 156:=Ao Tryz.func156 kR kR
theorem fP:BS Tryz.prog 166:=Ao Tryz.func166 kR kR
theorem gN:BS Tryz.prog 171:=Ao Tryz.func171 kR kR
theorem gY:BS Tryz.prog 177:=Ao Tryz.func177 kR kR
theorem gT:BS Tryz.prog 178:=Ao Tryz.func178 kR kR
theorem iF:BS Tryz.prog 186:=Ao Tryz.func186 kR kR
theorem iO:BS Tryz.prog 188:=Ao Tryz.func188 kR kR
theorem jF:BS Tryz.prog 191:=Ao Tryz.func191 kR kR
theorem jV:FA Tryz.prog 25 0=some 0:=kR
theorem kZ:FA Tryz.prog 25 1=some 1:=kR
theorem iJ:FA Tryz.prog 74 0=some 0:=kR
theorem J0:FA Tryz.prog 77 0=some 0:=kR
theorem Hr:FA Tryz.prog 77 1=some 1:=kR
theorem MN:FA Tryz.prog 77 2=some 2:=kR
theorem De:FA Tryz.prog 77 3=some 4:=kR
theorem Zd:FA Tryz.prog 79 0=some 0:=kR
theorem SH:FA Tryz.prog 79 1=some 1:=kR
theorem Xs:FA Tryz.prog 79 3=some 4:=kR
theorem XT:FA Tryz.prog 81 0=some 0:=kR
theorem gG:FA Tryz.prog 81 1=some 5:=kR
theorem ZK:FA Tryz.prog 268 0=some 0:=kR
theorem eG:Zg Tryz.prog 20=true:=kR
theorem Gy:Zg Tryz.prog 172=true:=kR
theorem mixed:Tryz.prog.follows .mixedOrders=true:=kR
theorem cM:lF Tryz.prog 41=true:=kR
theorem J3:lF Tryz.prog 74=true:=kR
theorem Ln:lF Tryz.prog 228=true:=kR
theorem bM:NB Tryz.prog 25=some [(0,1),(1,1)]:=kR
theorem gV:NB Tryz.prog 41=some [(0,2)]:=kR
theorem rO:NB Tryz.prog 54=some [(0,1),(1,2),(3,1),(4,1),(5,1)]:=kR
theorem eY:NB Tryz.prog 74=some [(0,2)]:=kR
theorem sB:NB Tryz.prog 77=some [(0,1),(1,1),(2,2),(4,1)]:=kR
theorem VK:NB Tryz.prog 79=some [(0,1),(1,2),(3,1),(4,1)]:=kR
theorem oR:NB Tryz.prog 81=some [(0,5),(5,1)]:=kR
theorem Ht:JV Tryz.prog 37=some (79,5):=kR
theorem K7:JV Tryz.prog 43=some (81,6):=kR
theorem KH:JV Tryz.prog 82=some (43,1):=kR
theorem Pl:JV Tryz.prog 148=some (5,1):=kR
theorem dQ:JV Tryz.prog 303=some (182,1):=kR
theorem nP:nI Tryz.prog 74=true:=kR
theorem PX:Bb Tryz.prog 3=some (false,1):=kR
theorem eJ:Bb Tryz.prog 4=some (false,1):=kR
theorem uU:Bb Tryz.prog 5=some (false,1):=kR
theorem U6:Bb Tryz.prog 9=some (false,1):=kR
theorem Hw:Bb Tryz.prog 25=some (true,2):=kR
theorem VW:Bb Tryz.prog 26=some (false,1):=kR
theorem D5:Bb Tryz.prog 37=some (false,1):=kR
theorem JI:Bb Tryz.prog 43=some (false,1):=kR
theorem oW:Bb Tryz.prog 54=some (true,6):=kR
theorem pI:Bb Tryz.prog 74=some (true,2):=kR
theorem Hh:Bb Tryz.prog 79=some (true,5):=kR
theorem Nx:Bb Tryz.prog 81=some (true,6):=kR
theorem oI:Bb Tryz.prog 177=some (false,1):=kR
theorem cT:Bb Tryz.prog 182=some (false,1):=kR
theorem dN:Bb Tryz.prog 303=some (false,1):=kR
theorem rC:Tryz.prog.underlying 4=some .bool:=kR
theorem Im:Tryz.prog.underlying 9=some .string:=kR
theorem uE:HU Tryz.prog 4=some [.bool false]:=kR
theorem sF:HU Tryz.prog 5=some [.int .u8 0]:=kR
theorem Su:HU Tryz.prog 25=some [.int .i64 0,.int .i64 0]:=kR
theorem pQ:HU Tryz.prog 26=some [.int .i64 0]:=kR
theorem rV:HU Tryz.prog 37=some [.slice none 0 0]:=kR
theorem jJ:HU Tryz.prog 41=some [.int .i64 0,.int .i64 0]:=kR
theorem oU:HU Tryz.prog 43=some [.slice none 0 0]:=kR
theorem mL:HU Tryz.prog 54=some [.int .i64 0,.int .i64 0,.int .i64 0,.string ⟨#[]⟩,.int .i64 0,.slice none 0 0]:=kR
theorem ZW:HU Tryz.prog 74=some [.int .i64 0,.int .i64 0]:=kR
theorem rI:HU Tryz.prog 77=some [.string ⟨#[]⟩,.int .i64 0,.int .i64 0,.int .i64 0,.slice none 0 0]:=kR
theorem FU:HU Tryz.prog 79=some [.int .i64 0,.int .i64 0,.int .i64 0,.int .i64 0,.string ⟨#[]⟩]:=kR
theorem Qv:HU Tryz.prog 81=some [.int .i64 0,.int .i64 0,.int .i64 0,.int .i64 0,.string ⟨#[]⟩,.slice none 0 0]:=kR
end Go.Proofs.YthofplgbhecdcaaGreatDoor
namespace Go.SP
def Gt:List Nat:=[4607182418800017408,4621819117588971520,4636737291354636288,4652007308841189376,4666723172467343360,4681608360884174848,4696837146684686336,4711630319722168320,4726483295884279808,4741671816366391296,4756540486875873280,4771362005757984768,4786511204640096256,4801453603149578240,4816244402031689728]
end Go.SP
namespace Go.Proofs.YthofplgbhecdcaaGreatDoor
open Go.SW Go.SP Go.RowKit Go.Shelf Go.Lib
structure Gl(w:World):Prop where
 maxLen:∃m:Int,w.cell? ⟨2,0,none⟩=some (.int .i64 m)
 errRange:∃v:Value,w.cell? ⟨6,0,none⟩=some v∧(v=.nilIface∨∃te pe,v=.iface te pe)
 optimize:w.cell? ⟨8,0,none⟩=some (.bool true)
 finfo:w.cell? ⟨9,0,none⟩=some (.int .u64 52)
 pow10:∃b off n c,w.cell? ⟨16,0,none⟩=some (.slice (some ⟨b,off,none⟩) n c)∧15≤n∧∀j v,Gt[j]?=some v→w.cell? ⟨b,off+j,none⟩=some (.float .f64 v)
theorem IU{w:World}{b o:Nat}{v:Value}(h:w.cell? ⟨b,o,none⟩=some v):b<w.heap.size:=by
 rcases Nat.lt_or_ge b w.heap.size with h' | h'
 · exact h'
 · simp[World.cell?,Array.getElem?_eq_none h'] at h
theorem EK{w w':World}{b o:Nat}{v:Value}(h:w.cell? ⟨b,o,none⟩=some v)(hE:AV w w'):w'.cell? ⟨b,o,none⟩=some v:=(hE.cell (p:=⟨b,o,none⟩) (IU h)).trans h
theorem Gl.ext{w w':World}(h:Gl w)(hE:AV w w'):Gl w' :=
 ⟨let ⟨m,hm⟩:=h.maxLen;⟨m,EK hm hE⟩,let ⟨v,hv,h2⟩:=h.errRange;⟨v,EK hv hE,h2⟩,EK h.optimize hE,EK h.finfo hE,
   let ⟨b,off,n,c,h1,h2,h3⟩:=h.pow10;⟨b,off,n,c,EK h1 hE,h2,fun j v hv=>EK (h3 j v hv) hE⟩⟩
theorem F8(l:List UInt8):(⟨l.toArray⟩:ByteArray).data.toList=l:=rfl
theorem KF(l:List UInt8):(⟨l.toArray⟩:ByteArray).size=l.length:=by simp[ByteArray.size]
theorem F5{P:Program}{f:FuncId}{args:Array Value}{w:World}{v:Value}{R:World→Prop}(h:Calls P f args w fun e w'=>e=.returned v∧R w')(hR:∀w',R w'→AV w w') :
   BF P f args w fun u w'=>u=v∧AV w w':=Calls.mono h fun _ _ ⟨he,hr⟩=>⟨v,he,rfl,hR _ hr⟩
theorem HT(w:World)(hG:Gl w)(a b:List UInt8)(ha:a.length<4294967281):BF Tryz.prog 46 #[S a,S b] w fun v w'=>v=.bool (DG a b)∧AV w w':=by
 obtain⟨m,hm⟩:=hG.maxLen
 have h:=Any.strings_Contains Tryz.lays144 ⟨a.toArray⟩ ⟨b.toArray⟩ m w (by rw[KF];exact ha) hm
 rw[F8,F8,Jt] at h
 exact F5 h (fun w' e=>by subst e;exact AV.refl _)
theorem Fx(w:World)(a:List UInt8)(c:UInt8):BF Tryz.prog 60 #[S a,.int .u8 c.toNat] w fun v w'=>v=.int .i64 (Lib.indexByte a c)∧AV w w':=by
 have h:=Any.strings_IndexByte Tryz.lays137 ⟨a.toArray⟩ c.toNat w
 rw[F8] at h
 have e:((c.toNat:Int).toNat).toUInt8=c:=by simp
 rw[e] at h
 exact F5 h (fun w' e=>by subst e;exact AV.refl _)
theorem G3(w:World)(a b:List UInt8):BF Tryz.prog 89 #[S a,S b] w fun v w'=>v=S (Lib.trimPrefix a b)∧AV w w':=by
 have h:=Any.strings_TrimPrefix Tryz.lays101 ⟨a.toArray⟩ ⟨b.toArray⟩ w
 rw[F8,F8] at h
 exact F5 h (fun w' e=>by subst e;exact AV.refl _)
theorem Xu(w:World)(hG:Gl w)(a b:List UInt8)(ha:a.length<4294967281) :
   BF Tryz.prog 112 #[S a,S b] w fun v w'=>v=.tuple #[S (Lib.cut a b).1,S (Lib.cut a b).2.1,.bool (Lib.cut a b).2.2]∧AV w w':=by
 obtain⟨m,hm⟩:=hG.maxLen
 have h:=Any.strings_Cut Tryz.lays145 ⟨a.toArray⟩ ⟨b.toArray⟩ m w (by rw[KF];exact ha) hm
 rw[F8,F8] at h
 exact F5 h (fun w' ⟨n,e⟩=>by subst e;exact⟨rfl,rfl,rfl,Nat.le_refl _,fun _ _=>rfl⟩)
theorem OY(w:World)(a b:List UInt8)(ha:a.length≤9223372036854775807)(hb:b.length<4294967281)(h128:b.all (fun c=>decide (c.toNat<128))=true) :
   BF Tryz.prog 116 #[S a,S b] w fun v w'=>v=S (Lib.trimS a b)∧AV w w':=by
 have h:=Any.strings_Trim_laid Tryz.lays160 kR ⟨a.toArray⟩ ⟨b.toArray⟩ w (by rw[KF];exact ha) (by rw[KF];exact hb) (fun j c hj=>by
   rw[F8] at hj
   have:=List.all_eq_true.1 h128 c (List.mem_of_getElem? hj)
   simpa using this)
 rw[F8,F8] at h
 exact F5 h (fun w' h=>h)
theorem PR(w:World)(hG:Gl w)(fn s:List UInt8)(base bits:Int)(hs:s.length≤100000):BF Tryz.prog 129 #[S fn,S s,.int .i64 base,.int .i64 bits,.iface 228 (.int .i64 1)] w fun v w'=>(∃T u,v=.iface T u)∧AV w w':=by
 obtain⟨ev,hv,hev⟩:=hG.errRange
 have h:=Any.strconv_toError_range Tryz.lays245 ⟨fn.toArray⟩ ⟨s.toArray⟩ base bits ev w (by rw[KF];omega) hv hev
 exact Calls.mono h fun e w' ⟨N,he,_,_,hb⟩=>⟨_,he,⟨_,_,rfl⟩,hb⟩
end Go.Proofs.YthofplgbhecdcaaGreatDoor
namespace Go.SP
open Go.SW Go.RowKit
def At(U:Nat→Prop)(w:World)(a:Option Addr)(i:Nat)(r:Fo):Prop :=
 r=.nil∨∃b off l T,U b∧a=some ⟨b,off,none⟩∧AQ w b l T∧H2 U w r (l.drop (off+i*6))
theorem EF.at{U:Nat→Prop}{w:World}{a:Option Addr}{n c:Nat}{fo:Fo}(h:EF U w a n c fo):At U w a 0 fo:=by
 obtain⟨h1,h2,h3|⟨b,off,l,T,hu,ha,hb,hc⟩⟩:=h
 · left;cases fo with
   |nil=>rfl
   |cons t k r=>rw[h3] at h1;cases h1
 · exact .inr ⟨b,off,l,T,hu,ha,hb,by simpa using hc⟩
theorem At.ext{U:Nat→Prop}{w w':World}{a:Option Addr}{i:Nat}{r:Fo}(h:At U w a i r)(hE:AV w w'):At U w' a i r :=
 h.imp id fun⟨b,off,l,T,hu,ha,hb,hc⟩=>⟨b,off,l,T,hu,ha,hb.ext hE,hc.ext hE⟩
theorem At.head{U:Nat→Prop}{w:World}{a:Option Addr}{i:Nat}{t:AT}{k r:Fo}(h:At U w a i (.cons t k r)):∃b off l T ka kn kc l',U b∧a=some ⟨b,off,none⟩∧AQ w b l T ∧
   l.drop (off+i*6)=.int .i64 t.k::.int .i64 t.ln::.int .i64 t.co::.int .i64 t.nm::S t.tx::.slice ka kn kc::l'∧EF U w ka kn kc k:=by
 rcases h with h|⟨b,off,l,T,hu,ha,hb,ka,kn,kc,l',h4,h5,h6⟩
 · cases h
 · exact⟨b,off,l,T,ka,kn,kc,l',hu,ha,hb,h4,h5⟩
theorem At.next{U:Nat→Prop}{w:World}{a:Option Addr}{i:Nat}{t:AT}{k r:Fo}(h:At U w a i (.cons t k r)):At U w a (i+1) r:=by
 rcases h with h|⟨b,off,l,T,hu,ha,hb,ka,kn,kc,l',h4,h5,h6⟩
 · cases h
 · refine .inr ⟨b,off,l,T,hu,ha,hb,?_⟩
   have:l.drop (off+(i+1)*6)=l':=by
     rw[show off+(i+1)*6=(off+i*6)+6 by omega,← List.drop_drop,h4];rfl
   rw[this];exact h6
theorem Nd.len_app:∀(x y:Nd),(x.app y).len=x.len+y.len
 |.nil,y=>by simp[Nd.app,Nd.len]
 |.cons _ _ _ _ _ _ r,y=>by simp[Nd.app,Nd.len,Nd.len_app r y];omega
theorem Nd.app_assoc:∀(x y z:Nd),(x.app y).app z=x.app (y.app z)
 |.nil,_,_=>rfl
 |.cons _ _ _ _ _ _ r,y,z=>by simp[Nd.app,Nd.app_assoc r y z]
theorem Nd.app_nil:∀(x:Nd),x.app .nil=x
 |.nil=>rfl
 |.cons _ _ _ _ _ _ r=>by simp[Nd.app,Nd.app_nil r]
theorem FZ.app{U:Nat→Prop}{w:World}:∀(x y:Nd)(l m:List Value),FZ U w x l→l.length=x.len*6→FZ U w y m→FZ U w (x.app y) (l++m)
 |.nil,y,l,m,_,hl,h=>by
   have:l=[]:=List.eq_nil_of_length_eq_zero (by simpa[Nd.len] using hl)
   subst this;exact h
 |.cons _ _ _ _ _ kids rest,y,l,m,⟨a,n,c,l',h1,h2,h3⟩,hl,h=>by
   refine⟨a,n,c,l'++m,by rw[h1];rfl,h2,FZ.app rest y l' m h3 ?_ h⟩
   rw[h1] at hl
   simp[Nd.len] at hl
   omega
structure Km(e:TypeId)(w0 w:World)(a:Option Addr)(n c:Nat)(nds:Nd):Prop where
 ex:∃xs,Ck w e 6 a c n xs∧FZ (fun b=>w0.heap.size≤b∧some b≠rb a) w nds xs
 len:n=nds.len
 new:∀b,rb a=some b→w0.heap.size≤b
theorem Km.nil(e:TypeId)(w0 w:World):Km e w0 w none 0 0 .nil:=⟨⟨[],G9 _ _ _,trivial⟩,rfl,fun _ h=>by cases h⟩
theorem Km.ext{e:TypeId}{w0 w w':World}{a:Option Addr}{n c:Nat}{nds:Nd}(h:Km e w0 w a n c nds)(hE:AV w w'):Km e w0 w' a n c nds :=
 ⟨let ⟨xs,h1,h2⟩:=h.ex;⟨xs,h1.ext hE,h2.ext hE⟩,h.len,h.new⟩
theorem Km.chg{e:TypeId}{w0 w w':World}{a:Option Addr}{n c b:Nat}{nds:Nd}(h:Km e w0 w a n c nds)(hC:GS b w w')(hb:b<w0.heap.size):Km e w0 w' a n c nds :=
 ⟨let ⟨xs,h1,h2⟩:=h.ex;⟨xs,h1.chg hC (fun e=>by have:=h.new b e;omega),h2.chg hC (fun e=>by omega)⟩,h.len,h.new⟩
theorem Km.nds{e:TypeId}{w0 w:World}{a:Option Addr}{n c:Nat}{nds:Nd}(h:Km e w0 w a n c nds):H4 (fun b=>w0.heap.size≤b) w a n c nds:=by
 obtain⟨xs,h1,h2⟩:=h.ex
 refine⟨h.len,h1.n_le,?_⟩
 rcases h1.2 with ⟨_,_,h3⟩|⟨b,l,ha,hb,hn,_,hl,ht⟩
 · exact .inl h3
 · refine .inr ⟨b,0,l,e,h.new b (by rw[ha];rfl),ha,hb,?_⟩
   have h3:=FZ.more nds xs (l.drop (n*6)) (h2.mono fun _ hh=>hh.1)
   rw[List.drop_zero,← List.take_append_drop (n*6) l,ht]
   exact h3
theorem Km.step{e:TypeId}{w0 w1 w w':World}{a a':Option Addr}{n c c':Nat}{nds:Nd}{op ln co nm:Int}{tx:List UInt8}{ka:Option Addr}{kn kc:Nat}{kids:Nd}{xs:List Value}
   (hrow:Ck w e 6 a c n xs) (hx:FZ (fun b=>w0.heap.size≤b∧some b≠rb a) w nds xs) (hlen:n=nds.len) (hnew:∀b,rb a=some b→w0.heap.size≤b)
   (hk:H4 (fun b=>w1.heap.size≤b) w ka kn kc kids) (h01:w0.heap.size≤w1.heap.size) (h1w:w1.heap.size≤w.heap.size) (h1:∀b,rb a=some b→b<w1.heap.size)
   (hr:Ck w' e 6 a' c' (n+1) (xs++[.int .i64 op,.int .i64 ln,.int .i64 co,S tx,.int .i64 nm,.slice ka kn kc])) (hG:G4 a w a' w') :
   Km e w0 w' a' (n+1) c' (nds.app (.cons op ln co tx nm kids .nil)):=by
 have hnew':∀b,rb a'=some b→w0.heap.size≤b:=fun b hb=>by
   rcases hG.own with ho|ho
   · exact hnew b (by rw[← ho];exact hb)
   · rw[ho] at hb;cases hb;omega
 have hold:∀b,(w0.heap.size≤b∧some b≠rb a)→b<w.heap.size→(w0.heap.size≤b∧some b≠rb a')∧w'.heap[b]?=w.heap[b]?:=fun b hb hlt=>by
   refine⟨⟨hb.1,?_⟩,hG.block b hlt hb.2⟩
   rcases hG.own with ho|ho
   · rw[ho];exact hb.2
   · rw[ho];intro e;cases e;omega
 have hkids:H4 (fun b=>w0.heap.size≤b∧some b≠rb a') w' ka kn kc kids:=H4.imp hk fun b hb hlt=>by
   refine hold b ⟨oM,fun e=>?_⟩ hlt
   have:=h1 b e.symm
   omega
 refine⟨⟨_,hr,FZ.app nds _ xs _ (FZ.imp hold nds xs hx) (by rw[hrow.1,hlen]) ⟨ka,kn,kc,[],rfl,hkids,trivial⟩⟩,by rw[Nd.len_app,hlen];rfl,hnew'⟩
def QI(T:TypeId)(e:Int×Int):List PanicEntry:=[{v:=.iface T (.agg #[.int .i64 e.1,.int .i64 e.2]),recovered:=false}]
end Go.SP
namespace Go.SP
open Go.SW Go.RowKit
def Nd.drop:Nat→Nd→Nd
 |0,x=>x
 |_+1,.nil=>.nil
 |n+1,.cons _ _ _ _ _ _ r=>Nd.drop n r
theorem Nd.drop_lt:∀(i:Nat)(x:Nd),i<x.len→∃op ln co tx nm kids,x.drop i=.cons op ln co tx nm kids (x.drop (i+1))
 |0,.cons op ln co tx nm kids r,_=>⟨op,ln,co,tx,nm,kids,by simp[Nd.drop]⟩
 |i+1,.cons _ _ _ _ _ _ r,h=>by
   obtain⟨op,ln,co,tx,nm,kids,e⟩:=Nd.drop_lt i r (by simp[Nd.len] at h;omega)
   exact⟨op,ln,co,tx,nm,kids,by simpa[Nd.drop] using e⟩
theorem Nd.drop_len:∀(x:Nd),x.drop x.len=.nil
 |.nil=>rfl
 |.cons _ _ _ _ _ _ r=>by simp[Nd.len,Nd.drop,Nd.drop_len r]
theorem FZ.dropc{U:Nat→Prop}{w:World}:∀(i:Nat)(x:Nd)(l:List Value),FZ U w x l→FZ U w (x.drop i) (l.drop (i*6))
 |0,x,l,h=>by simpa[Nd.drop] using h
 |i+1,.nil,l,h=>trivial
 |i+1,.cons _ _ _ _ _ _ r,l,⟨a,n,c,l',h1,h2,h3⟩=>by
   have:=FZ.dropc i r l' h3
   rw[show (i+1)*6=6+i*6 by omega,← List.drop_drop,h1]
   exact this
theorem H4.get{U:Nat→Prop}{w:World}{a:Option Addr}{n c:Nat}{nds:Nd}(h:H4 U w a n c nds)(i:Nat)(hi:i<n):∃b off l T op ln co tx nm kids ka kn kc l',U b∧a=some ⟨b,off,none⟩∧AQ w b l T ∧
   nds.drop i=.cons op ln co tx nm kids (nds.drop (i+1)) ∧
   l.drop (off+i*6)=.int .i64 op::.int .i64 ln::.int .i64 co::S tx::.int .i64 nm::.slice ka kn kc::l'∧H4 U w ka kn kc kids:=by
 obtain⟨h1,h2,h3|⟨b,off,l,T,hu,ha,hb,hc⟩⟩:=h
 · omega
 · obtain⟨op,ln,co,tx,nm,kids,e⟩:=Nd.drop_lt i nds oM
   have:=FZ.dropc i nds _ hc
   rw[e,List.drop_drop] at this
   obtain⟨ka,kn,kc,l',h4,h5,h6⟩:=this
   exact⟨b,off,l,T,op,ln,co,tx,nm,kids,ka,kn,kc,l',hu,ha,hb,e,h4,h5⟩
theorem RE{t:AT}{x:Nd}{i:Nat}{op ln co nm:Int}{tx:List UInt8}{kids:Nd}(e:x.drop i=.cons op ln co tx nm kids (x.drop (i+1)))(h:i+1=x.len):Gx t (x.drop i)=some ⟨op,ln,co,tx,nm,kids⟩:=by
 rw[e,h,Nd.drop_len];rfl
theorem Sq{t:AT}{x:Nd}{i:Nat}{op ln co nm:Int}{tx:List UInt8}{kids:Nd}{o:N}(e:x.drop i=.cons op ln co tx nm kids (x.drop (i+1)))(h:Gx t (x.drop (i+1))=some o) :
   Gx t (x.drop i)=some (A3 t 32 [45,62] (.cons op ln co tx nm kids o.one)):=by
 rw[e]
 cases hx:x.drop (i+1) with
 |nil=>rw[hx] at h;cases h
 |cons a b c d f g r=>rw[hx] at h;simp only[Gx] at h ⊢;rw[h]
end Go.SP
namespace Go.SP
open Go.SW Go.RowKit
theorem Ek{f:AT→Fo→R N}:∀{fo:Fo}{nds:Nd},Bw f fo=.ok nds→nds.len=fo.len
 |.nil,nds,h=>by simp[Bw] at h;subst h;rfl
 |.cons t k r,nds,h=>by
   unfold Bw at h
   cases h1:f t k with
   |error e=>rw[h1] at h;cases h
   |ok a =>
     cases h2:Bw f r with
     |error e=>rw[h1,h2] at h;cases h
     |ok b =>
       rw[h1,h2] at h
       injection h with h
       subst h
       simp[N.cons,Nd.len,Fo.len,Ek h2]
theorem EV{P:Program}{σ:Bo}{w:World}{ty T e:TypeId}{x y:Operand}{b off k:Nat}{kk:IntKind}{z:Int}(i:Nat){len cap:Nat}(hx:ev σ x=some (.slice (some ⟨b,off,none⟩) len cap))(hy:ev σ y=some (.int kk z))(hz:z=(i:Int))(hs:JV P T=some (e,k))
   (hi:i<len):AO P σ (.indexAddr T x y) ty w (.pointer (some ⟨b,off+i*k,none⟩)) w:=by
 subst hz
 exact K8 hx hy hs hi
end Go.SP
namespace Go.SP
open Go.SW Go.RowKit
structure KN(m:Nat)(w w':World):Prop where
 os:w'.os=w.os
 tape:w'.tape=w.tape
 output:w'.output=w.output
 size:w.heap.size≤w'.heap.size
 block:∀k,k<w.heap.size→k≠m→w'.heap[k]?=w.heap[k]?
theorem KN.refl(m:Nat)(w:World):KN m w w:=⟨rfl,rfl,rfl,Nat.le_refl _,fun _ _ _=>rfl⟩
theorem KN.trans{m:Nat}{w w1 w2:World}(h:KN m w w1)(hE:AV w1 w2):KN m w w2 :=
 ⟨hE.os.trans h.os,hE.tape.trans h.tape,hE.output.trans h.output,Nat.le_trans h.size hE.size,fun k hk hn=>(hE.block k (Nat.lt_of_lt_of_le hk h.size)).trans (h.block k hk hn)⟩
theorem KN.trans2{m:Nat}{w w1 w2:World}(h:KN m w w1)(hE:KN m w1 w2):KN m w w2 :=
 ⟨hE.os.trans h.os,hE.tape.trans h.tape,hE.output.trans h.output,Nat.le_trans h.size hE.size,fun k hk hn=>(hE.block k (Nat.lt_of_lt_of_le hk h.size) hn).trans (h.block k hk hn)⟩
theorem KN.chg{m b:Nat}{w w1 w2:World}(h:KN m w w1)(hC:GS b w1 w2)(hb:w.heap.size≤b∨b=m):KN m w w2 :=
 ⟨hC.os.trans h.os,hC.tape.trans h.tape,hC.output.trans h.output,by rw[hC.size];exact h.size,fun k hk hn=>(hC.block k oM).trans (h.block k hk hn)⟩
end Go.SP
namespace Go.SW
open Go.SP Go.RowKit
theorem AQ.exb{m b:Nat}{w w':World}{l:List Value}{T:TypeId}(h:AQ w b l T)(hE:KN m w w')(hne:b≠m):AQ w' b l T:=(hE.block b h.lt hne).trans h
end Go.SW
namespace Go.SP
open Go.SW Go.RowKit
theorem H4.exb{m:Nat}{U:Nat→Prop}{w w':World}{a:Option Addr}{n c:Nat}{nd:Nd}(h:H4 U w a n c nd)(hE:KN m w w')(hm:¬U m):H4 U w' a n c nd:=H4.imp h fun k hu hl=>⟨hu,hE.block k hl (fun e=>hm (e▸hu))⟩
theorem KN.ext{m:Nat}{w w':World}(h:KN m w w'){w0:World}(h0:AV w0 w)(hm:w0.heap.size≤m):AV w0 w' :=
 ⟨h.os.trans h0.os,h.tape.trans h0.tape,h.output.trans h0.output,Nat.le_trans h0.size h.size,fun k hk=>(h.block k (Nat.lt_of_lt_of_le hk h0.size) oM).trans (h0.block k hk)⟩
def S0(w:World)(m:Nat)(seen:List (List UInt8)):Prop :=
 ∃(es:List MapEntry)(clock:Nat),w.heap[m]?=some (.map es.toArray clock)∧es.map (fun e=>(e.key,e.val))=seen.reverse.map fun s=>(S s,Value.bool true)
theorem S0.lt{w:World}{m:Nat}{seen:List (List UInt8)}(h:S0 w m seen):m<w.heap.size:=by
 obtain⟨es,c,h1,_⟩:=h
 rcases Nat.lt_or_ge m w.heap.size with h' | h'
 · exact h'
 · rw[Array.getElem?_eq_none h'] at h1;cases h1
theorem S0.ext{w w':World}{m:Nat}{seen:List (List UInt8)}(h:S0 w m seen)(hE:AV w w'):S0 w' m seen:=let ⟨es,c,h1,h2⟩:=h;⟨es,c,(hE.block m h.lt).trans h1,h2⟩
theorem S0.chg{w w':World}{m b:Nat}{seen:List (List UInt8)}(h:S0 w m seen)(hC:GS b w w')(hne:m≠b):S0 w' m seen:=let ⟨es,c,h1,h2⟩:=h;⟨es,c,(hC.block m hne).trans h1,h2⟩
section
variable{P:Program}{n:Nat}{Q:Bk}{σ:Bo}{ds:List Deferred}{w:World}{ops:Array Oper}{ty T:TypeId}{pos:String}{af:Array Edge}{rest:List Oper}{d m:Nat}{x y z:Operand}{tx:List UInt8}{seen:List (List UInt8)}
theorem Kn{k:TypeId}{b:Bool}{v:Value}(hk:P.underlying k=some .string):(Instr.checkKey b 10000 k v).run P w=.ok () w:=by
 rw[Instr.checkKey]
 simp[run_underlying hk]
end
theorem MS(s:List (List UInt8))(op ln co:Int)(tx:List UInt8)(nm:Int)(kids rest:Nd):BU s (.cons op ln co tx nm kids rest)=match BU s (.cons op ln co tx nm kids .nil) with|none=>none|some s2=>BU s2 rest:=by
 simp only[BU]
 cases (if op==22 then (if s.contains tx then none else some (tx::s)) else some s) with
 |none=>rfl
 |some s1 =>
   simp only
   cases BU s1 kids <;> rfl
def Nd.size:Nd→Nat
 |.nil=>0
 |.cons _ _ _ _ _ kids rest=>kids.size+rest.size+1
def Nd.ok:Nd→Prop
 |.nil=>True
 |.cons _ _ _ _ _ kids rest=>kids.len≤100000∧kids.ok∧rest.ok
def N.ok(nd:N):Prop:=nd.kids.len≤100000∧nd.kids.ok
theorem Nd.ok_drop:∀(i:Nat)(x:Nd),x.ok→(x.drop i).ok
 |0,_,h=>h
 |_+1,.nil,h=>h
 |i+1,.cons _ _ _ _ _ _ r,h=>Nd.ok_drop i r h.2.2
theorem Nd.ok.get{x:Nd}(h:x.ok){i:Nat}{op ln co nm:Int}{tx:List UInt8}{kids rest:Nd}(e:x.drop i=.cons op ln co tx nm kids rest):N.ok ⟨op,ln,co,tx,nm,kids⟩:=by
 have:=Nd.ok_drop i x h
 rw[e] at this
 exact⟨this.1,this.2.1⟩
end Go.SP
namespace Go.SW
theorem A8.grow{w w' w2:World}{bs:List Nat}{a a':Option Addr}(h:A8 w bs w')(hG:G4 a w' a' w2)(hn:∀c,c∈bs→some c≠rb a):A8 w bs w2 :=
 fun c hc=>⟨Nat.lt_of_lt_of_le (h c hc).1 hG.size,(hG.block c (h c hc).1 (hn c hc)).trans (h c hc).2⟩
end Go.SW
namespace Go.SP
open Go.SW Go.RowKit
theorem EF.two{U:Nat→Prop}{w:World}{a:Option Addr}{n c:Nat}{t0 t1:AT}{k0 k1 r:Fo}(h:EF U w a n c (.cons t0 k0 (.cons t1 k1 r))):∃b off l T a0 n0 c0 a1 n1 c1 l',U b∧a=some ⟨b,off,none⟩∧AQ w b l T ∧
   l.drop off=.int .i64 t0.k::.int .i64 t0.ln::.int .i64 t0.co::.int .i64 t0.nm::S t0.tx::.slice a0 n0 c0::.int .i64 t1.k::.int .i64 t1.ln::.int .i64 t1.co::.int .i64 t1.nm::S t1.tx::.slice a1 n1 c1::l' ∧
   EF U w a0 n0 c0 k0∧EF U w a1 n1 c1 k1∧H2 U w r l':=by
 obtain⟨b,off,l,T,a0,n0,c0,l0,hU,ha,hb,hd,hk0,a1,n1,c1,l1,hl,hk1,hr⟩:=EF.head h
 exact⟨b,off,l,T,a0,n0,c0,a1,n1,c1,l1,hU,ha,hb,by rw[hd,hl],hk0,hk1,hr⟩
theorem EF.three{U:Nat→Prop}{w:World}{a:Option Addr}{n c:Nat}{t0 t1 t2:AT}{k0 k1 k2 r:Fo}(h:EF U w a n c (.cons t0 k0 (.cons t1 k1 (.cons t2 k2 r)))):∃b off l T a0 n0 c0 a1 n1 c1 a2 n2 c2 l',U b∧a=some ⟨b,off,none⟩∧AQ w b l T ∧
   l.drop off=.int .i64 t0.k::.int .i64 t0.ln::.int .i64 t0.co::.int .i64 t0.nm::S t0.tx::.slice a0 n0 c0::.int .i64 t1.k::.int .i64 t1.ln::.int .i64 t1.co::.int .i64 t1.nm::S t1.tx::.slice a1 n1 c1 ::
     .int .i64 t2.k::.int .i64 t2.ln::.int .i64 t2.co::.int .i64 t2.nm::S t2.tx::.slice a2 n2 c2::l' ∧
   EF U w a0 n0 c0 k0∧EF U w a1 n1 c1 k1∧EF U w a2 n2 c2 k2∧H2 U w r l':=by
 obtain⟨b,off,l,T,a0,n0,c0,a1,n1,c1,l1,hU,ha,hb,hd,hk0,hk1,a2,n2,c2,l2,hl,hk2,hr⟩:=EF.two h
 exact⟨b,off,l,T,a0,n0,c0,a1,n1,c1,a2,n2,c2,l2,hU,ha,hb,by rw[hd,hl],hk0,hk1,hk2,hr⟩
theorem LA:∀(n:Nat)(fo:Fo),fo.deep n=true→fo.deep (n+1)=true
 |_,.nil,_=>by simp[Fo.deep]
 |0,.cons _ _ _,h=>by simp[Fo.deep] at h
 |n+1,.cons t k r,h=>by
   simp only[Fo.deep,Bool.and_eq_true] at h ⊢
   exact⟨LA n k h.1,by have:=LA (n+1) r h.2;exact this⟩
theorem Ra{n:Nat}{t:AT}{k:Fo}(h:GN n t k):GN (n+1) t k:=⟨h.1,h.2.1,h.2.2.1,LA n k h.2.2.2⟩
theorem D8{n:Nat}{t:AT}{k:Fo}(h:GN (n+1) t k):k.all (GN n):=Nv n k h.2.1 h.2.2.2
theorem FZ.one{U:Nat→Prop}{w:World}:∀(x:Nd)(l:List Value),FZ U w x l→l.length=x.len*6→∀v∈l,v.oneCell'=true
 |.nil,l,_,hl,v,hv=>by
   have:l=[]:=List.eq_nil_of_length_eq_zero (by simpa[Nd.len] using hl)
   subst this;cases hv
 |.cons _ _ _ _ _ kids rest,l,⟨a,n,c,l',h1,h2,h3⟩,hl,v,hv=>by
   subst h1
   simp only[List.mem_cons] at hv
   rcases hv with rfl|rfl|rfl|rfl|rfl|rfl|hv
   all_goals first|rfl|exact FZ.one rest l' h3 (by simp[Nd.len] at hl;omega) v hv
theorem Km.lit{e:TypeId}{w0 w:World}{s:Nat}{op ln co nm:Int}{tx:List UInt8}{ka:Option Addr}{kn kc:Nat}{kids:Nd}(hb:AQ w s [.int .i64 op,.int .i64 ln,.int .i64 co,S tx,.int .i64 nm,.slice ka kn kc] e)(hs:w0.heap.size≤s)
   (hk:H4 (fun b=>w0.heap.size≤b∧b≠s) w ka kn kc kids):Km e w0 w (some ⟨s,0,none⟩) 1 1 (.cons op ln co tx nm kids .nil) :=
 ⟨⟨_,⟨rfl,.inr ⟨s,_,rfl,hb,Nat.le_refl _,by unfold maxLen;omega,rfl,rfl⟩⟩,ka,kn,kc,[],rfl,H4.mono hk (fun b hb=>⟨hb.1,fun e=>hb.2 (by cases e;rfl)⟩),trivial⟩,rfl,fun b hb=>by cases hb;exact hs⟩
theorem Km.join{e:TypeId}{w0 w w':World}{a a':Option Addr}{n c c':Nat}{x y:Nd}{xs ys:List Value}{U2:Nat→Prop}
   (hrow:Ck w e 6 a c n xs) (hx:FZ (fun b=>w0.heap.size≤b∧some b≠rb a) w x xs) (hlen:n=x.len) (hnew:∀b,rb a=some b→w0.heap.size≤b)
   (hy:FZ U2 w y ys) (h2:∀b,U2 b→w0.heap.size≤b∧some b≠rb a)  (h0w:w0.heap.size≤w.heap.size)
   (hr:Ck w' e 6 a' c' (n+y.len) (xs++ys)) (hG:G4 a w a' w'):Km e w0 w' a' (n+y.len) c' (x.app y):=by
 have hnew':∀b,rb a'=some b→w0.heap.size≤b:=fun b hb=>by
   rcases hG.own with ho|ho
   · exact hnew b (by rw[← ho];exact hb)
   · rw[ho] at hb;cases hb;omega
 have hold:∀b,(w0.heap.size≤b∧some b≠rb a)→b<w.heap.size→(w0.heap.size≤b∧some b≠rb a')∧w'.heap[b]?=w.heap[b]?:=fun b hb hlt=>by
   refine⟨⟨hb.1,?_⟩,hG.block b hlt hb.2⟩
   rcases hG.own with ho|ho
   · rw[ho];exact hb.2
   · rw[ho];intro e;cases e;omega
 have hyy:=FZ.imp (U':=fun b=>w0.heap.size≤b∧some b≠rb a') (w':=w') (fun b (hb:U2 b) hlt=>hold b (h2 b hb) hlt) y ys hy
 exact⟨⟨_,hr,FZ.app x y xs ys (FZ.imp hold x xs hx) (by rw[hrow.1,hlen]) hyy⟩,by rw[Nd.len_app,hlen],hnew'⟩
end Go.SP
namespace Go.SW
open Go.SP
theorem A8.exb{m:Nat}{w w' w2:World}{bs:List Nat}(h:A8 w bs w')(hE:KN m w' w2)(hn:∀c,c∈bs→c≠m):A8 w bs w2 :=
 fun c hc=>⟨Nat.lt_of_lt_of_le (h c hc).1 hE.size,(hE.block c (h c hc).1 (hn c hc)).trans (h c hc).2⟩
end Go.SW
namespace Go.SP
theorem OP{f:AT→Fo→R N}{p:AT→Fo→Prop}(hf:∀t k nd,p t k→f t k=.ok nd→nd.ok):∀{fo:Fo}{nds:Nd},fo.all p→Bw f fo=.ok nds→nds.ok
 |.nil,nds,_,h=>by simp[Bw] at h;subst h;trivial
 |.cons t k r,nds,hp,h=>by
   unfold Bw at h
   cases h1:f t k with
   |error e=>rw[h1] at h;cases h
   |ok a =>
     cases h2:Bw f r with
     |error e=>rw[h1,h2] at h;cases h
     |ok b =>
       rw[h1,h2] at h
       injection h with h
       subst h
       have:=hf t k a hp.1 h1
       exact⟨this.1,this.2,OP hf hp.2 h2⟩
theorem Yk:∀(n:Nat)(t:AT)(k:Fo)(nd:N),GN n t k→EU (n+1) t k=.ok nd→nd.ok:=by
 intro n
 induction n with
 |zero =>
   intro t k nd hok h
   cases k with
   |cons a b c=>exact absurd hok.2.2.2 (by simp[Fo.deep])
   |nil =>
     unfold EU at h
     simp only[Kx,need] at h
     repeat' split at h
     all_goals first|(injection h with h;subst h;exact⟨by simp[A3,Nd.len],trivial⟩)|(cases h;done)|skip
     all_goals first|contradiction|(injection h with h;subst h;split <;> exact⟨by simp[A3,Nd.len],trivial⟩)
 |succ n ih =>
   intro t k nd hok h
   have key:∀(l:Fo)(ks:Nd)(op:Int)(tx:List UInt8),l.all (GN n)→l.len≤100000→Bw (EU (n+1)) l=.ok ks→N.ok (A3 t op tx ks):=fun l ks op tx hl hlen he =>
     ⟨by have:=Ek he;simp[A3];omega,OP (p:=GN n) ih hl he⟩
   unfold EU at h
   simp only[Kx,need] at h
   cases k with
   |nil =>
     repeat' split at h
     all_goals first|(injection h with h;subst h;exact⟨by simp[A3,Nd.len],trivial⟩)|(cases h;done)|skip
     all_goals first|contradiction|(injection h with h;subst h;split <;> exact⟨by simp[A3,Nd.len],trivial⟩)
   |cons a b c =>
     have hall:=(D8 hok).2
     have hlen:c.len≤100000:=by have:=hok.2.2.1;simp only[Fo.len] at this;omega
     simp only at h
     repeat' split at h
     all_goals first|(injection h with h;subst h;first|exact key _ _ _ _ hall hlen (by assumption)|exact⟨by simp[A3,Nd.len],trivial⟩)|(cases h;done)|skip
     all_goals first|contradiction|(injection h with h;subst h;split <;> exact⟨by simp[A3,Nd.len],trivial⟩)
end Go.SP
namespace Go.SP
theorem Fo.ok.all:∀{fo:Fo},fo.ok→fo.all (fun t _=>t.ok)
 |.nil,_=>trivial
 |.cons _ _ _,h=>⟨h.1,Fo.ok.all h.2.2.2⟩
theorem Fo.all_true:∀(fo:Fo),fo.all (fun _ _=>True)
 |.nil=>trivial
 |.cons _ _ r=>⟨trivial,Fo.all_true r⟩
end Go.SP
namespace Go.SP
open Go.SW Go.RowKit
end Go.SP
namespace Go.SP
open Go.SW Go.RowKit
theorem Zk{P:Program}{σ:Bo}{w:World}{ty T:TypeId}{x lo:Operand}{k e b off m c:Nat}(hx:ev σ x=some (.slice (some ⟨b,off,none⟩) (m+2) c))(hlo:ev σ lo=some (.int .i64 2))(hs:JV P T=some (e,k))(hc:c≠2):AO P σ (.slice T x (some lo) none none) ty w (.slice (some ⟨b,off+2*k,none⟩) m (c-2)) w:=by
 have:=OA (w:=w) (ty:=ty) (i:=2) hx (by simpa using hlo) hs oM
 rwa[if_neg hc,Option.map_some,EO,Nat.add_sub_cancel] at this
theorem Ud{v:AT}{k r:Fo}(h:v.isTypeVar=false):Cg (.cons v k r)=none:=by simp[Cg,h]
theorem Tb{v:AT}{k r:Fo}{x:Nd}(h:v.isTypeVar=true)(hx:Cg r=some x):Cg (.cons v k r)=some ((A3 v 31 v.tx .nil).cons x):=by simp[Cg,h,hx]
theorem RG{v:AT}{k r:Fo}(hx:Cg r=none):Cg (.cons v k r)=none:=by simp[Cg,hx]
def Xf:List (AT×Fo)→List Value
 | []=>[]
 |(o,_)::s=>Xf s++Jg o
theorem K4:∀s,(Xf s).length=s.length*5
 | []=>rfl
 |(o,p)::s=>by simp[Xf,K4 s,Jg];omega
def ZQ(u:Nat→Nat)(w0:World)(a:Option Addr)(L:Nat):Prop:=∀b,rb a=some b→w0.heap.size≤b∧u b=L
def Fz(u:Nat→Nat)(w0:World)(b:Nat):Prop:=w0.heap.size≤b∧u b=0
def Lv(eT:TypeId)(u:Nat→Nat)(w0 w:World)(j:Nat)(a:Option Addr)(c:Nat)(p:Fo):Prop :=
 ∃xs,Ck w eT 6 a c p.len xs∧H2 (Fz u w0) w p xs∧ZQ u w0 a (3+j)
def lJ(eT:TypeId)(u:Nat→Nat)(w0 w:World):List (AT×Fo)→List Value→Prop
 | [],[]=>True
 |(_,p)::s,v::vs=>(∃a c,v=.slice a p.len c∧Lv eT u w0 w s.length a c p)∧lJ eT u w0 w s vs
 |_,_=>False
structure SV(eT eK eS:TypeId)(u:Nat→Nat)(w0 w:World)(so sl:List (AT×Fo))(oa:Option Addr)(oc:Nat)(sa:Option Addr)(sc:Nat)(x:Value)(a:Option Addr)(c:Nat)(p:Fo)(vs:List Value)(ka:Option Addr)(kn kc:Nat)(kf:Fo):Prop where
 o:Ck w eK 5 oa oc so.length (Xf so)
 ol:ZQ u w0 oa 1
 s:Ck w eS 1 sa sc (sl.length+1) (vs.reverse++[x])
 sla:ZQ u w0 sa 2
 top:Lv eT u w0 w sl.length a c p
 lv:lJ eT u w0 w sl vs
 kid:EF (Fz u w0) w ka kn kc kf
def Kp(L:Nat)(u u':Nat→Nat)(w0 w w':World):Prop:=∀b,b<w.heap.size→w0.heap.size≤b→u b≠L→u' b=u b∧w'.heap[b]?=w.heap[b]?
section
variable{eT eK eS:TypeId}{u u':Nat→Nat}{w0 w w':World}{L M:Nat}{a:Option Addr}{c n:Nat}{p:Fo}
theorem Ck.kp{e:TypeId}{k:Nat}{xs:List Value}(h:Ck w e k a c n xs)(hl:ZQ u w0 a M)(hK:Kp L u u' w0 w w')(hM:M≠L):Ck w' e k a c n xs∧ZQ u' w0 a M:=by
 refine⟨⟨h.1,h.2.imp id fun⟨b,l,h1,h2,h3⟩=>⟨b,l,h1,((hK b h2.lt (hl b (by rw[h1];rfl)).1 (by rw[(hl b (by rw[h1];rfl)).2];exact hM)).2).trans h2,h3⟩⟩,fun b hb=>?_⟩
 · have:=hl b hb
   exact⟨this.1,by rw[(hK b (h.lt hb) this.1 (by rw[this.2];exact hM)).1];exact this.2⟩
theorem J1(hK:Kp L u u' w0 w w')(h0:0≠L):∀b,Fz u w0 b→b<w.heap.size→Fz u' w0 b∧w'.heap[b]?=w.heap[b]?:=fun b hb hlt=>by
 have:=hK b hlt hb.1 (by rw[hb.2];exact h0)
 exact⟨⟨hb.1,this.1.trans hb.2⟩,this.2⟩
theorem Lv.kp{j:Nat}(h:Lv eT u w0 w j a c p)(hK:Kp L u u' w0 w w')(h0:0≠L)(hj:3+j≠L):Lv eT u' w0 w' j a c p:=by
 obtain⟨xs,h1,h2,h3⟩:=h
 obtain⟨h4,h5⟩:=Ck.kp h1 h3 hK hj
 exact⟨xs,h4,H2.imp (J1 hK h0) p xs h2,h5⟩
theorem lJ.kp:∀{sl:List (AT×Fo)}{vs:List Value},lJ eT u w0 w sl vs→Kp L u u' w0 w w'→0≠L→(∀j,j<sl.length→3+j≠L)→lJ eT u' w0 w' sl vs
 | [],[],_,_,_,_=>trivial
 |(_,p)::s,v::vs,h,hK,h0,hj=>⟨let ⟨a,c,h1,h2⟩:=h.1;⟨a,c,h1,h2.kp hK h0 (hj _ (by simp))⟩,lJ.kp h.2 hK h0 fun j hl=>hj j (by simp;omega)⟩
 | [],_::_,h,_,_,_=>h.elim
 |_::_,[],h,_,_,_=>h.elim
theorem jG(hE:AV w w'):Kp L u u w0 w w':=fun b hb _ _=>⟨rfl,hE.block b hb⟩
theorem XA{b:Nat}(hC:GS b w w')(hb:u b=L):Kp L u u w0 w w':=fun k _ _ hk=>⟨rfl,hC.block k (fun e=>hk (e▸hb))⟩
def nS(u:Nat→Nat)(w:World)(L:Nat)(b:Nat):Nat:=if b<w.heap.size then u b else L
theorem Qe{a':Option Addr}(hG:G4 a w a' w')(hl:ZQ u w0 a L):Kp L u (nS u w L) w0 w w':=fun b hb _ hk=>by
 refine⟨by simp[nS,hb],hG.block b hb fun e=>hk (hl b e.symm).2⟩
theorem Nt{a':Option Addr}{e:TypeId}{k:Nat}{xs:List Value}(hr:Ck w e k a c n xs)(hG:G4 a w a' w')(hl:ZQ u w0 a L)(h0:w0.heap.size≤w.heap.size):ZQ (nS u w L) w0 a' L:=fun b hb=>by
 rcases hG.own with h|h
 · rw[h] at hb
   have:=hl b hb
   exact⟨this.1,by simp[nS,hr.lt hb,this.2]⟩
 · rw[h] at hb;cases hb
   exact⟨h0,by simp[nS]⟩
theorem Ck.take{e:TypeId}{k m:Nat}{xs:List Value}(h:Ck w e k a c n xs)(hm:m≤n):Ck w e k a c m (xs.take (m*k)):=by
 refine⟨by rw[List.length_take,h.1];exact Nat.min_eq_left (Nat.mul_le_mul_right _ hm),h.2.imp (fun h=>⟨h.1,h.2.1,oM⟩) fun⟨b,l,h1,h2,h3,h4,h5,h6⟩=>⟨b,l,h1,h2,oM,h4,h5,?_⟩⟩
 rw[← h6,List.take_take,Nat.min_eq_left (Nat.mul_le_mul_right _ hm)]
theorem H2.snoc{U:Nat→Prop}{t:AT}{k:Fo}{ka:Option Addr}{kn kc:Nat}(hk:EF U w ka kn kc k):∀(p:Fo)(xs:List Value),H2 U w p xs→xs.length=p.len*6→H2 U w (p.snoc t k) (xs++(Jg t++[.slice ka kn kc]))
 |.nil,xs,_,hx=>by
   have:xs=[]:=List.eq_nil_of_length_eq_zero (by simpa[Fo.len] using hx)
   subst this
   exact⟨ka,kn,kc,[],rfl,hk,trivial⟩
 |.cons t' k' r,xs,⟨a,n,c,l',h1,h2,h3⟩,hx=>by
   subst h1
   exact⟨a,n,c,_,rfl,h2,H2.snoc hk r l' h3 (by simp[Fo.len] at hx;omega)⟩
theorem H2.init{U:Nat→Prop}{t:AT}{k:Fo}:∀(p:Fo)(xs:List Value),H2 U w (p.snoc t k) xs→H2 U w p (xs.take (p.len*6))
 |.nil,_,_=>trivial
 |.cons t' k' r,xs,⟨a,n,c,l',h1,h2,h3⟩=>by
   subst h1
   refine⟨a,n,c,l'.take (r.len*6),?_,h2,H2.init r l' h3⟩
   simp only[Fo.len]
   rw[show (r.len+1)*6=r.len*6+6 by omega]
   rfl
theorem Fo.len_snoc(t:AT)(k:Fo):∀(p:Fo),(p.snoc t k).len=p.len+1
 |.nil=>rfl
 |.cons _ _ r=>by simp[Fo.snoc,Fo.len,Fo.len_snoc t k r]
end
section
variable{eT eK eS:TypeId}{u:Nat→Nat}{w0 w w':World}{so sl:List (AT×Fo)}{oa:Option Addr}{oc:Nat}{sa:Option Addr}{sc:Nat}{x:Value}{a:Option Addr}{c:Nat}{p:Fo}{vs:List Value}{ka:Option Addr}{kn kc:Nat}{kf:Fo}
theorem SV.ext(h:SV eT eK eS u w0 w so sl oa oc sa sc x a c p vs ka kn kc kf)(hE:AV w w'):SV eT eK eS u w0 w' so sl oa oc sa sc x a c p vs ka kn kc kf:=by
 have hK:Kp 2 u u w0 w w':=jG hE
 exact⟨h.o.ext hE,h.ol,h.s.ext hE,h.sla,let ⟨xs,h1,h2,h3⟩:=h.top;⟨xs,h1.ext hE,h2.ext hE,h3⟩,h.lv.kp hK dC (fun j _=>by omega),EF.ext h.kid hE⟩
theorem SV.pushTok(h:SV eT eK eS u w0 w so sl oa oc sa sc x a c p vs ka kn kc kf)(k:AT)(q:Fo){oa':Option Addr}{oc':Nat}(hr:Ck w' eK 5 oa' oc' (so.length+1) (Xf so++Jg k))(hG:G4 oa w oa' w')(h0:w0.heap.size≤w.heap.size) :
   ∃u',SV eT eK eS u' w0 w' ((k,q)::so) sl oa' oc' sa sc x a c p vs ka kn kc kf:=by
 have hK:=Qe hG h.ol
 obtain⟨h1,h2⟩:=Ck.kp h.s h.sla hK dC
 exact⟨_,hr,Nt h.o hG h.ol h0,h1,h2,h.top.kp hK dC oM,h.lv.kp hK dC (fun j _=>by omega),EF.imp h.kid (J1 hK dC)⟩
theorem SV.pushLev(h:SV eT eK eS u w0 w so sl oa oc sa sc x a c p vs ka kn kc kf)(hx:x=.slice a p.len c)(k:AT){sa':Option Addr}{sc':Nat}(hr:Ck w' eS 1 sa' sc' (sl.length+1+1) (vs.reverse++[x]++[.slice none 0 0]))(hG:G4 sa w sa' w')(h0:w0.heap.size≤w.heap.size) :
   ∃u',SV eT eK eS u' w0 w' so ((k,p)::sl) oa oc sa' sc' (.slice none 0 0) none 0 .nil (x::vs) ka kn kc kf:=by
 have hK:=Qe hG h.sla
 obtain⟨h1,h2⟩:=Ck.kp h.o h.ol hK dC
 refine⟨_,h1,h2,by simpa using hr,Nt h.s hG h.sla h0,⟨[],G9 _ _ _,trivial,fun b hb=>by cases hb⟩,⟨⟨a,c,hx,h.top.kp hK dC oM⟩,h.lv.kp hK dC (fun j _=>by omega)⟩,EF.imp h.kid (J1 hK dC)⟩
def jX(u:Nat→Nat)(L:Nat)(b:Nat):Nat:=if u b=L then 0 else u b
theorem SV.pop{o:AT}{q:Fo}{so:List (AT×Fo)}{y:Value}(h:SV eT eK eS u w0 w ((o,q)::so) ((o,q)::so) oa oc sa sc x a c p (y::vs) ka kn kc kf) :
   ∃u' a' c',y=.slice a' q.len c'∧SV eT eK eS u' w0 w so so oa oc sa sc y a' c' q vs a p.len c p:=by
 have hK:Kp (3+((o,q)::so).length) u (jX u (3+((o,q)::so).length)) w0 w w:=fun b _ _ hb=>⟨by simp only[jX,if_neg hb],rfl⟩
 obtain⟨⟨a',c',h1,h2⟩,h3⟩:=h.lv
 obtain⟨xs,t1,t2,t3⟩:=h.top
 have ho:=Ck.take (m:=so.length) h.o (by simp)
 have hs:=Ck.take (m:=so.length+1) h.s (by simp)
 have e1:(Xf ((o,q)::so)).take (so.length*5)=Xf so:=by rw[Xf,← K4 so];exact List.take_left
 have hvl:(y::vs).length=so.length+1:=by
   have:=h.s.1
   simp at this
   simp
   omega
 have e2:((y::vs).reverse++[x]).take ((so.length+1)*1)=vs.reverse++[y]:=by
   rw[List.reverse_cons,Nat.mul_one,← hvl]
   have:(vs.reverse++[y]).length=(y::vs).length:=by simp
   rw[← this];exact List.take_left
 rw[e1] at ho
 rw[e2] at hs
 obtain⟨o1,o2⟩:=Ck.kp ho h.ol hK (by simp only[List.length_cons];omega)
 obtain⟨s1,s2⟩:=Ck.kp hs h.sla hK (by simp only[List.length_cons];omega)
 refine⟨_,a',c',h1,o1,o2,s1,s2,h2.kp hK (by simp only[List.length_cons];omega) (by simp only[List.length_cons];omega),h3.kp hK (by simp only[List.length_cons];omega) (fun j hj=>by simp only[List.length_cons];omega),⟨rfl,t1.n_le,?_⟩⟩
 rcases t1.2 with ⟨_,_,h0⟩|⟨b,l,ha,hb,_,_,_,ht⟩
 · exact .inl h0
 · have hl:=t3 b (by rw[ha];rfl)
   refine .inr ⟨b,0,l,eT,⟨hl.1,by simp only[jX,hl.2,if_true]⟩,ha,hb,?_⟩
   rw[List.drop_zero,← List.take_append_drop (p.len*6) l,ht]
   exact H2.more p xs _ (H2.imp (J1 hK (by simp only[List.length_cons];omega)) p xs t2)
theorem SV.app(h:SV eT eK eS u w0 w so sl oa oc sa sc x a c p vs ka kn kc kf){xs:List Value}(hrow:Ck w eT 6 a c p.len xs)(hfc:H2 (Fz u w0) w p xs)(hla:ZQ u w0 a (3+sl.length))(t:AT){k1:Option Addr}{n1 c1:Nat}{kf0:Fo}(hk:EF (Fz u w0) w k1 n1 c1 kf0)
   {a':Option Addr} {c':Nat} (hr:Ck w' eT 6 a' c' (p.len+1) (xs++(Jg t++[.slice k1 n1 c1]))) (hG:G4 a w a' w') (h0:w0.heap.size≤w.heap.size) :
   ∃u',SV eT eK eS u' w0 w' so sl oa oc sa sc x a' c' (p.snoc t kf0) vs ka kn kc kf:=by
 have hK:=Qe hG hla
 obtain⟨o1,o2⟩:=Ck.kp h.o h.ol hK oM
 obtain⟨s1,s2⟩:=Ck.kp h.s h.sla hK oM
 refine⟨_,o1,o2,s1,s2,⟨_,by rw[Fo.len_snoc];exact hr,H2.snoc (EF.imp hk (J1 hK oM)) p xs (H2.imp (J1 hK oM) p xs hfc) hrow.1,Nt hrow hG hla h0⟩,h.lv.kp hK oM (fun j _=>by omega),EF.imp h.kid (J1 hK oM)⟩
theorem SV.sblk(h:SV eT eK eS u w0 w so sl oa oc sa sc x a c p vs ka kn kc kf):∃sb l,sa=some ⟨sb,0,none⟩∧AQ w sb l eS∧l[sl.length]?=some x∧sl.length+1≤l.length∧w0.heap.size≤sb∧u sb=2:=by
 rcases h.s.2 with ⟨_,_,h0⟩|⟨b,l,ha,hb,h1,h2,h3,h4⟩
 · cases h0
 · have hl:=h.sla b (by rw[ha];rfl)
   have hlen:=h.s.1
   refine⟨b,l,ha,hb,?_,oM,hl⟩
   have e:(vs.reverse++[x])[sl.length]?=some x:=by
     have:vs.length=sl.length:=by simp at hlen;omega
     simp[← this]
   rw[← h4,List.getElem?_take,if_pos (by omega)] at e
   exact e
theorem OM{l vs:List Value}{o:Nat}(h:o+vs.length≤l.length):(EC l o vs).take (o+vs.length)=l.take o++vs:=by
 rw[M3 vs l o h]
 have:(l.take o++vs).length=o+vs.length:=by rw[List.length_append,List.length_take];omega
 rw[← this];exact List.take_left
theorem SV.cell(h:SV eT eK eS u w0 w so sl oa oc sa sc x a c p vs ka kn kc kf){sb:Nat}{l:List Value}{y:Value}(hsa:sa=some ⟨sb,0,none⟩)(hb:AQ w sb l eS)(hb':AQ w' sb (EC l sl.length [y]) eS)(hC:GS sb w w') :
   SV eT eK eS u w0 w' so sl oa oc sa sc y a c p vs ka kn kc kf:=by
 have hK:Kp 2 u u w0 w w':=XA hC (h.sla sb (by rw[hsa];rfl)).2
 obtain⟨o1,o2⟩:=Ck.kp h.o h.ol hK dC
 refine⟨o1,o2,⟨by have:=h.s.1;simpa using this,?_⟩,h.sla,h.top.kp hK dC oM,h.lv.kp hK dC (fun j _=>by omega),EF.imp h.kid (J1 hK dC)⟩
 rcases h.s.2 with ⟨_,_,h0⟩|⟨b,l1,ha,hb1,h1,h2,h3,h4⟩
 · cases h0
 · rw[hsa] at ha;cases ha
   have hll:l=l1:=by have:=hb.symm.trans hb1;simpa using this
   subst hll
   have hle:sl.length+[y].length≤l.length:=by simp only[List.length_singleton];omega
   refine .inr ⟨sb,_,hsa,hb',h1,h2,by rw[Gf];exact h3,?_⟩
   have:=OM hle
   rw[Nat.mul_one]
   rw[List.length_singleton] at this
   rw[this]
   have e:(vs.reverse++[x]).take sl.length=vs.reverse:=by
     have hv:vs.reverse.length=sl.length:=by have:=h.s.1;simp at this;simp;omega
     rw[← hv];exact List.take_left
   rw[← e,← h4,List.take_take,Nat.mul_one,Nat.min_eq_left (by omega)]
theorem SV.tblk{t:AT}{k:Fo}(h:SV eT eK eS u w0 w so sl oa oc sa sc x a c (p.snoc t k) vs ka kn kc kf):∃b l,a=some ⟨b,0,none⟩∧AQ w b l eT∧(p.len+1)*6≤l.length∧w0.heap.size≤b∧u b=3+sl.length:=by
 obtain⟨xs,h1,h2,h3⟩:=h.top
 rw[Fo.len_snoc] at h1
 rcases h1.2 with ⟨_,_,h0⟩|⟨b,l,ha,hb,h4,_,h5,_⟩
 · cases h0
 · exact⟨b,l,ha,hb,by rw[h5];exact Nat.mul_le_mul_right _ h4,h3 b (by rw[ha];rfl)⟩
theorem SV.last{t0:AT}{k0:Fo}(h:SV eT eK eS u w0 w so sl oa oc sa sc x a c (p.snoc t0 k0) vs ka kn kc kf){b:Nat}{l:List Value}(ha:a=some ⟨b,0,none⟩)(hb:AQ w b l eT)(t:AT){k1:Option Addr}{n1 c1:Nat}{kf0:Fo}(hk:EF (Fz u w0) w k1 n1 c1 kf0)
   (hb':AQ w' b (EC l (p.len*6) (Jg t++[.slice k1 n1 c1])) eT) (hC:GS b w w'):SV eT eK eS u w0 w' so sl oa oc sa sc x a c (p.snoc t kf0) vs ka kn kc kf:=by
 obtain⟨xs,h1,h2,h3⟩:=h.top
 have hlb:=(h3 b (by rw[ha];rfl)).2
 have hK:Kp (3+sl.length) u u w0 w w':=XA hC hlb
 obtain⟨o1,o2⟩:=Ck.kp h.o h.ol hK oM
 obtain⟨s1,s2⟩:=Ck.kp h.s h.sla hK oM
 rw[Fo.len_snoc] at h1
 refine⟨o1,o2,s1,s2,⟨xs.take (p.len*6)++(Jg t++[.slice k1 n1 c1]),?_,?_,h3⟩,h.lv.kp hK oM (fun j _=>by omega),EF.imp h.kid (J1 hK oM)⟩
 · rw[Fo.len_snoc]
   refine⟨by rw[List.length_append,List.length_take,h1.1];simp[Jg];omega,?_⟩
   rcases h1.2 with ⟨_,_,h0⟩|⟨b1,l1,ha1,hb1,h4,h5,h6,h7⟩
   · cases h0
   · rw[ha] at ha1;cases ha1
     have hll:l=l1:=by have:=hb.symm.trans hb1;simpa using this
     subst hll
     refine .inr ⟨b,_,ha,hb',h4,h5,by rw[Gf];exact h6,?_⟩
     have hle:p.len*6+(Jg t++[Value.slice k1 n1 c1]).length≤l.length:=by simp[Jg];omega
     have:=OM hle
     have e:p.len*6+(Jg t++[Value.slice k1 n1 c1]).length=(p.len+1)*6:=by simp[Jg];omega
     rw[e] at this
     rw[this,← h7,List.take_take,Nat.min_eq_left (by omega)]
 · exact H2.snoc (EF.imp hk (J1 hK oM)) p _ (H2.imp (J1 hK oM) p _ (H2.init p xs h2)) (by rw[List.length_take,h1.1];omega)
end
end Go.SP
namespace Go.SW
open Go.RowKit
section
variable{P:Program}{n:Nat}{Q:Bk}{σ:Bo}{ds:List Deferred}{w:World}{ops:Array Oper}{ty T T':TypeId}{pos:String}{af:Array Edge}{rest:List Oper}{b off k:Nat}{x y:Operand}{l:List Value}
theorem Ch{v:Value}{vs:List Value}{a:Bool}(hx:ev σ x=some (.pointer (some ⟨b,off,none⟩)))(hy:ev σ y=some v)(hv:HP v=some vs)(hT:Bb P T=some (a,k))(hk:Nat.beq vs.length k=true)
   (hb:AQ w b l T') (h1:Ms vs=true) (hf:off+vs.length≤l.length)
   (h:∀w',AQ w' b (EC l off vs) T'→GS b w w'→H3 P n ops Q rest σ ds w'):H3 P n ops Q (⟨none,.store T x y,ty,pos,af,none⟩::rest) σ ds w :=
 Jm (On hx hy (GQ hv) hT hk hb h1 hf) (h _ (setRow_heap w b _ _ T' _ hb) (NJ w b _))
theorem Va{e:TypeId}{hi:Operand}{k1:IntKind}{z:Int}(i:Nat){a:Option Addr}{len cap:Nat}(hx:ev σ x=some (.slice a len cap))(hhi:ev σ hi=some (.int k1 z))(hz:z=(i:Int))
   (hs:JV P T=some (e,k)) (h:i≤cap):AO P σ (.slice T x none (some hi) none) ty w (.slice a i cap) w:=by
 subst hz;exact UF hx hhi hs h
end
end Go.SW
namespace Go.SP
open Go.SW Go.RowKit
def Fy:List AT→List Value
 | []=>[]
 |t::l=>Jg t++Fy l
theorem Ld:∀l,(Fy l).length=l.length*5
 | []=>rfl
 |t::l=>by simp[Fy,Ld l,Jg];omega
theorem BH:∀l m,Fy (l++m)=Fy l++Fy m
 | [],_=>rfl
 |t::l,m=>by simp[Fy,BH l m]
theorem IG{l xs ys:List Value}{n:Nat}(h:l.take n=xs++ys):l.drop xs.length=ys++l.drop n:=by
 have h2:=List.take_append_drop n l
 rw[h,List.append_assoc] at h2
 rw[← h2]
 have h3:(xs++(ys++l.drop n)).drop xs.length=ys++l.drop n:=List.drop_left
 rw[h2] at h3 ⊢
 exact h3
theorem iC{w:World}{e:TypeId}{a:Option Addr}{c i:Nat}{pre rest:List AT}{k:AT}(h:Ck w e 5 a c (pre++k::rest).length (Fy (pre++k::rest)))(hi:pre.length=i) :
   ∃b l l',a=some ⟨b,0,none⟩∧AQ w b l e∧l.drop (0+i*5)=.int .i64 k.k::.int .i64 k.ln::.int .i64 k.co::.int .i64 k.nm::S k.tx::l':=by
 rcases h.2 with ⟨_,_,h0⟩|⟨b,l,ha,hb,_,_,_,ht⟩
 · simp at h0
 · rw[BH,Fy] at ht
   have:=IG ht
   rw[Ld,hi] at this
   exact⟨b,l,_,ha,hb,by rw[Nat.zero_add,this];rfl⟩
section
variable{eT eK eS:TypeId}{u:Nat→Nat}{w0 w w':World}{so sl:List (AT×Fo)}{oa:Option Addr}{oc:Nat}{sa:Option Addr}{sc:Nat}{x:Value}{a:Option Addr}{c:Nat}{p:Fo}{vs:List Value}{ka:Option Addr}{kn kc:Nat}{kf:Fo}
theorem SV.oblk{o:AT}{q:Fo}{s:List (AT×Fo)}(h:SV eT eK eS u w0 w ((o,q)::s) sl oa oc sa sc x a c p vs ka kn kc kf):∃b l l',oa=some ⟨b,0,none⟩∧AQ w b l eK ∧
   l.drop (0+s.length*5)=.int .i64 o.k::.int .i64 o.ln::.int .i64 o.co::.int .i64 o.nm::S o.tx::l':=by
 rcases h.o.2 with ⟨_,_,h0⟩|⟨b,l,ha,hb,_,_,_,ht⟩
 · cases h0
 · rw[Xf] at ht
   have:=IG ht
   rw[K4] at this
   exact⟨b,l,_,ha,hb,by rw[Nat.zero_add,this];rfl⟩
theorem QS:∀(o:AT×Fo)(s:List (AT×Fo)),∃q l',(o::s).getLast?=some q∧Xf (o::s)=Jg q.1++l'
 |o,[]=>⟨o,[],rfl,by simp[Xf]⟩
 |o,o'::s=>by
   obtain⟨q,l',h1,h2⟩:=QS o' s
   refine⟨q,l'++Jg o.1,by rw[List.getLast?_cons_cons];exact h1,?_⟩
   show Xf (o'::s)++Jg o.1=_
   rw[h2,List.append_assoc]
theorem SV.oblk0{o:AT×Fo}{s:List (AT×Fo)}(h:SV eT eK eS u w0 w (o::s) sl oa oc sa sc x a c p vs ka kn kc kf):∃b l l' t f,oa=some ⟨b,0,none⟩∧AQ w b l eK∧(o::s).getLast?=some (t,f) ∧
   l.drop (0+0*5)=.int .i64 t.k::.int .i64 t.ln::.int .i64 t.co::.int .i64 t.nm::S t.tx::l':=by
 obtain⟨⟨t,f⟩,l',h1,h2⟩:=QS o s
 rcases h.o.2 with ⟨_,_,h0⟩|⟨b,l,ha,hb,_,_,_,ht⟩
 · cases h0
 · refine⟨b,l,l'++l.drop ((o::s).length*5),t,f,ha,hb,h1,?_⟩
   rw[h2] at ht
   exact IG (xs:=[]) ht
theorem SV.knil(h:SV eT eK eS u w0 w so sl oa oc sa sc x a c p vs ka kn kc kf):SV eT eK eS u w0 w so sl oa oc sa sc x a c p vs none 0 0 .nil:={h with kid:=EF.nil _ _ _ _}
theorem SV.olt(h:SV eT eK eS u w0 w so sl oa oc sa sc x a c p vs ka kn kc kf):∀b,rb oa=some b→b<w.heap.size:=fun _ hb=>h.o.lt hb
theorem SV.slt(h:SV eT eK eS u w0 w so sl oa oc sa sc x a c p vs ka kn kc kf):∀b,rb sa=some b→b<w.heap.size:=fun _ hb=>h.s.lt hb
theorem SV.tlt(h:SV eT eK eS u w0 w so sl oa oc sa sc x a c p vs ka kn kc kf):∀b,rb a=some b→b<w.heap.size:=fun _ hb=>let ⟨_,h1,_⟩:=h.top;h1.lt hb
theorem SV.start{b:Nat}(hb:AQ w b [.slice none 0 0] eS)(h0:w0.heap.size≤b):SV eT eK eS (fun _=>2) w0 w [] [] none 0 (some ⟨b,0,none⟩) 1 (.slice none 0 0) none 0 .nil [] none 0 0 .nil :=
 ⟨G9 _ _ _,(fun _ h=>by cases h),⟨rfl,.inr ⟨b,_,rfl,hb,Nat.le_refl _,by unfold maxLen;omega,rfl,rfl⟩⟩,(fun c hc=>by cases hc;exact⟨h0,rfl⟩),⟨[],G9 _ _ _,trivial,(fun _ h=>by cases h)⟩,trivial,EF.nil _ _ _ _⟩
theorem SV.out(h:SV eT eK eS u w0 w so sl oa oc sa sc x a c p vs ka kn kc kf):EF (fun b=>w0.heap.size≤b) w a p.len c p:=by
 obtain⟨xs,t1,t2,t3⟩:=h.top
 refine⟨rfl,t1.n_le,?_⟩
 rcases t1.2 with ⟨_,_,h0⟩|⟨b,l,ha,hb,_,_,_,ht⟩
 · exact .inl h0
 · have hl:=t3 b (by rw[ha];rfl)
   refine .inr ⟨b,0,l,eT,hl.1,ha,hb,?_⟩
   rw[List.drop_zero,← List.take_append_drop (p.len*6) l,ht]
   exact H2.more p xs _ (H2.imp (fun b hb _=>⟨hb.1,rfl⟩) p xs t2)
theorem SV.cell'(h:SV eT eK eS u w0 w so sl oa oc sa sc x a c p vs ka kn kc kf){sb:Nat}{l:List Value}{y:Value}(hsa:sa=some ⟨sb,0,none⟩)(hb:AQ w sb l eS)(hb':AQ w' sb (EC l (0+sl.length*1) [y]) eS)(hC:GS sb w w') :
   SV eT eK eS u w0 w' so sl oa oc sa sc y a c p vs ka kn kc kf:=h.cell hsa hb (by rwa[Nat.zero_add,Nat.mul_one] at hb') hC
theorem SV.last'{t0:AT}{k0:Fo}(h:SV eT eK eS u w0 w so sl oa oc sa sc x a c (p.snoc t0 k0) vs ka kn kc kf){b:Nat}{l:List Value}(ha:a=some ⟨b,0,none⟩)(hb:AQ w b l eT)(t:AT){k1:Option Addr}{n1 c1:Nat}{kf0:Fo}(hk:EF (Fz u w0) w k1 n1 c1 kf0)
   (hb':AQ w' b (EC l (0+p.len*6) (Jg t++[.slice k1 n1 c1])) eT) (hC:GS b w w'):SV eT eK eS u w0 w' so sl oa oc sa sc x a c (p.snoc t kf0) vs ka kn kc kf:=h.last ha hb t hk (by rwa[Nat.zero_add] at hb') hC
end
theorem JW{st:List (AT×Fo)}{i:Nat}(h:∀z∈st,z.2.len≤i):∀z∈st,z.2.len≤i+1:=fun z hz=>Nat.le_succ_of_le (h z hz)
theorem VF{st:List (AT×Fo)}{i:Nat}(k:AT){cur:Fo}(h:∀z∈st,z.2.len≤i)(hc:cur.len≤i):∀z∈(k,cur)::st,z.2.len≤i+1:=fun z hz=>by
 rcases List.mem_cons.1 hz with rfl|hz
 · exact Nat.le_succ_of_le hc
 · exact JW h z hz
theorem KX{st:List (AT×Fo)}{i:Nat}{o:AT×Fo}(h:∀z∈o::st,z.2.len≤i):∀z∈st,z.2.len≤i+1:=fun z hz=>JW h z (.tail _ hz)
section
variable{k:AT}{l:List AT}{st:List (AT×Fo)}{cur:Fo}
theorem SB(h:(k.k==0)=true)(h2:st.length=200):Bz (k::l) st cur=.error (k.ln,k.co):=by unfold Bz;simp[h,h2]
theorem Rd(h:(k.k==0)=true)(h2:st.length≠200):Bz (k::l) st cur=Bz l ((k,cur)::st) .nil:=by rw[Bz.eq_def];simp[h,h2]
theorem T8(h:(k.k==0)=false)(h1:(k.k==1)=true):Bz (k::l) [] cur=.error (k.ln,k.co):=by unfold Bz;simp[h,h1]
theorem GO{o:AT}{q:Fo}{s:List (AT×Fo)}(h:(k.k==0)=false)(h1:(k.k==1)=true):Bz (k::l) ((o,q)::s) cur=Bz l s (q.snoc o cur):=by rw[Bz.eq_def];simp[h,h1]
theorem GD(h:(k.k==0)=false)(h1:(k.k==1)=false):Bz (k::l) st cur=Bz l st (cur.snoc k .nil):=by rw[Bz.eq_def];simp[h,h1]
theorem SJ{o:AT×Fo}{s:List (AT×Fo)}{t:AT}{f:Fo}(h:(o::s).getLast?=some (t,f)):Bz [] (o::s) cur=.error (t.ln,t.co):=by
 obtain⟨o1,o2⟩:=o
 unfold Bz
 rw[h]
theorem S3:Bz [] [] cur=.ok cur:=by unfold Bz;rfl
end
end Go.SP
namespace Go.SW
open Go.RowKit
section
variable{P:Program}{n:Nat}{Q:Bk}{σ:Bo}{ds:List Deferred}{w:World}{ops:Array Oper}{ty T:TypeId}{pos:String}{af:Array Edge}{rest:List Oper}{x:Operand}
def UU(P:Program)(fn:Func)(R:Ending→World→Prop):Bk :=
 {q:=fun e σ ds w=>match e with
     |.normal|.ret=>∀tmps:Array Value,(∀t v,σ t=some v→tmps.getD t undef=v)→Leaves P fn tmps R ds .returning w
     |_=>False,
   p:=fun c σ ds w=>∀tmps:Array Value,(∀t v,σ t=some v→tmps.getD t undef=v)→Leaves P fn tmps R ds (.panicking c) w}
theorem fK{f:FuncId}{fn:Func}{c:Code}{l:List Value}{R:Ending→World→Prop}(hf:P.funcs[f]?=some fn)(hb:fn.body=some c)
   (hn:fn.ntmps=n) (hl:Nat.ble l.length n=true) (h:HK P n c (UU P fn R) (Io l 0) [] w):Calls P f l.toArray w R:=by
 refine calls_of_wp_defers hf hb ?_
 rw[hn]
 refine wp_mono (h _ (J7 hl)) fun e a w' he=>?_
 cases e with
 |normal=>obtain⟨σ,ds,hs,hq⟩:=he;show Leaves _ _ _ _ a.defers _ _;rw[hs.defs];exact hq _ hs.val
 |ret=>obtain⟨σ,ds,hs,hq⟩:=he;show Leaves _ _ _ _ a.defers _ _;rw[hs.defs];exact hq _ hs.val
 |panic c=>obtain⟨σ,ds,hs,hq⟩:=he;show Leaves _ _ _ _ a.defers _ _;rw[hs.defs];exact hq _ hs.val
 |outgrown=>exact he.elim
 |exit i=>obtain⟨σ,ds,hs,hq⟩:=he;exact hq.elim
 |goto i=>obtain⟨σ,ds,hs,hq⟩:=he;exact hq.elim
theorem Tv{f:FuncId}{caps:List Operand}{cv:List Value}(hc:Jb σ caps=some cv):AO P σ (.makeFunc (.func f) #[] caps.toArray) ty w (.func (.func f) #[] cv.toArray) w:=fun ρ _ _ _ _ hρ=>by
 have h:=Fb hρ hc
 simp only[execOp,Instr.makeFunc,List.map_toArray,h,Array.map_empty]
 rfl
theorem OL{g:Operand}{f:FuncId}{cv:List Value}{ts:Array TypeId}(hg:ev σ g=some (.func (.func f) #[] cv.toArray))
   (h:H3 P n ops Q rest σ ({target:=.fn (.func f) cv.toArray,args:=#[]}::ds) w):H3 P n ops Q (⟨none,.defer {callee:=.value g,args:=#[],argTypes:=ts},ty,pos,af,none⟩::rest) σ ds w:=fun a ha =>
 wpList_plain rfl fun K hK=>by
   unfold Oper.wp
   have e:(execOp a.eval ⟨none,.defer {callee:=.value g,args:=#[],argTypes:=ts},ty,pos,af,none⟩).run P w=.ok (.defer {target:=.fn (.func f) cv.toArray,args:=#[]}) w:=by
     simp[execOp,resolve,Deferred.ofValue,ha.ev _ _ hg]
   rw[e]
   exact hK _ _ (h _ ⟨ha.size,by show _::a.defers=_;rw[ha.defs],ha.val⟩)
theorem DA{f:FuncId}{fn:Func}{l:List Value}{i:Nat}{d:Nat}{c:Code}{u u':FrameMode}{v:Value}{ty2:TypeId}{pos2:String}{af2:Array Edge}{ts:Array TypeId}{R:World→Prop}{w:World}
   (hf:P.funcs[f]?=some fn) (hb:fn.body=some (.seq (.region i #[⟨some d,.call {callee:=.builtin .recover,args:=#[],argTypes:=ts},ty2,pos2,af2,none⟩] false) c)) (hn:fn.ntmps=n) (hl:Nat.ble l.length n=true) (hd:Nat.blt d n=true)
   (hrec:∀(c₀:Frame)(cs:List Frame),c₀.mode=u→(recoverD (c₀::cs)=some (v,{c₀ with mode:=u' }::cs)∨(recoverD (c₀::cs)=none∧v=.nilIface∧u'=u)))
   (h:HK P n c (FN P fn (fun _ w'=>R w') fun _ _=>False) (AL (Io l 0) d v) [] w):CallsD P f l.toArray u w fun e m w'=>∃x,e=.returned x∧m=u'∧R w':=by
 refine callsD_of_wpS hf hb fun c₀ cs hu=>wpS_seq (wpS_region ?_)
 have hx:∀ρ,(execOp ρ ⟨some d,.call {callee:=.builtin .recover,args:=#[],argTypes:=ts},ty2,pos2,af2,none⟩).run P w=.ok .recover w:=fun ρ=>by
   simp[execOp,resolve,invoke,builtin]
 have hgo:∀cs',cs'={c₀ with mode:=u' }::cs→(c.wpS P (bodyPostS P fn c₀ cs fun e m w'=>∃x,e=.returned x∧m=u'∧R w') (Act.put {tmps:=l.toArray++Array.replicate (fn.ntmps-l.toArray.size) undef,defers:=[]} (some d) v) cs' w):=fun cs' hcs=>by
   subst hcs
   refine wpS_of_wp ?_
   have hst:=J7 (n:=n) hl
   rw[hn]
   refine wp_mono (h _ (hst.put hd v)) fun e a w' he=>?_
   cases e with
   |normal=>obtain⟨σ,ds,hs,hds,x,hx,hr⟩:=he;exact⟨by rw[hs.defs,hds],u',rfl,x,hx _ hs.val,x,rfl,rfl,hr⟩
   |ret=>obtain⟨σ,ds,hs,hds,x,hx,hr⟩:=he;exact⟨by rw[hs.defs,hds],u',rfl,x,hx _ hs.val,x,rfl,rfl,hr⟩
   |panic c=>obtain⟨_,_,_,hq⟩:=he;exact hq.2.elim
   |outgrown=>exact he.elim
   |exit i=>obtain⟨σ,ds,hs,hq⟩:=he;exact hq.elim
   |goto i=>obtain⟨σ,ds,hs,hq⟩:=he;exact hq.elim
 have hsame:({c₀ with mode:=u}:Frame)=c₀:=by subst hu;rfl
 show wpOpsS P _ _ [0] _ _ _
 simp only[wpOpsS,List.getElem?_toArray,List.getElem?_cons_zero,Region.wanted,if_true,hx]
 rcases hrec c₀ cs hu with hr|⟨hr,hv,hu'⟩
 · rw[hr];exact hgo _ rfl
 · rw[hr]
   subst hv hu'
   exact hgo _ (by rw[hsame])
theorem FI{fn:Func}{tmps:Array Value}{R:Ending→World→Prop}{f:FuncId}{cv:List Value}{u u':FrameMode}{R':World→Prop}(hu:u≠.run)(he:BS P f)(h:CallsD P f cv.toArray u w fun e m w'=>∃x,e=.returned x∧m=u'∧R' w')
   (hr:∀w',R' w'→Leaves P fn tmps R [] (settle u') w'):Leaves P fn tmps R [{target:=.fn (.func f) cv.toArray,args:=#[]}] u w:=by
 refine leaves_cons (f:=f) (args:=cv.toArray) hu (by simp only[invoke,Array.empty_append];exact he _ _) (CallsD.mono h ?_)
 rintro e m w' ⟨x,rfl,rfl,hw⟩
 exact hr w' hw
theorem BW{fn:Func}{tmps:Array Value}{R:Ending→World→Prop}{v:Value}(hσ:∀t v,σ t=some v→tmps.getD t undef=v)(hv:UO P fn σ w v)(h:R (.returned v) w):Leaves P fn tmps R [] .returning w:=⟨v,hv _ hσ,h⟩
theorem Tx{v:Value}{X:TypeId}(hx:ev σ x=some (.iface T v))(hT:nI P T=true):AO P σ (.typeAssert x X T true) ty w (.tuple #[v,.bool true]) w:=fun ρ _ _ _ _ hρ=>by
 unfold nI at hT
 cases hu:P.underlying T with
 |none=>rw[hu] at hT;cases hT
 |some d =>
   rw[hu] at hT
   cases d <;> simp_all [execOp,Instr.typeAssert,underlying,hρ _ _ hx,run_underlying hu]
end
section
variable{P:Program}{σ:Bo}{w:World}{ty T:TypeId}{x y:Operand}
theorem Ir(h:Zg P T=true):∃ms,P.underlying T=some (.interface ms):=by
 unfold Zg at h
 split at h
 · exact⟨_,by assumption⟩
 · cases h
theorem cX{ms}(d:Nat){t:TypeId}(hu:P.underlying t=some (.interface ms)):(Op.equalIn (d+1) t .nilIface .nilIface).run P w=.ok true w:=by simp[Op.equalIn,run_underlying hu]
theorem dI{ms}(d:Nat){t:TypeId}{v:Value}(hu:P.underlying t=some (.interface ms)):(Op.equalIn (d+1) t (.iface T v) .nilIface).run P w=.ok false w:=by simp[Op.equalIn,run_underlying hu]
theorem QA{t t':TypeId}(ht:Zg P t=true)(hx:ev σ x=some .nilIface):AO P σ (.binOp .eql t x (.const .nilIface) t') ty w (.bool true) w:=by
 obtain⟨ms,hu⟩:=Ir ht
 have e:(Op.equal t .nilIface .nilIface).run P w=.ok true w:=cX (Op.maxDepth-1) hu
 exact fun ρ _ _ _ _ hρ=>by
   have hy:ρ (.const .nilIface)=.nilIface:=hρ _ _ rfl
   simp[execOp,hρ _ _ hx,hy,eqGuard,binOp,e]
theorem PQ{t t':TypeId}{v:Value}(ht:Zg P t=true)(hx:ev σ x=some (.iface T v)):AO P σ (.binOp .eql t x (.const .nilIface) t') ty w (.bool false) w:=by
 obtain⟨ms,hu⟩:=Ir ht
 have e:(Op.equal t (.iface T v) .nilIface).run P w=.ok false w:=dI (Op.maxDepth-1) hu
 exact fun ρ _ _ _ _ hρ=>by
   have hy:ρ (.const .nilIface)=.nilIface:=hρ _ _ rfl
   simp[execOp,hρ _ _ hx,hy,eqGuard,binOp,e]
theorem MP:∀(c₀:Frame)(cs:List Frame),c₀.mode=.returning→(recoverD (c₀::cs)=some (Value.nilIface,{c₀ with mode:=.returning}::cs)∨(recoverD (c₀::cs)=none∧Value.nilIface=Value.nilIface∧FrameMode.returning=.returning)):=fun c₀ cs h=>.inr ⟨by simp[recoverD,h],rfl,rfl⟩
theorem Q2{v:Value}:∀(c₀:Frame)(cs:List Frame),c₀.mode=.panicking [{v:=v,recovered:=false}]→(recoverD (c₀::cs)=some (v,{c₀ with mode:=.panicking [{v:=v,recovered:=true}]}::cs)∨(recoverD (c₀::cs)=none∧v=Value.nilIface∧FrameMode.panicking [{v:=v,recovered:=true}]=.panicking [{v:=v,recovered:=false}])):=fun c₀ cs h=>.inl (by simp[recoverD,h])
theorem KA{v:Value}:settle (.panicking [{v:=v,recovered:=true}])=.returning:=by simp[settle]
end
end Go.SW
namespace Go.SP
open Go.SW Go.RowKit
abbrev Ps:=Int×Int
def adv(c:UInt8)(p:Ps):Ps:=if (c.toNat:Int)==10 then (p.1+1,1) else (p.1,p.2+1)
def F7:List UInt8:=[48,49,50,51,52,53,54,55,56,57,97,98,99,100,101,102]
def GA:List UInt8:=[32,9,10]
def Vh:List UInt8:=[32,9,10,40,41,34,59]
def K1(p:Ps):List UInt8→Except Ps (UInt8×List UInt8×Ps)
 | []=>.error p
 |c::r =>
   if (c.toNat:Int)==34 then .ok (c,r,adv c p)
   else if (c.toNat:Int)==92 then .ok (c,r,adv c p)
   else if (c.toNat:Int)==110 then .ok (10,r,adv c p)
   else if (c.toNat:Int)==120 then
     match r with
     |a::b::r' =>
       if decide ((0:Int)≤Lib.indexByte F7 a)&&decide ((0:Int)≤Lib.indexByte F7 b) then .ok (UInt8.ofNat ((Lib.indexByte F7 a).toNat*16+(Lib.indexByte F7 b).toNat),r',adv b (adv a (adv c p))) else .error p
     |_=>.error p
   else .error p
def Hl(start:Ps):Nat→Ps→List UInt8→List UInt8→Except Ps (List UInt8×List UInt8×Ps)
 |0,_,_,_=>.error start
 |_+1,_,_,[]=>.error start
 |n+1,p,acc,c::r =>
   if (c.toNat:Int)==34 then (if decide ((4096:Int)<acc.length) then .error start else .ok (acc,r,adv c p))
   else if decide ((c.toNat:Int)<32) then .error p
   else if (c.toNat:Int) != 92 then Hl start n (adv c p) (acc++[c]) r
   else match r with
     | []=>.error start
     |_=>match K1 (adv c p) r with
       |.error e=>.error e
       |.ok (b,r',p')=>Hl start n p' (acc++[b]) r'
def Pk(i:Nat)(p:Ps):Prop:=0≤p.1∧p.1≤i+1∧0≤p.2∧p.2≤i+1
theorem Pk.adv{i:Nat}{p:Ps}{c:UInt8}(h:Pk i p):Pk (i+1) (adv c p):=by
 obtain⟨h1,h2,h3,h4⟩:=h
 unfold Go.SP.adv
 split <;> (refine⟨?_,?_,?_,?_⟩ <;> simp only <;> omega)
theorem Bf{src:List UInt8}{i:Nat}{c:UInt8}(h:src[i]?=some c):src.drop i=c::src.drop (i+1):=by
 obtain⟨hl,he⟩:=List.getElem?_eq_some_iff.1 h
 rw[List.drop_eq_getElem_cons hl,he]
theorem Ks{src:List UInt8}{i:Nat}(h:i<src.length):∃c,src[i]?=some c:=⟨src[i],List.getElem?_eq_getElem h⟩
theorem Cn{src:List UInt8}{i:Nat}{c:UInt8}(h:src[i]?=some c):i<src.length:=(List.getElem?_eq_some_iff.1 h).1
theorem Xq(c:UInt8):Lib.indexByte F7 c<16:=by
 have:∀(l:List UInt8),Lib.indexByte l c<l.length∨Lib.indexByte l c = -1:=by
   intro l
   induction l with
   |nil=>right;rfl
   |cons a l ih =>
     unfold Lib.indexByte
     split
     · left;simp
     · split
       · right;rfl
       · left;simp only[List.length_cons];rcases ih with h|h <;> simp_all
 rcases this F7 with h|h
 · exact h
 · omega
end Go.SP
namespace Go.SW
open Go.RowKit
theorem B6{P:Program}{σ:Bo}{w:World}{ty:TypeId}{x:Operand}{a:Addr}(hx:ev σ x=some (.pointer (some a))):AO P σ (.nilCheck x) ty w (.pointer (some a)) w:=fun ρ _ _ _ _ hρ=>by
 simp[execOp,hρ _ _ hx]
section
variable{P:Program}{σ:Bo}{w:World}{ty T T':TypeId}{x y:Operand}
theorem bA{t t':TypeId}{a:Int}(hx:ev σ x=some (.int .i64 a))(hy:ev σ y=some (.int .u64 4))(h:0≤a∧a<16):AO P σ (.binOp .shl t x y t') ty w (.int .i64 (a*16)) w :=
 fun ρ _ _ _ _ hρ=>by
   have e:IntKind.i64.wrap (a*16)=a*16:=MA ⟨oM,oM⟩
   simp[execOp,hρ _ _ hx,hρ _ _ hy,eqGuard,binOp,Op.shift,IntKind.bits,e]
theorem rS:∀a b:Fin 16,((BitVec.ofInt 64 ((a.val:Int)*16)) ||| (BitVec.ofInt 64 (b.val:Int))).toNat=a.val*16+b.val:=dC
theorem bL{t t':TypeId}{a b:Int}(hx:ev σ x=some (.int .i64 (a*16)))(hy:ev σ y=some (.int .i64 b))(h:0≤a∧a<16)(h2:0≤b∧b<16):AO P σ (.binOp .or t x y t') ty w (.int .i64 (a*16+b)) w :=
 fun ρ _ _ _ _ hρ=>by
   have e:=rS ⟨a.toNat,oM⟩ ⟨b.toNat,oM⟩
   simp only[Int.toNat_of_nonneg h.1,Int.toNat_of_nonneg h2.1] at e
   have e2:IntKind.i64.wrap (a*16+b)=a*16+b:=MA ⟨oM,oM⟩
   have e3:((a.toNat*16+b.toNat:Nat):Int)=a*16+b:=oM
   simp only[execOp,hρ _ _ hx,hρ _ _ hy,eqGuard,binOp,Op.intBits]
   show Result.ok (Next.value (.int .i64 (IntKind.i64.wrap ((BitVec.ofInt 64 (a*16) ||| BitVec.ofInt 64 b).toNat:Int)))) w=_
   rw[e,e3,e2]
theorem Dh{k k0:IntKind}{n m:Int}(hx:ev σ x=some (.int k0 n))(hc:Xn P T T'=some k)(hm:k.wrap n=m):AO P σ (.convert T T' x) ty w (.int k m) w:=by
 unfold Xn at hc
 cases hs:P.underlying T with
 |none=>rw[hs] at hc;cases hc
 |some s =>
   cases hd:P.underlying T' with
   |none=>rw[hs,hd] at hc;cases hc
   |some d =>
     rw[hs,hd] at hc
     cases d <;> simp at hc
     rename_i k'
     subst hc
     exact fun ρ _ _ _ _ hρ=>by
       simp[execOp,hρ _ _ hx,convert,run_underlying hs,run_underlying hd,Conv.intToInt,hm]
theorem Ve{n:Int}(h:0≤n∧n<256):IntKind.u8.wrap n=n:=by
 unfold IntKind.wrap
 simp[IntKind.bits,IntKind.signed]
 omega
def bC(l:List UInt8):List Value:=l.map fun c=>.int .u8 c.toNat
theorem bC_app(l m:List UInt8):bC (l++m)=bC l++bC m:=List.map_append
theorem Yn{e:TypeId}{a:Option Addr}{c:Nat}{l:List UInt8}(hx:ev σ x=some (.slice a l.length c))(hc:fE P T T'=some e)(hr:Ck w e 1 a c l.length (bC l)):AO P σ (.convert T T' x) ty w (S l) w:=by
 unfold fE at hc
 split at hc
 · rename_i e' hs
   split at hc
   · rename_i he hd
     injection hc with hc
     subst hc
     refine fun ρ _ _ _ _ hρ=>?_
     simp only[execOp,hρ _ _ hx,Sem.run_bind]
     rcases hr.2 with ⟨rfl,_,h0⟩|⟨b,cs,rfl,hb,_,_,_,ht⟩
     · have:l=[]:=List.eq_nil_of_length_eq_zero h0
       subst this
       rw[run_convert_bytes_nil w T e' hs he _ c T' hd]
       rfl
     · rw[run_convert_bytes_back w T T' e' ⟨b,0,none⟩ c l hs he hd (fun j hj=>by
         rw[EO,hb.cell,Nat.zero_add]
         have:(bC l)[j]?=some (.int .u8 (l[j].toNat:Int)):=by simp[bC,List.getElem?_eq_getElem hj]
         rw[← ht,List.getElem?_take,if_pos (by omega)] at this
         exact this)]
       rfl
   · cases hc
 · cases hc
end
end Go.SW
namespace Go.SP
open Go.SW Go.RowKit
def Gc:List UInt8:=[48,49,50,51,52,53,54,55,56,57]
def F3:List UInt8:=[65,66,67,68,69,70,71,72,73,74,75,76,77,78,79,80,81,82,83,84,85,86,87,88,89,90]
def E0:List UInt8:=[97,98,99,100,101,102,103,104,105,106,107,108,109,110,111,112,113,114,115,116,117,118,119,120,121,122]
def Gv:List UInt8:=[39,43,42,47,60,62,61,33,63,95,46,45]
def HG(s l:List UInt8):Bool:=Lib.trimS s l==[]
def ER(s:List UInt8):Bool:=!(s==[])&&HG s Gc
def Bj(s:List UInt8):List UInt8:=Lib.trimPrefix s [45]
def CW:Nat→List UInt8→Nat
 |n,[]=>n
 |n,c::l=>CW (n*10+(c.toNat-48)) l
def Oy(s:List UInt8):Bool:=s.head?==some 45
def Ie(s:List UInt8):Option Int :=
 if ER (Bj s) then
   (if Oy s then (if CW 0 (Bj s)≤4611686018427387904 then some (-(CW 0 (Bj s):Int)) else none)
   else if CW 0 (Bj s)<4611686018427387904 then some (CW 0 (Bj s)) else none)
 else none
def HS(s:List UInt8):Option (List UInt8×List UInt8) :=
 let c:=Lib.cut (Bj s) [46]
 if c.2.2&&(ER c.1&&(ER c.2.1&&decide ((c.1.length:Int)+c.2.1.length≤15))) then some (c.1,c.2.1) else none
end Go.SP
namespace Go.SP
open Go.SW Go.RowKit
theorem qD{a b:Int}(ha:0≤a∧a<16)(hb:0≤b∧b<16):((UInt8.ofNat (a.toNat*16+b.toNat)).toNat:Int)=a*16+b:=by
 have:a.toNat*16+b.toNat<256:=oM
 simp only[UInt8.toNat_ofNat']
 rw[Nat.mod_eq_of_lt this]
 omega
theorem X9{src:List UInt8}{i:Nat}{a b:UInt8}(ha:src[i]?=some a)(hb:src[i+1]?=some b):src.drop i=a::b::src.drop (i+2):=by
 rw[Bf ha,Bf hb]
theorem QL{p:Ps}{c a b:UInt8}{r:List UInt8}(h34:((c.toNat:Int)==34)=false)(h92:((c.toNat:Int)==92)=false)(h110:((c.toNat:Int)==110)=false)(h120:((c.toNat:Int)==120)=true)
   (h:Lib.indexByte F7 a<0∨Lib.indexByte F7 b<0):K1 p (c::a::b::r)=.error p:=by
 simp only[K1,h34,h92,h110,h120,Bool.false_eq_true,if_false,if_true]
 rw[if_neg]
 simp only[Bool.and_eq_true,decide_eq_true_eq]
 omega
theorem Yq{p:Ps}{c:UInt8}{r:List UInt8}(h34:((c.toNat:Int)==34)=false)(h92:((c.toNat:Int)==92)=false)(h110:((c.toNat:Int)==110)=false)(h:r.length<2):K1 p (c::r)=.error p:=by
 unfold K1
 rcases r with _|⟨a,_|⟨b,r⟩⟩
 · simp[h34,h92,h110]
 · simp[h34,h92,h110]
 · simp at h;omega
end Go.SP
namespace Go.SP
open Go.SW Go.RowKit
def Mh(neg:Bool)(a b:List UInt8):Nat :=
 let m:=CW 0 (a++b)
 let x:=FloatKind.f64.nearest m
 let x:=if neg then Op.negFloat .f64 x else x
 if m=0 then (if neg then 9223372036854775808 else 0) else (FloatKind.f64.format.div x (Gt.getD b.length 0)).getD 0
def IT(s:List UInt8):Option Nat:=match HS s with
 |none=>none
 |some (a,b)=>let f:=Mh (Oy s) a b
   some (if Op.floatEq .f64 f f then f else 9221120237041090560)
def OQ(x:Nat):Nat→List UInt8
 |0=>[]
 |j+1=>UInt8.ofNat (x / 2 ^ (8*j))::OQ x j
def N3(x:Nat):List UInt8:=OQ x 8
def JC(w:List UInt8):Option (Int×Int×List UInt8) :=
 match Ie w with
 |some n=>some (2,n,[])
 |none=>match IT w with
   |some x=>some (3,0,N3 x)
   |none =>
     if decide ((40:Int)<w.length)||(!(Bj w==[])&&HG (Bj w) Gc) then none
     else if HG (w.take 1) F3&&HG w (F3++E0++Gc) then some (6,0,w)
     else if HG (w.take 1) (E0++Gv)&&HG w (F3++E0++Gc++Gv) then some (5,0,w)
     else none
def NQ(p:Ps):List UInt8→List UInt8×Ps
 | []=>([],p)
 |c::r=>if (c.toNat:Int) != 10 then NQ (adv c p) r else (c::r,p)
def FF(p:Ps):List UInt8→List UInt8×List UInt8×Ps
 | []=>([],[],p)
 |c::r=>if decide (Lib.indexByte Vh c<0) then (c::(FF (adv c p) r).1,(FF (adv c p) r).2) else ([],c::r,p)
def Ee(F:Nat)(p:Ps):List UInt8→Except Ps (List AT×List UInt8×Ps)
 | []=>.error p
 |c::r =>
   if decide ((0:Int)≤Lib.indexByte GA c) then .ok ([],r,adv c p)
   else if (c.toNat:Int)==59 then .ok ([],NQ (adv c p) r)
   else if (c.toNat:Int)==40 then .ok ([⟨0,p.1,p.2,0,[]⟩],r,adv c p)
   else if (c.toNat:Int)==41 then .ok ([⟨1,p.1,p.2,0,[]⟩],r,adv c p)
   else if (c.toNat:Int)==34 then (match Hl p F (adv c p) [] r with
     |.error e=>.error e
     |.ok (tx,r',p')=>.ok ([⟨4,p.1,p.2,0,tx⟩],r',p'))
   else (match JC (c::(FF (adv c p) r).1) with
     |none=>.error p
     |some (k,nm,tx)=>.ok ([⟨k,p.1,p.2,nm,tx⟩],(FF (adv c p) r).2))
def Is(F:Nat):Nat→Ps→List UInt8→Except Ps (List AT)
 |_,_,[]=>.ok []
 |0,p,_::_=>.error p
 |n+1,p,c::r=>match Ee F p (c::r) with
   |.error e=>.error e
   |.ok (t,r',p')=>match Is F n p' r' with
     |.error e=>.error e
     |.ok l=>.ok (t++l)
def LQ(src:List UInt8):Except (Int×Int×Int) (List AT) :=
 if decide ((65536:Int)<src.length) then .error (0,0,4)
 else match Is (src.length+1) src.length (1,1) src with
   |.error e=>.error (e.1,e.2,10)
   |.ok l=>.ok l
theorem KN.grow{m:Nat}{w w1 w2:World}{a a':Option Addr}(h:KN m w w1)(hG:G4 a w1 a' w2)(hb:∀x,rb a=some x→w.heap.size≤x):KN m w w2 :=
 ⟨hG.os.trans h.os,hG.tape.trans h.tape,hG.output.trans h.output,Nat.le_trans h.size hG.size,fun k hk hne=>(hG.block k (Nat.lt_of_lt_of_le hk h.size) (fun e=>by have:=hb k e.symm;omega)).trans (h.block k hk hne)⟩
end Go.SP
namespace Go.SW
open Go.SP Go.RowKit
theorem Ck.exb{m:Nat}{w w':World}{e:TypeId}{size:Nat}{a:Option Addr}{c n:Nat}{xs:List Value}(h:Ck w e size a c n xs)(hE:KN m w w')(hne:rb a≠some m):Ck w' e size a c n xs :=
 ⟨h.1,h.2.imp id fun⟨b,l,h1,h2,h3⟩=>⟨b,l,h1,h2.exb hE (fun e=>hne (by rw[h1,e];rfl)),h3⟩⟩
end Go.SW
namespace Go.SP
open Go.SW Go.RowKit
theorem Ca{w1 w2:World}{a a':Option Addr}{p:Nat→Prop}(hG:G4 a w1 a' w2)(h:∀x,rb a=some x→p x)(hn:p w1.heap.size):∀x,rb a'=some x→p x:=fun x hx=>by
 rcases hG.own with e|e
 · exact h x (e▸hx)
 · have:=Option.some.inj (e.symm.trans hx)
   exact this▸hn
theorem Jn{src:List UInt8}{i:Nat}(h:¬i<src.length):src.drop i=[]:=List.drop_eq_nil_of_le oM
theorem Fj(start p:Ps)(n:Nat)(acc r:List UInt8)(c:UInt8):Hl start (n+1) p acc (c::r) =
   (if (c.toNat:Int)==34 then (if decide ((4096:Int)<acc.length) then .error start else .ok (acc,r,adv c p))
   else if decide ((c.toNat:Int)<32) then .error p
   else if (c.toNat:Int) != 92 then Hl start n (adv c p) (acc++[c]) r
   else match r with
     | []=>.error start
     |_=>match K1 (adv c p) r with
       |.error e=>.error e
       |.ok (b,r',p')=>Hl start n p' (acc++[b]) r'):=rfl
section
variable{start p:Ps}{F i:Nat}{acc src:List UInt8}{c:UInt8}
theorem Rf(hF:0<F)(h:¬i<src.length):Hl start F p acc (src.drop i)=.error start:=by
 rw[Jn h]
 cases F with
 |zero=>omega
 |succ n=>rfl
theorem YN(hc:src[i]?=some c)(h1:((c.toNat:Int)==34)=true)(h2:decide ((4096:Int)<acc.length)=true):Hl start (F+1) p acc (src.drop i)=.error start:=by rw[Bf hc];rw[Fj,if_pos h1,if_pos h2]
theorem Z3(hc:src[i]?=some c)(h1:((c.toNat:Int)==34)=true)(h2:decide ((4096:Int)<acc.length)=false):Hl start (F+1) p acc (src.drop i)=.ok (acc,src.drop (i+1),adv c p):=by rw[Bf hc];rw[Fj,if_pos h1,if_neg (by rw[h2];decide)]
theorem X7(hc:src[i]?=some c)(h1:((c.toNat:Int)==34)=false)(h2:decide ((c.toNat:Int)<32)=true):Hl start (F+1) p acc (src.drop i)=.error p:=by rw[Bf hc];rw[Fj,if_neg (by rw[h1];decide),if_pos h2]
theorem WS(hc:src[i]?=some c)(h1:((c.toNat:Int)==34)=false)(h2:decide ((c.toNat:Int)<32)=false)(h3:((c.toNat:Int) != 92)=true) :
   Hl start (F+1) p acc (src.drop i)=Hl start F (adv c p) (acc++[c]) (src.drop (i+1)):=by rw[Bf hc];rw[Fj,if_neg (by rw[h1];decide),if_neg (by rw[h2];decide),if_pos h3]
theorem WE(hc:src[i]?=some c)(h1:((c.toNat:Int)==34)=false)(h2:decide ((c.toNat:Int)<32)=false)(h3:((c.toNat:Int) != 92)=false)(h:¬i+1<src.length) :
   Hl start (F+1) p acc (src.drop i)=.error start:=by rw[Bf hc,Jn h];rw[Fj,if_neg (by rw[h1];decide),if_neg (by rw[h2];decide),if_neg (by rw[h3];decide)]
theorem WX{e:Ps}(hc:src[i]?=some c)(h1:((c.toNat:Int)==34)=false)(h2:decide ((c.toNat:Int)<32)=false)(h3:((c.toNat:Int) != 92)=false)(h:i+1<src.length)
   (hx:K1 (adv c p) (src.drop (i+1))=.error e):Hl start (F+1) p acc (src.drop i)=.error e:=by
 obtain⟨d,hd⟩:=Ks h
 rw[Bf hc,Fj,if_neg (by rw[h1];decide),if_neg (by rw[h2];decide),if_neg (by rw[h3];decide)]
 rw[Bf hd] at hx ⊢
 simp only[hx]
theorem WD{b:UInt8}{r':List UInt8}{p':Ps}(hc:src[i]?=some c)(h1:((c.toNat:Int)==34)=false)(h2:decide ((c.toNat:Int)<32)=false)(h3:((c.toNat:Int) != 92)=false)(h:i+1<src.length)
   (hx:K1 (adv c p) (src.drop (i+1))=.ok (b,r',p')):Hl start (F+1) p acc (src.drop i)=Hl start F p' (acc++[b]) r':=by
 obtain⟨d,hd⟩:=Ks h
 rw[Bf hc,Fj,if_neg (by rw[h1];decide),if_neg (by rw[h2];decide),if_neg (by rw[h3];decide)]
 rw[Bf hd] at hx ⊢
 simp only[hx]
end
end Go.SP
namespace Go.SW
open Go.RowKit
section
variable{P:Program}{n:Nat}{Q:Bk}{σ:Bo}{ds:List Deferred}{w:World}{ops:Array Oper}{ty T T':TypeId}{pos:String}{af:Array Edge}{rest:List Oper}{d b off k:Nat}{x y:Operand}
theorem M0{t t':TypeId}{k:IntKind}{a b:Int}(m:Int)(hx:ev σ x=some (.int k a))(hy:ev σ y=some (.int k b))(h:k.wrap (a+b)=m):AO P σ (.binOp .add t x y t') ty w (.int k m) w :=
 fun ρ _ _ _ _ hρ=>by simp[execOp,hρ _ _ hx,hρ _ _ hy,eqGuard,binOp,Op.intArith,h]
theorem Gb{t t':TypeId}{k:IntKind}{a b:Int}(m:Int)(hx:ev σ x=some (.int k a))(hy:ev σ y=some (.int k b))(h:k.wrap (a-b)=m):AO P σ (.binOp .sub t x y t') ty w (.int k m) w :=
 fun ρ _ _ _ _ hρ=>by simp[execOp,hρ _ _ hx,hρ _ _ hy,eqGuard,binOp,Op.intArith,h]
theorem Qk{t t':TypeId}{k:IntKind}{a b:Int}(m:Int)(hx:ev σ x=some (.int k a))(hy:ev σ y=some (.int k b))(h:k.wrap (a*b)=m):AO P σ (.binOp .mul t x y t') ty w (.int k m) w :=
 fun ρ _ _ _ _ hρ=>by simp[execOp,hρ _ _ hx,hρ _ _ hy,eqGuard,binOp,Op.intArith,h]
theorem Ke{t t':TypeId}{k k2:IntKind}{a b:Int}(m:Int)(hx:ev σ x=some (.int k a))(hy:ev σ y=some (.int k2 b))(h0:¬b<0)(h:k.wrap (a*2 ^ (min b.toNat k.bits))=m):AO P σ (.binOp .shl t x y t') ty w (.int k m) w :=
 fun ρ _ _ _ _ hρ=>by simp only[execOp,hρ _ _ hx,hρ _ _ hy,eqGuard,binOp,Op.shift,if_neg h0,h];rfl
theorem Vk{t t':TypeId}{k k2:IntKind}{a b:Int}(m:Int)(hx:ev σ x=some (.int k a))(hy:ev σ y=some (.int k2 b))(h0:¬b<0)(h:a.fdiv (2 ^ (min b.toNat k.bits))=m):AO P σ (.binOp .shr t x y t') ty w (.int k m) w :=
 fun ρ _ _ _ _ hρ=>by simp only[execOp,hρ _ _ hx,hρ _ _ hy,eqGuard,binOp,Op.shift,if_neg h0,h];rfl
theorem Lq{t:TypeId}{k:IntKind}{a:Int}(m:Int)(hx:ev σ x=some (.int k a))(h:k.wrap (0-a)=m):AO P σ (.unOp .neg t x) ty w (.int k m) w:=fun ρ _ _ _ _ hρ=>by
 have h':k.wrap (-a)=m:=by rw[← h];congr 1;omega
 simp[execOp,hρ _ _ hx,Op.unary,Op.intArith,h']
theorem Il{t t':TypeId}(ht:Zg P t=true)(hx:ev σ x=some .nilIface):AO P σ (.binOp .neq t x (.const .nilIface) t') ty w (.bool false) w:=by
 obtain⟨ms,hu⟩:=Ir ht
 have e:(Op.equal t .nilIface .nilIface).run P w=.ok true w:=cX (Op.maxDepth-1) hu
 exact fun ρ _ _ _ _ hρ=>by
   have hy:ρ (.const .nilIface)=.nilIface:=hρ _ _ rfl
   simp[execOp,hρ _ _ hx,hy,eqGuard,binOp,e]
theorem KS{t t':TypeId}{v:Value}(ht:Zg P t=true)(hx:ev σ x=some (.iface T v)):AO P σ (.binOp .neq t x (.const .nilIface) t') ty w (.bool true) w:=by
 obtain⟨ms,hu⟩:=Ir ht
 have e:(Op.equal t (.iface T v) .nilIface).run P w=.ok false w:=dI (Op.maxDepth-1) hu
 exact fun ρ _ _ _ _ hρ=>by
   have hy:ρ (.const .nilIface)=.nilIface:=hρ _ _ rfl
   simp[execOp,hρ _ _ hx,hy,eqGuard,binOp,e]
def aH(P:Program)(T:TypeId):Bool:=match P.info? T,P.underlying T with|some i,some (.int _)=>i.comparable|_,_=>false
theorem tQ{ms}(dd:Nat){t:TypeId}{k:IntKind}{a b:Int}(hu:P.underlying t=some (.interface ms))(hc:aH P T=true):(Op.equalIn (dd+2) t (.iface T (.int k a)) (.iface T (.int k b))).run P w=.ok (a==b) w:=by
 unfold aH at hc
 split at hc
 · rename_i i k' hi hk
   have h2:(Op.equalIn (dd+1) T (.int k a) (.int k b)).run P w=.ok (a==b) w:=by simp[Op.equalIn,run_underlying hk]
   rw[Op.equalIn]
   simp[run_underlying hu,typeInfo,hi,hc,h2]
 · cases hc
theorem XO{t t':TypeId}{k:IntKind}{a b:Int}(ht:Zg P t=true)(hc:aH P T=true)(hx:ev σ x=some (.iface T (.int k a)))(hy:ev σ y=some (.iface T (.int k b))):AO P σ (.binOp .neq t x y t') ty w (.bool (!(a==b))) w:=by
 obtain⟨ms,hu⟩:=Ir ht
 have e:(Op.equal t (.iface T (.int k a)) (.iface T (.int k b))).run P w=.ok (a==b) w:=tQ (Op.maxDepth-2) hu hc
 exact fun ρ _ _ _ _ hρ=>by simp[execOp,hρ _ _ hx,hρ _ _ hy,eqGuard,binOp,e]
structure lN(w:World)(b:Nat)(l:List Value):Prop where
 lt:b<w.heap.size
 at':∀j v,l[j]?=some v→w.cell? ⟨b,j,none⟩=some v
theorem lN.ext{w w':World}{b:Nat}{l:List Value}(h:lN w b l)(hE:AV w w'):lN w' b l :=
 ⟨Nat.lt_of_lt_of_le h.lt hE.size,fun j v hv=>(hE.cell (p:=⟨b,j,none⟩) h.lt).trans (h.at' j v hv)⟩
theorem XZ{v:Value}{l:List Value}(hx:ev σ x=some (.pointer (some ⟨b,off,none⟩)))(hT:Bb P T=some (false,k))(hb:lN w b l)(hv:l[off]?=some v):AO P σ (.load T x) ty w v w:=fun ρ _ _ _ _ hρ=>by
 have hc:=hb.at' off v hv
 simp[execOp,hρ _ _ hx,Instr.loadAt,Instr.sureAddr,loadVar,Fc hT,run_load,hc]
def kA(P:Program)(s d:TypeId):Option TypeId:=match P.underlying s with
 |some .string=>match P.underlying d with|some (.slice e)=>(match P.underlying e with|some (.int .u8)=>some e|_=>none)|_=>none
 |_=>none
theorem cE{e:TypeId}{l:List UInt8}(hd:Nat.blt d n=true)(hx:ev σ x=some (S l))(hc:kA P T T'=some e)
   (h:∀b c w',lN w' b (bC l)→AV w w'→H3 P n ops Q rest (AL σ d (.slice (some ⟨b,0,none⟩) l.length c)) ds w'):H3 P n ops Q (⟨some d,.convert T T' x,ty,pos,af,none⟩::rest) σ ds w:=by
 unfold kA at hc
 split at hc
 · rename_i hs
   split at hc
   · rename_i e' hd'
     split at hc
     · rename_i he
       injection hc with hc
       subst hc
       have hr:AO P σ (.convert T T' x) ty w (.slice (some ⟨w.heap.size,0,none⟩) l.length (grownCap w l.length 0 e')) (Lib.bytesWorld w e' ⟨l.toArray⟩):=fun ρ _ _ _ _ hρ=>by
         have:=Lib.run_convert_string_bytes (P:=P) w T T' e' ⟨l.toArray⟩ hs hd' he
         have e2:(⟨l.toArray⟩:ByteArray).size=l.length:=by simp[ByteArray.size]
         rw[e2] at this
         simp only[execOp,hρ _ _ hx,Sem.run_bind,this]
         rfl
       refine Aa hd hr (h _ _ _ ⟨by rw[Lib.bytesWorld_size];omega,fun j v hv=>?_⟩ ⟨rfl,rfl,rfl,by rw[Lib.bytesWorld_size];omega,fun j hj=>Lib.bytesWorld_at_old w e' _ j hj⟩)
       have hj:j<l.length:=by
         rcases Nat.lt_or_ge j l.length with h|h
         · exact h
         · rw[List.getElem?_eq_none (by simpa[bC] using h)] at hv;cases hv
       have:=Lib.bytesWorld_cell w e' ⟨l.toArray⟩ j (by simpa[ByteArray.size] using hj)
       rw[this,← hv]
       simp[bC,hj]
     · cases hc
   · cases hc
 · cases hc
end
theorem GL{n:Int}(h:0≤n∧n≤18446744073709551615):IntKind.u64.wrap n=n:=IntWalk.u64_in _ h
theorem IS{n:Int}(h : -9223372036854775808≤n∧n≤9223372036854775807):IntKind.i64.wrap n=n:=IntWalk.i64_in _ h
end Go.SW
namespace Go.SW
open Go.RowKit
theorem Mj{P:Program}{σ:Bo}{w:World}{ty T:TypeId}{x lo:Operand}{c:UInt8}{s:List UInt8}{k1:IntKind}(hx:ev σ x=some (S (c::s)))(hlo:ev σ lo=some (.int k1 1))(hs:P.underlying T=some .string) :
   AO P σ (.slice T x (some lo) none none) ty w (S s) w:=by
 have:=Ti (ty:=ty) (w:=w) hx hlo hs ⟨oM,by simp only[List.length_cons];omega⟩
 simpa using this
end Go.SW
namespace Go.SW
open Go.RowKit
section
variable{P:Program}{σ:Bo}{w:World}{ty T T':TypeId}{x y:Operand}
theorem YT{f:FuncId}{fn:Func}{e:Array Value→Sem Value}{g:Operand}{args:List Operand}{vs:List Value}{ts:Array TypeId}{v:Value}(hf:P.funcs[f]?=some fn)(hn:(fn.name == "runtime.NumGoroutine")=false) (hb:fn.body.isNone=true)
   (h1:Extern.findNext fn=none) (h2:Extern.find fn=some e) (hg:ev σ g=some (.func (.func f) #[] #[])) (ha:Jb σ args=some vs) (hv:(e vs.toArray).run P w=.ok v w) :
   AO P σ (.call {callee:=.value g,args:=args.toArray,argTypes:=ts}) ty w v w:=fun ρ _ _ _ _ hρ=>by
 have h:=Fb hρ ha
 have hc:=run_callFunc_extern hf hn hb h1 h2 vs.toArray w
 simp[execOp,resolve,hρ _ _ hg,Deferred.ofValue,invoke,h,hc,hv]
theorem gX{t t':TypeId}{k:FloatKind}{a b:Nat}(hx:ev σ x=some (.float k a))(hy:ev σ y=some (.float k b)):AO P σ (.binOp .neq t x y t') ty w (.bool (!(Op.floatEq k a b))) w :=
 fun ρ _ _ _ _ hρ=>by simp[execOp,hρ _ _ hx,hρ _ _ hy,eqGuard,binOp,Op.floatCmp,Op.floatEq];rfl
theorem UX{t t':TypeId}{k:FloatKind}{a b r:Nat}(hx:ev σ x=some (.float k a))(hy:ev σ y=some (.float k b))(h:k.format.div a b=some r):AO P σ (.binOp .quo t x y t') ty w (.float k r) w :=
 fun ρ _ _ _ _ hρ=>by simp[execOp,hρ _ _ hx,hρ _ _ hy,eqGuard,binOp,Op.floatArith,h]
theorem ZT{t:TypeId}{k:FloatKind}{a:Nat}(hx:ev σ x=some (.float k a)):AO P σ (.unOp .neg t x) ty w (.float k (Op.negFloat k a)) w:=fun ρ _ _ _ _ hρ=>by
 simp[execOp,hρ _ _ hx,Op.unary]
def rQ(P:Program)(s d:TypeId):Option FloatKind:=match P.underlying s,P.underlying d with|some _,some (.float k)=>some k|_,_=>none
theorem iU{k:FloatKind}{k0:IntKind}{n:Int}(hx:ev σ x=some (.int k0 n))(hc:rQ P T T'=some k):AO P σ (.convert T T' x) ty w (.float k (k.nearest n)) w:=by
 unfold rQ at hc
 cases hs:P.underlying T with
 |none=>rw[hs] at hc;cases hc
 |some s =>
   cases hd:P.underlying T' with
   |none=>rw[hs,hd] at hc;cases hc
   |some d =>
     rw[hs,hd] at hc
     cases d <;> simp at hc
     rename_i k'
     subst hc
     exact fun ρ _ _ _ _ hρ=>by
       simp[execOp,hρ _ _ hx,convert,run_underlying hs,run_underlying hd,Conv.intToFloat]
end
theorem S8(x k:Nat):(x:Int).fdiv (2 ^ k)=((x / 2 ^ k:Nat):Int):=by
 rw[Int.fdiv_eq_ediv_of_nonneg _ (Int.le_of_lt (Int.pow_pos (by decide)))]
 simp
theorem jC(n:Nat):IntKind.u8.wrap (n:Int)=((UInt8.ofNat n).toNat:Int):=by
 unfold IntKind.wrap
 simp[IntKind.bits,IntKind.signed]
end Go.SW
namespace Go.SW
open Go.RowKit
section
variable{P:Program}{n:Nat}{Q:Bk}{S:World→Prop}{σ:Bo}{ds:List Deferred}{w:World}{ops:Array Oper}{op:Op}{ty:TypeId}{pos:String}{af:Array Edge}{rest:List Oper}{r:List (Bool×Oper)}{d:Nat}
theorem Wm{a:Act}{dst:Option Tmp}{j dj:Nat}{want:Bool}(ha:St n σ ds a)(hj:(ops[j]?).bind (·.dst)=some dj)(hv:σ dj=some undef) :
   Region.wanted ⟨dst,op,ty,pos,af,some (j,want)⟩ (yielded ops a.tmps)=false:=by
 have h1:=ha.val dj _ hv
 cases hx:a.tmps[dj]? with
 |none=>simp[Region.wanted,yielded,hj,hx]
 |some u =>
   rw[Array.getD_eq_getD_getElem?,hx] at h1
   simp at h1
   subst h1
   simp[Region.wanted,yielded,hj,hx,undef]
end
end Go.SW
namespace Go.SW
open Go.RowKit
section
variable{P:Program}{n:Nat}{Q:Bk}{σ:Bo}{ds:List Deferred}{w:World}
def sV(Q:Bk):Bk:={q:=fun e σ ds w=>match e with|.goto _=>False|e=>Q.q e σ ds w,p:=Q.p}
theorem Wq{c:Code}(h:HK P n c (sV Q) σ ds w):HK P n (.scope c) Q σ ds w:=fun a ha =>
 wp_scope_straight (wp_mono (h a ha) fun e a' w' he=>by
   cases e with
   |goto l=>obtain⟨_,_,_,hf⟩:=he;exact hf.elim
   |normal=>exact he
   |panic c=>exact he
   |outgrown=>exact he
   |ret=>exact he
   |exit i=>exact he)
theorem cV(h:Q.q .ret σ ds w):(sV Q).q .ret σ ds w:=h
theorem VG{l:Nat}(h:Q.q .normal σ ds w):HK P n (.label l) Q σ ds w:=fun _ ha=>wp_label ⟨σ,ds,ha,h⟩
end
section
variable{P:Program}{σ:Bo}{w:World}{ty T T':TypeId}{x y:Operand}
theorem gC{t t':TypeId}{a b:Bool}(ht:P.underlying t=some .bool)(hx:ev σ x=some (.bool a))(hy:ev σ y=some (.bool b)):AO P σ (.binOp .eql t x y t') ty w (.bool (a==b)) w:=by
 have e:(Op.equal t (.bool a) (.bool b)).run P w=.ok (a==b) w:=by
   show (Op.equalIn (Op.maxDepth-1+1) t _ _).run P w=_
   simp[Op.equalIn,run_underlying ht]
 exact fun ρ _ _ _ _ hρ=>by simp[execOp,hρ _ _ hx,hρ _ _ hy,eqGuard,binOp,e]
theorem Qy{t t':TypeId}{b:Bool}(ht:P.underlying t=some .bool)(hx:ev σ x=some (.bool true))(hy:ev σ y=some (.bool b)):AO P σ (.binOp .eql t x y t') ty w (.bool b) w:=by
 have:=gC (ty:=ty) (w:=w) (t':=t') ht hx hy
 rwa[show (true==b)=b by cases b <;> rfl] at this
theorem Zu{t t':TypeId}{k:IntKind}{a b:Int}(m:Int)(hx:ev σ x=some (.int k a))(hy:ev σ y=some (.int k b))(h:k.wrap (BitVec.ofInt k.bits a ||| BitVec.ofInt k.bits b).toNat=m):AO P σ (.binOp .or t x y t') ty w (.int k m) w :=
 fun ρ _ _ _ _ hρ=>by
   simp only[execOp,hρ _ _ hx,hρ _ _ hy,eqGuard,binOp,Op.intBits,h,ne_eq,not_true_eq_false,if_false]
   rfl
theorem cK{kk:IntKind}{a b:Int}{ts:Array TypeId}(hx:ev σ x=some (.int kk a))(hy:ev σ y=some (.int kk b)):AO P σ (.call {callee:=.builtin .min,args:=#[x,y],argTypes:=ts}) ty w (.int kk (if b<a then b else a)) w:=fun ρ _ _ _ _ hρ=>by
 simp[execOp,resolve,invoke,builtin,hρ _ _ hx,hρ _ _ hy,Builtin.min_,Builtin.min2]
end
end Go.SW
namespace Go.SW
open Go.RowKit
theorem dF{P:Program}{σ:Bo}{w:World}{fn:Func}{r1 r2 r3 r4 r5 r6 r7:ResultVar}{v1 v2 v3 v4 v5 v6 v7:Value}(h:fn.results=#[r1,r2,r3,r4,r5,r6,r7])(h1:Rv P σ w r1 v1)(h2:Rv P σ w r2 v2)(h3:Rv P σ w r3 v3)(h4:Rv P σ w r4 v4)(h5:Rv P σ w r5 v5)(h6:Rv P σ w r6 v6)(h7:Rv P σ w r7 v7) :
   UO P fn σ w (.tuple #[v1,v2,v3,v4,v5,v6,v7]):=fun tmps ht=>by
 have g1:=h1 tmps ht
 have g2:=h2 tmps ht
 have g3:=h3 tmps ht
 have g4:=h4 tmps ht
 have g5:=h5 tmps ht
 have g6:=h6 tmps ht
 have g7:=h7 tmps ht
 rw[ID,h,List.mapM_toArray]
 simp[g1,g2,g3,g4,g5,g6,g7]
end Go.SW
namespace Go.SW
open Go.RowKit
theorem Ix{P:Program}{σ:Bo}{w:World}{ty T:TypeId}{x:Operand}{b off k:Nat}{v:Value}(hx:ev σ x=some (.pointer (some ⟨b,off,none⟩)))(hT:Bb P T=some (false,k))(hc:w.cell? ⟨b,off,none⟩=some v):AO P σ (.load T x) ty w v w:=fun ρ _ _ _ _ hρ=>by
 simp[execOp,hρ _ _ hx,Instr.loadAt,Instr.sureAddr,loadVar,Fc hT,run_load,hc]
end Go.SW
namespace Go.SW
open Go.RowKit
section
variable{P:Program}{n:Nat}{Q:Bk}{σ:Bo}{ds:List Deferred}{w:World}{ty T T':TypeId}{x y:Operand}
theorem aQ{t t':TypeId}{a b:Int}(m:Int)(hx:ev σ x=some (.int .u64 a))(hy:ev σ y=some (.int .u64 b))(hb:b≠0)(h:a.tmod b=m):AO P σ (.binOp .rem t x y t') ty w (.int .u64 m) w :=
 fun ρ _ _ _ _ hρ=>by simp[execOp,hρ _ _ hx,hρ _ _ hy,eqGuard,binOp,Op.intDiv,hb,h]
end
end Go.SW
namespace Go.SP
open Go.SW
theorem H4.head{U:Nat→Prop}{w:World}{a:Option Addr}{n c:Nat}{op ln co nm:Int}{tx:List UInt8}{kids rest:Nd}(h:H4 U w a n c (.cons op ln co tx nm kids rest)):∃b off l T ka kn kc l',U b∧a=some ⟨b,off,none⟩∧AQ w b l T ∧
   l.drop off=.int .i64 op::.int .i64 ln::.int .i64 co::S tx::.int .i64 nm::.slice ka kn kc::l'∧H4 U w ka kn kc kids∧FZ U w rest l'∧n=rest.len+1:=by
 obtain⟨h1,h2,h3|⟨b,off,l,T,hu,ha,hb,ka,kn,kc,l',h4,h5,h6⟩⟩:=h
 · rw[h3] at h1;cases h1
 · exact⟨b,off,l,T,ka,kn,kc,l',hu,ha,hb,h4,h5,h6,h1⟩
end Go.SP
namespace Go.SW
open Go.RowKit
def SO(P:Program)(t:TypeId):Bool:=match P.underlying t with
 |some (.struct fs)=>(match fs.toList with
   | [f,g]=>(f.name != "_" && g.name != "_")&&(f.offset==0&&g.offset==1)&&(match P.underlying f.type,P.underlying g.type with|some (.int .i64),some (.int .i64)=>true|_,_=>false)
   |_=>false)&&(!P.stoodInHeld t&&!P.eqGuardType P.depth t)
 |_=>false
theorem GC{P:Program}{w:World}{e:TypeId}{k:IntKind}{cs:Array Value}{off:Nat}{v:Value}(he:P.underlying e=some (.int k))(hv:cs[off]?=some v):(part e cs off).run P w=.ok v w:=by
 simp[part,isAgg,run_underlying he,hv]
theorem OU{P:Program}{w:World}{t:TypeId}{a1 a2 b1 b2:Int}(h:SO P t=true)(d:Nat) :
   (Op.equalIn (d+2) t (.agg #[.int .i64 a1,.int .i64 a2]) (.agg #[.int .i64 b1,.int .i64 b2])).run P w=.ok (a1==b1&&a2==b2) w:=by
 unfold SO at h
 split at h
 · rename_i fs hu
   rw[Bool.and_eq_true] at h
   obtain⟨h1,h2⟩:=h
   split at h1
   · rename_i f g hfs
     simp only[Bool.and_eq_true] at h1 h2
     obtain⟨⟨⟨hn1,hn2⟩,ho1,ho2⟩,h3⟩:=h1
     split at h3
     · rename_i hf hg
       have e1:f.offset=0:=by simpa using ho1
       have e2:g.offset=1:=by simpa using ho2
       have n1:f.name ≠ "_" := by simpa using hn1
       have n2:g.name ≠ "_" := by simpa using hn2
       have hst:P.stoodInHeld t=false:=by simpa using h2.1
       have q1:(Op.equalIn (d+1) f.type (.int .i64 a1) (.int .i64 b1)).run P w=.ok (a1==b1) w:=by simp[Op.equalIn,run_underlying hf]
       have q2:(Op.equalIn (d+1) g.type (.int .i64 a2) (.int .i64 b2)).run P w=.ok (a2==b2) w:=by simp[Op.equalIn,run_underlying hg]
       have p1:(part f.type #[Value.int .i64 a1,.int .i64 a2] 0).run P w=.ok (.int .i64 a1) w:=GC hf rfl
       have p2:(part f.type #[Value.int .i64 b1,.int .i64 b2] 0).run P w=.ok (.int .i64 b1) w:=GC hf rfl
       have p3:(part g.type #[Value.int .i64 a1,.int .i64 a2] 1).run P w=.ok (.int .i64 a2) w:=GC hg rfl
       have p4:(part g.type #[Value.int .i64 b1,.int .i64 b2] 1).run P w=.ok (.int .i64 b2) w:=GC hg rfl
       obtain⟨fl⟩:=fs
       simp only at hfs
       subst hfs
       rw[Op.equalIn]
       simp only[Sem.run_bind,run_underlying hu,Result.andThen_ok,run_program,hst,Bool.false_eq_true,if_false]
       cases h1:a1==b1 <;> cases h2:a2==b2 <;> simp[n1,n2,e1,e2,p1,p2,p3,p4,q1,q2,h1,h2]
     · cases h3
   · cases h1
 · cases h
theorem X3{P:Program}{σ:Bo}{w:World}{ty t t':TypeId}{x y:Operand}{a1 a2 b1 b2:Int}(h:SO P t=true)(hx:ev σ x=some (.agg #[.int .i64 a1,.int .i64 a2]))(hy:ev σ y=some (.agg #[.int .i64 b1,.int .i64 b2])) :
   AO P σ (.binOp .eql t x y t') ty w (.bool (a1==b1&&a2==b2)) w:=fun ρ _ _ _ _ hρ=>by
 have hg:P.eqGuardType P.depth t=false:=by
   unfold SO at h
   split at h
   · simp only[Bool.and_eq_true] at h;simpa using h.2.2
   · cases h
 have e:=OU (w:=w) (a1:=a1) (a2:=a2) (b1:=b1) (b2:=b2) h 9998
 simp[execOp,hρ _ _ hx,hρ _ _ hy,run_eqGuard_agg w _ _ _ _ _ _ hg,run_eql_struct,e]
abbrev Fq:=Nat→Nat
structure HB where
 b:Nat
 l:List Value
 T:TypeId
 nw:Bool
structure RB where
 e:TypeId
 size:Nat
 a:Option Addr
 c:Nat
 n:Nat
 xs:List Value
structure FB where
 b:Nat
 off:Nat
 l:List Value
structure Mx(M:Nat→Prop)(w w':World):Prop where
 os:w'.os=w.os
 tape:w'.tape=w.tape
 output:w'.output=w.output
 size:w.heap.size≤w'.heap.size
 block:∀k,k<w.heap.size→¬M k→w'.heap[k]?=w.heap[k]?
theorem Mx.refl(M:Nat→Prop)(w:World):Mx M w w:=⟨rfl,rfl,rfl,Nat.le_refl _,fun _ _ _=>rfl⟩
theorem Mx.trans{M:Nat→Prop}{w w1 w2:World}(h:Mx M w w1)(k:Mx M w1 w2):Mx M w w2 :=
 ⟨k.os.trans h.os,k.tape.trans h.tape,k.output.trans h.output,Nat.le_trans h.size k.size,fun i hi hm=>(k.block i (Nat.lt_of_lt_of_le hi h.size) hm).trans (h.block i hi hm)⟩
theorem Mx.mono{M M':Nat→Prop}{w w1:World}(h:Mx M w w1)(hm:∀b,M b→M' b):Mx M' w w1:=⟨h.os,h.tape,h.output,h.size,fun i hi hn=>h.block i hi fun hh=>hn (hm i hh)⟩
theorem Mx.of_ext{M:Nat→Prop}{w w':World}(h:AV w w'):Mx M w w':=⟨h.os,h.tape,h.output,h.size,fun k hk _=>h.block k hk⟩
theorem Mx.ext{w w':World}(h:Mx (fun _=>False) w w'):AV w w':=⟨h.os,h.tape,h.output,h.size,fun k hk=>h.block k hk (fun h=>h)⟩
theorem El{w w':World}{b:Nat}(h:w'.heap[b]?=w.heap[b]?)(o:Nat):w'.cell? ⟨b,o,none⟩=w.cell? ⟨b,o,none⟩:=by simp[World.cell?,h]
def Jf(w:World)(f:Fq)(w':World)(f':Fq):Prop:=∀b,f b≤f' b∧∀o,o<f b→w'.cell? ⟨b,o,none⟩=w.cell? ⟨b,o,none⟩
theorem Jf.refl(w:World)(f:Fq):Jf w f w f:=fun _=>⟨Nat.le_refl _,fun _ _=>rfl⟩
theorem Jf.trans{w w1 w2:World}{f f1 f2:Fq}(h:Jf w f w1 f1)(k:Jf w1 f1 w2 f2):Jf w f w2 f2:=fun b =>
 ⟨Nat.le_trans (h b).1 (k b).1,fun o ho=>((k b).2 o (Nat.lt_of_lt_of_le ho (h b).1)).trans ((h b).2 o ho)⟩
def Cs(w:World)(f:Fq)(b off:Nat)(l:List Value):Prop:=∀j v,l[j]?=some v→off+j<f b∧w.cell? ⟨b,off+j,none⟩=some v
abbrev G0(φ:World→Fq→Prop):Prop:=∀w f w' f',φ w f→Jf w f w' f'→φ w' f'
theorem Cs.mono{w w':World}{f f':Fq}{b off:Nat}{l:List Value}(h:Cs w f b off l)(hF:Jf w f w' f'):Cs w' f' b off l:=fun j v hj=>by
 obtain⟨h1,h2⟩:=h j v hj
 exact⟨Nat.lt_of_lt_of_le h1 (hF b).1,((hF b).2 _ h1).trans h2⟩
abbrev Gr(MI:Nat→Prop)(I:World→Fq→Prop):Prop:=∀w f w' f',I w f→Jf w f w' f'→(∀b,MI b→w'.heap[b]?=w.heap[b]?)→I w' f'
structure Cx where
 M:Nat→Prop
 MI:Nat→Prop
 I:World→Fq→Prop
 w0:World
 f0:Fq
def CP(H:List HB)(R:List RB):List Nat:=H.map (·.b)++R.filterMap fun r=>rb r.a
structure AX(X:Cx)(w:World)(f:Fq)(H:List HB)(R:List RB)(B:List FB)(Fs:List (World→Fq→Prop)):Prop where
 stp:Mx X.M X.w0 w
 old:∀b,b<X.w0.heap.size→f b=X.f0 b
 val:∀b,w.heap.size≤b→f b=0
 ent:Jf X.w0 X.f0 w f
 res:X.I w f
 stab:Gr X.MI X.I
 mi:∀b,X.MI b→b<w.heap.size∧f b=0∧(X.w0.heap.size≤b∨X.M b)
 blk:∀e,e∈H→AQ w e.b e.l e.T
 row:∀r,r∈R→Ck w r.e r.size r.a r.c r.n r.xs
 nd:(CP H R).Nodup
 own:∀b,b∈CP H R→f b=0∧(X.w0.heap.size≤b∨X.M b)∧¬X.MI b
 hnw:∀e,e∈H→e.nw=true→X.w0.heap.size≤e.b
 rnw:∀r,r∈R→∀b,rb r.a=some b→X.w0.heap.size≤b
 fro:∀e,e∈B→Cs w f e.b e.off e.l
 fac:∀φ,φ∈Fs→φ w f
 mono:∀φ,φ∈Fs→G0 φ
section
variable{X:Cx}{w:World}{f:Fq}{H:List HB}{R:List RB}{B:List FB}{Fs:List (World→Fq→Prop)}
theorem AX.lt(h:AX X w f H R B Fs){b:Nat}(hb:b∈CP H R):b<w.heap.size:=by
 rcases List.mem_append.1 hb with hb|hb
 · obtain⟨e,he,rfl⟩:=List.mem_map.1 hb
   exact (h.blk e he).lt
 · obtain⟨r,hr,hb⟩:=List.mem_filterMap.1 hb
   exact (h.row r hr).lt hb
theorem AX.step{w':World}{f':Fq}(h:AX X w f H R B Fs)(hs:Mx X.M w w')(hF:Jf w f w' f')(hold:∀b,b<w.heap.size→f' b=f b)(hval:∀b,w'.heap.size≤b→f' b=0)
   (hown:∀b,b∈CP H R→w'.heap[b]?=w.heap[b]?) (hmi:∀b,X.MI b→w'.heap[b]?=w.heap[b]?):AX X w' f' H R B Fs where
 stp:=h.stp.trans hs
 old b hb:=(hold b (Nat.lt_of_lt_of_le hb h.stp.size)).trans (h.old b hb)
 val:=hval
 ent:=h.ent.trans hF
 res:=h.stab _ _ _ _ h.res hF hmi
 stab:=h.stab
 mi b hb:=⟨Nat.lt_of_lt_of_le (h.mi b hb).1 hs.size,(hold b (h.mi b hb).1).trans (h.mi b hb).2.1,(h.mi b hb).2.2⟩
 blk e he:=(hown e.b (List.mem_append.2 (.inl (List.mem_map.2 ⟨e,he,rfl⟩)))).trans (h.blk e he)
 row r hr:=by
   refine⟨(h.row r hr).1,(h.row r hr).2.imp id ?_⟩
   rintro⟨b,l,h1,h2,h3⟩
   exact⟨b,l,h1,(hown b (List.mem_append.2 (.inr (List.mem_filterMap.2 ⟨r,hr,by rw[h1];rfl⟩)))).trans h2,h3⟩
 nd:=h.nd
 own b hb:=⟨(hold b (h.lt hb)).trans (h.own b hb).1,(h.own b hb).2⟩
 hnw:=h.hnw
 rnw:=h.rnw
 fro e he:=(h.fro e he).mono hF
 fac φ hφ:=h.mono φ hφ _ _ _ _ (h.fac φ hφ) hF
 mono:=h.mono
theorem JH(w:World)(o:Obj)(k:Nat)(h:k<w.heap.size):(w.alloc o).heap[k]?=w.heap[k]?:=(Ki w o).block k h
theorem VV(h:∀b,w.heap.size≤b→f b=0)(o:Obj):Jf w f (w.alloc o) f:=fun b=>⟨Nat.le_refl _,fun k hk=>by
 have hb:b<w.heap.size:=by
   rcases Nat.lt_or_ge b w.heap.size with hh|hh
   · exact hh
   · have:=h b hh;omega
 exact El (JH w o b hb) k⟩
theorem AX.alloc{l:List Value}{T:TypeId}(h:AX X w f H R B Fs):AX X (w.alloc (.cells l.toArray T)) f (⟨w.heap.size,l,T,true⟩::H) R B Fs:=by
 have h1:AX X (w.alloc (.cells l.toArray T)) f H R B Fs:=h.step (Mx.of_ext (Ki w _)) (VV h.val _) (fun _ _=>rfl) (fun b hb=>h.val b (by rw[Hn] at hb;omega))
   (fun b hb=>JH w _ b (h.lt hb)) (fun b hb=>JH w _ b (h.mi b hb).1)
 refine {h1 with blk:=?_,nd:=?_,own:=?_,hnw:=?_}
 · intro e he
   rcases List.mem_cons.1 he with rfl|he
   · exact M4 w l T
   · exact h1.blk e he
 · show (w.heap.size::CP H R).Nodup
   exact List.nodup_cons.2 ⟨fun hh=>Nat.lt_irrefl _ (h.lt hh),h.nd⟩
 · intro b hb
   have hb':b∈w.heap.size::CP H R:=hb
   rcases List.mem_cons.1 hb' with rfl|hb'
   · exact⟨h.val _ (Nat.le_refl _),.inl h.stp.size,fun hm=>Nat.lt_irrefl _ (h.mi _ hm).1⟩
   · exact h1.own b hb'
 · intro e he hn
   rcases List.mem_cons.1 he with rfl|he
   · exact h.stp.size
   · exact h.hnw e he hn
def PA:List HB→Nat→HB→Option (List HB)
 | [],_,_=>none
 |_::H,0,e=>some (e::H)
 |x::H,i+1,e=>match PA H i e with
   |some r=>some (x::r)
   |none=>none
def HM:List HB→Nat→Option HB
 | [],_=>none
 |x::_,0=>some x
 |_::H,i+1=>HM H i
theorem Ym:∀{H H':List HB}{i:Nat}{e e':HB},HM H i=some e→PA H i e'=some H'→e'.b=e.b→H'.map (·.b)=H.map (·.b)∧(∀x,x∈H'→x=e'∨x∈H)∧e∈H
 | [],_,_,_,_,h,_,_=>by cases h
 |x::H,H',0,e,e',hg,hs,hb=>by
   cases hg;cases hs
   exact⟨by simp[hb],fun x hx=>by rcases List.mem_cons.1 hx with h|h;exact .inl h;exact .inr (.tail _ h),.head _⟩
 |x::H,H',i+1,e,e',hg,hs,hb=>by
   unfold PA at hs
   cases hr:PA H i e' with
   |none=>rw[hr] at hs;cases hs
   |some r =>
     rw[hr] at hs;cases hs
     obtain⟨h1,h2,h3⟩:=Ym (H:=H) hg hr hb
     exact⟨by simp[h1],fun y hy=>by
       rcases List.mem_cons.1 hy with rfl|hy
       · exact .inr (.head _)
       · rcases h2 y hy with h|h
         · exact .inl h
         · exact .inr (.tail _ h),.tail _ h3⟩
theorem P3:∀{H H':List HB}{i:Nat}{e e':HB},HM H i=some e→PA H i e'=some H'→(H.map (·.b)).Nodup→∀x,x∈H'→x=e'∨(x∈H∧x.b≠e.b)
 | [],_,_,_,_,h,_,_=>by cases h
 |x::H,H',0,e,e',hg,hs,hn=>by
   cases hg;cases hs
   intro y hy
   rcases List.mem_cons.1 hy with h|h
   · exact .inl h
   · refine .inr ⟨.tail _ h,fun e=>?_⟩
     have:=(List.nodup_cons.1 hn).1
     exact this (List.mem_map.2 ⟨y,h,e⟩)
 |x::H,H',i+1,e,e',hg,hs,hn=>by
   unfold PA at hs
   cases hr:PA H i e' with
   |none=>rw[hr] at hs;cases hs
   |some r =>
     rw[hr] at hs;cases hs
     have hn':=List.nodup_cons.1 hn
     have ih:=P3 (H:=H) hg hr hn'.2
     intro y hy
     rcases List.mem_cons.1 hy with rfl|hy
     · refine .inr ⟨.head _,fun h=>hn'.1 ?_⟩
       have he:e∈H:=by
         have:∀(H:List HB)(i:Nat)(e:HB),HM H i=some e→e∈H:=by
           intro H
           induction H with
           |nil=>intro i e h;cases h
           |cons a H ih=>intro i e h;cases i with|zero=>cases h;exact .head _|succ i=>exact .tail _ (ih i e h)
         exact this H i e hg
       exact List.mem_map.2 ⟨e,he,h.symm⟩
     · rcases ih y hy with h|h
       · exact .inl h
       · exact .inr ⟨.tail _ h.1,h.2⟩
theorem Cb:∀{H:List HB}{i:Nat}{e:HB},HM H i=some e→e∈H
 | [],_,_,h=>by cases h
 |_::_,0,_,h=>by cases h;exact .head _
 |_::H,i+1,e,h=>.tail _ (Cb (H:=H) h)
theorem AX.chg{w':World}{H':List HB}{i b:Nat}{l l':List Value}{T:TypeId}{nw:Bool}(h:AX X w f H R B Fs)(hg:HM H i=some ⟨b,l,T,nw⟩)(hs:PA H i ⟨b,l',T,nw⟩=some H')(hb:AQ w' b l' T)(hC:GS b w w'):AX X w' f H' R B Fs:=by
 have hmem:b∈CP H R:=List.mem_append.2 (.inl (List.mem_map.2 ⟨_,Cb hg,rfl⟩))
 obtain⟨h1,h2,h3⟩:=h.own b hmem
 have hF:Jf w f w' f:=fun k=>⟨Nat.le_refl _,fun o ho=>by
   have:k≠b:=fun e=>by rw[e,h1] at ho;omega
   exact El (hC.block k this) o⟩
 obtain⟨e1,_,_⟩:=Ym hg hs rfl
 have hnH:(H.map (·.b)).Nodup:=(List.nodup_append.1 h.nd).1
 have hnR:∀r,r∈R→rb r.a≠some b:=fun r hr e=>by
   have:=(List.nodup_append.1 h.nd).2.2 b (List.mem_map.2 ⟨_,Cb hg,rfl⟩) b (List.mem_filterMap.2 ⟨r,hr,e⟩)
   exact this rfl
 have hmi:∀k,X.MI k→w'.heap[k]?=w.heap[k]?:=fun k hk=>hC.block k (fun e=>h3 (e▸hk))
 exact {stp:=⟨hC.os.trans h.stp.os,hC.tape.trans h.stp.tape,hC.output.trans h.stp.output,by rw[hC.size];exact h.stp.size,fun k hk hm=>(hC.block k (fun e=>by
           subst e
           rcases h2 with h2|h2
           · omega
           · exact hm h2)).trans (h.stp.block k hk hm)⟩,
         old:=h.old,val:=fun k hk=>h.val k (by rw[hC.size] at hk;exact hk),ent:=h.ent.trans hF,res:=h.stab _ _ _ _ h.res hF hmi,stab:=h.stab,
         mi:=fun k hk=>by rw[hC.size];exact h.mi k hk,
         blk:=fun x hx=>by
           rcases P3 hg hs hnH x hx with rfl|⟨hx,hne⟩
           · exact hb
           · exact (h.blk x hx).chg hC hne,
         row:=fun r hr=>(h.row r hr).chg hC (hnR r hr),
         nd:=by unfold CP;rw[e1];exact h.nd,
         own:=fun k hk=>h.own k (by unfold CP at hk ⊢;rwa[e1] at hk),
         hnw:=fun x hx hn=>by
           rcases P3 hg hs hnH x hx with rfl|⟨hx,_⟩
           · exact h.hnw ⟨b,l,T,nw⟩ (Cb hg) hn
           · exact h.hnw x hx hn,
         rnw:=h.rnw,
         fro:=fun x hx=>(h.fro x hx).mono hF,fac:=fun φ hφ=>h.mono φ hφ _ _ _ _ (h.fac φ hφ) hF,mono:=h.mono}
end
end Go.SW
