/- What it rests on, part 1. -/
import Derived.KernelRfl
import Derived.WalkKit
import Derived.OrdersHeld
import Derived.Below
import Derived.Shelf.Small.Strs
import Derived.Shelf.Strings.Search1
import Derived.Shelf.Strings.Search2
import Derived.Shelf.Strings.Search3
import Derived.Shelf.Strings.Cut
import Derived.Shelf.Strings.Prefix
import Derived.Shelf.Strings.SlTrimAscii
import Derived.Shelf.Strconv.ToErrorRange
import Derived.Ground.NamesProg
import Derived.Test.YtelmolopaolbcaaGreatDoorProg
import Derived.Laws.AppendOwn
import Derived.Lib.IndexMore
import Derived.Deep.Draws
import Derived.Laws.StructEq
import Derived.Defers
import Derived.Recover
import Derived.Laws.IdiomStrings
import Derived.Laws.BytesArg
import Derived.Lib.SlTrimSet
import Derived.Lib.Strings
import GoSem.Core.Float
import GoSem.Op.Unary
import GoSem.Op.Equal
import Derived.Lib.ConvBytes
import Derived.Laws.Externs
import Derived.Scope
import Derived.Laws.FloatArith
set_option linter.unusedVariables false
set_option linter.unusedSimpArgs false
namespace Go
theorem oM{p:Prop}(h:p:=by omega):p:=h
theorem dC{p:Prop}(h:p:=by decide):p:=h
theorem kR{p:Prop}(h:p:=by kernel_rfl):p:=h
theorem nM{p:Prop}(h:p:=by simp only[List.mem_cons,List.not_mem_nil,or_false];omega):p:=h
theorem tQ:True:=.intro
abbrev lU:=List UInt8
end Go
namespace Go.SW
open Go.RowKit
abbrev Bb:=Nat→Option Value
def e0:Bb:=λ_=>none
def AA(σ:Bb)(d:Nat)(v:Value):Bb:=λt=>bif Nat.beq t d then some v else σ t
def ev(σ:Bb):Operand→Option Value
 |.tmp t=>σ t
 |.const v=>some v
 |.global g=>some (.pointer (some ⟨g,0,none⟩))
 |.func f=>some (.func (.func f) #[] #[])
def Le(σ' σ:Bb):Prop:=∀t v,σ' t=some v→σ t=some v
theorem IT(σ:Bb):Le e0 σ:=λ_ _ h=>by cases h
theorem le_refl(σ:Bb):Le σ σ:=λ_ _ h=>h
variable {args:Array Value}{σ':Bb}{want:Bool}{l:List Value}{dj i j:Nat}{I:Nat→Bb→List Deferred→World→Prop}{dst:Option Tmp}{r1 r2 r3:ResultVar}{v1 v2 v3:Value}{w':World}
theorem A6{σ:Bb}{d:Nat}{v:Value}(h:Le σ' σ)(hd:σ d=some v):Le (AA σ' d v) σ:=by
 intro t u ht;unfold AA at ht
 cases hb:Nat.beq t d with
 |true=>rw[hb] at ht;have:=Nat.eq_of_beq_eq_true hb;subst this;simpa[← hd] using ht
 |false=>rw[hb] at ht;exact h t u ht
structure St(n:Nat)(σ:Bb)(ds:List Deferred)(a:Act):Prop where
 size:a.tmps.size=n
 defs:a.defers=ds
 val:∀t v,σ t=some v→a.tmps.getD t undef=v
theorem St.le{n:Nat}{σ:Bb}{ds:List Deferred}{a:Act}(h:St n σ ds a)(hl:Le σ' σ):St n σ' ds a:=⟨h.size,h.defs,λt v ht=>h.val t v (hl t v ht)⟩
theorem St.ev{n:Nat}{σ:Bb}{ds:List Deferred}{a:Act}(h:St n σ ds a):∀x v,ev σ x=some v→a.eval x=v:=by
 intro x v hx
 cases x with
 |tmp t=>exact h.val t v hx
 |const u=>exact Option.some.inj hx
 |global g=>exact Option.some.inj hx
 |func f=>exact Option.some.inj hx
theorem St.put{n:Nat}{σ:Bb}{ds:List Deferred}{a:Act}(h:St n σ ds a){d:Nat}(hd:Nat.blt d n=true)(v:Value):St n (AA σ d v) ds (a.put (some d) v):=by
 have hd':d<n:=Nat.le_of_ble_eq_true hd;refine⟨by simp[Act.put,h.size],h.defs,λt u ht=>?_⟩;unfold AA at ht
 cases hb:Nat.beq t d with
 |true =>
   rw[hb] at ht;have:=Nat.eq_of_beq_eq_true hb;subst this;simp at ht;subst ht;simp[Act.put,Array.getD_eq_getD_getElem?,h.size,hd']
 |false =>
   rw[hb] at ht;have hne:d≠t:=λe=>by rw[e,Nat.beq_refl] at hb;cases hb
   have:=h.val t u ht;simpa[Act.put,Array.getD_eq_getD_getElem?,Array.getElem?_setIfInBounds_ne hne] using this
structure AU where
 q:Exit→Bb→List Deferred→World→Prop
 p:List PanicEntry→Bb→List Deferred→World→Prop
def AU.up(n:Nat)(Q:AU):Exit→Act→World→Prop
 |.panic c,a,w=>∃σ ds,St n σ ds a∧Q.p c σ ds w
 |.outgrown,_,_=>False
 |.normal,a,w=>∃σ ds,St n σ ds a∧Q.q .normal σ ds w
 |.ret,a,w=>∃σ ds,St n σ ds a∧Q.q .ret σ ds w
 |.exit i,a,w=>∃σ ds,St n σ ds a∧Q.q (.exit i) σ ds w
 |.goto i,a,w=>∃σ ds,St n σ ds a∧Q.q (.goto i) σ ds w
def GY(P:Program)(n:Nat)(c:Code)(Q:AU)(σ:Bb)(ds:List Deferred)(w:World):Prop :=
 ∀a,St n σ ds a→c.wp P (Q.up n) a w
def GO(P:Program)(n:Nat)(ops:Array Oper)(Q:AU)(l:List Oper)(σ:Bb)(ds:List Deferred)(w:World):Prop :=
 ∀a,St n σ ds a→wpList P ops (Q.up n) l a w
section
variable{P:Program}{n:Nat}{Q:AU}{σ:Bb}{ds:List Deferred}{w:World}
theorem ND{c:Code}(hl:Le σ' σ)(h:GY P n c Q σ' ds w):GY P n c Q σ ds w:=λa ha=>h a (ha.le hl)
def sG(P:Program)(n:Nat)(y:Code)(Q:AU):AU :=
 {q:=λe σ ds w=>match e with|.normal=>GY P n y Q σ ds w|e=>Q.q e σ ds w,p:=Q.p}
theorem BQ{x y:Code}(h:GY P n x (sG P n y Q) σ ds w):GY P n (.seq x y) Q σ ds w:=λa ha =>
 wp_seq (wp_mono (h a ha) λe a' w' he=>by
   cases e with
   |normal=>obtain⟨σ',ds',hs,hq⟩:=he;exact hq a' hs
   |panic c=>exact he
   |outgrown=>exact he
   |ret=>exact he
   |exit i=>exact he
   |goto i=>exact he)
theorem Dk{y:Code}(h:GY P n y Q σ ds w):(sG P n y Q).q .normal σ ds w:=h
theorem H0(h:Q.q .normal σ ds w):GY P n .skip Q σ ds w:=λ_ ha=>wp_skip ⟨σ,ds,ha,h⟩
theorem Jq(h:Q.q .ret σ ds w):GY P n .ret Q σ ds w:=λ_ ha=>wp_ret ⟨σ,ds,ha,h⟩
theorem Kn(h:Q.q (.exit i) σ ds w):GY P n (.exit i) Q σ ds w:=λ_ ha=>wp_exit ⟨σ,ds,ha,h⟩
def blk(i:Nat)(Q:AU):AU :=
 {q:=λe σ ds w=>match e with|.exit j=>if j=i then Q.q .normal σ ds w else Q.q (.exit j) σ ds w|e=>Q.q e σ ds w,p:=Q.p}
theorem DM{c:Code}(h:GY P n c (blk i Q) σ ds w):GY P n (.block i c) Q σ ds w:=λa ha =>
 wp_block (wp_mono (h a ha) λe a' w' he=>by
   cases e with
   |exit j =>
     obtain⟨σ',ds',hs,hq⟩:=he;simp only[Exit.inBlock]
     split
     · rename_i hj;simp only[blk,hj,if_true] at hq;exact⟨σ',ds',hs,hq⟩
     · rename_i hj;simp only[blk,hj,if_false] at hq;exact⟨σ',ds',hs,hq⟩
   |normal=>exact he
   |panic c=>exact he
   |outgrown=>exact he
   |ret=>exact he
   |goto i=>exact he)
theorem D3(h:Q.q .normal σ ds w):(blk i Q).q .normal σ ds w:=h
theorem U5(h:Q.q .ret σ ds w):(blk i Q).q .ret σ ds w:=h
theorem Oq(h:Q.q .normal σ ds w):(blk i Q).q (.exit i) σ ds w:=by simp only[blk,if_true];exact h
theorem fO(hne:Nat.beq j i=false)(h:Q.q (.exit j) σ ds w):(blk i Q).q (.exit j) σ ds w:=by
 have:j≠i:=λe=>by rw[e,Nat.beq_refl] at hne;cases hne
 simp only[blk,this,if_false];exact h
theorem U0{y:Code}(h:Q.q .ret σ ds w):(sG P n y Q).q .ret σ ds w:=h
theorem UM{y:Code}(h:Q.q (.exit j) σ ds w):(sG P n y Q).q (.exit j) σ ds w:=h
theorem MH{c:Operand}{x y:Code}{b:Bool}(hc:ev σ c=some (.bool b))(ht:b=true→GY P n x Q σ ds w)(hf:b=false→GY P n y Q σ ds w) :
   GY P n (.cond c x y) Q σ ds w:=λa ha =>
 wp_cond_split (t:=b) (ha.ev _ _ hc) (λh=>ht h a ha) (λh=>hf h a ha)
theorem F2{c:Operand}{x y:Code}{b:Bool}(hc:ev σ c=some (.bool b))(hb:b=true)(ht:GY P n x Q σ ds w):GY P n (.cond c x y) Q σ ds w :=
 MH hc (λ_=>ht) (λh=>by rw[h] at hb;cases hb)
theorem Ji{c:Operand}{x y:Code}{b:Bool}(hc:ev σ c=some (.bool b))(hb:b=false)(hf:GY P n y Q σ ds w):GY P n (.cond c x y) Q σ ds w :=
 MH hc (λh=>by rw[h] at hb;cases hb) (λ_=>hf)
def lp(I:Nat→Bb→List Deferred→World→Prop)(k:Nat)(Q:AU):AU :=
 {q:=λe σ ds w=>match e with|.normal=>∃k' σ',k'<k∧Le σ' σ∧I k' σ' ds w|e=>Q.q e σ ds w,p:=Q.p}
theorem GV{k:Nat}(k':Nat)(σ':Bb)(hk:k'<k)(hl:Le σ' σ)(h:I k' σ' ds w):(lp I k Q).q .normal σ ds w:=⟨k',σ',hk,hl,h⟩
theorem Ww{k:Nat}(h:Q.q .ret σ ds w):(lp I k Q).q .ret σ ds w:=h
theorem Mn{k:Nat}(h:Q.q (.exit j) σ ds w):(lp I k Q).q (.exit j) σ ds w:=h
theorem DD{c:Code}(I:Nat→Bb→List Deferred→World→Prop)(k:Nat)(σ':Bb)(hl:Le σ' σ)(h0:I k σ' ds w)
   (round:∀k σ ds w,I k σ ds w→GY P n c (lp I k Q) σ ds w):GY P n (.loop c) Q σ ds w:=by
 intro a ha b kk cs
 have key:∀k a w σ' ds,St n σ' ds a→I k σ' ds w →
     ∃e a' w',Q.up n e a' w'∧Arrives P (lone (b.at a (.code c::.inLoop c::kk)) cs w) b kk cs e a' w':=by
   intro k
   induction k using Nat.strongRecOn with
   |_ k ih =>
     intro a w σ' ds hs hI;obtain⟨e,a₁,w₁,hq,harr⟩:=round k σ' ds w hI a hs b (.inLoop c::kk) cs
     cases e with
     |normal =>
       obtain⟨σ₁,ds₁,hs₁,k',σ₂,hk,hle,hI₁⟩:=hq;obtain⟨e₂,a₂,w₂,hq₂,harr₂⟩:=ih k' hk a₁ w₁ σ₂ ds₁ (hs₁.le hle) hI₁;exact⟨e₂,a₂,w₂,hq₂,.of_steps (Steps.trans harr (.one step_inLoop)) harr₂⟩
     |exit id=>exact⟨.exit id,a₁,w₁,hq,.pass (x:=.inLoop c) rfl (λ_ _=>.inl (by simp)) harr⟩
     |goto l=>exact⟨.goto l,a₁,w₁,hq,.pass (x:=.inLoop c) rfl (λ_ _=>.inl (by simp)) harr⟩
     |ret=>exact⟨.ret,a₁,w₁,hq,.pass (x:=.inLoop c) rfl (λ_ _=>.inl (by simp)) harr⟩
     |panic ch=>exact⟨.panic ch,a₁,w₁,hq,.pass (x:=.inLoop c) rfl (λ_ _=>.inl (by simp)) harr⟩
     |outgrown=>exact hq.elim
 obtain⟨e,a',w',hq,harr⟩:=key k a w σ' ds (ha.le hl) h0;exact⟨e,a',w',hq,.of_steps (.one step_loop) harr⟩
def AG(P:Program)(σ:Bb)(op:Op)(ty:TypeId)(w:World)(v:Value)(w':World):Prop :=
 ∀(ρ:Operand→Value) d pos af g,(∀x v,ev σ x=some v→ρ x=v)→(execOp ρ ⟨d,op,ty,pos,af,g⟩).run P w=.ok (.value v) w'
def fN(P:Program)(σ:Bb)(op:Op)(ty:TypeId)(w:World)(w':World):Prop :=
 ∀(ρ:Operand→Value) d pos af g,(∀x v,ev σ x=some v→ρ x=v)→(execOp ρ ⟨d,op,ty,pos,af,g⟩).run P w=.ok .skip w'
def Enters(P:Program)(σ:Bb)(op:Op)(ty:TypeId)(w:World)(f:FuncId)(args:Array Value):Prop :=
 ∀(ρ:Operand→Value) d pos af g,(∀x v,ev σ x=some v→ρ x=v)→(execOp ρ ⟨d,op,ty,pos,af,g⟩).run P w=.ok (.enter f args) w
def lO(P:Program)(σ:Bb)(op:Op)(ty:TypeId)(w:World)(v:Value)(w':World):Prop :=
 ∀(ρ:Operand→Value) d pos af g,(∀x v,ev σ x=some v→ρ x=v)→(execOp ρ ⟨d,op,ty,pos,af,g⟩).run P w=.halt (.panic v) w'
theorem Cz{l:List Oper}(h:GO P n l.toArray Q l σ ds w):GY P n (.region i l.toArray false) Q σ ds w:=λa ha=>wp_region_lit (h a ha)
variable{ops:Array Oper}{op:Op}{ty:TypeId}{pos:String}{af:Array Edge}{rest:List Oper}{d:Nat}
theorem Ae(h:Q.q .normal σ ds w):GO P n ops Q [] σ ds w:=λ_ ha=>wpList_nil ⟨σ,ds,ha,h⟩
theorem Ab{v:Value}(hd:Nat.blt d n=true)(hr:AG P σ op ty w v w')(h:GO P n ops Q rest (AA σ d v) ds w') :
   GO P n ops Q (⟨some d,op,ty,pos,af,none⟩::rest) σ ds w:=λa ha =>
 wpList_plain rfl λK hK=>by
   unfold Oper.wp;rw[hr a.eval _ _ _ _ ha.ev];exact hK _ _ (h _ (ha.put hd v))
theorem IA(hr:fN P σ op ty w w')(h:GO P n ops Q rest σ ds w') :
   GO P n ops Q (⟨none,op,ty,pos,af,none⟩::rest) σ ds w:=λa ha =>
 wpList_plain rfl λK hK=>by
   unfold Oper.wp;rw[hr a.eval _ _ _ _ ha.ev];exact hK _ _ (h _ ha)
theorem Cf{v:Value}(hr:lO P σ op ty w v w')(h:Q.p [{v,recovered:=false}] σ ds w') :
   GO P n ops Q (⟨dst,op,ty,pos,af,none⟩::rest) σ ds w:=λa ha =>
 wpList_plain rfl λK hK=>by
   unfold Oper.wp;rw[hr a.eval _ _ _ _ ha.ev];exact⟨σ,ds,ha,h⟩
def Bo(P:Program)(f:FuncId)(args:Array Value)(w:World)(R:Value→World→Prop):Prop :=
 Calls P f args w λe w'=>∃v,e=.returned v∧R v w'
def BB(P:Program)(f:FuncId)(args:Array Value)(w:World)(R:Value→World→Prop)(X:List PanicEntry→World→Prop):Prop :=
 Calls P f args w λe w'=>(∃v,e=.returned v∧R v w')∨∃c,e=.panicked c∧X c w'
theorem Bo.mono{f:FuncId}{R R':Value→World→Prop}(h:Bo P f args w R)(hr:∀v w',R v w'→R' v w'):Bo P f args w R' :=
 Calls.mono h λ_ _ ⟨v,he,hv⟩=>⟨v,he,hr _ _ hv⟩
theorem BB.mono{f:FuncId}{R R':Value→World→Prop}{X X':List PanicEntry→World→Prop}(h:BB P f args w R X)(hr:∀v w',R v w'→R' v w')
   (hx:∀c w',X c w'→X' c w'):BB P f args w R' X' :=
 Calls.mono h λ_ _ he=>he.imp (λ⟨v,he,hv⟩=>⟨v,he,hr _ _ hv⟩) (λ⟨c,he,hv⟩=>⟨c,he,hx _ _ hv⟩)
theorem Bo.retP{f:FuncId}{R:Value→World→Prop}{X:List PanicEntry→World→Prop}(h:Bo P f args w R):BB P f args w R X :=
 Calls.mono h λ_ _ he=>.inl he
theorem A4{f:FuncId}{R:Value→World→Prop}(hd:Nat.blt d n=true)(he:Enters P σ op ty w f args)(hc:Bo P f args w R)
   (h:∀v w',R v w'→GO P n ops Q rest (AA σ d v) ds w'):GO P n ops Q (⟨some d,op,ty,pos,af,none⟩::rest) σ ds w:=λa ha =>
 wpList_plain rfl λK hK=>by
   unfold Oper.wp;rw[he a.eval _ _ _ _ ha.ev];refine Calls.mono hc λe w' hr=>?_;obtain⟨v,rfl,hv⟩:=hr;exact hK _ _ (h v w' hv _ (ha.put hd v))
theorem BX{f:FuncId}{R:Value→World→Prop}{X:List PanicEntry→World→Prop}(hd:Nat.blt d n=true)(he:Enters P σ op ty w f args)
   (hc:BB P f args w R X) (h:∀v w',R v w'→GO P n ops Q rest (AA σ d v) ds w') (hx:∀c w',X c w'→Q.p c σ ds w') :
   GO P n ops Q (⟨some d,op,ty,pos,af,none⟩::rest) σ ds w:=λa ha =>
 wpList_plain rfl λK hK=>by
   unfold Oper.wp;rw[he a.eval _ _ _ _ ha.ev];refine Calls.mono hc λe w' hr=>?_;rcases hr with ⟨v,rfl,hv⟩|⟨c,rfl,hv⟩
   · exact hK _ _ (h v w' hv _ (ha.put hd v))
   · exact⟨σ,ds,ha,hx c w' hv⟩
theorem Gr{a:Act}{b:Bool}(ha:St n σ ds a)(hj:(ops[j]?).bind (·.dst)=some dj)(hv:σ dj=some (.bool b)) :
   Region.wanted ⟨dst,op,ty,pos,af,some (j,want)⟩ (yielded ops a.tmps)=(b==want):=by
 have h1:=ha.val dj _ hv
 have h2:a.tmps[dj]?=some (.bool b):=by
   rw[Array.getD_eq_getD_getElem?] at h1
   cases hx:a.tmps[dj]? with
   |none=>rw[hx] at h1;simp[undef] at h1
   |some u=>rw[hx] at h1;simpa using h1
 simp[Region.wanted,yielded,hj,h2]
theorem B7{b:Bool}(hj:(ops[j]?).bind (·.dst)=some dj)(hv:σ dj=some (.bool b))(hb:b=want)
   (h:GO P n ops Q (⟨dst,op,ty,pos,af,none⟩::rest) σ ds w):GO P n ops Q (⟨dst,op,ty,pos,af,some (j,want)⟩::rest) σ ds w:=λa ha=>by
 have h1:=h a ha;unfold wpList at h1 ⊢;rw[if_pos (by simp[Region.wanted])] at h1;rw[if_pos (by rw[Gr ha hj hv,hb];simp)];exact h1
theorem dL{b:Bool}(hd:Nat.blt d n=true)(hj:(ops[j]?).bind (·.dst)=some dj)(hv:σ dj=some (.bool b))(hb:b=!want)
   (h:GO P n ops Q rest (AA σ d undef) ds w):GO P n ops Q (⟨some d,op,ty,pos,af,some (j,want)⟩::rest) σ ds w:=λa ha=>by
 unfold wpList;rw[if_neg (by rw[Gr ha hj hv,hb];cases want <;> simp)];exact h _ (ha.put hd undef)
def SA(P:Program)(fn:Func)(σ:Bb)(w:World)(v:Value):Prop :=
 ∀tmps:Array Value,(∀t v,σ t=some v→tmps.getD t undef=v)→(results fn tmps).run P w=.ok v w
def Fg(P:Program)(fn:Func)(R:Value→World→Prop)(X:List PanicEntry→World→Prop):AU :=
 {q:=λe σ ds w=>match e with|.normal|.ret=>ds=[]∧∃v,SA P fn σ w v∧R v w|_=>False,p:=λc _ ds w=>ds=[]∧X c w}
def H5:List Value→Nat→Bb
 | [],_=>e0
 |v::l,k=>AA (H5 l (k+1)) k v
theorem MN:∀(l:List Value)(k t:Nat)(v:Value),H5 l k t=some v→k≤t∧l[t-k]?=some v
 | [],_,_,_,h=>by cases h
 |u::l,k,t,v,h=>by
   unfold H5 AA at h
   cases hb:Nat.beq t k with
   |true=>rw[hb] at h;have:=Nat.eq_of_beq_eq_true hb;subst this;simp at h;simp[h]
   |false =>
     rw[hb] at h;obtain⟨h1,h2⟩:=MN l (k+1) t v h;refine⟨oM,?_⟩;have:t-k=(t-(k+1))+1:=oM;rw[this];simpa using h2
theorem Jg(hn:Nat.ble l.length n=true):St n (H5 l 0) [] {tmps:=l.toArray++Array.replicate (n-l.toArray.size) undef,defers:=[]}:=by
 have hn':l.length≤n:=by simpa using hn
 refine⟨by simp;omega,rfl,λt v h=>?_⟩;obtain⟨_,h2⟩:=MN l 0 t v h
 have hlt:t<l.length:=by
   rcases Nat.lt_or_ge t l.length with h|h
   · exact h
   · simp[List.getElem?_eq_none h] at h2
 simp[Array.getElem?_append,hlt] at h2 ⊢;simpa[hlt] using h2
theorem HO{f:FuncId}{fn:Func}{c:Code}{R:Value→World→Prop}{X:List PanicEntry→World→Prop}(hf:P.funcs[f]?=some fn)(hb:fn.body=some c)
   (hn:fn.ntmps=n) (hl:Nat.ble l.length n=true) (h:GY P n c (Fg P fn R X) (H5 l 0) [] w):BB P f l.toArray w R X:=by
 refine calls_of_wp hf hb ?_;rw[hn];refine wp_mono (h _ (Jg hl)) λe a w' he=>?_
 cases e with
 |normal=>obtain⟨σ,ds,hs,hd,v,hv,hr⟩:=he;exact⟨by rw[hs.defs,hd],v,hv _ hs.val,.inl ⟨v,rfl,hr⟩⟩
 |ret=>obtain⟨σ,ds,hs,hd,v,hv,hr⟩:=he;exact⟨by rw[hs.defs,hd],v,hv _ hs.val,.inl ⟨v,rfl,hr⟩⟩
 |panic c=>obtain⟨σ,ds,hs,hd,hx⟩:=he;exact⟨by rw[hs.defs,hd],.inr ⟨c,rfl,hx⟩⟩
 |outgrown=>exact he.elim
 |exit i=>obtain⟨σ,ds,hs,hq⟩:=he;exact hq.elim
 |goto i=>obtain⟨σ,ds,hs,hq⟩:=he;exact hq.elim
theorem enter{f:FuncId}{fn:Func}{c:Code}{R:Value→World→Prop}(hf:P.funcs[f]?=some fn)(hb:fn.body=some c)
   (hn:fn.ntmps=n) (hl:Nat.ble l.length n=true) (h:GY P n c (Fg P fn R λ_ _=>False) (H5 l 0) [] w):Bo P f l.toArray w R :=
 Calls.mono (HO hf hb hn hl h) λ_ _ he=>he.elim id λ⟨_,_,h⟩=>h.elim
theorem FP{fn:Func}{R:Value→World→Prop}{X:List PanicEntry→World→Prop}{v:Value}(hv:SA P fn σ w v)(h:R v w):(Fg P fn R X).q .normal σ [] w:=⟨rfl,v,hv,h⟩
theorem Bm{fn:Func}{R:Value→World→Prop}{X:List PanicEntry→World→Prop}{v:Value}(hv:SA P fn σ w v)(h:R v w):(Fg P fn R X).q .ret σ [] w:=⟨rfl,v,hv,h⟩
def oF(tmps:Array Value):ResultVar→Sem Value
 |.tmp t=>pure (tmps.getD t undef)
 |.cell a t=>do loadVar t (← asAddr (tmps.getD a undef))
theorem GK(fn:Func)(tmps:Array Value):results fn tmps=(do let vs ← fn.results.mapM (oF tmps);pure (if h:vs.size=1 then vs[0] else .tuple vs)):=by
 unfold results
 congr
def Rv(P:Program)(σ:Bb)(w:World)(r:ResultVar)(v:Value):Prop :=
 ∀tmps:Array Value,(∀t v,σ t=some v→tmps.getD t undef=v)→(oF tmps r).run P w=.ok v w
theorem Ah{t:Nat}{v:Value}(hv:σ t=some v):Rv P σ w (.tmp t) v:=λtmps ht=>by simp only[oF,ht t v hv];rfl
theorem D1{fn:Func}(h:fn.results=#[]):SA P fn σ w (.tuple #[]):=λtmps _=>results_none h tmps P w
theorem A9{fn:Func}{r:ResultVar}{v:Value}(h:fn.results=#[r])(hv:Rv P σ w r v):SA P fn σ w v:=λtmps ht=>by
 have h1:=hv tmps ht;rw[GK,h,List.mapM_toArray];simp[h1]
theorem Cg{fn:Func}(h:fn.results=#[r1,r2])(h1:Rv P σ w r1 v1)(h2:Rv P σ w r2 v2):SA P fn σ w (.tuple #[v1,v2]):=λtmps ht=>by
 have g1:=h1 tmps ht;have g2:=h2 tmps ht;rw[GK,h,List.mapM_toArray];simp[g1,g2]
theorem D6{fn:Func}(h:fn.results=#[r1,r2,r3])(h1:Rv P σ w r1 v1)(h2:Rv P σ w r2 v2)(h3:Rv P σ w r3 v3):SA P fn σ w (.tuple #[v1,v2,v3]):=λtmps ht=>by
 have g1:=h1 tmps ht;have g2:=h2 tmps ht;have g3:=h3 tmps ht;rw[GK,h,List.mapM_toArray];simp[g1,g2,g3]
end
end Go.SW
namespace Go
open Go.RowKit
theorem aI{a b:Prop}(h:a)(k:b):a∧b:=⟨h,k⟩
@[reducible] def iV(n:Int):Value:=.int .i64 n
@[reducible] def pB(b:Nat):Value:=.pointer (some ⟨b,0,none⟩)
@[reducible] def zT:List Value:=[.int .i64 0,.int .i64 0,.string ⟨#[]⟩,.slice none 0 0]
@[reducible] def zN:List Value:=[.int .i64 0,.int .i64 0,.int .i64 0,.string ⟨#[]⟩,.int .i64 0,.slice none 0 0]
end Go
namespace Go.Proofs
open Go.Shelf
def Tryz.lays137_ren:Go.Shelf.Ren:=⟨λ|137=>75|217=>101|266=>125|n=>n,λ|9=>9|5=>5|3=>3|n=>n,λ|n=>n⟩
theorem Tryz.lays137:Go.Proofs.Lays.n137 prog Tryz.lays137_ren:={
 mixed:=kR
 f137:=func75.trans (congrArg some kR)
 f217:=func101.trans (congrArg some kR)
 f266:=func125.trans (congrArg some kR)
 t3:=underlying3
 a3:=isAgg3
 z3:=sizeOf3
 v3:=zeroValue3
 t5:=underlying5
 a5:=isAgg5
 z5:=sizeOf5
 v5:=zeroValue5
 t9:=underlying9
 a9:=isAgg9
 z9:=sizeOf9
 v9:=zeroValue9}
def Tryz.lays144_ren:Go.Shelf.Ren:=⟨λ|144=>57|143=>86|219=>115|217=>101|225=>137|224=>138|267=>139|266=>125|314=>160|n=>n,λ|9=>9|4=>4|3=>3|5=>5|46=>208|146=>251|51=>221|n=>n,λ|1=>2|n=>n⟩
theorem Tryz.lays144:Go.Proofs.Lays.n144 prog Tryz.lays144_ren:={
 mixed:=kR
 f143:=func86.trans (congrArg some kR)
 f144:=func57.trans (congrArg some kR)
 f217:=func101.trans (congrArg some kR)
 f219:=func115.trans (congrArg some kR)
 f224:=func138.trans (congrArg some kR)
 f225:=func137.trans (congrArg some kR)
 f266:=func125.trans (congrArg some kR)
 f267:=func139.trans (congrArg some kR)
 f314:=func160.trans (congrArg some kR)
 t3:=underlying3
 a3:=isAgg3
 z3:=sizeOf3
 v3:=zeroValue3
 t4:=underlying4
 a4:=isAgg4
 z4:=sizeOf4
 v4:=zeroValue4
 t5:=underlying5
 a5:=isAgg5
 z5:=sizeOf5
 v5:=zeroValue5
 t9:=underlying9
 a9:=isAgg9
 z9:=sizeOf9
 v9:=zeroValue9
 t46:=underlying208
 a46:=isAgg208
 z46:=sizeOf208
 v46:=zeroValue208
 t51:=underlying221
 a51:=isAgg221
 z51:=sizeOf221
 v51:=zeroValue221
 t146:=underlying251
 a146:=isAgg251
 z146:=sizeOf251
 v146:=zeroValue251
 g1:=by kernel_rfl}
def Tryz.lays145_ren:Go.Shelf.Ren:=⟨λ|145=>128|220=>146|219=>115|217=>101|225=>137|224=>138|267=>139|266=>125|314=>160|n=>n,λ|9=>9|4=>4|59=>211|3=>3|5=>5|46=>208|146=>251|51=>221|n=>n,λ|1=>2|n=>n⟩
theorem Tryz.lays145:Go.Proofs.Lays.n145 prog Tryz.lays145_ren:={
 mixed:=kR
 f145:=func128.trans (congrArg some kR)
 f217:=func101.trans (congrArg some kR)
 f219:=func115.trans (congrArg some kR)
 f220:=func146.trans (congrArg some kR)
 f224:=func138.trans (congrArg some kR)
 f225:=func137.trans (congrArg some kR)
 f266:=func125.trans (congrArg some kR)
 f267:=func139.trans (congrArg some kR)
 f314:=func160.trans (congrArg some kR)
 t3:=underlying3
 a3:=isAgg3
 z3:=sizeOf3
 v3:=zeroValue3
 t4:=underlying4
 a4:=isAgg4
 z4:=sizeOf4
 v4:=zeroValue4
 t5:=underlying5
 a5:=isAgg5
 z5:=sizeOf5
 v5:=zeroValue5
 t9:=underlying9
 a9:=isAgg9
 z9:=sizeOf9
 v9:=zeroValue9
 t46:=underlying208
 a46:=isAgg208
 z46:=sizeOf208
 v46:=zeroValue208
 t51:=underlying221
 a51:=isAgg221
 z51:=sizeOf221
 v51:=zeroValue221
 t59:=underlying211
 a59:=isAgg211
 z59:=sizeOf211
 v59:=zeroValue211
 t146:=underlying251
 a146:=isAgg251
 z146:=sizeOf251
 v146:=zeroValue251
 g1:=by kernel_rfl}
def Tryz.lays101_ren:Go.Shelf.Ren:=⟨λ|101=>106|208=>131|206=>150|n=>n,λ|9=>9|4=>4|3=>3|n=>n,λ|n=>n⟩
theorem Tryz.lays101:Go.Proofs.Lays.n101 prog Tryz.lays101_ren:={
 mixed:=kR
 f101:=func106.trans (congrArg some kR)
 f206:=func150.trans (congrArg some kR)
 f208:=func131.trans (congrArg some kR)
 t3:=underlying3
 a3:=isAgg3
 z3:=sizeOf3
 v3:=zeroValue3
 t4:=underlying4
 a4:=isAgg4
 z4:=sizeOf4
 v4:=zeroValue4
 t9:=underlying9
 a9:=isAgg9
 z9:=sizeOf9
 v9:=zeroValue9}
def Tryz.lays160_ren:Go.Shelf.Ren:=⟨λ|160=>132|232=>152|231=>151|227=>153|234=>155|233=>154|236=>157|235=>156|228=>171|271=>174|151=>173|197=>172|120=>188|152=>187|260=>186|137=>75|119=>204|224=>138|225=>137|217=>101|266=>125|n=>n,λ|9=>9|4=>4|3=>3|5=>5|117=>236|116=>235|0=>0|124=>239|21=>21|105=>267|46=>208|119=>196|139=>317|138=>316|n=>n,λ|3=>10|4=>11|n=>n⟩
theorem Tryz.lays160:Go.Proofs.Lays.n160 prog Tryz.lays160_ren:={
 mixed:=kR
 f119:=func204.trans (congrArg some kR)
 f120:=func188.trans (congrArg some kR)
 f137:=func75.trans (congrArg some kR)
 f151:=func173.trans (congrArg some kR)
 f152:=func187.trans (congrArg some kR)
 f160:=func132.trans (congrArg some kR)
 f197:=func172.trans (congrArg some kR)
 f217:=func101.trans (congrArg some kR)
 f224:=func138.trans (congrArg some kR)
 f225:=func137.trans (congrArg some kR)
 f227:=func153.trans (congrArg some kR)
 f228:=func171.trans (congrArg some kR)
 f231:=func151.trans (congrArg some kR)
 f232:=func152.trans (congrArg some kR)
 f233:=func154.trans (congrArg some kR)
 f234:=func155.trans (congrArg some kR)
 f235:=func156.trans (congrArg some kR)
 f236:=func157.trans (congrArg some kR)
 f260:=func186.trans (congrArg some kR)
 f266:=func125.trans (congrArg some kR)
 f271:=func174.trans (congrArg some kR)
 t0:=underlying0
 a0:=isAgg0
 z0:=sizeOf0
 v0:=zeroValue0
 t3:=underlying3
 a3:=isAgg3
 z3:=sizeOf3
 v3:=zeroValue3
 t4:=underlying4
 a4:=isAgg4
 z4:=sizeOf4
 v4:=zeroValue4
 t5:=underlying5
 a5:=isAgg5
 z5:=sizeOf5
 v5:=zeroValue5
 t9:=underlying9
 a9:=isAgg9
 z9:=sizeOf9
 v9:=zeroValue9
 t21:=underlying21
 a21:=isAgg21
 z21:=sizeOf21
 v21:=zeroValue21
 t46:=underlying208
 a46:=isAgg208
 z46:=sizeOf208
 v46:=zeroValue208
 t105:=underlying267
 a105:=isAgg267
 z105:=sizeOf267
 v105:=zeroValue267
 t116:=underlying235
 a116:=isAgg235
 z116:=sizeOf235
 t117:=underlying236
 a117:=isAgg236
 z117:=sizeOf236
 v117:=zeroValue236
 t119:=underlying196
 a119:=isAgg196
 z119:=sizeOf196
 t124:=underlying239
 a124:=isAgg239
 z124:=sizeOf239
 v124:=zeroValue239
 t138:=underlying316
 a138:=isAgg316
 z138:=sizeOf316
 v138:=zeroValue316
 t139:=underlying317
 a139:=isAgg317
 z139:=sizeOf317
 v139:=zeroValue317
 g3:=kR
 g4:=by kernel_rfl}
def Tryz.lays245_ren:Go.Shelf.Ren:=⟨λ|245=>145|279=>166|280=>167|281=>168|282=>169|316=>182|171=>95|205=>183|243=>120|246=>141|283=>161|284=>162|285=>163|286=>164|129=>176|317=>175|318=>177|319=>178|320=>179|337=>189|338=>190|n=>n,λ|9=>9|3=>3|75=>184|167=>258|4=>4|168=>261|210=>280|37=>44|0=>0|127=>207|145=>290|143=>288|2=>2|171=>253|53=>43|5=>5|173=>256|212=>273|51=>221|20=>20|213=>274|46=>208|232=>318|233=>319|80=>187|n=>n,λ|15=>5|16=>6|17=>4|18=>12|19=>13|n=>n⟩
theorem Tryz.lays245:Go.Proofs.LaysC.n245 prog Tryz.lays245_ren:={
 mixed:=kR
 f129:=func176.trans (congrArg some kR)
 f171:=func95.trans (congrArg some kR)
 f205:=func183.trans (congrArg some kR)
 f243:=func120.trans (congrArg some kR)
 f245:=func145.trans (congrArg some kR)
 f246:=func141.trans (congrArg some kR)
 f279:=func166.trans (congrArg some kR)
 f280:=func167.trans (congrArg some kR)
 f281:=func168.trans (congrArg some kR)
 f282:=func169.trans (congrArg some kR)
 f283:=func161.trans (congrArg some kR)
 f284:=func162.trans (congrArg some kR)
 f285:=func163.trans (congrArg some kR)
 f286:=func164.trans (congrArg some kR)
 f316:=func182.trans (congrArg some kR)
 f317:=func175.trans (congrArg some kR)
 f318:=func177.trans (congrArg some kR)
 f319:=func178.trans (congrArg some kR)
 f320:=func179.trans (congrArg some kR)
 f337:=func189.trans (congrArg some kR)
 f338:=func190.trans (congrArg some kR)
 t0:=underlying0
 a0:=isAgg0
 z0:=sizeOf0
 v0:=zeroValue0
 t2:=underlying2
 a2:=isAgg2
 z2:=sizeOf2
 v2:=zeroValue2
 t3:=underlying3
 a3:=isAgg3
 z3:=sizeOf3
 v3:=zeroValue3
 t4:=underlying4
 a4:=isAgg4
 z4:=sizeOf4
 v4:=zeroValue4
 t5:=underlying5
 a5:=isAgg5
 z5:=sizeOf5
 v5:=zeroValue5
 t9:=underlying9
 a9:=isAgg9
 z9:=sizeOf9
 v9:=zeroValue9
 t20:=underlying20
 a20:=isAgg20
 z20:=sizeOf20
 v20:=zeroValue20
 t37:=underlying44
 a37:=isAgg44
 z37:=sizeOf44
 v37:=zeroValue44
 t46:=underlying208
 a46:=isAgg208
 z46:=sizeOf208
 v46:=zeroValue208
 t51:=underlying221
 a51:=isAgg221
 z51:=sizeOf221
 v51:=zeroValue221
 t53:=underlying43
 a53:=isAgg43
 z53:=sizeOf43
 v53:=zeroValue43
 t75:=underlying184
 a75:=isAgg184
 z75:=sizeOf184
 v75:=zeroValue184
 t127:=underlying207
 a127:=isAgg207
 z127:=sizeOf207
 v127:=zeroValue207
 t143:=underlying288
 a143:=isAgg288
 z143:=sizeOf288
 v143:=zeroValue288
 t145:=underlying290
 a145:=isAgg290
 z145:=sizeOf290
 v145:=zeroValue290
 t167:=underlying258
 a167:=isAgg258
 z167:=sizeOf258
 v167:=zeroValue258
 t168:=underlying261
 a168:=isAgg261
 z168:=sizeOf261
 v168:=zeroValue261
 t171:=underlying253
 a171:=isAgg253
 z171:=sizeOf253
 v171:=zeroValue253
 t173:=underlying256
 a173:=isAgg256
 z173:=sizeOf256
 v173:=zeroValue256
 t210:=underlying280
 a210:=isAgg280
 z210:=sizeOf280
 v210:=zeroValue280
 t212:=underlying273
 a212:=isAgg273
 z212:=sizeOf273
 v212:=zeroValue273
 t213:=underlying274
 a213:=isAgg274
 z213:=sizeOf274
 t232:=underlying318
 a232:=isAgg318
 z232:=sizeOf318
 v232:=zeroValue318
 t233:=underlying319
 a233:=isAgg319
 z233:=sizeOf319
 v233:=zeroValue319
 g15:=kR
 g16:=kR
 g17:=kR
 g18:=kR
 g19:=kR
 t80:=underlying187
 a80:=isAgg187
 z80:=sizeOf187
 v80:=zeroValue187
 i0:=kR
 i2:=kR
 i3:=kR
 i4:=kR
 i5:=kR
 i9:=kR
 i20:=kR
 i37:=kR
 i46:=kR
 i51:=kR
 i53:=kR
 i75:=kR
 i80:=kR
 i127:=kR
 i143:=kR
 i145:=kR
 i167:=kR
 i168:=kR
 i171:=kR
 i173:=kR
 i210:=kR
 i212:=kR
 i232:=kR
 i233:=kR
 m15:=kR
 m16:=kR
 m17:=kR
 m18:=kR
 m19:=kR
 c0:=kR
 c2:=kR
 c3:=kR
 c4:=kR
 c5:=kR
 c9:=kR
 c20:=kR
 c37:=kR
 c46:=kR
 c51:=kR
 c53:=kR
 c75:=kR
 c80:=kR
 c127:=kR
 c143:=kR
 c145:=kR
 c167:=kR
 c168:=kR
 c171:=kR
 c173:=kR
 c210:=kR
 c212:=kR
 c213:=kR
 c232:=kR
 c233:=by kernel_rfl}
end Go.Proofs
namespace Go.SW
open Go.RowKit
abbrev S(l:lU):Value:=.string ⟨l.toArray⟩
theorem OH(l:lU):(⟨l.toArray⟩:ByteArray).toList=l:=by
 rw[ByteArray.toList_eq]
theorem EU{b:Bool}(h:(!b)=true):b=false:=by simpa using h
theorem Fj{b:Bool}(h:(!b)=false):b=true:=by simpa using h
section
variable{P:Program}{σ:Bb}{w:World}{ty:TypeId}{x y c:Operand}
theorem Ay{v:Value}(h:ev σ x=some v):AG P σ (.move x) ty w v w:=λρ _ _ _ _ hρ=>by simp[execOp,hρ _ _ h]
theorem CK{v:Value}(h:ev σ x=some v):AG P σ (.assign x) ty w v w:=λρ _ _ _ _ hρ=>by simp[execOp,hρ _ _ h]
theorem Np{v:Value}{b:Bool}(hc:ev σ c=some (.bool b))(hb:b=true)(h:ev σ x=some v):AG P σ (.pick c x y) ty w v w:=λρ _ _ _ _ hρ=>by
 simp[execOp,hρ _ _ hc,hρ _ _ h,asBool,hb]
theorem ME{v:Value}{b:Bool}(hc:ev σ c=some (.bool b))(hb:b=false)(h:ev σ y=some v):AG P σ (.pick c x y) ty w v w:=λρ _ _ _ _ hρ=>by
 simp[execOp,hρ _ _ hc,hρ _ _ h,asBool,hb]
variable {t t':TypeId}
theorem Uk{b:Bool}(h:ev σ x=some (.bool b)):AG P σ (.unOp .not t x) ty w (.bool (!b)) w:=λρ _ _ _ _ hρ=>by
 simp[execOp,hρ _ _ h,Op.unary]
theorem kX{k:IntKind}{a b:Int}(hx:ev σ x=some (.int k a))(hy:ev σ y=some (.int k b)):AG P σ (.binOp .eql t x y t') ty w (.bool (a==b)) w :=
 λρ _ _ _ _ hρ=>by simp[execOp,hρ _ _ hx,hρ _ _ hy,eqGuard,binOp,Op.intCmp]
theorem YU{k:IntKind}{a b:Int}(hx:ev σ x=some (.int k a))(hy:ev σ y=some (.int k b)):AG P σ (.binOp .neq t x y t') ty w (.bool (a != b)) w :=
 λρ _ _ _ _ hρ=>by simp[execOp,hρ _ _ hx,hρ _ _ hy,eqGuard,binOp,Op.intCmp]
theorem T0{k:IntKind}{a b:Int}(hx:ev σ x=some (.int k a))(hy:ev σ y=some (.int k b)):AG P σ (.binOp .lss t x y t') ty w (.bool (decide (a<b))) w :=
 λρ _ _ _ _ hρ=>by simp[execOp,hρ _ _ hx,hρ _ _ hy,eqGuard,binOp,Op.intCmp]
theorem Xb{k:IntKind}{a b:Int}(hx:ev σ x=some (.int k a))(hy:ev σ y=some (.int k b)):AG P σ (.binOp .leq t x y t') ty w (.bool (decide (a≤b))) w :=
 λρ _ _ _ _ hρ=>by simp[execOp,hρ _ _ hx,hρ _ _ hy,eqGuard,binOp,Op.intCmp]
theorem Y5{k:IntKind}{a b:Int}(hx:ev σ x=some (.int k a))(hy:ev σ y=some (.int k b)):AG P σ (.binOp .gtr t x y t') ty w (.bool (decide (b<a))) w :=
 λρ _ _ _ _ hρ=>by simp[execOp,hρ _ _ hx,hρ _ _ hy,eqGuard,binOp,Op.intCmp]
theorem Xu{k:IntKind}{a b:Int}(hx:ev σ x=some (.int k a))(hy:ev σ y=some (.int k b)):AG P σ (.binOp .geq t x y t') ty w (.bool (decide (b≤a))) w :=
 λρ _ _ _ _ hρ=>by simp[execOp,hρ _ _ hx,hρ _ _ hy,eqGuard,binOp,Op.intCmp]
def P3(n:Int):Prop := -9223372036854775808≤n∧n≤9223372036854775807
theorem LQ{n:Int}(h:P3 n):IntKind.i64.wrap n=n:=IntWalk.i64_in _ ⟨h.1,by have:=h.2;omega⟩
theorem Mt{a b:Int}(hx:ev σ x=some (.int .i64 a))(hy:ev σ y=some (.int .i64 b))(h:P3 (a+b)):AG P σ (.binOp .add t x y t') ty w (.int .i64 (a+b)) w :=
 λρ _ _ _ _ hρ=>by simp[execOp,hρ _ _ hx,hρ _ _ hy,eqGuard,binOp,Op.intArith,LQ h]
theorem GL{a b:Int}(hx:ev σ x=some (.int .i64 a))(hy:ev σ y=some (.int .i64 b))(h:P3 (a-b)):AG P σ (.binOp .sub t x y t') ty w (.int .i64 (a-b)) w :=
 λρ _ _ _ _ hρ=>by simp[execOp,hρ _ _ hx,hρ _ _ hy,eqGuard,binOp,Op.intArith,LQ h]
theorem kE{a b:lU}(hx:ev σ x=some (S a))(hy:ev σ y=some (S b)):AG P σ (.binOp .eql t x y t') ty w (.bool (a==b)) w :=
 λρ _ _ _ _ hρ=>by simp[execOp,hρ _ _ hx,hρ _ _ hy,eqGuard,binOp,Op.stringOp]
theorem lK{a b:lU}(hx:ev σ x=some (S a))(hy:ev σ y=some (S b)):AG P σ (.binOp .neq t x y t') ty w (.bool (!(a==b))) w :=
 λρ _ _ _ _ hρ=>by simp[execOp,hρ _ _ hx,hρ _ _ hy,eqGuard,binOp,Op.stringOp]
theorem Jt{a b:lU}(hx:ev σ x=some (S a))(hy:ev σ y=some (S b))(h:a.length+b.length≤9223372036854775807) :
   AG P σ (.binOp .add t x y t') ty w (S (a++b)) w:=λρ _ _ _ _ hρ=>by
 have h1:¬(((⟨a.toArray⟩:ByteArray).size+(⟨b.toArray⟩:ByteArray).size:Nat):Int)>IntKind.i64.max:=by
   have hm:IntKind.i64.max=9223372036854775807:=dC;rw[hm];simp[ByteArray.size];omega
 have h2:((⟨a.toArray⟩:ByteArray)++⟨b.toArray⟩)=⟨(a++b).toArray⟩:=by
   apply ByteArray.ext;simp
 simp only[execOp,hρ _ _ hx,hρ _ _ hy,eqGuard,binOp,Op.stringOp,h1,h2];simp
end
def AN(P:Program)(T:TypeId):Option (Bool×Nat) :=
 match P.underlying T,P.info? T with
 |some d,some i=>some (match d with|.struct _|.array _ _=>true|_=>false,i.size)
 |_,_=>none
def EI(P:Program)(T:TypeId)(i:Nat):Option Nat :=
 match P.underlying T with
 |some (.struct fs)=>match fs[i]? with
   |some f=>match P.info? f.type with
     |some j=>if j.size=0 then none else some f.offset
     |none=>none
   |none=>none
 |_=>none
def Ip(P:Program)(T:TypeId):Option (TypeId×Nat) :=
 match P.underlying T with
 |some (.slice e)=>(P.info? e).map λj=>(e,j.size)
 |_=>none
def GQ(P:Program)(T:TypeId):Option (List Value):=match P.info? T with|some i=>i.zero.map λv=>v.cells.toList|none=>none
def AI(w:World)(b:Nat)(l:List Value)(T:TypeId):Prop:=w.heap[b]?=some (.cells l.toArray T (0,0))
abbrev AS(w w':World):Prop:=Below w.heap.size w w'
structure FZ(b:Nat)(w w':World):Prop where
 os:w'.os=w.os
 tape:w'.tape=w.tape
 output:w'.output=w.output
 size:w'.heap.size=w.heap.size
 block:∀k,k≠b→w'.heap[k]?=w.heap[k]?
theorem AS.refl(w:World):AS w w:=Below.refl _ _
variable {kk:IntKind}{pl:List (Nat×Nat)}{parts:List (Nat×Operand)}{vs z:List Value}{i n o:Nat}{hi lo:Operand}{ρ:Operand→Value}{a:Option Addr}{e:TypeId}{w' w1 w2:World}
theorem AS.trans{w:World}(h:AS w w1)(h2:AS w1 w2):AS w w2:=Below.trans h (h2.mono h.size)
theorem AS.drew{w:World}:AS w w.drew:=Below.drew (Below.refl _ _)
theorem AI.lt{w:World}{b:Nat}{l:List Value}{T:TypeId}(h:AI w b l T):b<w.heap.size:=by
 rcases Nat.lt_or_ge b w.heap.size with h' | h'
 · exact h'
 · unfold AI at h;rw[Array.getElem?_eq_none h'] at h;cases h
theorem AI.ext{w:World}{b:Nat}{l:List Value}{T:TypeId}(h:AI w b l T)(he:AS w w'):AI w' b l T:=(he.block b h.lt).trans h
theorem AI.chg{w:World}{b c:Nat}{l:List Value}{T:TypeId}(h:AI w b l T)(he:FZ c w w')(hne:b≠c):AI w' b l T:=(he.block b hne).trans h
theorem AS.chg{w:World}{b:Nat}(h:AS w w1)(hc:FZ b w1 w2)(hb:w.heap.size≤b):AS w w2 :=
 ⟨hc.os.trans h.os,hc.tape.trans h.tape,hc.output.trans h.output,by rw[hc.size];exact h.size,λk hk=>(hc.block k oM).trans (h.block k hk)⟩
theorem AI.cell{w:World}{b:Nat}{l:List Value}{T:TypeId}(h:AI w b l T)(o:Nat):w.cell? ⟨b,o,none⟩=l[o]?:=by
 unfold AI at h;simp[World.cell?,h]
section
variable{P:Program}{w:World}
theorem Et{T:TypeId}{a:Bool}(h:AN P T=some (a,n)):(isAgg T).run P w=.ok a w:=by
 unfold AN at h
 cases hu:P.underlying T with
 |none=>rw[hu] at h;cases h
 |some d =>
   cases hi:P.info? T with
   |none=>rw[hu,hi] at h;cases h
   |some i =>
     rw[hu,hi] at h
     cases d <;> simp_all [isAgg,run_underlying hu]
theorem HS{T:TypeId}{a:Bool}(h:AN P T=some (a,n)):(sizeOf T).run P w=.ok n w:=by
 unfold AN at h
 cases hu:P.underlying T with
 |none=>rw[hu] at h;cases h
 |some d =>
   cases hi:P.info? T with
   |none=>rw[hu,hi] at h;cases h
   |some i =>
     rw[hu,hi] at h;have ha:i.size=n:=by injection h with h;exact (Prod.mk.inj h).2
     simp[sizeOf,typeInfo,hi,ha]
def Q8:Nat→List Value→Option (List Value)
 |0,_=>some []
 |_+1,[]=>none
 |k+1,v::l=>match Q8 k l with
   |some r=>some (v::r)
   |none=>none
def Sx:List Value→Nat→Nat→Option (List Value)
 |l,0,k=>Q8 k l
 | [],_+1,_=>none
 |_::l,o+1,k=>Sx l o k
theorem Nu:∀{k:Nat}{l vs:List Value},Q8 k l=some vs→l.take k=vs∧vs.length=k
 |0,_,_,h=>by injection h with h;subst h;simp
 |_+1,[],_,h=>by cases h
 |k+1,v::l,vs,h=>by
   unfold Q8 at h
   cases hr:Q8 k l with
   |none=>rw[hr] at h;cases h
   |some r =>
     rw[hr] at h;injection h with h
     subst h;have:=Nu hr;simp[this.1,this.2]
theorem KC:∀{l:List Value}{o k:Nat}{vs:List Value},Sx l o k=some vs→(l.drop o).take k=vs∧vs.length=k
 |l,0,k,vs,h=>by unfold Sx at h;simpa using Nu h
 | [],_+1,_,_,h=>by cases h
 |_::l,o+1,k,vs,h=>by unfold Sx at h;simpa using KC (l:=l) h
def Hl:Value→Option (List Value)
 |.agg ⟨l⟩=>some l
 |v=>some [v]
theorem Ed(b o k:Nat):(⟨b,o,none⟩:Addr).add k=⟨b,o+k,none⟩:=by unfold Addr.add;split <;> simp_all
variable{σ:Bb}{ty T T':TypeId}{x y:Operand}{b off k:Nat}{l:List Value}
theorem Ai{v:Value}(hx:ev σ x=some (.pointer (some ⟨b,off,none⟩)))(hT:AN P T=some (false,k))(hb:AI w b l T')(hv:l[off]?=some v) :
   AG P σ (.load T x) ty w v w:=λρ _ _ _ _ hρ=>by
 have hc:w.cell? ⟨b,off,none⟩=some v:=by rw[hb.cell,hv]
 simp[execOp,hρ _ _ hx,Instr.loadAt,Instr.sureAddr,loadVar,Et hT,run_load,hc]
theorem CT(hx:ev σ x=some (.pointer (some ⟨b,off,none⟩)))(hT:AN P T=some (true,k))(hb:AI w b l T')(hv':Sx l off k=some vs) :
   AG P σ (.load T x) ty w (.agg vs.toArray) w:=λρ _ _ _ _ hρ=>by
 obtain⟨hv,hk'⟩:=KC hv'
 have hc:=run_loadCells_list (P:=P) w ⟨b,off,none⟩ vs (λj v hj=>by
   rw[Ed,hb.cell];rw[← hv] at hj
   have hlt:j<k:=by
     rcases Nat.lt_or_ge j k with h|h
     · exact h
     · rw[List.getElem?_take,if_neg (by omega)] at hj;cases hj
   rwa[List.getElem?_take,if_pos hlt,List.getElem?_drop] at hj)
 rw[hk'] at hc;simp[execOp,hρ _ _ hx,Instr.loadAt,Instr.sureAddr,loadVar,Et hT,HS hT,hc]
theorem B9(hx:ev σ x=some (.pointer (some ⟨b,off,none⟩)))(hf:EI P T i=some o):AG P σ (.fieldAddr T x i) ty w (.pointer (some ⟨b,off+o,none⟩)) w:=λρ _ _ _ _ hρ=>by
 unfold EI at hf
 split at hf
 · rename_i fs hu
   split at hf
   · rename_i f hfs
     split at hf
     · rename_i j hj
       split at hf
       · cases hf
       · rename_i hz
         injection hf with hf
         subst hf;simp[execOp,hρ _ _ hx,Instr.fieldAt,run_underlying hu,hfs,Instr.sureAddr,fieldPlace,sizeOf,typeInfo,hj,hz,Ed]
     · cases hf
   · cases hf
 · cases hf
theorem G6(h:Ip P T=some (e,k)):∃i,P.underlying T=some (.slice e)∧P.info? e=some i∧i.size=k:=by
 unfold Ip at h
 split at h
 · rename_i e' hu
   cases hj:P.info? e' with
   |none=>rw[hj] at h;cases h
   |some j =>
     rw[hj] at h;simp at h;obtain⟨rfl,h2⟩:=h;exact⟨j,hu,hj,h2⟩
 · cases h
theorem NG{i:Int}{len cap:Nat}(hx:ev σ x=some (.slice (some ⟨b,off,none⟩) len cap))(hy:ev σ y=some (.int kk i))(hs:Ip P T=some (e,k))
   (hi:0≤i∧i<len):AG P σ (.indexAddr T x y) ty w (.pointer (some ⟨b,off+i.toNat*k,none⟩)) w:=λρ _ _ _ _ hρ=>by
 obtain⟨j,hu,hj,rfl⟩:=G6 hs;simp[execOp,hρ _ _ hx,hρ _ _ hy,Instr.indexAt,asIntOf,run_underlying hu,hi,sizeOf,typeInfo,hj,Ed]
theorem JJ{len cap:Nat}(hx:ev σ x=some (.slice (some ⟨b,off,none⟩) len cap))(hy:ev σ y=some (.int kk (i:Int)))(hs:Ip P T=some (e,k))
   (hi:i<len):AG P σ (.indexAddr T x y) ty w (.pointer (some ⟨b,off+i*k,none⟩)) w:=by
 have:=NG (w:=w) (ty:=ty) hx hy hs ⟨oM,oM⟩;simpa using this
theorem S8{v:Value}(hx:ev σ x=some (.tuple vs.toArray))(hv:vs[i]?=some v):AG P σ (.extract x i) ty w v w:=λρ _ _ _ _ hρ=>by
 simp[execOp,hρ _ _ hx,Instr.extract,hv]
def Ik(σ:Bb):List Operand→Option (List Value)
 | []=>some []
 |x::l=>match ev σ x,Ik σ l with
   |some v,some vs=>some (v::vs)
   |_,_=>none
theorem Ej(hρ:∀x v,ev σ x=some v→ρ x=v):∀{l:List Operand}{vs:List Value},Ik σ l=some vs→l.map ρ=vs
 | [],_,h=>by injection h with h
 |x::l,vs,h=>by
   unfold Ik at h
   cases hx:ev σ x with
   |none=>rw[hx] at h;cases h
   |some v =>
     cases hl:Ik σ l with
     |none=>rw[hx,hl] at h;cases h
     |some us =>
       rw[hx,hl] at h;injection h with h
       subst h;simp[hρ x v hx,Ej hρ hl]
theorem Ld{cap:Nat}(hx:ev σ x=some (.slice a n cap))(hs:Ip P T=some (e,k)) :
   AG P σ (.call {callee:=.builtin .len,args:=#[x],argTypes:=#[T]}) ty w (.int .i64 n) w:=λρ _ _ _ _ hρ=>by
 obtain⟨j,hu,hj,rfl⟩:=G6 hs;simp[execOp,resolve,invoke,builtin,hρ _ _ hx,Builtin.len_,run_underlying hu,goInt]
theorem LM{s:lU}(hx:ev σ x=some (S s))(hs:P.underlying T=some .string) :
   AG P σ (.call {callee:=.builtin .len,args:=#[x],argTypes:=#[T]}) ty w (.int .i64 s.length) w:=λρ _ _ _ _ hρ=>by
 have hsz:(⟨s.toArray⟩:ByteArray).size=s.length:=by simp[ByteArray.size]
 simp[execOp,resolve,invoke,builtin,hρ _ _ hx,Builtin.len_,run_underlying hs,goInt,hsz]
theorem Dd{s:lU}{i:Int}{c:UInt8}(hx:ev σ x=some (S s))(hy:ev σ y=some (.int kk i))(hs:P.underlying T=some .string)(h0:0≤i)
   (hc:s[i.toNat]?=some c):AG P σ (.index T x y) ty w (.int .u8 c.toNat) w:=λρ _ _ _ _ hρ=>by
 have hlt:i.toNat<s.length:=by
   rcases Nat.lt_or_ge i.toNat s.length with h|h
   · exact h
   · rw[List.getElem?_eq_none h] at hc;cases hc
 have h2:(⟨s.toArray⟩:ByteArray)[i.toNat]?=some c:=by
   have h3:i.toNat<(⟨s.toArray⟩:ByteArray).size:=by simpa[ByteArray.size] using hlt
   rw[getElem?_pos (⟨s.toArray⟩:ByteArray) i.toNat h3];rw[List.getElem?_eq_getElem hlt] at hc;exact hc
 simp[execOp,hρ _ _ hx,hρ _ _ hy,Instr.index,asIntOf,run_underlying hs,h0,h2]
theorem JQ(s:lU)(i j:Nat):(⟨s.toArray⟩:ByteArray).extract i j=⟨((s.take j).drop i).toArray⟩:=by
 apply ByteArray.ext;simp[ByteArray.data_extract,List.extract_eq_take_drop,List.drop_take]
theorem Lg{s:lU}{k1 k2:IntKind}{i j:Int}(hx:ev σ x=some (S s))(hlo:ev σ lo=some (.int k1 i))(hhi:ev σ hi=some (.int k2 j))(hs:P.underlying T=some .string)
   (h:0≤i∧i≤j∧j≤s.length):AG P σ (.slice T x (some lo) (some hi) none) ty w (S ((s.take j.toNat).drop i.toNat)) w:=λρ _ _ _ _ hρ=>by
 have hsz:(⟨s.toArray⟩:ByteArray).size=s.length:=by simp[ByteArray.size]
 have hj:0≤j:=oM;simp[execOp,hρ _ _ hx,hρ _ _ hlo,hρ _ _ hhi,Instr.sliceAt,Instr.slice,Instr.sliceBounds,Instr.sliceBound,asIntOf,run_underlying hs,hsz,h,hj,JQ];intro hm;omega
theorem TB{s:lU}{k1:IntKind}{i:Int}(hx:ev σ x=some (S s))(hlo:ev σ lo=some (.int k1 i))(hs:P.underlying T=some .string)
   (h:0≤i∧i≤s.length):AG P σ (.slice T x (some lo) none none) ty w (S (s.drop i.toNat)) w:=λρ _ _ _ _ hρ=>by
 have hsz:(⟨s.toArray⟩:ByteArray).size=s.length:=by simp[ByteArray.size]
 simp[execOp,hρ _ _ hx,hρ _ _ hlo,Instr.sliceAt,Instr.slice,Instr.sliceBounds,Instr.sliceBound,asIntOf,run_underlying hs,hsz,h,JQ]
theorem Hs{s:lU}{k1:IntKind}{j:Int}(hx:ev σ x=some (S s))(hhi:ev σ hi=some (.int k1 j))(hs:P.underlying T=some .string)
   (h:0≤j∧j≤s.length):AG P σ (.slice T x none (some hi) none) ty w (S (s.take j.toNat)) w:=λρ _ _ _ _ hρ=>by
 have hsz:(⟨s.toArray⟩:ByteArray).size=s.length:=by simp[ByteArray.size]
 simp[execOp,hρ _ _ hx,hρ _ _ hhi,Instr.sliceAt,Instr.slice,Instr.sliceBounds,Instr.sliceBound,asIntOf,run_underlying hs,hsz,h,JQ]
theorem Lj{k1:IntKind}{len cap:Nat}(hx:ev σ x=some (.slice a len cap))(hlo:ev σ lo=some (.int k1 (i:Int)))
   (hs:Ip P T=some (e,k)) (h:i≤len):AG P σ (.slice T x (some lo) none none) ty w (.slice (if cap=i then a else a.map (·.add (i*k))) (len-i) (cap-i)) w:=λρ _ _ _ _ hρ=>by
 obtain⟨j,hu,hj,rfl⟩:=G6 hs;simp[execOp,hρ _ _ hx,hρ _ _ hlo,Instr.sliceAt,Instr.slice,Instr.sliceBounds,Instr.sliceBound,asIntOf,run_underlying hu,sizeOf,typeInfo,hj];intro hm;omega
theorem Ux{k1:IntKind}{len cap:Nat}(hx:ev σ x=some (.slice a len cap))(hhi:ev σ hi=some (.int k1 (i:Int)))
   (hs:Ip P T=some (e,k)) (h:i≤cap):AG P σ (.slice T x none (some hi) none) ty w (.slice a i cap) w:=λρ _ _ _ _ hρ=>by
 obtain⟨j,hu,hj,rfl⟩:=G6 hs;simp[execOp,hρ _ _ hx,hρ _ _ hhi,Instr.sliceAt,Instr.slice,Instr.sliceBounds,Instr.sliceBound,asIntOf,run_underlying hu,sizeOf,typeInfo,hj]
 cases a <;> (simp[Addr.add];intro hm;omega)
def L9(P:Program)(T:TypeId):Option (List (Nat×Nat)) :=
 match P.underlying T with
 |some (.struct fs)=>fs.toList.mapM λf=>(P.info? f.type).map λj=>(f.offset,j.size)
 |_=>none
def Ge(σ:Bb):List (Nat×Operand)→Option (List (Nat×Value))
 | []=>some []
 |(i,x)::l=>match ev σ x,Ge σ l with
   |some v,some vs=>some ((i,v)::vs)
   |_,_=>none
theorem HI(hρ:∀x v,ev σ x=some v→ρ x=v):∀{l:List (Nat×Operand)}{vs:List (Nat×Value)},Ge σ l=some vs→(l.map λp=>(p.1,ρ p.2))=vs
 | [],_,h=>by injection h with h
 |(i,x)::l,vs,h=>by
   unfold Ge at h
   cases hx:ev σ x with
   |none=>rw[hx] at h;cases h
   |some v =>
     cases hl:Ge σ l with
     |none=>rw[hx,hl] at h;cases h
     |some us =>
       rw[hx,hl] at h;injection h with h
       subst h;simp[hρ x v hx,HI hρ hl]
def KM:Value→List Value
 |.agg cs=>cs.toList
 |v=>[v]
theorem H2(v:Value):v.cells=(KM v).toArray:=by cases v <;> simp[Value.cells,KM]
theorem Gt{v:Value}{l:List Value}(h:Hl v=some l):KM v=l:=by
 cases v with
 |agg cs=>exact Option.some.inj h
 |_=>exact Option.some.inj h
def DV:List Value→Nat→List Value→List Value
 |cs,_,[]=>cs
 |cs,o,c::l=>DV (cs.set o c) (o+1) l
def Of:List Value→List Value→Option (List Value)
 |cs,[]=>some cs
 | [],_::_=>none
 |_::cs,v::vs=>match Of cs vs with
   |some r=>some (v::r)
   |none=>none
def NL:List Value→Nat→List Value→Option (List Value)
 |cs,0,vs=>Of cs vs
 | [],_+1,_=>none
 |c::cs,o+1,vs=>match NL cs o vs with
   |some r=>some (c::r)
   |none=>none
theorem Lm(c:Value):∀(vs cs:List Value)(o:Nat),DV (c::cs) (o+1) vs=c::DV cs o vs
 | [],_,_=>rfl
 |v::vs,cs,o=>by rw[DV,DV,List.set_cons_succ,Lm c vs]
theorem Q1:∀{cs vs r:List Value},Of cs vs=some r→DV cs 0 vs=r∧vs.length≤cs.length
 |cs,[],_,h=>by unfold Of at h;injection h with h;subst h;simp[DV]
 | [],_::_,_,h=>by cases h
 |c::cs,v::vs,_,h=>by
   unfold Of at h
   cases hr:Of cs vs with
   |none=>rw[hr] at h;cases h
   |some r =>
     rw[hr] at h;injection h with h
     subst h;have:=Q1 hr;rw[DV,List.set_cons_zero,Lm,this.1];exact⟨rfl,by simpa using this.2⟩
theorem PB:∀{cs:List Value}{o:Nat}{vs r:List Value},NL cs o vs=some r→DV cs o vs=r∧o+vs.length≤cs.length
 |cs,0,vs,r,h=>by unfold NL at h;simpa using Q1 h
 | [],_+1,_,_,h=>by cases h
 |c::cs,o+1,vs,_,h=>by
   unfold NL at h
   cases hr:NL cs o vs with
   |none=>rw[hr] at h;cases h
   |some r =>
     rw[hr] at h;injection h with h
     subst h;have:=PB hr;rw[Lm,this.1];refine⟨rfl,?_⟩;have h2:=this.2;simp only[List.length_cons];omega
def JB(pl:List (Nat×Nat)):List Value→List (Nat×Value)→Option (List Value)
 |cs,[]=>some cs
 |cs,(i,v)::rest=>match pl[i]?,Hl v with
   |some (off,size),some vs=>if Nat.beq vs.length size then (match NL cs off vs with|some cs'=>JB pl cs' rest|none=>none) else none
   |_,_=>none
theorem F7:∀(vs cs:List Value)(o:Nat),(DV cs o vs).length=cs.length
 | [],_,_=>rfl
 |v::vs,cs,o=>by rw[DV,F7 vs];simp
theorem O8:∀(vs:List Value)(j o:Nat)(cs:List Value),(vs.zipIdx j).foldl (λ(cs:Array Value)(p:Value×Nat)=>cs.setIfInBounds (o+p.2) p.1) cs.toArray=(DV cs (o+j) vs).toArray
 | [],_,_,_=>rfl
 |v::vs,j,o,cs=>by
   rw[List.zipIdx_cons,List.foldl_cons,DV];have:=O8 vs (j+1) o (cs.set (o+j) v);simp only[List.setIfInBounds_toArray] at this ⊢;rw[this,Nat.add_assoc]
theorem PJ{g:Nat→Option (Nat×Nat)}(hg:∀i p,pl[i]?=some p→g i=some p):∀(parts:List (Nat×Value))(cs out:List Value),JB pl cs parts=some out→Instr.fill g cs.toArray parts=some out.toArray
 | [],cs,out,h=>by unfold JB at h;injection h with h;subst h;rfl
 |(i,v)::rest,cs,out,h=>by
   unfold JB at h;unfold Instr.fill
   cases hp:pl[i]? with
   |none=>rw[hp] at h;cases h
   |some p =>
     obtain⟨off,size⟩:=p;rw[hg i _ hp]
     cases hvs:Hl v with
     |none=>rw[hp,hvs] at h;cases h
     |some vs =>
       rw[hp,hvs] at h;simp only at h;have hcl:=Gt hvs
       split at h
       · rename_i hc
         have hc1:=Nat.eq_of_beq_eq_true hc
         cases hput:NL cs off vs with
         |none=>rw[hput] at h;cases h
         |some cs' =>
           rw[hput] at h;obtain⟨hpu,hle⟩:=PB hput;have hsz:v.cells.size=size:=by rw[H2,hcl];simpa using hc1
           simp only[hsz];rw[if_neg (by simp;omega)]
           have hz:v.cells.zipIdx.foldl (λcs (p:Value×Nat)=>cs.setIfInBounds (off+p.2) p.1) cs.toArray=cs'.toArray:=by
             rw[H2,← Array.foldl_toList,← hpu,← hcl];have:=O8 (KM v) 0 off cs;simpa using this
           have ih:=PJ hg rest cs' out h;rw[← hz] at ih;exact ih
       · cases h
theorem Q7{fs:List Field}(h:fs.mapM (λf=>(P.info? f.type).map λj=>(f.offset,j.size))=some pl) :
   (fs.mapM λf=>(do pure (f.offset,← sizeOf f.type):Sem (Nat×Nat))).run P w=.ok pl w:=by
 induction fs generalizing pl with
 |nil=>simp at h;subst h;simp
 |cons f fs ih =>
   simp only[List.mapM_cons] at h ⊢
   cases hi:P.info? f.type with
   |none=>simp[hi] at h
   |some j =>
     cases hr:fs.mapM (λf=>(P.info? f.type).map λj=>(f.offset,j.size)) with
     |none=>simp[hi,hr] at h
     |some pr =>
       simp[hi,hr] at h;subst h;have:=ih hr;have hone:(do pure (f.offset,← sizeOf f.type):Sem (Nat×Nat)).run P w=.ok (f.offset,j.size) w:=by simp[sizeOf,typeInfo,hi]
       rw[Sem.run_bind,hone,Result.andThen_ok,Sem.run_bind,this,Result.andThen_ok];rfl
theorem Mf(h:GQ P T=some z):∃v,(zeroValue T).run P w=.ok v w∧v.cells=z.toArray:=by
 unfold GQ at h
 split at h
 · rename_i i hi
   cases hz:i.zero with
   |none=>rw[hz] at h;cases h
   |some v=>rw[hz] at h;simp at h;exact⟨v,by simp[zeroValue,typeInfo,hi,hz],by rw[← h]⟩
 · cases h
theorem Du{pv:List (Nat×Value)}{out:List Value}(hp:Ge σ parts=some pv)(hpl:L9 P T=some pl)
   (hz:GQ P T=some z) (hf:JB pl z pv=some out):AG P σ (.build T parts.toArray) ty w (.agg out.toArray) w:=λρ _ _ _ _ hρ=>by
 unfold L9 at hpl
 split at hpl
 · rename_i fs hu
   obtain⟨v,hv,hvc⟩:=Mf (w:=w) hz;have hm:=Q7 (w:=w) hpl
   have hm':(fs.mapM λf=>(do pure (f.offset,← sizeOf f.type):Sem (Nat×Nat))).run P w=.ok pl.toArray w:=by
     rw[← Array.toArray_toList (xs:=fs),List.mapM_toArray];simp at hm;simp[hm]
   have hpe:=HI hρ hp;have hfl:=PJ (g:=λi=>pl[i]?) (λi p h=>h) pv z out hf;have hpe':(parts.toArray.map λp=>(p.1,ρ p.2))=pv.toArray:=by rw[← hpe];simp
   simp only[execOp]
   have:(Instr.build T (parts.toArray.map λ(i,x)=>(i,ρ x))).run P w=.ok (.agg out.toArray) w:=by
     have e:(parts.toArray.map λ(p:Nat×Operand)=>match p with|(i,x)=>(i,ρ x))=pv.toArray:=hpe';rw[e];simp only[Instr.build,Sem.run_bind,hv,Result.andThen_ok,run_underlying hu,hvc];simp only[hm',Result.andThen_ok];simp[hfl]
   rw[Sem.run_bind,this];rfl
 · cases hpl
end
section
variable{P:Program}{n:Nat}{Q:AU}{σ:Bb}{ds:List Deferred}{w:World}{ops:Array Oper}{ty T T':TypeId}{pos:String}{af:Array Edge}{rest:List Oper}{d b off k:Nat}{x y:Operand}{l:List Value}
theorem LR(w:World)(l:List Value)(T:TypeId):AI (w.alloc (.cells l.toArray T)) w.heap.size l T:=heap_alloc_new w _
theorem Jh(w:World)(o:Obj):AS w (w.alloc o):=Below.alloc (Below.refl _ _) (Nat.le_refl _) o
theorem G9(w:World)(o:Obj):(w.alloc o).heap.size=w.heap.size+1:=by simp
def bW(w:World)(l:List Value)(T:TypeId)(K:Nat→World→Prop):Prop :=
 ∀b w',AI w' b l T→AS w w'→w.heap.size=b→w'.heap.size=b+1→K b w'
theorem JE{K:Nat→World→Prop}(h:bW w l T K):K w.heap.size (w.alloc (.cells l.toArray T)):=h _ _ (LR w l T) (Jh w _) rfl (G9 w _)
theorem Zj{v:Value}(hx:ev σ x=some v):AG P σ (.box T x) ty w (.pointer (some ⟨w.heap.size,0,none⟩)) (w.alloc (.cells (KM v).toArray T)):=λρ _ _ _ _ hρ=>by
 simp[execOp,hρ _ _ hx,Instr.box,newVar,newRow,H2]
theorem DK{v:Value}(hd:Nat.blt d n=true)(hx:ev σ x=some v)(hl':Hl v=some l)
   (h:bW w l T λb w'=>GO P n ops Q rest (AA σ d (.pointer (some ⟨b,0,none⟩))) ds w'):GO P n ops Q (⟨some d,.box T x,ty,pos,af,none⟩::rest) σ ds w:=by
 have hl:=Gt hl';subst hl;exact Ab hd (Zj hx) (JE h)
theorem Sa(hz:GQ P T=some l):AG P σ (.alloc T) ty w (.pointer (some ⟨w.heap.size,0,none⟩)) (w.alloc (.cells l.toArray T)):=λρ _ _ _ _ hρ=>by
 obtain⟨v,hv,hvc⟩:=Mf (w:=w) hz;simp[execOp,Instr.alloc,hv,newVar,newRow,hvc]
theorem C1(hd:Nat.blt d n=true)(hz:GQ P T=some l)
   (h:bW w l T λb w'=>GO P n ops Q rest (AA σ d (.pointer (some ⟨b,0,none⟩))) ds w'):GO P n ops Q (⟨some d,.alloc T,ty,pos,af,none⟩::rest) σ ds w :=
 Ab hd (Sa hz) (JE h)
theorem M9(m k:Nat)(z:List Value)(hz:z.length=k)(hk:0<k):((Array.range (m*k)).map λi=>z.toArray[i % z.toArray.size]!)=((List.range (m*k)).map λi=>z.getD (i % k) default).toArray:=by
 apply Array.ext';simp only[Array.toList_map,Array.toList_range];apply List.map_congr_left;intro i _;have h1:i % k<k:=Nat.mod_lt _ hk;simp[hz,h1]
def F9:Nat→List Value→List Value
 |0,_=>[]
 |m+1,z=>z++F9 m z
theorem Pt(k:Nat)(z:List Value)(hz:z.length=k)(hk:0<k):∀m,((List.range (m*k)).map λi=>z.getD (i % k) default)=F9 m z
 |0=>by simp[F9]
 |m+1=>by
   have ih:=Pt k z hz hk m;rw[F9,← ih,Nat.add_mul,Nat.one_mul,Nat.add_comm,List.range_add,List.map_append,List.map_map]
   congr 1
   · apply List.ext_getElem?
     intro i
     by_cases hi:i<k
     · have:i<z.length:=oM
       simp[hi,Nat.mod_eq_of_lt hi,this]
     · simp[Nat.le_of_not_lt hi,hz]
   · apply List.map_congr_left
     intro i _;simp[Nat.add_mod_left]
def J7(k:Nat):Nat→Nat→List (Nat×Nat)
 |_,0=>[]
 |i,m+1=>(i*k,k)::J7 k (i+1) m
theorem O9(k:Nat):∀(m i j:Nat),j<m→(J7 k i m)[j]?=some ((i+j)*k,k)
 |0,_,_,h=>by omega
 |m+1,i,0,_=>by simp[J7]
 |m+1,i,j+1,h=>by
   rw[J7,List.getElem?_cons_succ,O9 k m (i+1) j (by omega)]
   congr 3
   omega
theorem Ov(k:Nat):∀m i,(J7 k i m).length=m
 |0,_=>rfl
 |m+1,i=>by simp[J7,Ov k m]
variable {l':List Value}{m:Nat}{t:TypeId}
theorem ZC{k:Nat}(parts:List (Nat×Value))(cs out:List Value)(h:JB (J7 k 0 m) cs parts=some out):Instr.fill (λi=>some (i*k,k)) cs.toArray parts=some out.toArray :=
 PJ (λi p hp=>by
   have hi:i<m:=by
     rcases Nat.lt_or_ge i m with h' | h'
     · exact h'
     · rw[List.getElem?_eq_none (by rw[Ov];exact h')] at hp;cases hp
   rw[O9 k m 0 i hi] at hp;simpa using hp) parts cs out h
theorem fW{pv:List (Nat×Value)}{out:List Value}(hp:Ge σ parts=some pv)(hs:Ip P T=some (e,k))(hz:GQ P e=some z)
   (hzk:Nat.beq z.length k=true) (hk:Nat.blt 0 k=true) (hm:Nat.blt 0 m=true) (hmk:Nat.ble (m*k) 16777216=true) (hf:JB (J7 k 0 m) (F9 m z) pv=some out) :
   AG P σ (.buildSlice T m parts.toArray) ty w (.slice (some ⟨w.heap.size,0,none⟩) m m) (w.alloc (.cells out.toArray e)):=λρ _ _ _ _ hρ=>by
 obtain⟨j,hu,hj,rfl⟩:=G6 hs;obtain⟨v,hv,hvc⟩:=Mf (w:=w) hz;have hzk':=Nat.eq_of_beq_eq_true hzk;have hk':0<j.size:=Nat.le_of_ble_eq_true hk;have hm':0<m:=Nat.le_of_ble_eq_true hm;have hmk':m*j.size≤16777216:=Nat.le_of_ble_eq_true hmk;have hne:m*j.size≠0:=Nat.ne_of_gt (Nat.mul_pos hm' hk');have hpe:=HI hρ hp;have hpe':(parts.toArray.map λ(p:Nat×Operand)=>match p with|(i,x)=>(i,ρ x))=pv.toArray:=by rw[← hpe];simp
 have hfl:=ZC pv (F9 m z) out hf;have hsz:(sizeOf e).run P w=.ok j.size w:=by simp[sizeOf,typeInfo,hj]
 have hrow:((Array.range (m*j.size)).map λi=>z.toArray[i % z.toArray.size]!)=(F9 m z).toArray:=by rw[M9 m j.size z hzk' hk',Pt j.size z hzk' hk' m]
 have:(Instr.buildSlice T m (parts.toArray.map λ(p:Nat×Operand)=>match p with|(i,x)=>(i,ρ x))).run P w=.ok (.slice (some ⟨w.heap.size,0,none⟩) m m) (w.alloc (.cells out.toArray e)):=by
   rw[hpe'];simp only[Instr.buildSlice,Sem.run_bind,run_underlying hu,Result.andThen_ok,hsz];rw[if_neg (by omega),if_neg hne];simp only[Sem.run_bind,hv,Result.andThen_ok,hvc,Sem.run_pure];rw[hrow];simp[hfl,newRow]
 simp only[execOp];rw[Sem.run_bind,this];rfl
theorem BZ{pv:List (Nat×Value)}(hd:Nat.blt d n=true)(hp:Ge σ parts=some pv)(hs:Ip P T=some (e,k))(hz:GQ P e=some z)
   (hzk:Nat.beq z.length k=true) (hk:Nat.blt 0 k=true) (hm:Nat.blt 0 m=true) (hmk:Nat.ble (m*k) 16777216=true) (hf:JB (J7 k 0 m) (F9 m z) pv=some l)
   (h:bW w l e λb w'=>GO P n ops Q rest (AA σ d (.slice (some ⟨b,0,none⟩) m m)) ds w'):GO P n ops Q (⟨some d,.buildSlice T m parts.toArray,ty,pos,af,none⟩::rest) σ ds w :=
 Ab hd (fW hp hs hz hzk hk hm hmk hf) (JE h)
def LG:List Value→Bool
 | []=>true
 |v::l=>v.oneCell'&&LG l
theorem Lp:∀{l:List Value},LG l=true→∀v∈l,v.oneCell'=true
 | [],_,v,hv=>by cases hv
 |u::l,h,v,hv=>by
   simp only[LG,Bool.and_eq_true] at h;rcases List.mem_cons.1 hv with rfl|hv
   · exact h.1
   · exact Lp h.2 v hv
theorem LU:∀(vs cs:List Value)(o:Nat),o+vs.length≤cs.length→DV cs o vs=cs.take o++vs++cs.drop (o+vs.length)
 | [],cs,o,_=>by simp[DV]
 |v::vs,cs,o,h=>by
   simp only[List.length_cons] at h;rw[DV,LU vs (cs.set o v) (o+1) (by simp;omega)]
   have h1:(cs.set o v).take (o+1)=cs.take o++[v]:=by
     rw[List.take_succ_eq_append_getElem (by simp;omega)];simp[List.take_set_of_le]
   have h2:(cs.set o v).drop (o+1+vs.length)=cs.drop (o+(v::vs).length):=by
     rw[List.drop_set_of_lt (by omega)];simp only[List.length_cons]
     congr 1
     omega
   rw[h1,h2];simp
theorem MC(w:World)(b:Nat)(cs:Array Value):FZ b w (w.setRow b cs):=⟨rfl,rfl,rfl,by simp[World.setRow],λk hk=>setRow_other w b k cs hk⟩
theorem Nk{v:Value}{a:Bool}(hx:ev σ x=some (.pointer (some ⟨b,off,none⟩)))(hy:ev σ y=some v)(hv:KM v=vs)(hT:AN P T=some (a,k))(hk:Nat.beq vs.length k=true)
   (hb:AI w b l T') (h1:LG vs=true) (hf:off+vs.length≤l.length):fN P σ (.store T x y) ty w (w.setRow b (DV l off vs).toArray):=λρ _ _ _ _ hρ=>by
 have hk':=Nat.eq_of_beq_eq_true hk;have hst:=run_storeCells_at P b off T' vs 0 l.toArray w hb (by simpa using hf) (Lp h1);have hsz:v.cells.size=k:=by rw[H2,hv];simpa using hk'
 have hcl:v.cells.toList=vs:=by rw[H2,hv]
 have hp:(List.take (off+0) l.toArray.toList++vs++List.drop (off+0+vs.length) l.toArray.toList).toArray=(DV l off vs).toArray:=by rw[LU vs l off hf];simp
 rw[hp] at hst;simp[execOp,hρ _ _ hx,hρ _ _ hy,Instr.storeAt,Instr.sureAddr,storeVar,hsz,HS hT,hcl,hst]
theorem A1{v:Value}{a:Bool}(hx:ev σ x=some (.pointer (some ⟨b,off,none⟩)))(hy:ev σ y=some v)(hv:Hl v=some vs)(hT:AN P T=some (a,k))(hk:Nat.beq vs.length k=true)
   (hb:AI w b l T') (h1:LG vs=true) (hf:NL l off vs=some l')
   (h:∀w',AI w' b l' T'→FZ b w w'→GO P n ops Q rest σ ds w'):GO P n ops Q (⟨none,.store T x y,ty,pos,af,none⟩::rest) σ ds w:=by
 obtain⟨hpu,hle⟩:=PB hf;subst hpu;exact IA (Nk hx hy (Gt hv) hT hk hb h1 hle) (h _ (setRow_heap w b _ _ T' _ hb) (MC w b _))
def B3(P:Program)(f:FuncId):Prop:=∀args w,(callFunc f args).run P w=.ok (.enter f args) w
theorem Al{f:FuncId}{fn:Func}(hf:P.funcs[f]?=some fn)(hn:(fn.name == "runtime.NumGoroutine")=false) (hb:fn.body.isNone=false):B3 P f:=λargs w=>by
 simp only[callFunc,Sem.run_bind,run_program,Result.andThen_ok,hf,hn,hb];simp
theorem Aw{f:FuncId}{g:Operand}{args:List Operand}{ts:Array TypeId}(he:B3 P f)(hg:ev σ g=some (.func (.func f) #[] #[]))(ha:Ik σ args=some vs) :
   Enters P σ (.call {callee:=.value g,args:=args.toArray,argTypes:=ts}) ty w f vs.toArray:=λρ _ _ _ _ hρ=>by
 have h:=Ej hρ ha;simp[execOp,resolve,hρ _ _ hg,Deferred.ofValue,invoke,h,he vs.toArray w]
theorem BA{v:Value}(hx:ev σ x=some (.iface t v)):lO P σ (.panic x) ty w (.iface t v) w:=λρ _ _ _ _ hρ=>by
 simp[execOp,hρ _ _ hx,Instr.panic,goPanic,Sem.run]
def nY(P:Program)(T:TypeId):Bool:=match P.underlying T with|some (.interface _)=>false|some _=>true|none=>false
theorem BL{v:Value}(hx:ev σ x=some v)(hi:nY P T=true):AG P σ (.makeInterface T x) ty w (.iface T v) w:=λρ _ _ _ _ hρ=>by
 unfold nY at hi
 cases hu:P.underlying T with
 |none=>rw[hu] at hi;cases hi
 |some dsc =>
   rw[hu] at hi
   cases dsc <;> simp_all [execOp,Instr.makeInterface,run_underlying hu]
theorem Ac{t:Nat}(hp:σ t=some (.pointer (some ⟨b,off,none⟩)))(hT:AN P T=some (true,k))(hb:AI w b l T')(hv:Sx l off k=some vs) :
   Rv P σ w (.cell t T) (.agg vs.toArray):=λtmps ht=>by
 obtain⟨hv,hk'⟩:=KC hv
 have hc:=run_loadCells_list (P:=P) w ⟨b,off,none⟩ vs (λj v hj=>by
   rw[Ed,hb.cell];rw[← hv] at hj
   have hlt:j<k:=by
     rcases Nat.lt_or_ge j k with h|h
     · exact h
     · rw[List.getElem?_take,if_neg (by omega)] at hj;cases hj
   rwa[List.getElem?_take,if_pos hlt,List.getElem?_drop] at hj)
 rw[hk'] at hc;have hl:(loadVar T ⟨b,off,none⟩).run P w=.ok (.agg vs.toArray) w:=by simp[loadVar,Et hT,HS hT,hc]
 simp only[oF,ht t _ hp,asAddr];simp[hl]
theorem Bq{t:Nat}{v:Value}(hp:σ t=some (.pointer (some ⟨b,off,none⟩)))(hT:AN P T=some (false,k))(hb:AI w b l T')(hv:l[off]?=some v):Rv P σ w (.cell t T) v:=λtmps ht=>by
 have hc:w.cell? ⟨b,off,none⟩=some v:=by rw[hb.cell,hv]
 have hl:(loadVar T ⟨b,off,none⟩).run P w=.ok v w:=by simp[loadVar,Et hT,run_load,hc]
 simp only[oF,ht t _ hp,asAddr];simp[hl]
end
def N3(ops:Array Oper):List (Bool×Nat)→Array Bool→Bool
 | [],listed=>(Region.ready .any ops listed).isEmpty
 |(true,i)::r,listed=>Region.free .any ops listed i&&(Region.ready .any ops listed).contains i&&N3 ops r (listed.setIfInBounds i true)
 |(false,i)::r,listed=>(match Region.ready .any ops listed with | [j]=>Nat.beq j i|_=>false)&&N3 ops r (listed.setIfInBounds i true)
def pick(l:List Oper):List (Bool×Nat)→Option (List (Bool×Oper))
 | []=>some []
 |(f,i)::r=>match l[i]?,pick l r with
   |some o,some ol=>some ((f,o)::ol)
   |_,_=>none
def nO(P:Program)(ops:Array Oper)(Q:Exit→Act→World→Prop)(S:World→Prop):List (Bool×Oper)→Act→World→Prop
 | [],a,w=>Q .normal a w
 |(true,o)::r,a,w=>∃v,YieldsIf P ops S o v a∧nO P ops Q S r (a.put o.dst v) w
 |(false,o)::r,a,w=>wpList P ops (Exit.then (λa' w'=>S w'∧nO P ops Q S r a' w') Q) [o] a w
section
variable{P:Program}{n:Nat}{Q:AU}{S:World→Prop}
variable {want:Bool}{bs:List Nat}{l:List Value}{b dj j:Nat}{T:TypeId}
theorem HZ{ops:Array Oper}{Qu:Exit→Act→World→Prop}{K:Act→World→Prop}{o:Oper}{a:Act}{w:World}(hi:ops[i]?=some o)
   (hno:∀a w,¬Qu .outgrown a w) (h:wpList P ops (Exit.then K Qu) [o] a w):wpOp P ops Qu i K a w:=by
 unfold wpList at h;unfold wpOp;simp only[hi]
 split
 · rename_i hw
   rw[if_pos hw] at h;rcases h with h|⟨_,a',w',h'⟩
   · refine .inl ?_
     unfold Oper.wp at h ⊢;generalize (execOp a.eval o).run P w=r at h ⊢
     cases r with
     |ok nx w' =>
       cases nx <;> simp only[Oper.upon,wpList,Exit.then] at h ⊢ <;> first
         |exact h
         |(
           refine Calls.mono h λe w'' he=>?_
           cases e with
           |returned v=>exact he
           |panicked c=>exact he
           |outgrown=>obtain⟨a₁,w₁,h₁⟩:=he;exact (hno _ _ h₁).elim)
     |halt hh w'=>cases hh <;> simp only[Oper.upon,Exit.then] at h ⊢ <;> exact h
   · exact (hno _ _ h').elim
 · rename_i hw
   rw[if_neg hw] at h;exact h
def PI(Q:AU):Prop:=∀c σ σ' ds w,Q.p c σ ds w→Q.p c σ' ds w
theorem XM{Q:AU}{n:Nat}(hpi:PI Q){c:List PanicEntry}{a:Act}{d:Nat}{v:Value}{w:World}(h:Q.up n (.panic c) (a.put (some d) v) w):Q.up n (.panic c) a w:=by
 obtain⟨σ,ds,hs,hq⟩:=h;exact⟨e0,ds,⟨by have:=hs.size;simpa[Act.put] using this,hs.defs,λ_ _ h=>by cases h⟩,hpi _ _ _ _ _ hq⟩
theorem MS{l:List Oper}(hs:Region.noSelect l.toArray=true)(hpi:PI Q):∀(ord:List (Bool×Nat))(ol:List (Bool×Oper))(listed:Array Bool)(a:Act)(w:World),pick l ord=some ol →
   N3 l.toArray ord listed=true→S w→nO P l.toArray (Q.up n) S ol a w→wpAnyH P .any l.toArray (Q.up n) S ord.length listed a w
 | [],ol,listed,a,w,hp,ho,hS,h=>by
   injection hp with hp
   subst hp;exact wpAnyH_done (by simpa[N3] using ho) h 0
 |(f,i)::ord,ol,listed,a,w,hp,ho,hS,h=>by
   unfold pick at hp
   cases hi:l[i]? with
   |none=>rw[hi] at hp;cases hp
   |some o =>
     cases hr:pick l ord with
     |none=>rw[hi,hr] at hp;cases hp
     |some r =>
       rw[hi,hr] at hp;injection hp with hp
       subst hp;have hi':l.toArray[i]?=some o:=by simpa using hi
       cases f with
       |true =>
         simp only[N3,Bool.and_eq_true] at ho;obtain⟨v,hy,h'⟩:=h
         exact wpAnyH_take hi' hs ho.1.1 ho.1.2 (λc a w hq=>by
           cases hd:o.dst with
           |none=>rw[hd] at hq;exact hq
           |some d=>rw[hd] at hq;exact XM hpi hq) hy hS (MS hs hpi ord r _ _ w hr ho.2 hS h')
       |false =>
         simp only[N3,Bool.and_eq_true] at ho
         have hrd:Region.ready .any l.toArray listed=[i]:=by
           have h1:=ho.1
           split at h1
           · rename_i j hj;rw[hj,Nat.eq_of_beq_eq_true h1]
           · cases h1
         refine wpAnyH_all hrd (by simp) λj hj=>?_;rw[List.mem_singleton] at hj;subst hj;exact wpOp_mono (λa' w' hk=>⟨hk.1,MS hs hpi ord r _ a' w' hr ho.2 hk.1 hk.2⟩) (HZ hi' (λ_ _ h=>h) h)
def UQ(P:Program)(n:Nat)(ops:Array Oper)(Q:AU)(S:World→Prop)(ol:List (Bool×Oper))(σ:Bb)(ds:List Deferred)(w:World):Prop :=
 ∀a,St n σ ds a→nO P ops (Q.up n) S ol a w
variable{σ:Bb}{ds:List Deferred}{w:World}{ops:Array Oper}{op:Op}{ty:TypeId}{pos:String}{af:Array Edge}{r:List (Bool×Oper)}{d:Nat}
theorem D8{l:List Oper}(hm:P.follows .mixedOrders=true)(S:World→Prop)(ord:List (Bool×Nat)){ol:List (Bool×Oper)}(hok:N3 l.toArray ord (Array.replicate l.length false)=true)
   (hsel:Region.noSelect l.toArray=true) (hlen:Nat.beq ord.length l.length=true) (hp:pick l ord=some ol)
   (h:∀w',AS w w'→w'.heap.size=w.heap.size→S w'∧UQ P n l.toArray Q S ol σ ds w') (hpi:PI Q:=by exact λ_ _ _ _ _ h=>h):GY P n (.region i l.toArray true) Q σ ds w:=λa ha=>by
 refine wp_region_held (S:=S) hm ?_;obtain⟨hS,hk⟩:=h w.drew AS.drew rfl;have:=MS (P:=P) (n:=n) (Q:=Q) hsel hpi ord ol (Array.replicate l.length false) a w.drew hp hok hS (hk a ha);rw[Nat.eq_of_beq_eq_true hlen] at this;simpa using this
theorem DJ(h:Q.q .normal σ ds w):UQ P n ops Q S [] σ ds w:=λ_ ha=>⟨σ,ds,ha,h⟩
theorem A0{v:Value}(hd:Nat.blt d n=true)(hr:∀w,S w→AG P σ op ty w v w)(h:UQ P n ops Q S r (AA σ d v) ds w) :
   UQ P n ops Q S ((true,⟨some d,op,ty,pos,af,none⟩)::r) σ ds w:=λa ha =>
 ⟨v,.inl ⟨by simp[Region.wanted],λw hS=>hr w hS a.eval _ _ _ _ ha.ev⟩,h _ (ha.put hd v)⟩
theorem Cr{v:Value}{b:Bool}(hd:Nat.blt d n=true)(hj:(ops[j]?).bind (·.dst)=some dj)(hv:σ dj=some (.bool b))(hb:b=want)(hr:∀w,S w→AG P σ op ty w v w)
   (h:UQ P n ops Q S r (AA σ d v) ds w):UQ P n ops Q S ((true,⟨some d,op,ty,pos,af,some (j,want)⟩)::r) σ ds w:=λa ha =>
 ⟨v,.inl ⟨by rw[Gr ha hj hv,hb];simp,λw hS=>hr w hS a.eval _ _ _ _ ha.ev⟩,h _ (ha.put hd v)⟩
theorem Cu{b:Bool}(hd:Nat.blt d n=true)(hj:(ops[j]?).bind (·.dst)=some dj)(hv:σ dj=some (.bool b))(hb:b=!want)
   (h:UQ P n ops Q S r (AA σ d undef) ds w):UQ P n ops Q S ((true,⟨some d,op,ty,pos,af,some (j,want)⟩)::r) σ ds w:=λa ha =>
 ⟨undef,.inr ⟨by rw[Gr ha hj hv,hb];cases want <;> simp,rfl⟩,h _ (ha.put hd undef)⟩
theorem Oc(dj:Nat){b:Bool}{l:List (Bool×Oper)}(hv:σ dj=some (.bool b))(ht:b=true→UQ P n ops Q S l σ ds w)(hf:b=false→UQ P n ops Q S l σ ds w):UQ P n ops Q S l σ ds w:=by
 have _:=hv
 cases hb:b with
 |true=>exact ht hb
 |false=>exact hf hb
def A5(w:World)(bs:List Nat)(w':World):Prop:=∀b,b∈bs→b<w'.heap.size∧w'.heap[b]?=w.heap[b]?
theorem A5.nil(w w':World):A5 w [] w':=λ_ h=>by cases h
theorem A5.cons{w:World}(hb:AI w b l T)(hE:AS w w')(h:A5 w bs w'):A5 w (b::bs) w':=λc hc=>by
 rcases List.mem_cons.1 hc with rfl|hc
 · exact⟨Nat.lt_of_lt_of_le hb.lt hE.size,hE.block _ hb.lt⟩
 · exact h c hc
theorem A5.ext{w:World}(h:A5 w bs w')(hE:AS w' w2):A5 w bs w2:=λc hc=>⟨Nat.lt_of_lt_of_le (h c hc).1 hE.size,(hE.block c (h c hc).1).trans (h c hc).2⟩
theorem A5.chg{w:World}(h:A5 w bs w')(hC:FZ b w' w2)(hn:∀c,c∈bs→c≠b):A5 w bs w2 :=
 λc hc=>⟨by rw[hC.size];exact (h c hc).1,(hC.block c (hn c hc)).trans (h c hc).2⟩
theorem AI.keep{w:World}(hb:AI w b l T)(h:A5 w bs w')(hm:b∈bs):AI w' b l T:=(h b hm).2.trans hb
def uD(P:Program)(n:Nat)(ops:Array Oper)(Q:AU)(S:World→Prop)(r:List (Bool×Oper)):AU :=
 {q:=λe σ ds w=>match e with|.normal=>S w∧UQ P n ops Q S r σ ds w|e=>Q.q e σ ds w,p:=Q.p}
theorem Ei{o:Oper}(h:GO P n ops (uD P n ops Q S r) [o] σ ds w):UQ P n ops Q S ((false,o)::r) σ ds w:=λa ha=>by
 have h1:=h a ha;show wpList P ops (Exit.then (λa' w'=>S w'∧nO P ops (Q.up n) S r a' w') (Q.up n)) [o] a w;unfold wpList at h1 ⊢
 split
 · rename_i hw
   rw[if_pos hw] at h1;rcases h1 with h1|⟨_,a',w',h'⟩
   · refine .inl ?_
     unfold Oper.wp at h1 ⊢;generalize (execOp a.eval o).run P w=rr at h1 ⊢
     have key:∀a' w',wpList P ops ((uD P n ops Q S r).up n) [] a' w'→wpList P ops (Exit.then (λa' w'=>S w'∧nO P ops (Q.up n) S r a' w') (Q.up n)) [] a' w':=λa' w' hk=>by
       obtain⟨σ',ds',hs',hq⟩:=hk;exact⟨hq.1,hq.2 a' hs'⟩
     cases rr with
     |ok nx w' =>
       cases nx <;> simp only[Oper.upon] at h1 ⊢ <;> first
         |exact key _ _ h1
         |(
           refine Calls.mono h1 λe w'' he=>?_
           cases e with
           |returned v=>exact key _ _ he
           |panicked c=>exact he
           |outgrown=>obtain⟨a₁,w₁,h₁⟩:=he;exact h₁.elim)
         |exact Rows.mono h1 λv w'' he=>key _ _ he
     |halt hh w'=>cases hh <;> simp only[Oper.upon] at h1 ⊢ <;> exact h1
   · exact h'.elim
 · rename_i hw
   rw[if_neg hw] at h1;obtain⟨σ',ds',hs',hq⟩:=h1;exact⟨hq.1,hq.2 _ hs'⟩
theorem GG(hS:S w)(h:UQ P n ops Q S r σ ds w):(uD P n ops Q S r).q .normal σ ds w:=⟨hS,h⟩
end
inductive OT where
 |fin
 |rd (i:Nat) (k:OT)
 |br (i:Nat) (k o:OT)
def OT.alts:OT→List Nat
 |.br i _ o=>i::o.alts
 |_=>[]
def OT.ok(ops:Array Oper):Bool→OT→Array Bool→Bool
 |top,.fin,listed=>!top||(Region.ready .any ops listed).isEmpty
 |top,.rd i k,listed=>top&&Region.free .any ops listed i&&(Region.ready .any ops listed).contains i&&k.ok ops true (listed.setIfInBounds i true)
 |top,.br i k o,listed=>(!top||Region.ready .any ops listed==i::o.alts)&&k.ok ops true (listed.setIfInBounds i true)&&o.ok ops false listed
def OT.depth:OT→Nat
 |.fin=>0
 |.rd _ k=>k.depth+1
 |.br _ k _=>k.depth+1
def OT.even:Bool→Nat→OT→Bool
 |top,n,.fin=>!top||n==0
 |_,0,_=>false
 |_,n+1,.rd _ k=>k.even true n
 |_,n+1,.br _ k o=>k.even true n&&o.even false (n+1)
def Xy(P:Program)(l:List Oper)(Q:Exit→Act→World→Prop)(S:World→Prop):Bool→OT→Act→World→Prop
 |top,.fin,a,w=>top=true→Q .normal a w
 |_,.rd i k,a,w=>∃o v,l[i]?=some o∧YieldsIf P l.toArray S o v a∧Xy P l Q S true k (a.put o.dst v) w
 |_,.br i k o',a,w=>(∃o,l[i]?=some o∧wpList P l.toArray (Exit.then (λa' w'=>S w'∧Xy P l Q S true k a' w') Q) [o] a w)∧Xy P l Q S false o' a w
section
variable{P:Program}{n:Nat}{Q:AU}{S:World→Prop}{l:List Oper}
theorem OT.alts_mem:∀(t:OT)(ops:Array Oper)(listed:Array Bool)(m:Nat)(j:Nat),t.ok ops false listed=true→t.even false m=true→j∈t.alts→∃k,k.ok ops true (listed.setIfInBounds j true)=true∧(∃m',m=m'+1∧k.even true m'=true) ∧
   ∀(P:Program)(l:List Oper)(Qu:Exit→Act→World→Prop)(S:World→Prop)(a:Act)(w:World),Xy P l Qu S false t a w→∃o,l[j]?=some o∧wpList P l.toArray (Exit.then (λa' w'=>S w'∧Xy P l Qu S true k a' w') Qu) [o] a w
 |.fin,_,_,_,_,_,_,h=>by cases h
 |.rd _ _,_,_,_,_,_,_,h=>by cases h
 |.br i k o,ops,listed,m,j,hok,hev,hj=>by
   simp only[OT.ok,Bool.and_eq_true] at hok
   cases m with
   |zero=>simp[OT.even] at hev
   |succ m =>
     simp only[OT.even,Bool.and_eq_true] at hev;simp only[OT.alts,List.mem_cons] at hj;rcases hj with rfl|hj
     · exact⟨k,hok.1.2,⟨m,rfl,hev.1⟩,λP l Qu S a w h=>h.1⟩
     · obtain⟨k',h1,h2,h3⟩:=OT.alts_mem o ops listed (m+1) j hok.2 hev.2 hj
       exact⟨k',h1,h2,λP l Qu S a w h=>h3 P l Qu S a w h.2⟩
theorem KU(hs:Region.noSelect l.toArray=true)(hpi:PI Q):∀(m:Nat)(t:OT)(listed:Array Bool)(a:Act)(w:World),t.even true m=true→t.ok l.toArray true listed=true→S w→Xy P l (Q.up n) S true t a w→wpAnyH P .any l.toArray (Q.up n) S m listed a w
 |m,.fin,listed,a,w,hev,ho,hS,h=>by
   simp[OT.even] at hev;subst hev;exact wpAnyH_done (by simpa[OT.ok] using ho) (h rfl) 0
 |0,.rd _ _,_,_,_,hev,_,_,_=>by simp[OT.even] at hev
 |0,.br _ _ _,_,_,_,hev,_,_,_=>by simp[OT.even] at hev
 |m+1,.rd i k,listed,a,w,hev,ho,hS,h=>by
   simp only[OT.ok,Bool.and_eq_true,Bool.true_and] at ho;obtain⟨o,v,hi,hy,h'⟩:=h
   exact wpAnyH_take (by simpa using hi) hs ho.1.1 ho.1.2 (λc a w hq=>by
     cases hd:o.dst with
     |none=>rw[hd] at hq;exact hq
     |some d=>rw[hd] at hq;exact XM hpi hq) hy hS (KU hs hpi m k _ _ w hev ho.2 hS h')
 |m+1,.br i k o,listed,a,w,hev,ho,hS,h=>by
   have hok':(OT.br i k o).ok l.toArray false listed=true:=by
     simp only[OT.ok,Bool.and_eq_true] at ho ⊢;exact⟨⟨rfl,ho.1.2⟩,ho.2⟩
   have hev':(OT.br i k o).even false (m+1)=true:=hev
   have hrd:Region.ready .any l.toArray listed=(OT.br i k o).alts:=by
     simp only[OT.ok,Bool.and_eq_true,Bool.not_true,Bool.false_or,beq_iff_eq] at ho;exact ho.1.1
   have hw':Xy P l (Q.up n) S false (.br i k o) a w:=h;refine wpAnyH_all hrd (by simp[OT.alts]) λj hj=>?_;obtain⟨k',h1,⟨m',hm,h2⟩,h3⟩:=OT.alts_mem (.br i k o) l.toArray listed (m+1) j hok' hev' hj;obtain rfl:m=m':=oM;obtain⟨op,hop,hwl⟩:=h3 P l (Q.up n) S a w hw';exact wpOp_mono (λa' w' hk=>⟨hk.1,KU hs hpi m k' _ a' w' h2 h1 hk.1 hk.2⟩) (HZ (by simpa using hop) (λ_ _ h=>h) hwl)
def Vg(P:Program)(n:Nat)(l:List Oper)(Q:AU)(S:World→Prop)(top:Bool)(t:OT)(σ:Bb)(ds:List Deferred)(w:World):Prop :=
 ∀a,St n σ ds a→Xy P l (Q.up n) S top t a w
variable{σ:Bb}{ds:List Deferred}{w:World}{op:Op}{ty:TypeId}{pos:String}{af:Array Edge}{d i:Nat}{k o:OT}{top:Bool}
variable {id:Nat}
theorem DO(hm:P.follows .mixedOrders=true)(S:World→Prop)(t:OT)(hok:t.ok l.toArray true (Array.replicate l.length false)=true)(hev:t.even true l.length=true)(hsel:Region.noSelect l.toArray=true)
   (h:∀w',AS w w'→w'.heap.size=w.heap.size→S w'∧Vg P n l Q S true t σ ds w') (hpi:PI Q:=by exact λ_ _ _ _ _ h=>h):GY P n (.region id l.toArray true) Q σ ds w:=λa ha=>by
 refine wp_region_held (S:=S) hm ?_;obtain⟨hS,hk⟩:=h w.drew AS.drew rfl;have:=KU (P:=P) (n:=n) (Q:=Q) hsel hpi l.length t (Array.replicate l.length false) a w.drew hev hok hS (hk a ha);simpa using this
theorem Bz(h:Q.q .normal σ ds w):Vg P n l Q S true .fin σ ds w:=λ_ ha _=>⟨σ,ds,ha,h⟩
theorem Af:Vg P n l Q S false .fin σ ds w:=λ_ _ h=>by cases h
theorem Av{v:Value}(hi:l[i]?=some ⟨some d,op,ty,pos,af,none⟩)(hd:Nat.blt d n=true)(hr:∀w,S w→AG P σ op ty w v w)(h:Vg P n l Q S true k (AA σ d v) ds w):Vg P n l Q S top (.rd i k) σ ds w:=λa ha =>
 ⟨_,v,hi,.inl ⟨by simp[Region.wanted],λw hS=>hr w hS a.eval _ _ _ _ ha.ev⟩,h _ (ha.put hd v)⟩
def Wx(P:Program)(n:Nat)(l:List Oper)(Q:AU)(S:World→Prop)(k:OT):AU :=
 {q:=λe σ ds w=>match e with|.normal=>S w∧Vg P n l Q S true k σ ds w|e=>Q.q e σ ds w,p:=Q.p}
theorem Ao(hS:S w)(h:Vg P n l Q S true k σ ds w):(Wx P n l Q S k).q .normal σ ds w:=⟨hS,h⟩
theorem An{x:Oper}(hi:l[i]?=some x)(h:GO P n l.toArray (Wx P n l Q S k) [x] σ ds w)(h2:Vg P n l Q S false o σ ds w):Vg P n l Q S top (.br i k o) σ ds w:=λa ha=>by
 refine⟨⟨x,hi,?_⟩,h2 a ha⟩;have h1:=h a ha;unfold wpList at h1 ⊢
 split
 · rename_i hw
   rw[if_pos hw] at h1;rcases h1 with h1|⟨_,a',w',h'⟩
   · refine .inl ?_
     unfold Oper.wp at h1 ⊢;generalize (execOp a.eval x).run P w=rr at h1 ⊢
     have key:∀a' w',wpList P l.toArray ((Wx P n l Q S k).up n) [] a' w'→wpList P l.toArray (Exit.then (λa' w'=>S w'∧Xy P l (Q.up n) S true k a' w') (Q.up n)) [] a' w':=λa' w' hk=>by
       obtain⟨σ',ds',hs',hq⟩:=hk;exact⟨hq.1,hq.2 a' hs'⟩
     cases rr with
     |ok nx w' =>
       cases nx <;> simp only[Oper.upon] at h1 ⊢ <;> first
         |exact key _ _ h1
         |(
           refine Calls.mono h1 λe w'' he=>?_
           cases e with
           |returned v=>exact key _ _ he
           |panicked c=>exact he
           |outgrown=>obtain⟨a₁,w₁,h₁⟩:=he;exact h₁.elim)
         |exact Rows.mono h1 λv w'' he=>key _ _ he
     |halt hh w'=>cases hh <;> simp only[Oper.upon] at h1 ⊢ <;> exact h1
   · exact h'.elim
 · rename_i hw
   rw[if_neg hw] at h1;obtain⟨σ',ds',hs',hq⟩:=h1;exact⟨hq.1,hq.2 _ hs'⟩
end
def BP(w:World)(e:TypeId)(size:Nat)(a:Option Addr)(c n:Nat)(xs:List Value):Prop :=
 xs.length=n*size∧((a=none∧c=0∧n=0)∨∃b l,a=some ⟨b,0,none⟩∧AI w b l e∧n≤c∧c≤maxLen∧l.length=c*size∧l.take (n*size)=xs)
def rb(a:Option Addr):Option Nat:=a.map (·.block)
theorem F4(w:World)(e:TypeId)(size:Nat):BP w e size none 0 0 []:=⟨by simp,.inl ⟨rfl,rfl,rfl⟩⟩
structure EB(a:Option Addr)(w:World)(a':Option Addr)(w':World):Prop where
 os:w'.os=w.os
 tape:w'.tape=w.tape
 output:w'.output=w.output
 size:w.heap.size≤w'.heap.size
 block:∀k,k<w.heap.size→some k≠rb a→w'.heap[k]?=w.heap[k]?
 own:rb a'=rb a∨rb a'=some w.heap.size
variable {l news xs zl:List Value}{b bytes cs m off:Nat}{a' q':Option Addr}{Ts:TypeId}
theorem BP.ext{w:World}{size:Nat}{c n:Nat}(h:BP w e size a c n xs)(hE:AS w w'):BP w' e size a c n xs :=
 ⟨h.1,h.2.imp id λ⟨b,l,h1,h2,h3⟩=>⟨b,l,h1,h2.ext hE,h3⟩⟩
theorem BP.chg{w:World}{size:Nat}{c n:Nat}(h:BP w e size a c n xs)(hC:FZ b w w')(hne:rb a≠some b):BP w' e size a c n xs :=
 ⟨h.1,h.2.imp id λ⟨g,l,h1,h2,h3⟩=>⟨g,l,h1,h2.chg hC (λe=>hne (by rw[h1,← e];rfl)),h3⟩⟩
theorem AI.grow{w:World}{T:TypeId}(h:AI w b l T)(hG:EB a w a' w')(hne:some b≠rb a):AI w' b l T:=(hG.block b h.lt hne).trans h
theorem BP.grow{w:World}{size:Nat}{c n:Nat}{q:Option Addr}(h:BP w e size a c n xs)(hG:EB q w q' w')(hne:rb a=none∨rb a≠rb q):BP w' e size a c n xs :=
 ⟨h.1,h.2.imp id λ⟨g,l,h1,h2,h3⟩=>⟨g,l,h1,h2.grow hG (λe=>by
   rcases hne with hn|hn
   · rw[h1] at hn;cases hn
   · exact hn (by rw[h1];exact e)),h3⟩⟩
theorem AS.grow{w:World}(h:AS w w1)(hG:EB a w1 a' w2)(hb:∀b,rb a=some b→w.heap.size≤b):AS w w2 :=
 ⟨hG.os.trans h.os,hG.tape.trans h.tape,hG.output.trans h.output,Nat.le_trans h.size hG.size,λk hk=>(hG.block k (Nat.lt_of_lt_of_le hk h.size) (λe=>by have:=hb k e.symm;omega)).trans (h.block k hk)⟩
theorem BP.lt{w:World}{size:Nat}{c n:Nat}(h:BP w e size a c n xs)(hb:rb a=some b):b<w.heap.size:=by
 rcases h.2 with ⟨h1,_⟩|⟨g,l,h1,h2,_⟩
 · rw[h1] at hb;cases hb
 · rw[h1] at hb;cases hb;exact h2.lt
theorem BP.n_le{w:World}{size:Nat}{c n:Nat}(h:BP w e size a c n xs):n≤c:=by
 rcases h.2 with ⟨_,h1,h2⟩|⟨g,l,h1,h2,h3,_⟩ <;> omega
section
variable{P:Program}{n:Nat}{Q:AU}{σ:Bb}{ds:List Deferred}{w:World}{ops:Array Oper}{ty T:TypeId}{pos:String}{af:Array Edge}{rest:List Oper}{d:Nat}{x y:Operand}
def Mg(P:Program)(T:TypeId):Option (TypeId×Nat×Nat×List Value) :=
 match P.underlying T with
 |some (.slice e)=>match P.info? e with
   |some i=>match i.zero with
     |some z=>some (e,i.size,i.bytes,z.cells.toList)
     |none=>none
   |none=>none
 |_=>none
theorem Vh{size:Nat}(hT:Mg P T=some (e,size,bytes,zl))(hzl:Nat.beq zl.length size=true)(hsz:Nat.blt 0 size=true){c k src:Nat}
   (hs:ev σ x=some (.slice a k c)) (hx:ev σ y=some (.slice (some ⟨src,off,none⟩) m cs)) (hrow:BP w e size a c k xs) (hnews':∀j u,news[j]?=some u→w.cell? ((⟨src,off,none⟩:Addr).add j)=some u) (hl:news.length=m*size)
   (h1:∀v∈news,v.oneCell'=true) (hm:0<m) (h47:(k+m)*bytes≤140737488355328) (h63:k+m≤9223372036854775807) :
   ∃a' c' w',AG P σ (.call {callee:=.builtin .append,args:=#[x,y],argTypes:=#[T,T]}) ty w (.slice a' (k+m) c') w'∧BP w' e size a' c' (k+m) (xs++news)∧EB a w a' w':=by
 unfold Mg at hT
 split at hT
 · rename_i e' hu
   split at hT
   · rename_i i hi
     split at hT
     · rename_i z hz
       injection hT with hT
       obtain⟨rfl,rfl,rfl,rfl⟩:=by simpa using hT
       have hzl':z.cells.size=i.size:=by have:=Nat.eq_of_beq_eq_true hzl;simpa using this
       have hsz':0<i.size:=Nat.le_of_ble_eq_true hsz;have hlen:(xs++news).length=(k+m)*i.size:=by rw[List.length_append,hrow.1,hl,Nat.add_mul]
       have grown:∀old:Nat,BP (w.drew.alloc (.cells (xs.toArray++news.toArray++Builtin.zeroCells z.cells (grownCap w (k+m) old e'-(k+m))) e')) e' i.size (some ⟨w.heap.size,0,none⟩) (grownCap w (k+m) old e') (k+m) (xs++news) ∧
           EB a w (some ⟨w.heap.size,0,none⟩) (w.drew.alloc (.cells (xs.toArray++news.toArray++Builtin.zeroCells z.cells (grownCap w (k+m) old e'-(k+m))) e')):=by
         intro old;have hge:=grownCap_ge w (k+m) old e';have hcm:grownCap w (k+m) old e'≤maxLen:=grownCap_le_maxLen w (k+m) old e' (by unfold maxLen;omega);refine⟨⟨hlen,.inr ⟨w.heap.size,xs++news++(Builtin.zeroCells z.cells (grownCap w (k+m) old e'-(k+m))).toList,rfl,?_,hge,hcm,?_,?_⟩⟩,⟨rfl,rfl,rfl,by simp,λj hj _=>Below.heap_alloc w.drew _ j hj,.inr rfl⟩⟩
         · have:=heap_alloc_new w.drew (.cells (xs.toArray++news.toArray++Builtin.zeroCells z.cells (grownCap w (k+m) old e'-(k+m))) e')
           unfold AI
           have e2:(xs++news++(Builtin.zeroCells z.cells (grownCap w (k+m) old e'-(k+m))).toList).toArray=xs.toArray++news.toArray++Builtin.zeroCells z.cells (grownCap w (k+m) old e'-(k+m)):=by
             apply Array.ext';simp
           rw[e2];exact this
         · simp only[List.length_append,Array.length_toList,size_zeroCells,hzl',hrow.1,hl,← Nat.add_mul]
           congr 1
           omega
         · rw[← hlen];exact List.take_left
       have hexec:∀(v':Value)(w':World),(Builtin.append_ #[T,T] ty #[.slice a k c,.slice (some ⟨src,off,none⟩) m cs]).run P w=.ok v' w' →
           AG P σ (.call {callee:=.builtin .append,args:=#[x,y],argTypes:=#[T,T]}) ty w v' w':=λv' w' hr ρ _ _ _ _ hρ=>by
         simp only[execOp,resolve,invoke,builtin,Sem.run_bind,Sem.run_pure,Result.andThen_ok,List.map_toArray,List.map_cons,List.map_nil,hρ _ _ hs,hρ _ _ hx,hr]
       rcases hrow.2 with ⟨rfl,rfl,rfl⟩|⟨g,l,rfl,hg,hnc,hcm,hcs,htake⟩
       · have hxs:xs=[]:=List.eq_nil_of_length_eq_zero (by simpa using hrow.1)
         subst hxs;have hr:=run_append_nil (P:=P) w T ty e' i z hu hi hz ⟨src,off,none⟩ m cs news hl hnews' hm oM (by have hb:=h47;simp only[Nat.zero_add] at hb;omega);have hgr:=grown 0;simp only[Nat.zero_add,List.nil_append,Array.empty_append] at hgr ⊢;exact⟨_,_,_,hexec _ _ hr,hgr.1,hgr.2⟩
       · by_cases hroom:k+m≤c
         · have hfit:k*i.size+news.length≤l.toArray.size:=by rw[hl,List.size_toArray,hcs,← Nat.add_mul];exact Nat.mul_le_mul_right _ hroom
           have hr:=run_append_room (P:=P) w T ty e' i hu hi g k c l.toArray hg ⟨src,off,none⟩ m cs news hl hnews' h1 hroom hfit
           refine⟨some ⟨g,0,none⟩,c,_,hexec _ _ hr,⟨hlen,.inr ⟨g,l.take (k*i.size)++news++l.drop (k*i.size+news.length),rfl,setRow_heap w g _ _ e' _ hg,hroom,hcm,?_,?_⟩⟩,
             ⟨rfl,rfl,rfl,by simp[World.setRow],λj _ hj=>setRow_other w g j _ (λe=>hj (by rw[e];rfl)),.inl rfl⟩⟩
           · simp only[List.size_toArray] at hfit
             simp only[List.length_append,List.length_take,List.length_drop];omega
           · rw[htake,← hlen];exact List.take_left
         · have holds:∀j u,xs[j]?=some u→w.cell? ((⟨g,0,none⟩:Addr).add j)=some u:=λj u hj=>by
             rw[Ed,hg.cell,Nat.zero_add];rw[← htake] at hj
             have hlt:j<k*i.size:=by
               rcases Nat.lt_or_ge j (k*i.size) with h|h
               · exact h
               · rw[List.getElem?_take,if_neg (by omega)] at hj;cases hj
             rwa[List.getElem?_take,if_pos hlt] at hj
           have hr:=run_append_grow (P:=P) w T ty e' i z hu hi hz ⟨g,0,none⟩ k c xs hrow.1 holds ⟨src,off,none⟩ m cs news hl hnews' oM oM (growslice_fits oM h47);have hgr:=grown c;exact⟨_,_,_,hexec _ _ hr,hgr.1,hgr.2⟩
     · cases hT
   · cases hT
 · cases hT
theorem lD{size:Nat}(hT:Mg P T=some (e,size,bytes,zl))(hzl:Nat.beq zl.length size=true)(hsz:Nat.blt 0 size=true){c k src:Nat}{sl:List Value}
   (hs:ev σ x=some (.slice a k c)) (hx:ev σ y=some (.slice (some ⟨src,off,none⟩) m cs)) (hrow:BP w e size a c k xs) (hsrc:AI w src sl Ts) (hnews:(sl.drop off).take (m*size)=news) (hl:news.length=m*size)
   (h1:∀v∈news,v.oneCell'=true) (hm:0<m) (h47:(k+m)*bytes≤140737488355328) (h63:k+m≤9223372036854775807) :
   ∃a' c' w',AG P σ (.call {callee:=.builtin .append,args:=#[x,y],argTypes:=#[T,T]}) ty w (.slice a' (k+m) c') w'∧BP w' e size a' c' (k+m) (xs++news)∧EB a w a' w':=by
 refine Vh hT hzl hsz hs hx hrow (λj u hj=>?_) hl h1 hm h47 h63;rw[Ed,hsrc.cell];rw[← hnews] at hj
 have hlt:j<m*size:=by
   rcases Nat.lt_or_ge j (m*size) with h|h
   · exact h
   · rw[List.getElem?_take,if_neg (by omega)] at hj;cases hj
 rwa[List.getElem?_take,if_pos hlt,List.getElem?_drop] at hj
theorem aE{size:Nat}(hd:Nat.blt d n=true)(hT:Mg P T=some (e,size,bytes,zl))(hzl:Nat.beq zl.length size=true)(hsz:Nat.blt 0 size=true){c k src:Nat}{sl:List Value}
   (hs:ev σ x=some (.slice a k c)) (hx:ev σ y=some (.slice (some ⟨src,off,none⟩) m cs)) (hrow:BP w e size a c k xs) (hsrc:AI w src sl Ts) (hnews:(sl.drop off).take (m*size)=news) (hl:news.length=m*size)
   (h1:∀v∈news,v.oneCell'=true) (hm:0<m) (h47:(k+m)*bytes≤140737488355328)
   (h:∀a' c' w',BP w' e size a' c' (k+m) (xs++news)→EB a w a' w'→GO P n ops Q rest (AA σ d (.slice a' (k+m) c')) ds w') (h63:k+m≤9223372036854775807) :
   GO P n ops Q (⟨some d,.call {callee:=.builtin .append,args:=#[x,y],argTypes:=#[T,T]},ty,pos,af,none⟩::rest) σ ds w:=by
 obtain⟨a',c',w',hr,hrw,hg⟩:=lD (ty:=ty) hT hzl hsz hs hx hrow hsrc hnews hl h1 hm h47 h63;exact Ab hd hr (h a' c' w' hrw hg)
theorem AY{size:Nat}(hd:Nat.blt d n=true)(hT:Mg P T=some (e,size,bytes,zl))(hzl:Nat.beq zl.length size=true)(hsz:Nat.blt 0 size=true){c k src:Nat}
   (hs:ev σ x=some (.slice a k c)) (hx:ev σ y=some (.slice (some ⟨src,0,none⟩) 1 cs)) (hrow:BP w e size a c k xs) (hsrc:AI w src news Ts) (hl:Nat.beq news.length size=true)
   (h1:LG news=true) (h47:(k+1)*bytes≤140737488355328) (h63:k+1≤9223372036854775807)
   (h:∀a' c' w',BP w' e size a' c' (k+1) (xs++news)→EB a w a' w'→GO P n ops Q rest (AA σ d (.slice a' (k+1) c')) ds w') :
   GO P n ops Q (⟨some d,.call {callee:=.builtin .append,args:=#[x,y],argTypes:=#[T,T]},ty,pos,af,none⟩::rest) σ ds w:=by
 have hl':=Nat.eq_of_beq_eq_true hl;exact aE hd hT hzl hsz hs hx hrow hsrc (by simp[← hl']) (by simpa using hl') (Lp h1) oM h47 h h63
end
def Zu(P:Program)(T:TypeId):Bool:=match P.underlying T with|some (.interface _)=>true|_=>false
def qA(P:Program)(T:TypeId):Bool:=match P.underlying T with|some (.interface _)=>false|some _=>true|none=>false
def WQ(P:Program)(s d:TypeId):Option IntKind:=match P.underlying s,P.underlying d with|some _,some (.int k)=>some k|_,_=>none
def eD(P:Program)(s d:TypeId):Option TypeId:=match P.underlying s with
 |some (.slice e)=>match P.underlying e,P.underlying d with
   |some (.int .u8),some .string=>some e
   |_,_=>none
 |_=>none
end Go.SW
namespace Go.SP
structure AK where
 k:Int
 ln:Int
 co:Int
 nm:Int
 tx:lU
inductive Fo where
 |nil
 |cons (t:AK) (kids rest:Fo)
def Fo.len:Fo→Nat
 |.nil=>0
 |.cons _ _ r=>r.len+1
def AK.ok(t:AK):Prop:=(t.k=5→t.tx≠[])∧t.tx.length≤100000
def Fo.ok:Fo→Prop
 |.nil=>True
 |.cons t k r=>t.ok∧k.ok∧k.len≤100000∧r.ok
def Fo.all(p:AK→Fo→Prop):Fo→Prop
 |.nil=>True
 |.cons t k r=>p t k∧r.all p
def Fo.snoc:Fo→AK→Fo→Fo
 |.nil,t,k=>.cons t k .nil
 |.cons u l r,t,k=>.cons u l (r.snoc t k)
def Fo.app:Fo→Fo→Fo
 |.nil,y=>y
 |.cons u l r,y=>.cons u l (r.app y)
def Fo.deep:Nat→Fo→Bool
 |_,.nil=>true
 |0,.cons _ _ _=>false
 |n+1,.cons _ l r=>l.deep n&&r.deep (n+1)
def Gp(n:Nat)(t:AK)(k:Fo):Prop:=t.ok∧k.ok∧k.len≤100000∧k.deep n=true
theorem N1:∀(n:Nat)(fo:Fo),fo.ok→fo.deep (n+1)=true→fo.all (Gp n)
 |_,.nil,_,_=>trivial
 |n,.cons t k r,h,hd=>by
   simp only[Fo.deep,Bool.and_eq_true] at hd;exact⟨⟨h.1,h.2.1,h.2.2.1,hd.1⟩,N1 n r h.2.2.2 hd.2⟩
inductive Nd where
 |nil
 |cons (op ln co:Int) (tx:lU) (nm:Int) (kids rest:Nd)
def Nd.len:Nd→Nat
 |.nil=>0
 |.cons _ _ _ _ _ _ r=>r.len+1
def Nd.app:Nd→Nd→Nd
 |.nil,y=>y
 |.cons a b c d e l r,y=>.cons a b c d e l (r.app y)
structure N where
 op:Int
 ln:Int
 co:Int
 tx:lU
 nm:Int
 kids:Nd
def N.cons(a:N)(r:Nd):Nd:=.cons a.op a.ln a.co a.tx a.nm a.kids r
def N.one(a:N):Nd:=a.cons .nil
abbrev R:=Except (Int×Int)
def Dr:lU→lU→Bool
 | [],sub=>sub.isEmpty
 |b::l,sub=>sub.isPrefixOf (b::l)||Dr l sub
theorem QI(sub:lU):∀l,-1≤Lib.index l sub
 | []=>by unfold Lib.index;split <;> omega
 |b::l=>by
   have:=QI sub l;unfold Lib.index
   split
   · omega
   · split <;> omega
theorem IV(sub:lU):∀l,Lib.contains l sub=Dr l sub
 | []=>by unfold Lib.contains Lib.index Dr;cases h:sub.isEmpty <;> simp
 |b::l=>by
   have ih:=IV sub l;have hge:=QI sub l;unfold Lib.contains at ih ⊢;unfold Lib.index Dr
   cases hp:sub.isPrefixOf (b::l) with
   |true=>simp
   |false =>
     rw[← ih];simp only[Bool.false_eq_true,if_false,Bool.false_or]
     by_cases h1:Lib.index l sub = -1
     · simp[h1]
     · have h2:¬(Lib.index l sub == -1)=true:=by simpa using h1
       rw[if_neg h2];simp only[decide_eq_decide];omega
def eG:lU:=[32,102,110,32,108,101,116,32,114,101,99,32,105,102,32,115,101,113,32,116,117,112,108,101,32,99,97,115,101,32,116,114,121,32,114,97,105,115,101,32,116,114,97,110,115,97,99,116,32,100,97,116,97,32,114,111,111,116,32,100,101,102,32,100,111,32]
def lF:lU:=[32,45,62,32,116,117,112,108,101,32,114,101,102,32,112,114,101,102,32]
def N4(tx:lU):Bool:=Dr eG ([32]++tx++[32])
def SQ(tx:lU):Bool:=Dr lF ([32]++tx++[32])
def Yy(tx:lU):UInt8:=tx.headD 0
namespace AK
def isWord(t:AK)(s:lU):Bool:=t.k==5&&t.tx==s
def isVar(t:AK):Bool:=t.k==5&&(!(t.tx==[95])&&(((Yy t.tx).toNat:Int) != 39&&!N4 t.tx))
def isHole(t:AK):Bool:=t.isVar||t.isWord [95]
def isTypeName(t:AK):Bool:=t.isVar&&!SQ t.tx
def isTypeVar(t:AK):Bool:=t.k==5&&(((Yy t.tx).toNat:Int)==39&&decide (1<(t.tx.length:Int)))
end AK
def within(n lo hi:Int):Bool:=decide (lo≤n)&&decide (n≤hi)
def SU(t:AK):Fo→Bool
 |.nil=>false
 |.cons h _ _=>t.k==0&&h.isWord [102,110]
def need{α:Type}(t:AK)(b:Bool)(x:R α):R α:=if b then x else .error (t.ln,t.co)
def Az(t:AK)(op:Int)(tx:lU)(kids:Nd):N:=⟨op,t.ln,t.co,tx,0,kids⟩
def Bj(f:AK→Fo→R N):Fo→R Nd
 |.nil=>.ok .nil
 |.cons t k r=>match f t k with
   |.error e=>.error e
   |.ok a=>match Bj f r with
     |.error e=>.error e
     |.ok b=>.ok (a.cons b)
def I6(t:AK)(_:Fo):R N:=.ok (if t.isWord [95] then Az t 21 [] .nil else Az t 22 t.tx .nil)
def ML:Fo→Bool
 |.nil=>true
 |.cons t _ r=>t.isHole&&ML r
def BH(seen:List lU):Nd→Option (List lU)
 |.nil=>some seen
 |.cons op _ _ tx _ kids rest =>
   match (if op==22 then (if seen.contains tx then none else some (tx::seen)) else some seen) with
   |none=>none
   |some s1=>match BH s1 kids with
     |none=>none
     |some s2=>BH s2 rest
def DT:Nat→AK→Fo→R N
 |0,t,_=>.error (t.ln,t.co)
 |n+1,t,kids =>
   if t.k==2 then .ok ⟨23,t.ln,t.co,[],t.nm,.nil⟩
   else if t.k==4 then .ok (Az t 24 t.tx .nil)
   else if t.k==6 then .ok (Az t 26 t.tx .nil)
   else if t.k==5 then need t t.isHole (I6 t kids)
   else if t.k==3 then .error (t.ln,t.co)
   else match kids with
     |.nil=>.ok (Az t 25 [] .nil)
     |.cons h _ l =>
       if h.k==6 then need t (within l.len 1 8) (match Bj (DT n) l with|.error e=>.error e|.ok ks=>.ok (Az t 26 h.tx ks))
       else need t (h.isWord [116,117,112,108,101]&&within l.len 2 8) (match Bj (DT n) l with|.error e=>.error e|.ok ks=>.ok (Az t 27 [] ks))
def FL(t:AK):Nd→Option N
 |.nil=>none
 |.cons op ln co tx nm kids r=>match r with
   |.nil=>some ⟨op,ln,co,tx,nm,kids⟩
   |_=>match FL t r with
     |none=>none
     |some o=>some (Az t 32 [45,62] (.cons op ln co tx nm kids o.one))
def Dy:Nat→AK→Fo→R N
 |0,t,_=>.error (t.ln,t.co)
 |n+1,t,kids =>
   if t.k==0 then match kids with
     |.nil=>.error (t.ln,t.co)
     |.cons h _ l =>
       if h.isWord [45,62] then need t (decide ((2:Int)≤l.len)) (match Bj (Dy n) l with
         |.error e=>.error e
         |.ok ks=>match FL t ks with
           |some o=>.ok o
           |none=>.error (t.ln,t.co))
       else
         let ok:=if h.isWord [116,117,112,108,101] then within l.len 2 8
           else if h.isWord [114,101,102]||h.isWord [112,114,101,102] then (l.len:Int)==1
           else h.isTypeName&&within l.len 1 8
         need t ok (match Bj (Dy n) l with|.error e=>.error e|.ok ks=>.ok (Az t 32 h.tx ks))
   else if t.isTypeVar then .ok (Az t 31 t.tx .nil)
   else need t t.isTypeName (.ok (Az t 32 t.tx .nil))
def GX(n:Nat)(ex:AK→Fo→R N)(t:AK)(kids:Fo):R N :=
 match kids with
 |.cons p pk (.cons b bk .nil)=>need t (t.k==0) (match DT n p pk with
   |.error e=>.error e
   |.ok q=>need p (BH [] q.one).isSome (match ex b bk with
     |.error e=>.error e
     |.ok x=>.ok (Az t 18 [] (q.cons x.one))))
 |_=>.error (t.ln,t.co)
def Bh(n:Nat)(ex:AK→Fo→R N)(t:AK)(w:lU)(l:Fo):R N :=
 if w==[102,110] then match l with
   |.cons p pk (.cons b bk .nil)=>need t (p.k==0&&(within pk.len 1 8&&ML pk)) (match Bj I6 pk with
     |.error e=>.error e
     |.ok hs=>match ex b bk with
       |.error e=>.error e
       |.ok x=>.ok (Az t 7 [] (hs.app x.one)))
   |_=>.error (t.ln,t.co)
 else if w==[108,101,116] then match l with
   |.cons v _ (.cons e ek (.cons b bk .nil))=>need t v.isHole (match ex e ek with
     |.error e=>.error e
     |.ok x=>match ex b bk with
       |.error e=>.error e
       |.ok y=>.ok (Az t 9 v.tx (x.cons y.one)))
   |_=>.error (t.ln,t.co)
 else if w==[114,101,99] then match l with
   |.cons v _ (.cons e ek (.cons b bk .nil))=>need t (v.isVar&&SU e ek) (match ex e ek with
     |.error e=>.error e
     |.ok x=>match ex b bk with
       |.error e=>.error e
       |.ok y=>.ok (Az t 10 v.tx (x.cons y.one)))
   |_=>.error (t.ln,t.co)
 else if w==[105,102] then need t ((l.len:Int)==3) (match Bj ex l with|.error e=>.error e|.ok ks=>.ok (Az t 11 [] ks))
 else if w==[115,101,113] then need t (decide ((1:Int)≤l.len)) (match Bj ex l with|.error e=>.error e|.ok ks=>.ok (Az t 12 [] ks))
 else if w==[116,117,112,108,101] then need t (within l.len 2 8) (match Bj ex l with|.error e=>.error e|.ok ks=>.ok (Az t 13 [] ks))
 else if w==[99,97,115,101]||w==[116,114,121] then need t (decide ((2:Int)≤l.len)) (match l with
   |.nil=>.error (t.ln,t.co)
   |.cons e ek arms=>match ex e ek with
     |.error e=>.error e
     |.ok x=>match Bj (GX n ex) arms with
       |.error e=>.error e
       |.ok ars=>.ok (Az t (if w==[116,114,121] then 15 else 14) [] (x.cons ars)))
 else if w==[114,97,105,115,101]||w==[116,114,97,110,115,97,99,116] then match l with
   |.cons e ek .nil=>match ex e ek with
     |.error e=>.error e
     |.ok x=>.ok (Az t (if w==[116,114,97,110,115,97,99,116] then 17 else 16) [] x.one)
   |_=>.error (t.ln,t.co)
 else .error (t.ln,t.co)
def Cb:Nat→AK→Fo→R N
 |0,t,_=>.error (t.ln,t.co)
 |n+1,t,kids =>
   if t.k==2 then .ok ⟨1,t.ln,t.co,[],t.nm,.nil⟩
   else if t.k==3 then .ok (Az t 2 t.tx .nil)
   else if t.k==4 then .ok (Az t 3 t.tx .nil)
   else if t.k==6 then .ok (Az t 6 t.tx .nil)
   else if t.k==5 then need t t.isVar (.ok (Az t 5 t.tx .nil))
   else match kids with
     |.nil=>.ok (Az t 4 [] .nil)
     |.cons h _ l =>
       if h.k==6 then need t (within l.len 1 8) (match Bj (Cb n) l with|.error e=>.error e|.ok ks=>.ok (Az t 6 h.tx ks))
       else if h.k==5&&N4 h.tx then Bh n (Cb n) t h.tx l
       else need t (within l.len 1 8) (match Bj (Cb n) kids with|.error e=>.error e|.ok ks=>.ok (Az t 8 [] ks))
def H4(n:Nat)(t:AK)(kids:Fo):R N :=
 match kids with
 |.nil=>.error (t.ln,t.co)
 |.cons h _ l=>need t (t.k==0&&(h.k==6&&decide ((kids.len:Int)≤9))) (match Bj (Dy n) l with|.error e=>.error e|.ok ks=>.ok (Az t 42 h.tx ks))
def BW:Fo→Option Nd
 |.nil=>some .nil
 |.cons v _ r=>if v.isTypeVar then (match BW r with|none=>none|some x=>some ((Az v 31 v.tx .nil).cons x)) else none
def CC(n:Nat)(t:AK)(kids:Fo):R N :=
 match kids with
 |.nil=>.error (t.ln,t.co)
 |.cons h _ l=>need t (t.k==0&&h.k==5) (
   if h.tx==[100,97,116,97] then match l with
     |.cons a _ (.cons b bk (.cons c ck r))=>need t (a.isTypeName&&(b.k==0&&decide ((bk.len:Int)≤8))) (match BW bk with
       |none=>.error (t.ln,t.co)
       |some vs=>match Bj (H4 n) (.cons c ck r) with
         |.error e=>.error e
         |.ok cs=>.ok (Az t 41 a.tx (vs.app cs)))
     |_=>.error (t.ln,t.co)
   else if h.tx==[114,111,111,116] then match l with
     |.cons a _ (.cons b bk (.cons c ck .nil))=>need t a.isVar (match Dy n b bk with
       |.error e=>.error e
       |.ok x=>match Cb n c ck with
         |.error e=>.error e
         |.ok y=>.ok (Az t 43 a.tx (x.cons y.one)))
     |_=>.error (t.ln,t.co)
   else if h.tx==[100,101,102] then match l with
     |.cons a _ (.cons b bk .nil)=>need t a.isVar (match Cb n b bk with|.error e=>.error e|.ok x=>.ok (Az t 44 a.tx x.one))
     |_=>.error (t.ln,t.co)
   else if h.tx==[114,101,99] then match l with
     |.cons a _ (.cons b bk .nil)=>need t (a.isVar&&SU b bk) (match Cb n b bk with|.error e=>.error e|.ok x=>.ok (Az t 45 a.tx x.one))
     |_=>.error (t.ln,t.co)
   else if h.tx==[100,111] then match l with
     |.cons b bk .nil=>match Cb n b bk with|.error e=>.error e|.ok x=>.ok (Az t 46 [] x.one)
     |_=>.error (t.ln,t.co)
   else .error (t.ln,t.co))
def Bn:List AK→List (AK×Fo)→Fo→R Fo
 | [],[],cur=>.ok cur
 | [],(o,p)::s,_=>match ((o,p)::s).getLast? with
   |some (q,_)=>.error (q.ln,q.co)
   |none=>.error (0,0)
 |k::l,st,cur =>
   if k.k==0 then (if st.length==200 then .error (k.ln,k.co) else Bn l ((k,cur)::st) .nil)
   else if k.k==1 then (match st with
     | []=>.error (k.ln,k.co)
     |(o,p)::s=>Bn l s (p.snoc o cur))
   else Bn l st (cur.snoc k .nil)
end Go.SP
namespace Go.SP
def Kd(n:Nat)(lx:Except (Int×Int×Int) (List AK)):Nd×Int×Int×Int :=
 match lx with
 |.error e=>(.nil,e)
 |.ok toks=>match Bn toks [] .nil with
   |.error e=>(.nil,e.1,e.2,10)
   |.ok fo=>match Bj (CC n) fo with
     |.error e=>(.nil,e.1,e.2,10)
     |.ok nds=>(nds,0,0,0)
end Go.SP
namespace Go.SP
open Go.SW Go.RowKit
def Iu(t:AK):List Value:=[.int .i64 t.k,.int .i64 t.ln,.int .i64 t.co,.int .i64 t.nm,S t.tx]
def Sl(U:Nat→Prop)(w:World)(a:Option Addr)(n c len:Nat)(C:List Value→Prop):Prop :=
 n=len∧n≤c∧(n=0∨∃b off l T,U b∧a=some ⟨b,off,none⟩∧AI w b l T∧C (l.drop off))
def GS(U:Nat→Prop)(w:World):Fo→List Value→Prop
 |.nil,_=>True
 |.cons t kids rest,l=>∃a n c l',l=.int .i64 t.k::.int .i64 t.ln::.int .i64 t.co::.int .i64 t.nm::S t.tx::.slice a n c::l'∧Sl U w a n c kids.len (GS U w kids)∧GS U w rest l'
abbrev Eb(U:Nat→Prop)(w:World)(a:Option Addr)(n c:Nat)(fo:Fo):Prop:=Sl U w a n c fo.len (GS U w fo)
def Fy(U:Nat→Prop)(w:World):Nd→List Value→Prop
 |.nil,_=>True
 |.cons op ln co tx nm kids rest,l=>∃a n c l',l=.int .i64 op::.int .i64 ln::.int .i64 co::S tx::.int .i64 nm::.slice a n c::l'∧Sl U w a n c kids.len (Fy U w kids)∧Fy U w rest l'
abbrev GU(U:Nat→Prop)(w:World)(a:Option Addr)(n c:Nat)(nd:Nd):Prop:=Sl U w a n c nd.len (Fy U w nd)
variable {vs:List Value}{m:Nat}{U':Nat→Prop}{e:TypeId}
theorem Sl.imp{U:Nat→Prop}{w w':World}{a:Option Addr}{n c len:Nat}{C C':List Value→Prop}(h:Sl U w a n c len C)(hU:∀b,U b→b<w.heap.size→U' b∧w'.heap[b]?=w.heap[b]?)(hC:∀l,C l→C' l):Sl U' w' a n c len C' :=
 ⟨h.1,h.2.1,h.2.2.imp id λ⟨b,off,l,T,hu,ha,hb,hc⟩=>⟨b,off,l,T,(hU b hu hb.lt).1,ha,(hU b hu hb.lt).2.trans hb,hC _ hc⟩⟩
theorem GS.imp{U:Nat→Prop}{w w':World}(hU:∀b,U b→b<w.heap.size→U' b∧w'.heap[b]?=w.heap[b]?):∀(fo:Fo)(l:List Value),GS U w fo l→GS U' w' fo l
 |.nil,_,_=>trivial
 |.cons _ kids rest,_,⟨a,n,c,l',h1,h2,h3⟩=>⟨a,n,c,l',h1,h2.imp hU (GS.imp hU kids),GS.imp hU rest l' h3⟩
theorem Fy.imp{U:Nat→Prop}{w w':World}(hU:∀b,U b→b<w.heap.size→U' b∧w'.heap[b]?=w.heap[b]?):∀(nd:Nd)(l:List Value),Fy U w nd l→Fy U' w' nd l
 |.nil,_,_=>trivial
 |.cons _ _ _ _ _ kids rest,_,⟨a,n,c,l',h1,h2,h3⟩=>⟨a,n,c,l',h1,h2.imp hU (Fy.imp hU kids),Fy.imp hU rest l' h3⟩
theorem Eb.imp{U:Nat→Prop}{w w':World}{a:Option Addr}{n c:Nat}{fo:Fo}(h:Eb U w a n c fo)(hU:∀b,U b→b<w.heap.size→U' b∧w'.heap[b]?=w.heap[b]?):Eb U' w' a n c fo:=Sl.imp h hU (GS.imp hU fo)
theorem GU.imp{U:Nat→Prop}{w w':World}{a:Option Addr}{n c:Nat}{nd:Nd}(h:GU U w a n c nd)(hU:∀b,U b→b<w.heap.size→U' b∧w'.heap[b]?=w.heap[b]?):GU U' w' a n c nd:=Sl.imp h hU (Fy.imp hU nd)
section
variable{U:Nat→Prop}{w w':World}{a:Option Addr}{n c:Nat}{fo:Fo}{nd:Nd}{l:List Value}
theorem Eb.ext(h:Eb U w a n c fo)(hE:AS w w'):Eb U w' a n c fo:=Eb.imp h λb hu hl=>⟨hu,hE.block b hl⟩
theorem GU.ext(h:GU U w a n c nd)(hE:AS w w'):GU U w' a n c nd:=GU.imp h λb hu hl=>⟨hu,hE.block b hl⟩
theorem GS.ext(h:GS U w fo l)(hE:AS w w'):GS U w' fo l:=GS.imp (λb hu hl=>⟨hu,hE.block b hl⟩) fo l h
theorem Fy.ext(h:Fy U w nd l)(hE:AS w w'):Fy U w' nd l:=Fy.imp (λb hu hl=>⟨hu,hE.block b hl⟩) nd l h
theorem Eb.chg{b:Nat}(h:Eb U w a n c fo)(hC:FZ b w w')(hb:¬U b):Eb U w' a n c fo:=Eb.imp h λk hu _=>⟨hu,hC.block k (λe=>hb (e▸hu))⟩
theorem GU.chg{b:Nat}(h:GU U w a n c nd)(hC:FZ b w w')(hb:¬U b):GU U w' a n c nd:=GU.imp h λk hu _=>⟨hu,hC.block k (λe=>hb (e▸hu))⟩
theorem Fy.chg{b:Nat}(h:Fy U w nd l)(hC:FZ b w w')(hb:¬U b):Fy U w' nd l:=Fy.imp (λk hu _=>⟨hu,hC.block k (λe=>hb (e▸hu))⟩) nd l h
theorem Eb.mono(h:Eb U w a n c fo)(hU:∀b,U b→U' b):Eb U' w a n c fo:=Eb.imp h λb hu _=>⟨hU b hu,rfl⟩
theorem GU.mono(h:GU U w a n c nd)(hU:∀b,U b→U' b):GU U' w a n c nd:=GU.imp h λb hu _=>⟨hU b hu,rfl⟩
theorem Fy.mono(h:Fy U w nd l)(hU:∀b,U b→U' b):Fy U' w nd l:=Fy.imp (λb hu _=>⟨hU b hu,rfl⟩) nd l h
theorem Fy.more:∀(nd:Nd)(l m:List Value),Fy U w nd l→Fy U w nd (l++m)
 |.nil,_,_,_=>trivial
 |.cons _ _ _ _ _ kids rest,l,m,⟨a,n,c,l',h1,h2,h3⟩=>⟨a,n,c,l'++m,by rw[h1];rfl,h2,Fy.more rest l' m h3⟩
theorem GS.more:∀(fo:Fo)(l m:List Value),GS U w fo l→GS U w fo (l++m)
 |.nil,_,_,_=>trivial
 |.cons _ kids rest,l,m,⟨a,n,c,l',h1,h2,h3⟩=>⟨a,n,c,l'++m,by rw[h1];rfl,h2,GS.more rest l' m h3⟩
theorem Eb.nil(U:Nat→Prop)(w:World)(a:Option Addr)(c:Nat):Eb U w a 0 c .nil:=⟨rfl,Nat.zero_le _,.inl rfl⟩
theorem GU.nil(U:Nat→Prop)(w:World)(a:Option Addr)(c:Nat):GU U w a 0 c .nil:=⟨rfl,Nat.zero_le _,.inl rfl⟩
theorem Eb.head{t:AK}{kids rest:Fo}(h:Eb U w a n c (.cons t kids rest)):∃b off l T ka kn kc l',U b∧a=some ⟨b,off,none⟩∧AI w b l T ∧
   l.drop off=.int .i64 t.k::.int .i64 t.ln::.int .i64 t.co::.int .i64 t.nm::S t.tx::.slice ka kn kc::l'∧Eb U w ka kn kc kids∧GS U w rest l':=by
 obtain⟨h1,h2,h3|⟨b,off,l,T,hu,ha,hb,ka,kn,kc,l',h4,h5,h6⟩⟩:=h
 · rw[h3] at h1;cases h1
 · exact⟨b,off,l,T,ka,kn,kc,l',hu,ha,hb,h4,h5,h6⟩
end
def EM(a:Option Addr)(c sz:Nat):Option Addr:=if c=1 then a else a.map (·.add (1*sz))
theorem Eb.rest{U:Nat→Prop}{w:World}{a:Option Addr}{n c:Nat}{t:AK}{kids rest:Fo}(h:Eb U w a n c (.cons t kids rest)):Eb U w (EM a c 6) rest.len (c-1) rest:=by
 obtain⟨h1,h2,h3|⟨b,off,l,T,hu,ha,hb,ka,kn,kc,l',h4,h5,h6⟩⟩:=h
 · rw[h3] at h1;cases h1
 · have hn:n=rest.len+1:=h1
   refine⟨rfl,oM,?_⟩
   by_cases hc:c=1
   · left;omega
   · right
     refine⟨b,off+1*6,l,T,hu,by simp[EM,hc,ha,Ed],hb,?_⟩
     have:l.drop (off+1*6)=l':=by
       rw[← List.drop_drop,h4];rfl
     rw[this];exact h6
section
variable{P:Program}{σ:Bb}{w:World}{ty T:TypeId}{x y lo:Operand}{k b p off q:Nat}{l cells:List Value}{T':TypeId}
theorem UX{a:Option Addr}{c:Nat}(hx:ev σ x=some (.slice a (m+1) c))(hlo:ev σ lo=some (.int .i64 1))(hs:Ip P T=some (e,k)):AG P σ (.slice T x (some lo) none none) ty w (.slice (EM a c k) m (c-1)) w:=by
 have:=Lj (w:=w) (ty:=ty) (i:=1) hx (by simpa using hlo) hs oM;simpa[EM] using this
theorem Z2:∀{cells:List Value}{off q k:Nat}{l vs:List Value},cells.drop off=l→Sx l q (k+1)=some vs→Sx cells (off+q) (k+1)=some vs
 |cells,0,q,k,l,vs,h,hv=>by rw[Nat.zero_add];rw[List.drop_zero] at h;rw[h];exact hv
 | [],off+1,q,k,l,vs,h,hv=>by
   rw[List.drop_nil] at h;subst h
   cases q <;> cases hv
 |c::cells,off+1,q,k,l,vs,h,hv=>by
   rw[List.drop_succ_cons] at h;have:=Z2 h hv;rw[show off+1+q=(off+q)+1 by omega];exact this
theorem La(q:Nat)(hx:ev σ x=some (.pointer (some ⟨b,p,none⟩)))(hT:AN P T=some (true,k+1))(hb:AI w b cells T')(hd:cells.drop off=l)(hp:p=off+q)(hv:Sx l q (k+1)=some vs) :
   AG P σ (.load T x) ty w (.agg vs.toArray) w:=by
 refine CT hx hT hb ?_;rw[hp];exact Z2 hd hv
end
end Go.SP
namespace Go.Proofs.YtelmolopaolbcaaGreatDoor
open Go.SW Go.RowKit Go.Proofs.Tryz
theorem jC:Mg prog 44=some (5,1,1,[.int .u8 0]):=kR
theorem Is:Mg prog 57=some (108,5,48,[.int .i64 0,.int .i64 0,.int .i64 0,.int .i64 0,.string ⟨#[]⟩]):=kR
theorem Wy:Mg prog 63=some (110,6,72,[.int .i64 0,.int .i64 0,.int .i64 0,.int .i64 0,.string ⟨#[]⟩,.slice none 0 0]):=kR
theorem rQ:Mg prog 111=some (63,1,24,[.slice none 0 0]):=kR
theorem Vi:eD prog 44 9=some 5:=kR
theorem eQ:WQ prog 3 5=some .u8:=kR
theorem nN:WQ prog 3 43=some .u64:=kR
theorem Kq:WQ prog 3 208=some .u64:=kR
theorem TN:WQ prog 5 43=some .u64:=kR
theorem KX:WQ prog 43 2=some .i64:=kR
theorem aK:WQ prog 190 5=some .u8:=kR
theorem fM:B3 prog 37:=Al func37 kR kR
theorem Ra:B3 prog 38:=Al func38 kR kR
theorem qZ:B3 prog 39:=Al func39 kR kR
theorem Xp:B3 prog 42:=Al func42 kR kR
theorem fU:B3 prog 47:=Al func47 kR kR
theorem pN:B3 prog 51:=Al func51 kR kR
theorem eN:B3 prog 57:=Al func57 kR kR
theorem Mc:B3 prog 74:=Al func74 kR kR
theorem UT:B3 prog 75:=Al func75 kR kR
theorem fK:B3 prog 76:=Al func76 kR kR
theorem Lz:B3 prog 77:=Al func77 kR kR
theorem rO:B3 prog 78:=Al func78 kR kR
theorem gI:B3 prog 102:=Al func102 kR kR
theorem mH:B3 prog 103:=Al func103 kR kR
theorem hO:B3 prog 104:=Al func104 kR kR
theorem gW:B3 prog 105:=Al func105 kR kR
theorem Tc:B3 prog 106:=Al func106 kR kR
theorem Fb:B3 prog 107:=Al func107 kR kR
theorem Ta:B3 prog 126:=Al func126 kR kR
theorem mD:B3 prog 127:=Al func127 kR kR
theorem lJ:B3 prog 128:=Al func128 kR kR
theorem iJ:B3 prog 129:=Al func129 kR kR
theorem jV:B3 prog 130:=Al func130 kR kR
theorem Zs:B3 prog 132:=Al func132 kR kR
theorem jO:B3 prog 144:=Al func144 kR kR
theorem nF:B3 prog 145:=Al func145 kR kR
theorem gR:B3 prog 147:=Al func147 kR kR
theorem jS:B3 prog 148:=Al func148 kR kR
theorem Ym:B3 prog 165:=Al func165 kR kR
theorem mK:B3 prog 170:=Al func170 kR kR
theorem gM:B3 prog 180:=Al func180 kR kR
theorem kL:B3 prog 185:=Al func185 kR kR
theorem gZ:B3 prog 191:=Al func191 kR kR
theorem iX:B3 prog 192:=Al func192 kR kR
theorem iE:B3 prog 200:=Al func200 kR kR
theorem mV:B3 prog 202:=Al func202 kR kR
theorem mM:B3 prog 205:=Al func205 kR kR
theorem jM:EI prog 27 0=some 0:=kR
theorem kA:EI prog 27 1=some 1:=kR
theorem dH:EI prog 103 0=some 0:=kR
theorem GZ:EI prog 106 0=some 0:=kR
theorem EF:EI prog 106 1=some 1:=kR
theorem Qj:EI prog 106 2=some 2:=kR
theorem Ce:EI prog 106 3=some 4:=kR
theorem cG:EI prog 108 1=some 1:=kR
theorem dG:EI prog 298 0=some 0:=kR
theorem fC:Zu prog 20=true:=kR
theorem FN:Zu prog 184=true:=kR
theorem mixed:prog.follows .mixedOrders=true:=kR
theorem aF:nY prog 61=true:=kR
theorem FH:nY prog 103=true:=kR
theorem KB:nY prog 258=true:=kR
theorem iD:L9 prog 27=some [(0,1),(1,1)]:=kR
theorem oD:L9 prog 61=some [(0,2)]:=kR
theorem oY:L9 prog 103=some [(0,2)]:=kR
theorem pF:L9 prog 106=some [(0,1),(1,1),(2,2),(4,1)]:=kR
theorem Sg:L9 prog 108=some [(0,1),(1,2),(3,1),(4,1)]:=kR
theorem fB:L9 prog 110=some [(0,5),(5,1)]:=kR
theorem dO:Ip prog 44=some (5,1):=kR
theorem GB:Ip prog 57=some (108,5):=kR
theorem Kk:Ip prog 63=some (110,6):=kR
theorem GC:Ip prog 111=some (63,1):=kR
theorem fS:Ip prog 333=some (213,1):=kR
theorem kT:qA prog 103=true:=kR
theorem SO:AN prog 3=some (false,1):=kR
theorem mW:AN prog 4=some (false,1):=kR
theorem vX:AN prog 5=some (false,1):=kR
theorem WK:AN prog 9=some (false,1):=kR
theorem Iq:AN prog 27=some (true,2):=kR
theorem VN:AN prog 28=some (false,1):=kR
theorem Dg:AN prog 57=some (false,1):=kR
theorem J6:AN prog 63=some (false,1):=kR
theorem qM:AN prog 74=some (true,6):=kR
theorem pL:AN prog 103=some (true,2):=kR
theorem DF:AN prog 108=some (true,5):=kR
theorem KF:AN prog 110=some (true,6):=kR
theorem rY:AN prog 208=some (false,1):=kR
theorem gB:AN prog 213=some (false,1):=kR
theorem eM:AN prog 333=some (false,1):=kR
theorem uU:prog.underlying 4=some .bool:=kR
theorem IU:prog.underlying 9=some .string:=kR
theorem wL:GQ prog 4=some [.bool false]:=kR
theorem tK:GQ prog 5=some [.int .u8 0]:=kR
theorem Uo:GQ prog 27=some [.int .i64 0,.int .i64 0]:=kR
theorem uF:GQ prog 28=some [.int .i64 0]:=kR
theorem uR:GQ prog 57=some [.slice none 0 0]:=kR
theorem uI:GQ prog 61=some [.int .i64 0,.int .i64 0]:=kR
theorem qL:GQ prog 63=some [.slice none 0 0]:=kR
theorem uJ:GQ prog 74=some [.int .i64 0,.int .i64 0,.int .i64 0,.string ⟨#[]⟩,.int .i64 0,.slice none 0 0]:=kR
theorem gC:GQ prog 103=some [.int .i64 0,.int .i64 0]:=kR
theorem rE:GQ prog 106=some [.string ⟨#[]⟩,.int .i64 0,.int .i64 0,.int .i64 0,.slice none 0 0]:=kR
theorem Dn:GQ prog 108=some [.int .i64 0,.int .i64 0,.int .i64 0,.int .i64 0,.string ⟨#[]⟩]:=kR
theorem Kj:GQ prog 110=some [.int .i64 0,.int .i64 0,.int .i64 0,.int .i64 0,.string ⟨#[]⟩,.slice none 0 0]:=kR
end Go.Proofs.YtelmolopaolbcaaGreatDoor
namespace Go.SP
def FR:List Nat:=[4607182418800017408,4621819117588971520,4636737291354636288,4652007308841189376,4666723172467343360,4681608360884174848,4696837146684686336,4711630319722168320,4726483295884279808,4741671816366391296,4756540486875873280,4771362005757984768,4786511204640096256,4801453603149578240,4816244402031689728]
end Go.SP
namespace Go.Proofs.YtelmolopaolbcaaGreatDoor
open Go.SW Go.SP Go.RowKit Go.Shelf Go.Lib Go.Proofs.Tryz
structure Gl(w:World):Prop where
 maxLen:∃m:Int,w.cell? ⟨2,0,none⟩=some (.int .i64 m)
 errRange:∃v:Value,w.cell? ⟨6,0,none⟩=some v∧(v=.nilIface∨∃te pe,v=.iface te pe)
 optimize:w.cell? ⟨8,0,none⟩=some (.bool true)
 finfo:w.cell? ⟨9,0,none⟩=some (.int .u64 52)
 pow10:∃b off n c,w.cell? ⟨16,0,none⟩=some (.slice (some ⟨b,off,none⟩) n c)∧15≤n∧∀j v,FR[j]?=some v→w.cell? ⟨b,off+j,none⟩=some (.float .f64 v)
variable {args:Array Value}{b o:Nat}{P:Program}{w w':World}
theorem HM{v:Value}(h:w.cell? ⟨b,o,none⟩=some v):b<w.heap.size:=by
 rcases Nat.lt_or_ge b w.heap.size with h' | h'
 · exact h'
 · simp[World.cell?,Array.getElem?_eq_none h'] at h
theorem DY{v:Value}(h:w.cell? ⟨b,o,none⟩=some v)(hE:AS w w'):w'.cell? ⟨b,o,none⟩=some v:=(hE.cell (p:=⟨b,o,none⟩) (HM h)).trans h
theorem Gl.ext(h:Gl w)(hE:AS w w'):Gl w' :=
 ⟨let ⟨m,hm⟩:=h.maxLen;⟨m,DY hm hE⟩,let ⟨v,hv,h2⟩:=h.errRange;⟨v,DY hv hE,h2⟩,DY h.optimize hE,DY h.finfo hE,
   let ⟨b,off,n,c,h1,h2,h3⟩:=h.pow10;⟨b,off,n,c,DY h1 hE,h2,λj v hv=>DY (h3 j v hv) hE⟩⟩
theorem EP(l:lU):(⟨l.toArray⟩:ByteArray).data.toList=l:=rfl
theorem JR(l:lU):(⟨l.toArray⟩:ByteArray).size=l.length:=by simp[ByteArray.size]
theorem ER{f:FuncId}{v:Value}{R:World→Prop}(h:Calls P f args w λe w'=>e=.returned v∧R w')(hR:∀w',R w'→AS w w') :
   Bo P f args w λu w'=>u=v∧AS w w':=Calls.mono h λ_ _ ⟨he,hr⟩=>⟨v,he,rfl,hR _ hr⟩
theorem Hm(w:World)(hG:Gl w)(a b:lU)(ha:a.length<4294967281):Bo prog 57 #[S a,S b] w λv w'=>v=.bool (Dr a b)∧AS w w':=by
 obtain⟨m,hm⟩:=hG.maxLen;have h:=Any.strings_Contains Tryz.lays144 ⟨a.toArray⟩ ⟨b.toArray⟩ m w (by rw[JR];exact ha) hm;rw[EP,EP,IV] at h;exact ER h (λw' e=>by subst e;exact AS.refl _)
theorem EN(w:World)(a:lU)(c:UInt8):Bo prog 75 #[S a,.int .u8 c.toNat] w λv w'=>v=.int .i64 (Lib.indexByte a c)∧AS w w':=by
 have h:=Any.strings_IndexByte Tryz.lays137 ⟨a.toArray⟩ c.toNat w;rw[EP] at h;have e:((c.toNat:Int).toNat).toUInt8=c:=by simp
 rw[e] at h;exact ER h (λw' e=>by subst e;exact AS.refl _)
theorem FI(w:World)(a b:lU):Bo prog 106 #[S a,S b] w λv w'=>v=S (Lib.trimPrefix a b)∧AS w w':=by
 have h:=Any.strings_TrimPrefix Tryz.lays101 ⟨a.toArray⟩ ⟨b.toArray⟩ w;rw[EP,EP] at h;exact ER h (λw' e=>by subst e;exact AS.refl _)
theorem Ye(w:World)(hG:Gl w)(a b:lU)(ha:a.length<4294967281) :
   Bo prog 128 #[S a,S b] w λv w'=>v=.tuple #[S (Lib.cut a b).1,S (Lib.cut a b).2.1,.bool (Lib.cut a b).2.2]∧AS w w':=by
 obtain⟨m,hm⟩:=hG.maxLen;have h:=Any.strings_Cut Tryz.lays145 ⟨a.toArray⟩ ⟨b.toArray⟩ m w (by rw[JR];exact ha) hm;rw[EP,EP] at h;exact ER h (λw' ⟨n,e⟩=>by subst e;exact⟨rfl,rfl,rfl,Nat.le_refl _,λ_ _=>rfl⟩)
theorem OC(w:World)(a b:lU)(ha:a.length≤9223372036854775807)(hb:b.length<4294967281)(h128:b.all (λc=>decide (c.toNat<128))=true) :
   Bo prog 132 #[S a,S b] w λv w'=>v=S (Lib.trimS a b)∧AS w w':=by
 have h:=Any.strings_Trim_laid Tryz.lays160 kR ⟨a.toArray⟩ ⟨b.toArray⟩ w (by rw[JR];exact ha) (by rw[JR];exact hb) (λj c hj=>by
   rw[EP] at hj;have:=List.all_eq_true.1 h128 c (List.mem_of_getElem? hj);simpa using this)
 rw[EP,EP] at h;exact ER h (λw' h=>h)
theorem PD(w:World)(hG:Gl w)(fn s:lU)(base bits:Int)(hs:s.length≤100000):Bo prog 145 #[S fn,S s,.int .i64 base,.int .i64 bits,.iface 258 (.int .i64 1)] w λv w'=>(∃T u,v=.iface T u)∧AS w w':=by
 obtain⟨ev,hv,hev⟩:=hG.errRange;have h:=Any.strconv_toError_range Tryz.lays245 ⟨fn.toArray⟩ ⟨s.toArray⟩ base bits ev w (by rw[JR];omega) hv hev;exact Calls.mono h λe w' ⟨N,he,_,_,hb⟩=>⟨_,he,⟨_,_,rfl⟩,hb⟩
end Go.Proofs.YtelmolopaolbcaaGreatDoor
namespace Go.SP
open Go.SW Go.RowKit
def At(U:Nat→Prop)(w:World)(a:Option Addr)(i:Nat)(r:Fo):Prop :=
 r=.nil∨∃b off l T,U b∧a=some ⟨b,off,none⟩∧AI w b l T∧GS U w r (l.drop (off+i*6))
variable {fo:Fo}{co ln nm:Int}{xs:List Value}{b c' i kc kn n:Nat}{U:Nat→Prop}{a a' ka:Option Addr}{e:TypeId}{w w' w0 w1:World}
theorem Eb.at{c:Nat}(h:Eb U w a n c fo):At U w a 0 fo:=by
 obtain⟨h1,h2,h3|⟨b,off,l,T,hu,ha,hb,hc⟩⟩:=h
 · left;cases fo with
   |nil=>rfl
   |cons t k r=>rw[h3] at h1;cases h1
 · exact .inr ⟨b,off,l,T,hu,ha,hb,by simpa using hc⟩
theorem At.ext{r:Fo}(h:At U w a i r)(hE:AS w w'):At U w' a i r :=
 h.imp id λ⟨b,off,l,T,hu,ha,hb,hc⟩=>⟨b,off,l,T,hu,ha,hb.ext hE,hc.ext hE⟩
theorem At.head{t:AK}{k r:Fo}(h:At U w a i (.cons t k r)):∃b off l T ka kn kc l',U b∧a=some ⟨b,off,none⟩∧AI w b l T ∧
   l.drop (off+i*6)=.int .i64 t.k::.int .i64 t.ln::.int .i64 t.co::.int .i64 t.nm::S t.tx::.slice ka kn kc::l'∧Eb U w ka kn kc k:=by
 rcases h with h|⟨b,off,l,T,hu,ha,hb,ka,kn,kc,l',h4,h5,h6⟩
 · cases h
 · exact⟨b,off,l,T,ka,kn,kc,l',hu,ha,hb,h4,h5⟩
theorem At.next{t:AK}{k r:Fo}(h:At U w a i (.cons t k r)):At U w a (i+1) r:=by
 rcases h with h|⟨b,off,l,T,hu,ha,hb,ka,kn,kc,l',h4,h5,h6⟩
 · cases h
 · refine .inr ⟨b,off,l,T,hu,ha,hb,?_⟩
   have:l.drop (off+(i+1)*6)=l':=by
     rw[show off+(i+1)*6=(off+i*6)+6 by omega,← List.drop_drop,h4];rfl
   rw[this];exact h6
theorem Nd.len_app:∀(x y:Nd),(x.app y).len=x.len+y.len
 |.nil,y=>by simp[Nd.app,Nd.len]
 |.cons _ _ _ _ _ _ r,y=>by simp[Nd.app,Nd.len,Nd.len_app r y];omega
theorem Nd.app_assoc:∀(x y z:Nd),(x.app y).app z=x.app (y.app z)
 |.nil,_,_=>rfl
 |.cons _ _ _ _ _ _ r,y,z=>by simp[Nd.app,Nd.app_assoc r y z]
theorem Nd.app_nil:∀(x:Nd),x.app .nil=x
 |.nil=>rfl
 |.cons _ _ _ _ _ _ r=>by simp[Nd.app,Nd.app_nil r]
theorem Fy.app:∀(x y:Nd)(l m:List Value),Fy U w x l→l.length=x.len*6→Fy U w y m→Fy U w (x.app y) (l++m)
 |.nil,y,l,m,_,hl,h=>by
   have:l=[]:=List.eq_nil_of_length_eq_zero (by simpa[Nd.len] using hl);subst this;exact h
 |.cons _ _ _ _ _ kids rest,y,l,m,⟨a,n,c,l',h1,h2,h3⟩,hl,h=>by
   refine⟨a,n,c,l'++m,by rw[h1];rfl,h2,Fy.app rest y l' m h3 ?_ h⟩;rw[h1] at hl;simp[Nd.len] at hl;omega
structure J3(e:TypeId)(w0 w:World)(a:Option Addr)(n c:Nat)(nds:Nd):Prop where
 ex:∃xs,BP w e 6 a c n xs∧Fy (λb=>w0.heap.size≤b∧some b≠rb a) w nds xs
 len:n=nds.len
 new:∀b,rb a=some b→w0.heap.size≤b
theorem J3.nil(e:TypeId)(w0 w:World):J3 e w0 w none 0 0 .nil:=⟨⟨[],F4 _ _ _,tQ⟩,rfl,λ_ h=>by cases h⟩
theorem J3.ext{c:Nat}{nds:Nd}(h:J3 e w0 w a n c nds)(hE:AS w w'):J3 e w0 w' a n c nds :=
 ⟨let ⟨xs,h1,h2⟩:=h.ex;⟨xs,h1.ext hE,h2.ext hE⟩,h.len,h.new⟩
theorem J3.chg{c:Nat}{nds:Nd}(h:J3 e w0 w a n c nds)(hC:FZ b w w')(hb:b<w0.heap.size):J3 e w0 w' a n c nds :=
 ⟨let ⟨xs,h1,h2⟩:=h.ex;⟨xs,h1.chg hC (λe=>by have:=h.new b e;omega),h2.chg hC (λe=>by omega)⟩,h.len,h.new⟩
theorem J3.nds{c:Nat}{nds:Nd}(h:J3 e w0 w a n c nds):GU (λb=>w0.heap.size≤b) w a n c nds:=by
 obtain⟨xs,h1,h2⟩:=h.ex;refine⟨h.len,h1.n_le,?_⟩;rcases h1.2 with ⟨_,_,h3⟩|⟨b,l,ha,hb,hn,_,hl,ht⟩
 · exact .inl h3
 · refine .inr ⟨b,0,l,e,h.new b (by rw[ha];rfl),ha,hb,?_⟩
   have h3:=Fy.more nds xs (l.drop (n*6)) (h2.mono λ_ hh=>hh.1);rw[List.drop_zero,← List.take_append_drop (n*6) l,ht];exact h3
theorem J3.step{c:Nat}{nds:Nd}{op:Int}{tx:lU}{kids:Nd}
   (hrow:BP w e 6 a c n xs) (hx:Fy (λb=>w0.heap.size≤b∧some b≠rb a) w nds xs) (hlen:n=nds.len) (hnew:∀b,rb a=some b→w0.heap.size≤b)
   (hk:GU (λb=>w1.heap.size≤b) w ka kn kc kids) (h01:w0.heap.size≤w1.heap.size) (h1w:w1.heap.size≤w.heap.size) (h1:∀b,rb a=some b→b<w1.heap.size)
   (hr:BP w' e 6 a' c' (n+1) (xs++[.int .i64 op,.int .i64 ln,.int .i64 co,S tx,.int .i64 nm,.slice ka kn kc])) (hG:EB a w a' w') :
   J3 e w0 w' a' (n+1) c' (nds.app (.cons op ln co tx nm kids .nil)):=by
 have hnew':∀b,rb a'=some b→w0.heap.size≤b:=λb hb=>by
   rcases hG.own with ho|ho
   · exact hnew b (by rw[← ho];exact hb)
   · rw[ho] at hb;cases hb;omega
 have hold:∀b,(w0.heap.size≤b∧some b≠rb a)→b<w.heap.size→(w0.heap.size≤b∧some b≠rb a')∧w'.heap[b]?=w.heap[b]?:=λb hb hlt=>by
   refine⟨⟨hb.1,?_⟩,hG.block b hlt hb.2⟩;rcases hG.own with ho|ho
   · rw[ho];exact hb.2
   · rw[ho];intro e;cases e;omega
 have hkids:GU (λb=>w0.heap.size≤b∧some b≠rb a') w' ka kn kc kids:=GU.imp hk λb hb hlt=>by
   refine hold b ⟨oM,λe=>?_⟩ hlt;have:=h1 b e.symm;omega
 refine⟨⟨_,hr,Fy.app nds _ xs _ (Fy.imp hold nds xs hx) (by rw[hrow.1,hlen]) ⟨ka,kn,kc,[],rfl,hkids,tQ⟩⟩,by rw[Nd.len_app,hlen];rfl,hnew'⟩
def Qq(T:TypeId)(e:Int×Int):List PanicEntry:=[{v:=.iface T (.agg #[.int .i64 e.1,.int .i64 e.2]),recovered:=false}]
end Go.SP
namespace Go.SP
open Go.SW Go.RowKit
def Nd.drop:Nat→Nd→Nd
 |0,x=>x
 |_+1,.nil=>.nil
 |n+1,.cons _ _ _ _ _ _ r=>Nd.drop n r
theorem Nd.drop_lt:∀(i:Nat)(x:Nd),i<x.len→∃op ln co tx nm kids,x.drop i=.cons op ln co tx nm kids (x.drop (i+1))
 |0,.cons op ln co tx nm kids r,_=>⟨op,ln,co,tx,nm,kids,by simp[Nd.drop]⟩
 |i+1,.cons _ _ _ _ _ _ r,h=>by
   obtain⟨op,ln,co,tx,nm,kids,e⟩:=Nd.drop_lt i r (by simp[Nd.len] at h;omega);exact⟨op,ln,co,tx,nm,kids,by simpa[Nd.drop] using e⟩
theorem Nd.drop_len:∀(x:Nd),x.drop x.len=.nil
 |.nil=>rfl
 |.cons _ _ _ _ _ _ r=>by simp[Nd.len,Nd.drop,Nd.drop_len r]
variable {co ln nm:Int}{i n:Nat}{U:Nat→Prop}{a:Option Addr}{w:World}
theorem Fy.dropc:∀(i:Nat)(x:Nd)(l:List Value),Fy U w x l→Fy U w (x.drop i) (l.drop (i*6))
 |0,x,l,h=>by simpa[Nd.drop] using h
 |i+1,.nil,l,h=>trivial
 |i+1,.cons _ _ _ _ _ _ r,l,⟨a,n,c,l',h1,h2,h3⟩=>by
   have:=Fy.dropc i r l' h3;rw[show (i+1)*6=6+i*6 by omega,← List.drop_drop,h1];exact this
theorem GU.get{c:Nat}{nds:Nd}(h:GU U w a n c nds)(i:Nat)(hi:i<n):∃b off l T op ln co tx nm kids ka kn kc l',U b∧a=some ⟨b,off,none⟩∧AI w b l T ∧
   nds.drop i=.cons op ln co tx nm kids (nds.drop (i+1)) ∧
   l.drop (off+i*6)=.int .i64 op::.int .i64 ln::.int .i64 co::S tx::.int .i64 nm::.slice ka kn kc::l'∧GU U w ka kn kc kids:=by
 obtain⟨h1,h2,h3|⟨b,off,l,T,hu,ha,hb,hc⟩⟩:=h
 · omega
 · obtain⟨op,ln,co,tx,nm,kids,e⟩:=Nd.drop_lt i nds oM
   have:=Fy.dropc i nds _ hc;rw[e,List.drop_drop] at this;obtain⟨ka,kn,kc,l',h4,h5,h6⟩:=this;exact⟨b,off,l,T,op,ln,co,tx,nm,kids,ka,kn,kc,l',hu,ha,hb,e,h4,h5⟩
theorem QM{t:AK}{x:Nd}{op:Int}{tx:lU}{kids:Nd}(e:x.drop i=.cons op ln co tx nm kids (x.drop (i+1)))(h:i+1=x.len):FL t (x.drop i)=some ⟨op,ln,co,tx,nm,kids⟩:=by
 rw[e,h,Nd.drop_len];rfl
theorem QH{t:AK}{x:Nd}{op:Int}{tx:lU}{kids:Nd}{o:N}(e:x.drop i=.cons op ln co tx nm kids (x.drop (i+1)))(h:FL t (x.drop (i+1))=some o) :
   FL t (x.drop i)=some (Az t 32 [45,62] (.cons op ln co tx nm kids o.one)):=by
 rw[e]
 cases hx:x.drop (i+1) with
 |nil=>rw[hx] at h;cases h
 |cons a b c d f g r=>rw[hx] at h;simp only[FL] at h ⊢;rw[h]
end Go.SP
namespace Go.SP
open Go.SW Go.RowKit
theorem DI{f:AK→Fo→R N}:∀{fo:Fo}{nds:Nd},Bj f fo=.ok nds→nds.len=fo.len
 |.nil,nds,h=>by simp[Bj] at h;subst h;rfl
 |.cons t k r,nds,h=>by
   unfold Bj at h
   cases h1:f t k with
   |error e=>rw[h1] at h;cases h
   |ok a =>
     cases h2:Bj f r with
     |error e=>rw[h1,h2] at h;cases h
     |ok b =>
       rw[h1,h2] at h;injection h with h
       subst h;simp[N.cons,Nd.len,Fo.len,DI h2]
variable {σ:Bb}{kk:IntKind}{b off:Nat}{x:Operand}{P:Program}{T e ty:TypeId}{w:World}
theorem Eh{y:Operand}{k:Nat}{z:Int}(i:Nat){len cap:Nat}(hx:ev σ x=some (.slice (some ⟨b,off,none⟩) len cap))(hy:ev σ y=some (.int kk z))(hz:z=(i:Int))(hs:Ip P T=some (e,k))
   (hi:i<len):AG P σ (.indexAddr T x y) ty w (.pointer (some ⟨b,off+i*k,none⟩)) w:=by
 subst hz;exact JJ hx hy hs hi
end Go.SP
namespace Go.SP
open Go.SW Go.RowKit
structure Ka(m:Nat)(w w':World):Prop where
 os:w'.os=w.os
 tape:w'.tape=w.tape
 output:w'.output=w.output
 size:w.heap.size≤w'.heap.size
 block:∀k,k<w.heap.size→k≠m→w'.heap[k]?=w.heap[k]?
theorem Ka.refl(m:Nat)(w:World):Ka m w w:=⟨rfl,rfl,rfl,Nat.le_refl _,λ_ _ _=>rfl⟩
variable {b:Nat}{w1 w2:World}
theorem Ka.trans{m:Nat}{w:World}(h:Ka m w w1)(hE:AS w1 w2):Ka m w w2 :=
 ⟨hE.os.trans h.os,hE.tape.trans h.tape,hE.output.trans h.output,Nat.le_trans h.size hE.size,λk hk hn=>(hE.block k (Nat.lt_of_lt_of_le hk h.size)).trans (h.block k hk hn)⟩
theorem Ka.trans2{m:Nat}{w:World}(h:Ka m w w1)(hE:Ka m w1 w2):Ka m w w2 :=
 ⟨hE.os.trans h.os,hE.tape.trans h.tape,hE.output.trans h.output,Nat.le_trans h.size hE.size,λk hk hn=>(hE.block k (Nat.lt_of_lt_of_le hk h.size) hn).trans (h.block k hk hn)⟩
theorem Ka.chg{m:Nat}{w:World}(h:Ka m w w1)(hC:FZ b w1 w2)(hb:w.heap.size≤b∨b=m):Ka m w w2 :=
 ⟨hC.os.trans h.os,hC.tape.trans h.tape,hC.output.trans h.output,by rw[hC.size];exact h.size,λk hk hn=>(hC.block k oM).trans (h.block k hk hn)⟩
end Go.SP
namespace Go.SW
open Go.SP Go.RowKit
variable {l:List Value}{b:Nat}{w':World}
theorem AI.exb{m:Nat}{w:World}{T:TypeId}(h:AI w b l T)(hE:Ka m w w')(hne:b≠m):AI w' b l T:=(hE.block b h.lt hne).trans h
end Go.SW
namespace Go.SP
open Go.SW Go.RowKit
variable {co ln nm:Int}{b i:Nat}{U:Nat→Prop}{a:Option Addr}{w' w0:World}
theorem GU.exb{m:Nat}{w:World}{n c:Nat}{nd:Nd}(h:GU U w a n c nd)(hE:Ka m w w')(hm:¬U m):GU U w' a n c nd:=GU.imp h λk hu hl=>⟨hu,hE.block k hl (λe=>hm (e▸hu))⟩
theorem Ka.ext{m:Nat}{w:World}(h:Ka m w w')(h0:AS w0 w)(hm:w0.heap.size≤m):AS w0 w' :=
 ⟨h.os.trans h0.os,h.tape.trans h0.tape,h.output.trans h0.output,Nat.le_trans h0.size h.size,λk hk=>(h.block k (Nat.lt_of_lt_of_le hk h0.size) oM).trans (h0.block k hk)⟩
def RW(w:World)(m:Nat)(seen:List lU):Prop :=
 ∃(es:List MapEntry)(clock:Nat),w.heap[m]?=some (.map es.toArray clock)∧es.map (λe=>(e.key,e.val))=seen.reverse.map λs=>(S s,Value.bool true)
theorem RW.lt{w:World}{m:Nat}{seen:List lU}(h:RW w m seen):m<w.heap.size:=by
 obtain⟨es,c,h1,_⟩:=h;rcases Nat.lt_or_ge m w.heap.size with h' | h'
 · exact h'
 · rw[Array.getElem?_eq_none h'] at h1;cases h1
theorem RW.ext{w:World}{m:Nat}{seen:List lU}(h:RW w m seen)(hE:AS w w'):RW w' m seen:=let ⟨es,c,h1,h2⟩:=h;⟨es,c,(hE.block m h.lt).trans h1,h2⟩
theorem RW.chg{w:World}{m:Nat}{seen:List lU}(h:RW w m seen)(hC:FZ b w w')(hne:m≠b):RW w' m seen:=let ⟨es,c,h1,h2⟩:=h;⟨es,c,(hC.block m hne).trans h1,h2⟩
section
variable{P:Program}{n:Nat}{Q:AU}{σ:Bb}{ds:List Deferred}{w:World}{ops:Array Oper}{ty T:TypeId}{pos:String}{af:Array Edge}{rest:List Oper}{d m:Nat}{x y z:Operand}{tx:lU}{seen:List lU}
theorem J2{k:TypeId}{b:Bool}{v:Value}(hk:P.underlying k=some .string):(Instr.checkKey b 10000 k v).run P w=.ok () w:=by
 rw[Instr.checkKey];simp[run_underlying hk]
end
theorem Mj(s:List lU)(op ln co:Int)(tx:lU)(nm:Int)(kids rest:Nd):BH s (.cons op ln co tx nm kids rest)=match BH s (.cons op ln co tx nm kids .nil) with|none=>none|some s2=>BH s2 rest:=by
 simp only[BH]
 cases (if op==22 then (if s.contains tx then none else some (tx::s)) else some s) with
 |none=>rfl
 |some s1 =>
   simp only
   cases BH s1 kids <;> rfl
def Nd.size:Nd→Nat
 |.nil=>0
 |.cons _ _ _ _ _ kids rest=>kids.size+rest.size+1
def Nd.ok:Nd→Prop
 |.nil=>True
 |.cons _ _ _ _ _ kids rest=>kids.len≤100000∧kids.ok∧rest.ok
def N.ok(nd:N):Prop:=nd.kids.len≤100000∧nd.kids.ok
theorem Nd.ok_drop:∀(i:Nat)(x:Nd),x.ok→(x.drop i).ok
 |0,_,h=>h
 |_+1,.nil,h=>h
 |i+1,.cons _ _ _ _ _ _ r,h=>Nd.ok_drop i r h.2.2
theorem Nd.ok.get{x:Nd}(h:x.ok){op:Int}{tx:lU}{kids rest:Nd}(e:x.drop i=.cons op ln co tx nm kids rest):N.ok ⟨op,ln,co,tx,nm,kids⟩:=by
 have:=Nd.ok_drop i x h;rw[e] at this;exact⟨this.1,this.2.1⟩
end Go.SP
namespace Go.SW
variable {bs:List Nat}{a a':Option Addr}{w w' w2:World}
theorem A5.grow(h:A5 w bs w')(hG:EB a w' a' w2)(hn:∀c,c∈bs→some c≠rb a):A5 w bs w2 :=
 λc hc=>⟨Nat.lt_of_lt_of_le (h c hc).1 hG.size,(hG.block c (h c hc).1 (hn c hc)).trans (h c hc).2⟩
end Go.SW
namespace Go.SP
open Go.SW Go.RowKit
variable {t0 t1:AK}{co ln nm:Int}{xs ys:List Value}{c' kc kn n:Nat}{U:Nat→Prop}{a a' ka:Option Addr}{e:TypeId}{w w' w0:World}
theorem Eb.two{c:Nat}{k0 k1 r:Fo}(h:Eb U w a n c (.cons t0 k0 (.cons t1 k1 r))):∃b off l T a0 n0 c0 a1 n1 c1 l',U b∧a=some ⟨b,off,none⟩∧AI w b l T ∧
   l.drop off=.int .i64 t0.k::.int .i64 t0.ln::.int .i64 t0.co::.int .i64 t0.nm::S t0.tx::.slice a0 n0 c0::.int .i64 t1.k::.int .i64 t1.ln::.int .i64 t1.co::.int .i64 t1.nm::S t1.tx::.slice a1 n1 c1::l' ∧
   Eb U w a0 n0 c0 k0∧Eb U w a1 n1 c1 k1∧GS U w r l':=by
 obtain⟨b,off,l,T,a0,n0,c0,l0,hU,ha,hb,hd,hk0,a1,n1,c1,l1,hl,hk1,hr⟩:=Eb.head h;exact⟨b,off,l,T,a0,n0,c0,a1,n1,c1,l1,hU,ha,hb,by rw[hd,hl],hk0,hk1,hr⟩
theorem Eb.three{c:Nat}{t2:AK}{k0 k1 k2 r:Fo}(h:Eb U w a n c (.cons t0 k0 (.cons t1 k1 (.cons t2 k2 r)))):∃b off l T a0 n0 c0 a1 n1 c1 a2 n2 c2 l',U b∧a=some ⟨b,off,none⟩∧AI w b l T ∧
   l.drop off=.int .i64 t0.k::.int .i64 t0.ln::.int .i64 t0.co::.int .i64 t0.nm::S t0.tx::.slice a0 n0 c0::.int .i64 t1.k::.int .i64 t1.ln::.int .i64 t1.co::.int .i64 t1.nm::S t1.tx::.slice a1 n1 c1 ::
     .int .i64 t2.k::.int .i64 t2.ln::.int .i64 t2.co::.int .i64 t2.nm::S t2.tx::.slice a2 n2 c2::l' ∧
   Eb U w a0 n0 c0 k0∧Eb U w a1 n1 c1 k1∧Eb U w a2 n2 c2 k2∧GS U w r l':=by
 obtain⟨b,off,l,T,a0,n0,c0,a1,n1,c1,l1,hU,ha,hb,hd,hk0,hk1,a2,n2,c2,l2,hl,hk2,hr⟩:=Eb.two h;exact⟨b,off,l,T,a0,n0,c0,a1,n1,c1,a2,n2,c2,l2,hU,ha,hb,by rw[hd,hl],hk0,hk1,hk2,hr⟩
theorem Lc:∀(n:Nat)(fo:Fo),fo.deep n=true→fo.deep (n+1)=true
 |_,.nil,_=>by simp[Fo.deep]
 |0,.cons _ _ _,h=>by simp[Fo.deep] at h
 |n+1,.cons t k r,h=>by
   simp only[Fo.deep,Bool.and_eq_true] at h ⊢;exact⟨Lc n k h.1,by have:=Lc (n+1) r h.2;exact this⟩
theorem Ry{t:AK}{k:Fo}(h:Gp n t k):Gp (n+1) t k:=⟨h.1,h.2.1,h.2.2.1,Lc n k h.2.2.2⟩
theorem De{t:AK}{k:Fo}(h:Gp (n+1) t k):k.all (Gp n):=N1 n k h.2.1 h.2.2.2
theorem Fy.one:∀(x:Nd)(l:List Value),Fy U w x l→l.length=x.len*6→∀v∈l,v.oneCell'=true
 |.nil,l,_,hl,v,hv=>by
   have:l=[]:=List.eq_nil_of_length_eq_zero (by simpa[Nd.len] using hl);subst this;cases hv
 |.cons _ _ _ _ _ kids rest,l,⟨a,n,c,l',h1,h2,h3⟩,hl,v,hv=>by
   subst h1;simp only[List.mem_cons] at hv;rcases hv with rfl|rfl|rfl|rfl|rfl|rfl|hv
   all_goals first|rfl|exact Fy.one rest l' h3 (by simp[Nd.len] at hl;omega) v hv
theorem J3.lit{s:Nat}{op:Int}{tx:lU}{kids:Nd}(hb:AI w s [.int .i64 op,.int .i64 ln,.int .i64 co,S tx,.int .i64 nm,.slice ka kn kc] e)(hs:w0.heap.size≤s)
   (hk:GU (λb=>w0.heap.size≤b∧b≠s) w ka kn kc kids):J3 e w0 w (some ⟨s,0,none⟩) 1 1 (.cons op ln co tx nm kids .nil) :=
 ⟨⟨_,⟨rfl,.inr ⟨s,_,rfl,hb,Nat.le_refl _,by unfold maxLen;omega,rfl,rfl⟩⟩,ka,kn,kc,[],rfl,GU.mono hk (λb hb=>⟨hb.1,λe=>hb.2 (by cases e;rfl)⟩),tQ⟩,rfl,λb hb=>by cases hb;exact hs⟩
theorem J3.join{c:Nat}{x y:Nd}{U2:Nat→Prop}
   (hrow:BP w e 6 a c n xs) (hx:Fy (λb=>w0.heap.size≤b∧some b≠rb a) w x xs) (hlen:n=x.len) (hnew:∀b,rb a=some b→w0.heap.size≤b)
   (hy:Fy U2 w y ys) (h2:∀b,U2 b→w0.heap.size≤b∧some b≠rb a)  (h0w:w0.heap.size≤w.heap.size)
   (hr:BP w' e 6 a' c' (n+y.len) (xs++ys)) (hG:EB a w a' w'):J3 e w0 w' a' (n+y.len) c' (x.app y):=by
 have hnew':∀b,rb a'=some b→w0.heap.size≤b:=λb hb=>by
   rcases hG.own with ho|ho
   · exact hnew b (by rw[← ho];exact hb)
   · rw[ho] at hb;cases hb;omega
 have hold:∀b,(w0.heap.size≤b∧some b≠rb a)→b<w.heap.size→(w0.heap.size≤b∧some b≠rb a')∧w'.heap[b]?=w.heap[b]?:=λb hb hlt=>by
   refine⟨⟨hb.1,?_⟩,hG.block b hlt hb.2⟩;rcases hG.own with ho|ho
   · rw[ho];exact hb.2
   · rw[ho];intro e;cases e;omega
 have hyy:=Fy.imp (U':=λb=>w0.heap.size≤b∧some b≠rb a') (w':=w') (λb (hb:U2 b) hlt=>hold b (h2 b hb) hlt) y ys hy;exact⟨⟨_,hr,Fy.app x y xs ys (Fy.imp hold x xs hx) (by rw[hrow.1,hlen]) hyy⟩,by rw[Nd.len_app,hlen],hnew'⟩
end Go.SP
namespace Go.SW
open Go.SP
variable {bs:List Nat}{m:Nat}{w w' w2:World}
theorem A5.exb(h:A5 w bs w')(hE:Ka m w' w2)(hn:∀c,c∈bs→c≠m):A5 w bs w2 :=
 λc hc=>⟨Nat.lt_of_lt_of_le (h c hc).1 hE.size,(hE.block c (h c hc).1 (hn c hc)).trans (h c hc).2⟩
end Go.SW
namespace Go.SP
theorem Oi{f:AK→Fo→R N}{p:AK→Fo→Prop}(hf:∀t k nd,p t k→f t k=.ok nd→nd.ok):∀{fo:Fo}{nds:Nd},fo.all p→Bj f fo=.ok nds→nds.ok
 |.nil,nds,_,h=>by simp[Bj] at h;subst h;trivial
 |.cons t k r,nds,hp,h=>by
   unfold Bj at h
   cases h1:f t k with
   |error e=>rw[h1] at h;cases h
   |ok a =>
     cases h2:Bj f r with
     |error e=>rw[h1,h2] at h;cases h
     |ok b =>
       rw[h1,h2] at h;injection h with h
       subst h;have:=hf t k a hp.1 h1;exact⟨this.1,this.2,Oi hf hp.2 h2⟩
theorem ZH:∀(n:Nat)(t:AK)(k:Fo)(nd:N),Gp n t k→DT (n+1) t k=.ok nd→nd.ok:=by
 intro n
 induction n with
 |zero =>
   intro t k nd hok h
   cases k with
   |cons a b c=>exact absurd hok.2.2.2 (by simp[Fo.deep])
   |nil =>
     unfold DT at h;simp only[I6,need] at h
     repeat' split at h
     all_goals first|(injection h with h;subst h;exact⟨by simp[Az,Nd.len],tQ⟩)|(cases h;done)|skip
     all_goals first|contradiction|(injection h with h;subst h;split <;> exact⟨by simp[Az,Nd.len],tQ⟩)
 |succ n ih =>
   intro t k nd hok h
   have key:∀(l:Fo)(ks:Nd)(op:Int)(tx:lU),l.all (Gp n)→l.len≤100000→Bj (DT (n+1)) l=.ok ks→N.ok (Az t op tx ks):=λl ks op tx hl hlen he =>
     ⟨by have:=DI he;simp[Az];omega,Oi (p:=Gp n) ih hl he⟩
   unfold DT at h;simp only[I6,need] at h
   cases k with
   |nil =>
     repeat' split at h
     all_goals first|(injection h with h;subst h;exact⟨by simp[Az,Nd.len],tQ⟩)|(cases h;done)|skip
     all_goals first|contradiction|(injection h with h;subst h;split <;> exact⟨by simp[Az,Nd.len],tQ⟩)
   |cons a b c =>
     have hall:=(De hok).2;have hlen:c.len≤100000:=by have:=hok.2.2.1;simp only[Fo.len] at this;omega
     simp only at h
     repeat' split at h
     all_goals first|(injection h with h;subst h;first|exact key _ _ _ _ hall hlen (by assumption)|exact⟨by simp[Az,Nd.len],tQ⟩)|(cases h;done)|skip
     all_goals first|contradiction|(injection h with h;subst h;split <;> exact⟨by simp[Az,Nd.len],tQ⟩)
end Go.SP
namespace Go.SP
theorem Fo.ok.all:∀{fo:Fo},fo.ok→fo.all (λt _=>t.ok)
 |.nil,_=>trivial
 |.cons _ _ _,h=>⟨h.1,Fo.ok.all h.2.2.2⟩
theorem Fo.all_true:∀(fo:Fo),fo.all (λ_ _=>True)
 |.nil=>trivial
 |.cons _ _ r=>⟨tQ,Fo.all_true r⟩
end Go.SP
namespace Go.SP
open Go.SW Go.RowKit
end Go.SP
namespace Go.SP
open Go.SW Go.RowKit
variable {σ:Bb}{b m off:Nat}{lo x:Operand}{P:Program}{T ty:TypeId}{w:World}
theorem XD{k e c:Nat}(hx:ev σ x=some (.slice (some ⟨b,off,none⟩) (m+2) c))(hlo:ev σ lo=some (.int .i64 2))(hs:Ip P T=some (e,k))(hc:c≠2):AG P σ (.slice T x (some lo) none none) ty w (.slice (some ⟨b,off+2*k,none⟩) m (c-2)) w:=by
 have:=Lj (w:=w) (ty:=ty) (i:=2) hx (by simpa using hlo) hs oM;rwa[if_neg hc,Option.map_some,Ed,Nat.add_sub_cancel] at this
theorem SG{v:AK}{k r:Fo}(h:v.isTypeVar=false):BW (.cons v k r)=none:=by simp[BW,h]
theorem TU{v:AK}{k r:Fo}{x:Nd}(h:v.isTypeVar=true)(hx:BW r=some x):BW (.cons v k r)=some ((Az v 31 v.tx .nil).cons x):=by simp[BW,h,hx]
theorem QK{v:AK}{k r:Fo}(hx:BW r=none):BW (.cons v k r)=none:=by simp[BW,hx]
def WR:List (AK×Fo)→List Value
 | []=>[]
 |(o,_)::s=>WR s++Iu o
theorem JW:∀s,(WR s).length=s.length*5
 | []=>rfl
 |(o,p)::s=>by simp[WR,JW s,Iu];omega
def dF(u:Nat→Nat)(w0:World)(a:Option Addr)(L:Nat):Prop:=∀b,rb a=some b→w0.heap.size≤b∧u b=L
def Fz(u:Nat→Nat)(w0:World)(b:Nat):Prop:=w0.heap.size≤b∧u b=0
def Lv(eT:TypeId)(u:Nat→Nat)(w0 w:World)(j:Nat)(a:Option Addr)(c:Nat)(p:Fo):Prop :=
 ∃xs,BP w eT 6 a c p.len xs∧GS (Fz u w0) w p xs∧dF u w0 a (3+j)
def nQ(eT:TypeId)(u:Nat→Nat)(w0 w:World):List (AK×Fo)→List Value→Prop
 | [],[]=>True
 |(_,p)::s,v::vs=>(∃a c,v=.slice a p.len c∧Lv eT u w0 w s.length a c p)∧nQ eT u w0 w s vs
 |_,_=>False
structure SV(eT eK eS:TypeId)(u:Nat→Nat)(w0 w:World)(so sl:List (AK×Fo))(oa:Option Addr)(oc:Nat)(sa:Option Addr)(sc:Nat)(x:Value)(a:Option Addr)(c:Nat)(p:Fo)(vs:List Value)(ka:Option Addr)(kn kc:Nat)(kf:Fo):Prop where
 o:BP w eK 5 oa oc so.length (WR so)
 ol:dF u w0 oa 1
 s:BP w eS 1 sa sc (sl.length+1) (vs.reverse++[x])
 sla:dF u w0 sa 2
 top:Lv eT u w0 w sl.length a c p
 lv:nQ eT u w0 w sl vs
 kid:Eb (Fz u w0) w ka kn kc kf
def Kp(L:Nat)(u u':Nat→Nat)(w0 w w':World):Prop:=∀b,b<w.heap.size→w0.heap.size≤b→u b≠L→u' b=u b∧w'.heap[b]?=w.heap[b]?
section
variable{eT eK eS:TypeId}{u u':Nat→Nat}{w0 w w':World}{L M:Nat}{a:Option Addr}{c n:Nat}{p:Fo}
variable {xs:List Value}{j:Nat}{U:Nat→Prop}{a':Option Addr}{e:TypeId}
theorem BP.kp{k:Nat}(h:BP w e k a c n xs)(hl:dF u w0 a M)(hK:Kp L u u' w0 w w')(hM:M≠L):BP w' e k a c n xs∧dF u' w0 a M:=by
 refine⟨⟨h.1,h.2.imp id λ⟨b,l,h1,h2,h3⟩=>⟨b,l,h1,((hK b h2.lt (hl b (by rw[h1];rfl)).1 (by rw[(hl b (by rw[h1];rfl)).2];exact hM)).2).trans h2,h3⟩⟩,λb hb=>?_⟩
 · have:=hl b hb
   exact⟨this.1,by rw[(hK b (h.lt hb) this.1 (by rw[this.2];exact hM)).1];exact this.2⟩
theorem Je(hK:Kp L u u' w0 w w')(h0:0≠L):∀b,Fz u w0 b→b<w.heap.size→Fz u' w0 b∧w'.heap[b]?=w.heap[b]?:=λb hb hlt=>by
 have:=hK b hlt hb.1 (by rw[hb.2];exact h0);exact⟨⟨hb.1,this.1.trans hb.2⟩,this.2⟩
theorem Lv.kp(h:Lv eT u w0 w j a c p)(hK:Kp L u u' w0 w w')(h0:0≠L)(hj:3+j≠L):Lv eT u' w0 w' j a c p:=by
 obtain⟨xs,h1,h2,h3⟩:=h;obtain⟨h4,h5⟩:=BP.kp h1 h3 hK hj;exact⟨xs,h4,GS.imp (Je hK h0) p xs h2,h5⟩
theorem nQ.kp:∀{sl:List (AK×Fo)}{vs:List Value},nQ eT u w0 w sl vs→Kp L u u' w0 w w'→0≠L→(∀j,j<sl.length→3+j≠L)→nQ eT u' w0 w' sl vs
 | [],[],_,_,_,_=>trivial
 |(_,p)::s,v::vs,h,hK,h0,hj=>⟨let ⟨a,c,h1,h2⟩:=h.1;⟨a,c,h1,h2.kp hK h0 (hj _ (by simp))⟩,nQ.kp h.2 hK h0 λj hl=>hj j (by simp;omega)⟩
 | [],_::_,h,_,_,_=>h.elim
 |_::_,[],h,_,_,_=>h.elim
theorem mF(hE:AS w w'):Kp L u u w0 w w':=λb hb _ _=>⟨rfl,hE.block b hb⟩
theorem YD(hC:FZ b w w')(hb:u b=L):Kp L u u w0 w w':=λk _ _ hk=>⟨rfl,hC.block k (λe=>hk (e▸hb))⟩
def qO(u:Nat→Nat)(w:World)(L:Nat)(b:Nat):Nat:=if b<w.heap.size then u b else L
theorem Pv(hG:EB a w a' w')(hl:dF u w0 a L):Kp L u (qO u w L) w0 w w':=λb hb _ hk=>by
 refine⟨by simp[qO,hb],hG.block b hb λe=>hk (hl b e.symm).2⟩
theorem Ny{k:Nat}(hr:BP w e k a c n xs)(hG:EB a w a' w')(hl:dF u w0 a L)(h0:w0.heap.size≤w.heap.size):dF (qO u w L) w0 a' L:=λb hb=>by
 rcases hG.own with h|h
 · rw[h] at hb
   have:=hl b hb;exact⟨this.1,by simp[qO,hr.lt hb,this.2]⟩
 · rw[h] at hb;cases hb
   exact⟨h0,by simp[qO]⟩
theorem BP.take{k:Nat}(h:BP w e k a c n xs)(hm:m≤n):BP w e k a c m (xs.take (m*k)):=by
 refine⟨by rw[List.length_take,h.1];exact Nat.min_eq_left (Nat.mul_le_mul_right _ hm),h.2.imp (λh=>⟨h.1,h.2.1,oM⟩) λ⟨b,l,h1,h2,h3,h4,h5,h6⟩=>⟨b,l,h1,h2,oM,h4,h5,?_⟩⟩;rw[← h6,List.take_take,Nat.min_eq_left (Nat.mul_le_mul_right _ hm)]
theorem GS.snoc{t:AK}{k:Fo}{ka:Option Addr}{kn kc:Nat}(hk:Eb U w ka kn kc k):∀(p:Fo)(xs:List Value),GS U w p xs→xs.length=p.len*6→GS U w (p.snoc t k) (xs++(Iu t++[.slice ka kn kc]))
 |.nil,xs,_,hx=>by
   have:xs=[]:=List.eq_nil_of_length_eq_zero (by simpa[Fo.len] using hx);subst this;exact⟨ka,kn,kc,[],rfl,hk,tQ⟩
 |.cons t' k' r,xs,⟨a,n,c,l',h1,h2,h3⟩,hx=>by
   subst h1;exact⟨a,n,c,_,rfl,h2,GS.snoc hk r l' h3 (by simp[Fo.len] at hx;omega)⟩
theorem GS.init{t:AK}{k:Fo}:∀(p:Fo)(xs:List Value),GS U w (p.snoc t k) xs→GS U w p (xs.take (p.len*6))
 |.nil,_,_=>trivial
 |.cons t' k' r,xs,⟨a,n,c,l',h1,h2,h3⟩=>by
   subst h1;refine⟨a,n,c,l'.take (r.len*6),?_,h2,GS.init r l' h3⟩;simp only[Fo.len];rw[show (r.len+1)*6=r.len*6+6 by omega];rfl
theorem Fo.len_snoc(t:AK)(k:Fo):∀(p:Fo),(p.snoc t k).len=p.len+1
 |.nil=>rfl
 |.cons _ _ r=>by simp[Fo.snoc,Fo.len,Fo.len_snoc t k r]
end
section
variable{eT eK eS:TypeId}{u:Nat→Nat}{w0 w w':World}{so sl:List (AK×Fo)}{oa:Option Addr}{oc:Nat}{sa:Option Addr}{sc:Nat}{x:Value}{a:Option Addr}{c:Nat}{p:Fo}{vs:List Value}{ka:Option Addr}{kn kc:Nat}{kf:Fo}
theorem SV.ext(h:SV eT eK eS u w0 w so sl oa oc sa sc x a c p vs ka kn kc kf)(hE:AS w w'):SV eT eK eS u w0 w' so sl oa oc sa sc x a c p vs ka kn kc kf:=by
 have hK:Kp 2 u u w0 w w':=mF hE;exact⟨h.o.ext hE,h.ol,h.s.ext hE,h.sla,let ⟨xs,h1,h2,h3⟩:=h.top;⟨xs,h1.ext hE,h2.ext hE,h3⟩,h.lv.kp hK dC (λj _=>by omega),Eb.ext h.kid hE⟩
theorem SV.pushTok(h:SV eT eK eS u w0 w so sl oa oc sa sc x a c p vs ka kn kc kf)(k:AK)(q:Fo){oa':Option Addr}{oc':Nat}(hr:BP w' eK 5 oa' oc' (so.length+1) (WR so++Iu k))(hG:EB oa w oa' w')(h0:w0.heap.size≤w.heap.size) :
   ∃u',SV eT eK eS u' w0 w' ((k,q)::so) sl oa' oc' sa sc x a c p vs ka kn kc kf:=by
 have hK:=Pv hG h.ol;obtain⟨h1,h2⟩:=BP.kp h.s h.sla hK dC;exact⟨_,hr,Ny h.o hG h.ol h0,h1,h2,h.top.kp hK dC oM,h.lv.kp hK dC (λj _=>by omega),Eb.imp h.kid (Je hK dC)⟩
theorem SV.pushLev(h:SV eT eK eS u w0 w so sl oa oc sa sc x a c p vs ka kn kc kf)(hx:x=.slice a p.len c)(k:AK){sa':Option Addr}{sc':Nat}(hr:BP w' eS 1 sa' sc' (sl.length+1+1) (vs.reverse++[x]++[.slice none 0 0]))(hG:EB sa w sa' w')(h0:w0.heap.size≤w.heap.size) :
   ∃u',SV eT eK eS u' w0 w' so ((k,p)::sl) oa oc sa' sc' (.slice none 0 0) none 0 .nil (x::vs) ka kn kc kf:=by
 have hK:=Pv hG h.sla;obtain⟨h1,h2⟩:=BP.kp h.o h.ol hK dC;refine⟨_,h1,h2,by simpa using hr,Ny h.s hG h.sla h0,⟨[],F4 _ _ _,tQ,λb hb=>by cases hb⟩,⟨⟨a,c,hx,h.top.kp hK dC oM⟩,h.lv.kp hK dC (λj _=>by omega)⟩,Eb.imp h.kid (Je hK dC)⟩
def iK(u:Nat→Nat)(L:Nat)(b:Nat):Nat:=if u b=L then 0 else u b
theorem SV.pop{o:AK}{q:Fo}{so:List (AK×Fo)}{y:Value}(h:SV eT eK eS u w0 w ((o,q)::so) ((o,q)::so) oa oc sa sc x a c p (y::vs) ka kn kc kf) :
   ∃u' a' c',y=.slice a' q.len c'∧SV eT eK eS u' w0 w so so oa oc sa sc y a' c' q vs a p.len c p:=by
 have hK:Kp (3+((o,q)::so).length) u (iK u (3+((o,q)::so).length)) w0 w w:=λb _ _ hb=>⟨by simp only[iK,if_neg hb],rfl⟩;obtain⟨⟨a',c',h1,h2⟩,h3⟩:=h.lv;obtain⟨xs,t1,t2,t3⟩:=h.top;have ho:=BP.take (m:=so.length) h.o (by simp);have hs:=BP.take (m:=so.length+1) h.s (by simp);have e1:(WR ((o,q)::so)).take (so.length*5)=WR so:=by rw[WR,← JW so];exact List.take_left
 have hvl:(y::vs).length=so.length+1:=by
   have:=h.s.1;simp at this;simp;omega
 have e2:((y::vs).reverse++[x]).take ((so.length+1)*1)=vs.reverse++[y]:=by
   rw[List.reverse_cons,Nat.mul_one,← hvl];have:(vs.reverse++[y]).length=(y::vs).length:=by simp
   rw[← this];exact List.take_left
 rw[e1] at ho;rw[e2] at hs;obtain⟨o1,o2⟩:=BP.kp ho h.ol hK (by simp only[List.length_cons];omega);obtain⟨s1,s2⟩:=BP.kp hs h.sla hK (by simp only[List.length_cons];omega);refine⟨_,a',c',h1,o1,o2,s1,s2,h2.kp hK (by simp only[List.length_cons];omega) (by simp only[List.length_cons];omega),h3.kp hK (by simp only[List.length_cons];omega) (λj hj=>by simp only[List.length_cons];omega),⟨rfl,t1.n_le,?_⟩⟩;rcases t1.2 with ⟨_,_,h0⟩|⟨b,l,ha,hb,_,_,_,ht⟩
 · exact .inl h0
 · have hl:=t3 b (by rw[ha];rfl)
   refine .inr ⟨b,0,l,eT,⟨hl.1,by simp only[iK,hl.2,if_true]⟩,ha,hb,?_⟩;rw[List.drop_zero,← List.take_append_drop (p.len*6) l,ht];exact GS.more p xs _ (GS.imp (Je hK (by simp only[List.length_cons];omega)) p xs t2)
variable {t0:AK}{kf0:Fo}{l xs:List Value}{c' c1 n1 o sb:Nat}{a':Option Addr}
theorem SV.app(h:SV eT eK eS u w0 w so sl oa oc sa sc x a c p vs ka kn kc kf)(hrow:BP w eT 6 a c p.len xs)(hfc:GS (Fz u w0) w p xs)(hla:dF u w0 a (3+sl.length))(t:AK){k1:Option Addr}(hk:Eb (Fz u w0) w k1 n1 c1 kf0)
     (hr:BP w' eT 6 a' c' (p.len+1) (xs++(Iu t++[.slice k1 n1 c1]))) (hG:EB a w a' w') (h0:w0.heap.size≤w.heap.size) :
   ∃u',SV eT eK eS u' w0 w' so sl oa oc sa sc x a' c' (p.snoc t kf0) vs ka kn kc kf:=by
 have hK:=Pv hG hla;obtain⟨o1,o2⟩:=BP.kp h.o h.ol hK oM;obtain⟨s1,s2⟩:=BP.kp h.s h.sla hK oM;refine⟨_,o1,o2,s1,s2,⟨_,by rw[Fo.len_snoc];exact hr,GS.snoc (Eb.imp hk (Je hK oM)) p xs (GS.imp (Je hK oM) p xs hfc) hrow.1,Ny hrow hG hla h0⟩,h.lv.kp hK oM (λj _=>by omega),Eb.imp h.kid (Je hK oM)⟩
theorem SV.sblk(h:SV eT eK eS u w0 w so sl oa oc sa sc x a c p vs ka kn kc kf):∃sb l,sa=some ⟨sb,0,none⟩∧AI w sb l eS∧l[sl.length]?=some x∧sl.length+1≤l.length∧w0.heap.size≤sb∧u sb=2:=by
 rcases h.s.2 with ⟨_,_,h0⟩|⟨b,l,ha,hb,h1,h2,h3,h4⟩
 · cases h0
 · have hl:=h.sla b (by rw[ha];rfl)
   have hlen:=h.s.1;refine⟨b,l,ha,hb,?_,oM,hl⟩
   have e:(vs.reverse++[x])[sl.length]?=some x:=by
     have:vs.length=sl.length:=by simp at hlen;omega
     simp[← this]
   rw[← h4,List.getElem?_take,if_pos (by omega)] at e;exact e
theorem OA{vs:List Value}(h:o+vs.length≤l.length):(DV l o vs).take (o+vs.length)=l.take o++vs:=by
 rw[LU vs l o h];have:(l.take o++vs).length=o+vs.length:=by rw[List.length_append,List.length_take];omega
 rw[← this];exact List.take_left
theorem SV.cell(h:SV eT eK eS u w0 w so sl oa oc sa sc x a c p vs ka kn kc kf){y:Value}(hsa:sa=some ⟨sb,0,none⟩)(hb:AI w sb l eS)(hb':AI w' sb (DV l sl.length [y]) eS)(hC:FZ sb w w') :
   SV eT eK eS u w0 w' so sl oa oc sa sc y a c p vs ka kn kc kf:=by
 have hK:Kp 2 u u w0 w w':=YD hC (h.sla sb (by rw[hsa];rfl)).2;obtain⟨o1,o2⟩:=BP.kp h.o h.ol hK dC;refine⟨o1,o2,⟨by have:=h.s.1;simpa using this,?_⟩,h.sla,h.top.kp hK dC oM,h.lv.kp hK dC (λj _=>by omega),Eb.imp h.kid (Je hK dC)⟩;rcases h.s.2 with ⟨_,_,h0⟩|⟨b,l1,ha,hb1,h1,h2,h3,h4⟩
 · cases h0
 · rw[hsa] at ha;cases ha
   have hll:l=l1:=by have:=hb.symm.trans hb1;simpa using this
   subst hll;have hle:sl.length+[y].length≤l.length:=by simp only[List.length_singleton];omega
   refine .inr ⟨sb,_,hsa,hb',h1,h2,by rw[F7];exact h3,?_⟩;have:=OA hle;rw[Nat.mul_one];rw[List.length_singleton] at this;rw[this]
   have e:(vs.reverse++[x]).take sl.length=vs.reverse:=by
     have hv:vs.reverse.length=sl.length:=by have:=h.s.1;simp at this;simp;omega
     rw[← hv];exact List.take_left
   rw[← e,← h4,List.take_take,Nat.mul_one,Nat.min_eq_left (by omega)]
theorem SV.tblk{t:AK}{k:Fo}(h:SV eT eK eS u w0 w so sl oa oc sa sc x a c (p.snoc t k) vs ka kn kc kf):∃b l,a=some ⟨b,0,none⟩∧AI w b l eT∧(p.len+1)*6≤l.length∧w0.heap.size≤b∧u b=3+sl.length:=by
 obtain⟨xs,h1,h2,h3⟩:=h.top;rw[Fo.len_snoc] at h1;rcases h1.2 with ⟨_,_,h0⟩|⟨b,l,ha,hb,h4,_,h5,_⟩
 · cases h0
 · exact⟨b,l,ha,hb,by rw[h5];exact Nat.mul_le_mul_right _ h4,h3 b (by rw[ha];rfl)⟩
theorem SV.last{k0:Fo}(h:SV eT eK eS u w0 w so sl oa oc sa sc x a c (p.snoc t0 k0) vs ka kn kc kf)(ha:a=some ⟨b,0,none⟩)(hb:AI w b l eT)(t:AK){k1:Option Addr}(hk:Eb (Fz u w0) w k1 n1 c1 kf0)
   (hb':AI w' b (DV l (p.len*6) (Iu t++[.slice k1 n1 c1])) eT) (hC:FZ b w w'):SV eT eK eS u w0 w' so sl oa oc sa sc x a c (p.snoc t kf0) vs ka kn kc kf:=by
 obtain⟨xs,h1,h2,h3⟩:=h.top;have hlb:=(h3 b (by rw[ha];rfl)).2;have hK:Kp (3+sl.length) u u w0 w w':=YD hC hlb;obtain⟨o1,o2⟩:=BP.kp h.o h.ol hK oM;obtain⟨s1,s2⟩:=BP.kp h.s h.sla hK oM;rw[Fo.len_snoc] at h1;refine⟨o1,o2,s1,s2,⟨xs.take (p.len*6)++(Iu t++[.slice k1 n1 c1]),?_,?_,h3⟩,h.lv.kp hK oM (λj _=>by omega),Eb.imp h.kid (Je hK oM)⟩
 · rw[Fo.len_snoc]
   refine⟨by rw[List.length_append,List.length_take,h1.1];simp[Iu];omega,?_⟩;rcases h1.2 with ⟨_,_,h0⟩|⟨b1,l1,ha1,hb1,h4,h5,h6,h7⟩
   · cases h0
   · rw[ha] at ha1;cases ha1
     have hll:l=l1:=by have:=hb.symm.trans hb1;simpa using this
     subst hll;refine .inr ⟨b,_,ha,hb',h4,h5,by rw[F7];exact h6,?_⟩;have hle:p.len*6+(Iu t++[Value.slice k1 n1 c1]).length≤l.length:=by simp[Iu];omega
     have:=OA hle;have e:p.len*6+(Iu t++[Value.slice k1 n1 c1]).length=(p.len+1)*6:=by simp[Iu];omega
     rw[e] at this;rw[this,← h7,List.take_take,Nat.min_eq_left (by omega)]
 · exact GS.snoc (Eb.imp hk (Je hK oM)) p _ (GS.imp (Je hK oM) p _ (GS.init p xs h2)) (by rw[List.length_take,h1.1];omega)
end
end Go.SP
namespace Go.SW
open Go.RowKit
section
variable{P:Program}{n:Nat}{Q:AU}{σ:Bb}{ds:List Deferred}{w:World}{ops:Array Oper}{ty T T':TypeId}{pos:String}{af:Array Edge}{rest:List Oper}{b off k:Nat}{x y:Operand}{l:List Value}
theorem BV{v:Value}{vs:List Value}{a:Bool}(hx:ev σ x=some (.pointer (some ⟨b,off,none⟩)))(hy:ev σ y=some v)(hv:Hl v=some vs)(hT:AN P T=some (a,k))(hk:Nat.beq vs.length k=true)
   (hb:AI w b l T') (h1:LG vs=true) (hf:off+vs.length≤l.length)
   (h:∀w',AI w' b (DV l off vs) T'→FZ b w w'→GO P n ops Q rest σ ds w'):GO P n ops Q (⟨none,.store T x y,ty,pos,af,none⟩::rest) σ ds w :=
 IA (Nk hx hy (Gt hv) hT hk hb h1 hf) (h _ (setRow_heap w b _ _ T' _ hb) (MC w b _))
variable {hi:Operand}{e:TypeId}
theorem Vj{k1:IntKind}{z:Int}(i:Nat){a:Option Addr}{len cap:Nat}(hx:ev σ x=some (.slice a len cap))(hhi:ev σ hi=some (.int k1 z))(hz:z=(i:Int))
   (hs:Ip P T=some (e,k)) (h:i≤cap):AG P σ (.slice T x none (some hi) none) ty w (.slice a i cap) w:=by
 subst hz;exact Ux hx hhi hs h
end
end Go.SW
namespace Go.SP
open Go.SW Go.RowKit
def EJ:List AK→List Value
 | []=>[]
 |t::l=>Iu t++EJ l
theorem K6:∀l,(EJ l).length=l.length*5
 | []=>rfl
 |t::l=>by simp[EJ,K6 l,Iu];omega
theorem B6:∀l m,EJ (l++m)=EJ l++EJ m
 | [],_=>rfl
 |t::l,m=>by simp[EJ,B6 l m]
variable {t0:AK}{kf0:Fo}{xs ys:List Value}{c1 i n1 sb:Nat}{e:TypeId}
theorem HK{l:List Value}{n:Nat}(h:l.take n=xs++ys):l.drop xs.length=ys++l.drop n:=by
 have h2:=List.take_append_drop n l;rw[h,List.append_assoc] at h2;rw[← h2];have h3:(xs++(ys++l.drop n)).drop xs.length=ys++l.drop n:=List.drop_left;rw[h2] at h3 ⊢;exact h3
theorem iQ{w:World}{a:Option Addr}{c:Nat}{pre rest:List AK}{k:AK}(h:BP w e 5 a c (pre++k::rest).length (EJ (pre++k::rest)))(hi:pre.length=i) :
   ∃b l l',a=some ⟨b,0,none⟩∧AI w b l e∧l.drop (0+i*5)=.int .i64 k.k::.int .i64 k.ln::.int .i64 k.co::.int .i64 k.nm::S k.tx::l':=by
 rcases h.2 with ⟨_,_,h0⟩|⟨b,l,ha,hb,_,_,_,ht⟩
 · simp at h0
 · rw[B6,EJ] at ht
   have:=HK ht;rw[K6,hi] at this;exact⟨b,l,_,ha,hb,by rw[Nat.zero_add,this];rfl⟩
section
variable{eT eK eS:TypeId}{u:Nat→Nat}{w0 w w':World}{so sl:List (AK×Fo)}{oa:Option Addr}{oc:Nat}{sa:Option Addr}{sc:Nat}{x:Value}{a:Option Addr}{c:Nat}{p:Fo}{vs:List Value}{ka:Option Addr}{kn kc:Nat}{kf:Fo}
theorem SV.oblk{o:AK}{q:Fo}{s:List (AK×Fo)}(h:SV eT eK eS u w0 w ((o,q)::s) sl oa oc sa sc x a c p vs ka kn kc kf):∃b l l',oa=some ⟨b,0,none⟩∧AI w b l eK ∧
   l.drop (0+s.length*5)=.int .i64 o.k::.int .i64 o.ln::.int .i64 o.co::.int .i64 o.nm::S o.tx::l':=by
 rcases h.o.2 with ⟨_,_,h0⟩|⟨b,l,ha,hb,_,_,_,ht⟩
 · cases h0
 · rw[WR] at ht
   have:=HK ht;rw[JW] at this;exact⟨b,l,_,ha,hb,by rw[Nat.zero_add,this];rfl⟩
theorem RN:∀(o:AK×Fo)(s:List (AK×Fo)),∃q l',(o::s).getLast?=some q∧WR (o::s)=Iu q.1++l'
 |o,[]=>⟨o,[],rfl,by simp[WR]⟩
 |o,o'::s=>by
   obtain⟨q,l',h1,h2⟩:=RN o' s;refine⟨q,l'++Iu o.1,by rw[List.getLast?_cons_cons];exact h1,?_⟩;show WR (o'::s)++Iu o.1=_;rw[h2,List.append_assoc]
theorem SV.oblk0{o:AK×Fo}{s:List (AK×Fo)}(h:SV eT eK eS u w0 w (o::s) sl oa oc sa sc x a c p vs ka kn kc kf):∃b l l' t f,oa=some ⟨b,0,none⟩∧AI w b l eK∧(o::s).getLast?=some (t,f) ∧
   l.drop (0+0*5)=.int .i64 t.k::.int .i64 t.ln::.int .i64 t.co::.int .i64 t.nm::S t.tx::l':=by
 obtain⟨⟨t,f⟩,l',h1,h2⟩:=RN o s;rcases h.o.2 with ⟨_,_,h0⟩|⟨b,l,ha,hb,_,_,_,ht⟩
 · cases h0
 · refine⟨b,l,l'++l.drop ((o::s).length*5),t,f,ha,hb,h1,?_⟩
   rw[h2] at ht;exact HK (xs:=[]) ht
theorem SV.knil(h:SV eT eK eS u w0 w so sl oa oc sa sc x a c p vs ka kn kc kf):SV eT eK eS u w0 w so sl oa oc sa sc x a c p vs none 0 0 .nil:={h with kid:=Eb.nil _ _ _ _}
theorem SV.olt(h:SV eT eK eS u w0 w so sl oa oc sa sc x a c p vs ka kn kc kf):∀b,rb oa=some b→b<w.heap.size:=λ_ hb=>h.o.lt hb
theorem SV.slt(h:SV eT eK eS u w0 w so sl oa oc sa sc x a c p vs ka kn kc kf):∀b,rb sa=some b→b<w.heap.size:=λ_ hb=>h.s.lt hb
theorem SV.tlt(h:SV eT eK eS u w0 w so sl oa oc sa sc x a c p vs ka kn kc kf):∀b,rb a=some b→b<w.heap.size:=λ_ hb=>let ⟨_,h1,_⟩:=h.top;h1.lt hb
theorem SV.start{b:Nat}(hb:AI w b [.slice none 0 0] eS)(h0:w0.heap.size≤b):SV eT eK eS (λ_=>2) w0 w [] [] none 0 (some ⟨b,0,none⟩) 1 (.slice none 0 0) none 0 .nil [] none 0 0 .nil :=
 ⟨F4 _ _ _,(λ_ h=>by cases h),⟨rfl,.inr ⟨b,_,rfl,hb,Nat.le_refl _,by unfold maxLen;omega,rfl,rfl⟩⟩,(λc hc=>by cases hc;exact⟨h0,rfl⟩),⟨[],F4 _ _ _,tQ,(λ_ h=>by cases h)⟩,tQ,Eb.nil _ _ _ _⟩
theorem SV.out(h:SV eT eK eS u w0 w so sl oa oc sa sc x a c p vs ka kn kc kf):Eb (λb=>w0.heap.size≤b) w a p.len c p:=by
 obtain⟨xs,t1,t2,t3⟩:=h.top;refine⟨rfl,t1.n_le,?_⟩;rcases t1.2 with ⟨_,_,h0⟩|⟨b,l,ha,hb,_,_,_,ht⟩
 · exact .inl h0
 · have hl:=t3 b (by rw[ha];rfl)
   refine .inr ⟨b,0,l,eT,hl.1,ha,hb,?_⟩;rw[List.drop_zero,← List.take_append_drop (p.len*6) l,ht];exact GS.more p xs _ (GS.imp (λb hb _=>⟨hb.1,rfl⟩) p xs t2)
theorem SV.cell'(h:SV eT eK eS u w0 w so sl oa oc sa sc x a c p vs ka kn kc kf){l:List Value}{y:Value}(hsa:sa=some ⟨sb,0,none⟩)(hb:AI w sb l eS)(hb':AI w' sb (DV l (0+sl.length*1) [y]) eS)(hC:FZ sb w w') :
   SV eT eK eS u w0 w' so sl oa oc sa sc y a c p vs ka kn kc kf:=h.cell hsa hb (by rwa[Nat.zero_add,Nat.mul_one] at hb') hC
theorem SV.last'{k0:Fo}(h:SV eT eK eS u w0 w so sl oa oc sa sc x a c (p.snoc t0 k0) vs ka kn kc kf){b:Nat}{l:List Value}(ha:a=some ⟨b,0,none⟩)(hb:AI w b l eT)(t:AK){k1:Option Addr}(hk:Eb (Fz u w0) w k1 n1 c1 kf0)
   (hb':AI w' b (DV l (0+p.len*6) (Iu t++[.slice k1 n1 c1])) eT) (hC:FZ b w w'):SV eT eK eS u w0 w' so sl oa oc sa sc x a c (p.snoc t kf0) vs ka kn kc kf:=h.last ha hb t hk (by rwa[Nat.zero_add] at hb') hC
end
theorem Jz{st:List (AK×Fo)}(h:∀z∈st,z.2.len≤i):∀z∈st,z.2.len≤i+1:=λz hz=>Nat.le_succ_of_le (h z hz)
theorem Wk{st:List (AK×Fo)}(k:AK){cur:Fo}(h:∀z∈st,z.2.len≤i)(hc:cur.len≤i):∀z∈(k,cur)::st,z.2.len≤i+1:=λz hz=>by
 rcases List.mem_cons.1 hz with rfl|hz
 · exact Nat.le_succ_of_le hc
 · exact Jz h z hz
theorem KA{st:List (AK×Fo)}{o:AK×Fo}(h:∀z∈o::st,z.2.len≤i):∀z∈st,z.2.len≤i+1:=λz hz=>Jz h z (.tail _ hz)
section
variable{k:AK}{l:List AK}{st:List (AK×Fo)}{cur:Fo}
theorem R9(h:(k.k==0)=true)(h2:st.length=200):Bn (k::l) st cur=.error (k.ln,k.co):=by unfold Bn;simp[h,h2]
theorem RX(h:(k.k==0)=true)(h2:st.length≠200):Bn (k::l) st cur=Bn l ((k,cur)::st) .nil:=by rw[Bn.eq_def];simp[h,h2]
theorem Tq(h:(k.k==0)=false)(h1:(k.k==1)=true):Bn (k::l) [] cur=.error (k.ln,k.co):=by unfold Bn;simp[h,h1]
theorem Gc{o:AK}{q:Fo}{s:List (AK×Fo)}(h:(k.k==0)=false)(h1:(k.k==1)=true):Bn (k::l) ((o,q)::s) cur=Bn l s (q.snoc o cur):=by rw[Bn.eq_def];simp[h,h1]
theorem Gf(h:(k.k==0)=false)(h1:(k.k==1)=false):Bn (k::l) st cur=Bn l st (cur.snoc k .nil):=by rw[Bn.eq_def];simp[h,h1]
theorem SB{o:AK×Fo}{s:List (AK×Fo)}{t:AK}{f:Fo}(h:(o::s).getLast?=some (t,f)):Bn [] (o::s) cur=.error (t.ln,t.co):=by
 obtain⟨o1,o2⟩:=o;unfold Bn;rw[h]
theorem RC:Bn [] [] cur=.ok cur:=by unfold Bn;rfl
end
end Go.SP
namespace Go.SW
open Go.RowKit
section
variable{P:Program}{n:Nat}{Q:AU}{σ:Bb}{ds:List Deferred}{w:World}{ops:Array Oper}{ty T:TypeId}{pos:String}{af:Array Edge}{rest:List Oper}{x:Operand}
def Va(P:Program)(fn:Func)(R:Ending→World→Prop):AU :=
 {q:=λe σ ds w=>match e with
     |.normal|.ret=>∀tmps:Array Value,(∀t v,σ t=some v→tmps.getD t undef=v)→Leaves P fn tmps R ds .returning w
     |_=>False,
   p:=λc σ ds w=>∀tmps:Array Value,(∀t v,σ t=some v→tmps.getD t undef=v)→Leaves P fn tmps R ds (.panicking c) w}
variable {ts:Array TypeId}{tmps:Array Value}{u u':FrameMode}{caps:List Operand}{cv l:List Value}{d i:Nat}
theorem nJ{f:FuncId}{fn:Func}{c:Code}{R:Ending→World→Prop}(hf:P.funcs[f]?=some fn)(hb:fn.body=some c)
   (hn:fn.ntmps=n) (hl:Nat.ble l.length n=true) (h:GY P n c (Va P fn R) (H5 l 0) [] w):Calls P f l.toArray w R:=by
 refine calls_of_wp_defers hf hb ?_;rw[hn];refine wp_mono (h _ (Jg hl)) λe a w' he=>?_
 cases e with
 |normal=>obtain⟨σ,ds,hs,hq⟩:=he;show Leaves _ _ _ _ a.defers _ _;rw[hs.defs];exact hq _ hs.val
 |ret=>obtain⟨σ,ds,hs,hq⟩:=he;show Leaves _ _ _ _ a.defers _ _;rw[hs.defs];exact hq _ hs.val
 |panic c=>obtain⟨σ,ds,hs,hq⟩:=he;show Leaves _ _ _ _ a.defers _ _;rw[hs.defs];exact hq _ hs.val
 |outgrown=>exact he.elim
 |exit i=>obtain⟨σ,ds,hs,hq⟩:=he;exact hq.elim
 |goto i=>obtain⟨σ,ds,hs,hq⟩:=he;exact hq.elim
theorem Uf{f:FuncId}(hc:Ik σ caps=some cv):AG P σ (.makeFunc (.func f) #[] caps.toArray) ty w (.func (.func f) #[] cv.toArray) w:=λρ _ _ _ _ hρ=>by
 have h:=Ej hρ hc;simp only[execOp,Instr.makeFunc,List.map_toArray,h,Array.map_empty];rfl
theorem Oo{g:Operand}{f:FuncId}{ts:Array TypeId}(hg:ev σ g=some (.func (.func f) #[] cv.toArray))
   (h:GO P n ops Q rest σ ({target:=.fn (.func f) cv.toArray,args:=#[]}::ds) w):GO P n ops Q (⟨none,.defer {callee:=.value g,args:=#[],argTypes:=ts},ty,pos,af,none⟩::rest) σ ds w:=λa ha =>
 wpList_plain rfl λK hK=>by
   unfold Oper.wp
   have e:(execOp a.eval ⟨none,.defer {callee:=.value g,args:=#[],argTypes:=ts},ty,pos,af,none⟩).run P w=.ok (.defer {target:=.fn (.func f) cv.toArray,args:=#[]}) w:=by
     simp[execOp,resolve,Deferred.ofValue,ha.ev _ _ hg]
   rw[e];exact hK _ _ (h _ ⟨ha.size,by show _::a.defers=_;rw[ha.defs],ha.val⟩)
theorem Dj{f:FuncId}{fn:Func}{c:Code}{v:Value}{ty2:TypeId}{pos2:String}{af2:Array Edge}{R:World→Prop}{w:World}
   (hf:P.funcs[f]?=some fn) (hb:fn.body=some (.seq (.region i #[⟨some d,.call {callee:=.builtin .recover,args:=#[],argTypes:=ts},ty2,pos2,af2,none⟩] false) c)) (hn:fn.ntmps=n) (hl:Nat.ble l.length n=true) (hd:Nat.blt d n=true)
   (hrec:∀(c₀:Frame)(cs:List Frame),c₀.mode=u→(recoverD (c₀::cs)=some (v,{c₀ with mode:=u' }::cs)∨(recoverD (c₀::cs)=none∧v=.nilIface∧u'=u)))
   (h:GY P n c (Fg P fn (λ_ w'=>R w') λ_ _=>False) (AA (H5 l 0) d v) [] w):CallsD P f l.toArray u w λe m w'=>∃x,e=.returned x∧m=u'∧R w':=by
 refine callsD_of_wpS hf hb λc₀ cs hu=>wpS_seq (wpS_region ?_)
 have hx:∀ρ,(execOp ρ ⟨some d,.call {callee:=.builtin .recover,args:=#[],argTypes:=ts},ty2,pos2,af2,none⟩).run P w=.ok .recover w:=λρ=>by
   simp[execOp,resolve,invoke,builtin]
 have hgo:∀cs',cs'={c₀ with mode:=u' }::cs→(c.wpS P (bodyPostS P fn c₀ cs λe m w'=>∃x,e=.returned x∧m=u'∧R w') (Act.put {tmps:=l.toArray++Array.replicate (fn.ntmps-l.toArray.size) undef,defers:=[]} (some d) v) cs' w):=λcs' hcs=>by
   subst hcs;refine wpS_of_wp ?_;have hst:=Jg (n:=n) hl;rw[hn];refine wp_mono (h _ (hst.put hd v)) λe a w' he=>?_
   cases e with
   |normal=>obtain⟨σ,ds,hs,hds,x,hx,hr⟩:=he;exact⟨by rw[hs.defs,hds],u',rfl,x,hx _ hs.val,x,rfl,rfl,hr⟩
   |ret=>obtain⟨σ,ds,hs,hds,x,hx,hr⟩:=he;exact⟨by rw[hs.defs,hds],u',rfl,x,hx _ hs.val,x,rfl,rfl,hr⟩
   |panic c=>obtain⟨_,_,_,hq⟩:=he;exact hq.2.elim
   |outgrown=>exact he.elim
   |exit i=>obtain⟨σ,ds,hs,hq⟩:=he;exact hq.elim
   |goto i=>obtain⟨σ,ds,hs,hq⟩:=he;exact hq.elim
 have hsame:({c₀ with mode:=u}:Frame)=c₀:=by subst hu;rfl
 show wpOpsS P _ _ [0] _ _ _;simp only[wpOpsS,List.getElem?_toArray,List.getElem?_cons_zero,Region.wanted,if_true,hx];rcases hrec c₀ cs hu with hr|⟨hr,hv,hu'⟩
 · rw[hr];exact hgo _ rfl
 · rw[hr]
   subst hv hu';exact hgo _ (by rw[hsame])
theorem Fl{fn:Func}{R:Ending→World→Prop}{f:FuncId}{R':World→Prop}(hu:u≠.run)(he:B3 P f)(h:CallsD P f cv.toArray u w λe m w'=>∃x,e=.returned x∧m=u'∧R' w')
   (hr:∀w',R' w'→Leaves P fn tmps R [] (settle u') w'):Leaves P fn tmps R [{target:=.fn (.func f) cv.toArray,args:=#[]}] u w:=by
 refine leaves_cons (f:=f) (args:=cv.toArray) hu (by simp only[invoke,Array.empty_append];exact he _ _) (CallsD.mono h ?_);rintro e m w' ⟨x,rfl,rfl,hw⟩;exact hr w' hw
theorem BN{fn:Func}{R:Ending→World→Prop}{v:Value}(hσ:∀t v,σ t=some v→tmps.getD t undef=v)(hv:SA P fn σ w v)(h:R (.returned v) w):Leaves P fn tmps R [] .returning w:=⟨v,hv _ hσ,h⟩
theorem Sz{v:Value}{X:TypeId}(hx:ev σ x=some (.iface T v))(hT:qA P T=true):AG P σ (.typeAssert x X T true) ty w (.tuple #[v,.bool true]) w:=λρ _ _ _ _ hρ=>by
 unfold qA at hT
 cases hu:P.underlying T with
 |none=>rw[hu] at hT;cases hT
 |some d =>
   rw[hu] at hT
   cases d <;> simp_all [execOp,Instr.typeAssert,underlying,hρ _ _ hx,run_underlying hu]
end
section
variable{P:Program}{σ:Bb}{w:World}{ty T:TypeId}{x y:Operand}
theorem H3(h:Zu P T=true):∃ms,P.underlying T=some (.interface ms):=by
 unfold Zu at h
 split at h
 · exact⟨_,by assumption⟩
 · cases h
variable {t t':TypeId}
theorem eY{ms}(d:Nat)(hu:P.underlying t=some (.interface ms)):(Op.equalIn (d+1) t .nilIface .nilIface).run P w=.ok true w:=by simp[Op.equalIn,run_underlying hu]
theorem eR{ms}(d:Nat){v:Value}(hu:P.underlying t=some (.interface ms)):(Op.equalIn (d+1) t (.iface T v) .nilIface).run P w=.ok false w:=by simp[Op.equalIn,run_underlying hu]
theorem Qd(ht:Zu P t=true)(hx:ev σ x=some .nilIface):AG P σ (.binOp .eql t x (.const .nilIface) t') ty w (.bool true) w:=by
 obtain⟨ms,hu⟩:=H3 ht;have e:(Op.equal t .nilIface .nilIface).run P w=.ok true w:=eY (Op.maxDepth-1) hu
 exact λρ _ _ _ _ hρ=>by
   have hy:ρ (.const .nilIface)=.nilIface:=hρ _ _ rfl;simp[execOp,hρ _ _ hx,hy,eqGuard,binOp,e]
theorem PN{v:Value}(ht:Zu P t=true)(hx:ev σ x=some (.iface T v)):AG P σ (.binOp .eql t x (.const .nilIface) t') ty w (.bool false) w:=by
 obtain⟨ms,hu⟩:=H3 ht;have e:(Op.equal t (.iface T v) .nilIface).run P w=.ok false w:=eR (Op.maxDepth-1) hu
 exact λρ _ _ _ _ hρ=>by
   have hy:ρ (.const .nilIface)=.nilIface:=hρ _ _ rfl;simp[execOp,hρ _ _ hx,hy,eqGuard,binOp,e]
theorem Ml:∀(c₀:Frame)(cs:List Frame),c₀.mode=.returning→(recoverD (c₀::cs)=some (Value.nilIface,{c₀ with mode:=.returning}::cs)∨(recoverD (c₀::cs)=none∧Value.nilIface=Value.nilIface∧FrameMode.returning=.returning)):=λc₀ cs h=>.inr ⟨by simp[recoverD,h],rfl,rfl⟩
theorem Pc{v:Value}:∀(c₀:Frame)(cs:List Frame),c₀.mode=.panicking [{v:=v,recovered:=false}]→(recoverD (c₀::cs)=some (v,{c₀ with mode:=.panicking [{v:=v,recovered:=true}]}::cs)∨(recoverD (c₀::cs)=none∧v=Value.nilIface∧FrameMode.panicking [{v:=v,recovered:=true}]=.panicking [{v:=v,recovered:=false}])):=λc₀ cs h=>.inl (by simp[recoverD,h])
theorem JH{v:Value}:settle (.panicking [{v:=v,recovered:=true}])=.returning:=by simp[settle]
end
end Go.SW
namespace Go.SP
open Go.SW Go.RowKit
abbrev Ps:=Int×Int
def adv(c:UInt8)(p:Ps):Ps:=if (c.toNat:Int)==10 then (p.1+1,1) else (p.1,p.2+1)
def EG:lU:=[48,49,50,51,52,53,54,55,56,57,97,98,99,100,101,102]
def Gm:lU:=[32,9,10]
def U7:lU:=[32,9,10,40,41,34,59]
def JS(p:Ps):lU→Except Ps (UInt8×lU×Ps)
 | []=>.error p
 |c::r =>
   if (c.toNat:Int)==34 then .ok (c,r,adv c p)
   else if (c.toNat:Int)==92 then .ok (c,r,adv c p)
   else if (c.toNat:Int)==110 then .ok (10,r,adv c p)
   else if (c.toNat:Int)==120 then
     match r with
     |a::b::r' =>
       if decide ((0:Int)≤Lib.indexByte EG a)&&decide ((0:Int)≤Lib.indexByte EG b) then .ok (UInt8.ofNat ((Lib.indexByte EG a).toNat*16+(Lib.indexByte EG b).toNat),r',adv b (adv a (adv c p))) else .error p
     |_=>.error p
   else .error p
def G3(start:Ps):Nat→Ps→lU→lU→Except Ps (lU×lU×Ps)
 |0,_,_,_=>.error start
 |_+1,_,_,[]=>.error start
 |n+1,p,acc,c::r =>
   if (c.toNat:Int)==34 then (if decide ((4096:Int)<acc.length) then .error start else .ok (acc,r,adv c p))
   else if decide ((c.toNat:Int)<32) then .error p
   else if (c.toNat:Int) != 92 then G3 start n (adv c p) (acc++[c]) r
   else match r with
     | []=>.error start
     |_=>match JS (adv c p) r with
       |.error e=>.error e
       |.ok (b,r',p')=>G3 start n p' (acc++[b]) r'
def Pk(i:Nat)(p:Ps):Prop:=0≤p.1∧p.1≤i+1∧0≤p.2∧p.2≤i+1
variable {i:Nat}{p:Ps}{src:lU}
theorem Pk.adv{c:UInt8}(h:Pk i p):Pk (i+1) (adv c p):=by
 obtain⟨h1,h2,h3,h4⟩:=h;unfold Go.SP.adv
 split <;> (refine⟨?_,?_,?_,?_⟩ <;> simp only <;> omega)
theorem AZ{c:UInt8}(h:src[i]?=some c):src.drop i=c::src.drop (i+1):=by
 obtain⟨hl,he⟩:=List.getElem?_eq_some_iff.1 h;rw[List.drop_eq_getElem_cons hl,he]
theorem J8(h:i<src.length):∃c,src[i]?=some c:=⟨src[i],List.getElem?_eq_getElem h⟩
theorem Ca{c:UInt8}(h:src[i]?=some c):i<src.length:=(List.getElem?_eq_some_iff.1 h).1
theorem Xa(c:UInt8):Lib.indexByte EG c<16:=by
 have:∀(l:lU),Lib.indexByte l c<l.length∨Lib.indexByte l c = -1:=by
   intro l
   induction l with
   |nil=>right;rfl
   |cons a l ih =>
     unfold Lib.indexByte
     split
     · left;simp
     · split
       · right;rfl
       · left;simp only[List.length_cons];rcases ih with h|h <;> simp_all
 rcases this EG with h|h
 · exact h
 · omega
end Go.SP
namespace Go.SW
open Go.RowKit
theorem Bu{P:Program}{σ:Bb}{w:World}{ty:TypeId}{x:Operand}{a:Addr}(hx:ev σ x=some (.pointer (some a))):AG P σ (.nilCheck x) ty w (.pointer (some a)) w:=λρ _ _ _ _ hρ=>by
 simp[execOp,hρ _ _ hx]
section
variable{P:Program}{σ:Bb}{w:World}{ty T T':TypeId}{x y:Operand}
variable {a:Option Addr}{e t t':TypeId}
theorem cN{a:Int}(hx:ev σ x=some (.int .i64 a))(hy:ev σ y=some (.int .u64 4))(h:0≤a∧a<16):AG P σ (.binOp .shl t x y t') ty w (.int .i64 (a*16)) w :=
 λρ _ _ _ _ hρ=>by
   have e:IntKind.i64.wrap (a*16)=a*16:=LQ ⟨oM,oM⟩;simp[execOp,hρ _ _ hx,hρ _ _ hy,eqGuard,binOp,Op.shift,IntKind.bits,e]
theorem uL:∀a b:Fin 16,((BitVec.ofInt 64 ((a.val:Int)*16)) ||| (BitVec.ofInt 64 (b.val:Int))).toNat=a.val*16+b.val:=dC
theorem cF{a b:Int}(hx:ev σ x=some (.int .i64 (a*16)))(hy:ev σ y=some (.int .i64 b))(h:0≤a∧a<16)(h2:0≤b∧b<16):AG P σ (.binOp .or t x y t') ty w (.int .i64 (a*16+b)) w :=
 λρ _ _ _ _ hρ=>by
   have e:=uL ⟨a.toNat,oM⟩ ⟨b.toNat,oM⟩;simp only[Int.toNat_of_nonneg h.1,Int.toNat_of_nonneg h2.1] at e;have e2:IntKind.i64.wrap (a*16+b)=a*16+b:=LQ ⟨oM,oM⟩;have e3:((a.toNat*16+b.toNat:Nat):Int)=a*16+b:=oM;simp only[execOp,hρ _ _ hx,hρ _ _ hy,eqGuard,binOp,Op.intBits];show Result.ok (Next.value (.int .i64 (IntKind.i64.wrap ((BitVec.ofInt 64 (a*16) ||| BitVec.ofInt 64 b).toNat:Int)))) w=_;rw[e,e3,e2]
theorem BY{k k0:IntKind}{n m:Int}(hx:ev σ x=some (.int k0 n))(hc:WQ P T T'=some k)(hm:k.wrap n=m):AG P σ (.convert T T' x) ty w (.int k m) w:=by
 unfold WQ at hc
 cases hs:P.underlying T with
 |none=>rw[hs] at hc;cases hc
 |some s =>
   cases hd:P.underlying T' with
   |none=>rw[hs,hd] at hc;cases hc
   |some d =>
     rw[hs,hd] at hc
     cases d <;> simp at hc
     rename_i k';subst hc
     exact λρ _ _ _ _ hρ=>by
       simp[execOp,hρ _ _ hx,convert,run_underlying hs,run_underlying hd,Conv.intToInt,hm]
theorem Vn{n:Int}(h:0≤n∧n<256):IntKind.u8.wrap n=n:=by
 unfold IntKind.wrap;simp[IntKind.bits,IntKind.signed];omega
def bC(l:lU):List Value:=l.map λc=>.int .u8 c.toNat
theorem bC_app(l m:lU):bC (l++m)=bC l++bC m:=List.map_append
theorem Ii{c:Nat}{l:lU}(hx:ev σ x=some (.slice a l.length c))(hc:eD P T T'=some e)(hr:BP w e 1 a c l.length (bC l)):AG P σ (.convert T T' x) ty w (S l) w:=by
 unfold eD at hc
 split at hc
 · rename_i e' hs
   split at hc
   · rename_i he hd
     injection hc with hc
     subst hc;refine λρ _ _ _ _ hρ=>?_;simp only[execOp,hρ _ _ hx,Sem.run_bind];rcases hr.2 with ⟨rfl,_,h0⟩|⟨b,cs,rfl,hb,_,_,_,ht⟩
     · have:l=[]:=List.eq_nil_of_length_eq_zero h0
       subst this;rw[run_convert_bytes_nil w T e' hs he _ c T' hd];rfl
     · rw[run_convert_bytes_back w T T' e' ⟨b,0,none⟩ c l hs he hd (λj hj=>by
         rw[Ed,hb.cell,Nat.zero_add];have:(bC l)[j]?=some (.int .u8 (l[j].toNat:Int)):=by simp[bC,List.getElem?_eq_getElem hj]
         rw[← ht,List.getElem?_take,if_pos (by omega)] at this;exact this)]
       rfl
   · cases hc
 · cases hc
end
end Go.SW
namespace Go.SP
open Go.SW Go.RowKit
def FG:lU:=[48,49,50,51,52,53,54,55,56,57]
def EL:lU:=[65,66,67,68,69,70,71,72,73,74,75,76,77,78,79,80,81,82,83,84,85,86,87,88,89,90]
def DQ:lU:=[97,98,99,100,101,102,103,104,105,106,107,108,109,110,111,112,113,114,115,116,117,118,119,120,121,122]
def FU:lU:=[39,43,42,47,60,62,61,33,63,95,46,45]
def Hb(s l:lU):Bool:=Lib.trimS s l==[]
def Ef(s:lU):Bool:=!(s==[])&&Hb s FG
def Bc(s:lU):lU:=Lib.trimPrefix s [45]
def CB:Nat→lU→Nat
 |n,[]=>n
 |n,c::l=>CB (n*10+(c.toNat-48)) l
def NQ(s:lU):Bool:=s.head?==some 45
def HE(s:lU):Option Int :=
 if Ef (Bc s) then
   (if NQ s then (if CB 0 (Bc s)≤4611686018427387904 then some (-(CB 0 (Bc s):Int)) else none)
   else if CB 0 (Bc s)<4611686018427387904 then some (CB 0 (Bc s)) else none)
 else none
def Hh(s:lU):Option (lU×lU) :=
 let c:=Lib.cut (Bc s) [46]
 if c.2.2&&(Ef c.1&&(Ef c.2.1&&decide ((c.1.length:Int)+c.2.1.length≤15))) then some (c.1,c.2.1) else none
end Go.SP
namespace Go.SP
open Go.SW Go.RowKit
theorem tP{a b:Int}(ha:0≤a∧a<16)(hb:0≤b∧b<16):((UInt8.ofNat (a.toNat*16+b.toNat)).toNat:Int)=a*16+b:=by
 have:a.toNat*16+b.toNat<256:=oM;simp only[UInt8.toNat_ofNat'];rw[Nat.mod_eq_of_lt this];omega
variable {i:Nat}{p:Ps}{src:lU}
theorem XJ{a b:UInt8}(ha:src[i]?=some a)(hb:src[i+1]?=some b):src.drop i=a::b::src.drop (i+2):=by
 rw[AZ ha,AZ hb]
theorem Qz{c a b:UInt8}{r:lU}(h34:((c.toNat:Int)==34)=false)(h92:((c.toNat:Int)==92)=false)(h110:((c.toNat:Int)==110)=false)(h120:((c.toNat:Int)==120)=true)
   (h:Lib.indexByte EG a<0∨Lib.indexByte EG b<0):JS p (c::a::b::r)=.error p:=by
 simp only[JS,h34,h92,h110,h120,Bool.false_eq_true,if_false,if_true];rw[if_neg];simp only[Bool.and_eq_true,decide_eq_true_eq];omega
theorem Yb{c:UInt8}{r:lU}(h34:((c.toNat:Int)==34)=false)(h92:((c.toNat:Int)==92)=false)(h110:((c.toNat:Int)==110)=false)(h:r.length<2):JS p (c::r)=.error p:=by
 unfold JS;rcases r with _|⟨a,_|⟨b,r⟩⟩
 · simp[h34,h92,h110]
 · simp[h34,h92,h110]
 · simp at h;omega
end Go.SP
namespace Go.SP
open Go.SW Go.RowKit
def Ly(neg:Bool)(a b:lU):Nat :=
 let m:=CB 0 (a++b)
 let x:=FloatKind.f64.nearest m
 let x:=if neg then Op.negFloat .f64 x else x
 if m=0 then (if neg then 9223372036854775808 else 0) else (FloatKind.f64.format.div x (FR.getD b.length 0)).getD 0
def Ic(s:lU):Option Nat:=match Hh s with
 |none=>none
 |some (a,b)=>let f:=Ly (NQ s) a b
   some (if Op.floatEq .f64 f f then f else 9221120237041090560)
def Ot(x:Nat):Nat→lU
 |0=>[]
 |j+1=>UInt8.ofNat (x / 2 ^ (8*j))::Ot x j
def MQ(x:Nat):lU:=Ot x 8
def I1(w:lU):Option (Int×Int×lU) :=
 match HE w with
 |some n=>some (2,n,[])
 |none=>match Ic w with
   |some x=>some (3,0,MQ x)
   |none =>
     if decide ((40:Int)<w.length)||(!(Bc w==[])&&Hb (Bc w) FG) then none
     else if Hb (w.take 1) EL&&Hb w (EL++DQ++FG) then some (6,0,w)
     else if Hb (w.take 1) (DQ++FU)&&Hb w (EL++DQ++FG++FU) then some (5,0,w)
     else none
def Mh(p:Ps):lU→lU×Ps
 | []=>([],p)
 |c::r=>if (c.toNat:Int) != 10 then Mh (adv c p) r else (c::r,p)
def EY(p:Ps):lU→lU×lU×Ps
 | []=>([],[],p)
 |c::r=>if decide (Lib.indexByte U7 c<0) then (c::(EY (adv c p) r).1,(EY (adv c p) r).2) else ([],c::r,p)
def DC(F:Nat)(p:Ps):lU→Except Ps (List AK×lU×Ps)
 | []=>.error p
 |c::r =>
   if decide ((0:Int)≤Lib.indexByte Gm c) then .ok ([],r,adv c p)
   else if (c.toNat:Int)==59 then .ok ([],Mh (adv c p) r)
   else if (c.toNat:Int)==40 then .ok ([⟨0,p.1,p.2,0,[]⟩],r,adv c p)
   else if (c.toNat:Int)==41 then .ok ([⟨1,p.1,p.2,0,[]⟩],r,adv c p)
   else if (c.toNat:Int)==34 then (match G3 p F (adv c p) [] r with
     |.error e=>.error e
     |.ok (tx,r',p')=>.ok ([⟨4,p.1,p.2,0,tx⟩],r',p'))
   else (match I1 (c::(EY (adv c p) r).1) with
     |none=>.error p
     |some (k,nm,tx)=>.ok ([⟨k,p.1,p.2,nm,tx⟩],(EY (adv c p) r).2))
def Hz(F:Nat):Nat→Ps→lU→Except Ps (List AK)
 |_,_,[]=>.ok []
 |0,p,_::_=>.error p
 |n+1,p,c::r=>match DC F p (c::r) with
   |.error e=>.error e
   |.ok (t,r',p')=>match Hz F n p' r' with
     |.error e=>.error e
     |.ok l=>.ok (t++l)
def Lo(src:lU):Except (Int×Int×Int) (List AK) :=
 if decide ((65536:Int)<src.length) then .error (0,0,4)
 else match Hz (src.length+1) src.length (1,1) src with
   |.error e=>.error (e.1,e.2,10)
   |.ok l=>.ok l
variable {m:Nat}{a a':Option Addr}{w w1 w2:World}
theorem Ka.grow(h:Ka m w w1)(hG:EB a w1 a' w2)(hb:∀x,rb a=some x→w.heap.size≤x):Ka m w w2 :=
 ⟨hG.os.trans h.os,hG.tape.trans h.tape,hG.output.trans h.output,Nat.le_trans h.size hG.size,λk hk hne=>(hG.block k (Nat.lt_of_lt_of_le hk h.size) (λe=>by have:=hb k e.symm;omega)).trans (h.block k hk hne)⟩
end Go.SP
namespace Go.SW
open Go.SP Go.RowKit
variable {xs:List Value}{m n:Nat}{a:Option Addr}{e:TypeId}{w w':World}
theorem BP.exb{size:Nat}{c:Nat}(h:BP w e size a c n xs)(hE:Ka m w w')(hne:rb a≠some m):BP w' e size a c n xs :=
 ⟨h.1,h.2.imp id λ⟨b,l,h1,h2,h3⟩=>⟨b,l,h1,h2.exb hE (λe=>hne (by rw[h1,e];rfl)),h3⟩⟩
end Go.SW
namespace Go.SP
open Go.SW Go.RowKit
variable {a a':Option Addr}{w1 w2:World}
theorem BO{p:Nat→Prop}(hG:EB a w1 a' w2)(h:∀x,rb a=some x→p x)(hn:p w1.heap.size):∀x,rb a'=some x→p x:=λx hx=>by
 rcases hG.own with e|e
 · exact h x (e▸hx)
 · have:=Option.some.inj (e.symm.trans hx)
   exact this▸hn
theorem IM{src:lU}{i:Nat}(h:¬i<src.length):src.drop i=[]:=List.drop_eq_nil_of_le oM
theorem Ez(start p:Ps)(n:Nat)(acc r:lU)(c:UInt8):G3 start (n+1) p acc (c::r) =
   (if (c.toNat:Int)==34 then (if decide ((4096:Int)<acc.length) then .error start else .ok (acc,r,adv c p))
   else if decide ((c.toNat:Int)<32) then .error p
   else if (c.toNat:Int) != 92 then G3 start n (adv c p) (acc++[c]) r
   else match r with
     | []=>.error start
     |_=>match JS (adv c p) r with
       |.error e=>.error e
       |.ok (b,r',p')=>G3 start n p' (acc++[b]) r'):=rfl
section
variable{start p:Ps}{F i:Nat}{acc src:lU}{c:UInt8}
theorem Rf(hF:0<F)(h:¬i<src.length):G3 start F p acc (src.drop i)=.error start:=by
 rw[IM h]
 cases F with
 |zero=>omega
 |succ n=>rfl
theorem Y0(hc:src[i]?=some c)(h1:((c.toNat:Int)==34)=true)(h2:decide ((4096:Int)<acc.length)=true):G3 start (F+1) p acc (src.drop i)=.error start:=by rw[AZ hc];rw[Ez,if_pos h1,if_pos h2]
theorem Yj(hc:src[i]?=some c)(h1:((c.toNat:Int)==34)=true)(h2:decide ((4096:Int)<acc.length)=false):G3 start (F+1) p acc (src.drop i)=.ok (acc,src.drop (i+1),adv c p):=by rw[AZ hc];rw[Ez,if_pos h1,if_neg (by rw[h2];decide)]
theorem ZG(hc:src[i]?=some c)(h1:((c.toNat:Int)==34)=false)(h2:decide ((c.toNat:Int)<32)=true):G3 start (F+1) p acc (src.drop i)=.error p:=by rw[AZ hc];rw[Ez,if_neg (by rw[h1];decide),if_pos h2]
theorem V6(hc:src[i]?=some c)(h1:((c.toNat:Int)==34)=false)(h2:decide ((c.toNat:Int)<32)=false)(h3:((c.toNat:Int) != 92)=true) :
   G3 start (F+1) p acc (src.drop i)=G3 start F (adv c p) (acc++[c]) (src.drop (i+1)):=by rw[AZ hc];rw[Ez,if_neg (by rw[h1];decide),if_neg (by rw[h2];decide),if_pos h3]
theorem Wh(hc:src[i]?=some c)(h1:((c.toNat:Int)==34)=false)(h2:decide ((c.toNat:Int)<32)=false)(h3:((c.toNat:Int) != 92)=false)(h:¬i+1<src.length) :
   G3 start (F+1) p acc (src.drop i)=.error start:=by rw[AZ hc,IM h];rw[Ez,if_neg (by rw[h1];decide),if_neg (by rw[h2];decide),if_neg (by rw[h3];decide)]
theorem WD{e:Ps}(hc:src[i]?=some c)(h1:((c.toNat:Int)==34)=false)(h2:decide ((c.toNat:Int)<32)=false)(h3:((c.toNat:Int) != 92)=false)(h:i+1<src.length)
   (hx:JS (adv c p) (src.drop (i+1))=.error e):G3 start (F+1) p acc (src.drop i)=.error e:=by
 obtain⟨d,hd⟩:=J8 h;rw[AZ hc,Ez,if_neg (by rw[h1];decide),if_neg (by rw[h2];decide),if_neg (by rw[h3];decide)];rw[AZ hd] at hx ⊢;simp only[hx]
theorem W7{b:UInt8}{r':lU}{p':Ps}(hc:src[i]?=some c)(h1:((c.toNat:Int)==34)=false)(h2:decide ((c.toNat:Int)<32)=false)(h3:((c.toNat:Int) != 92)=false)(h:i+1<src.length)
   (hx:JS (adv c p) (src.drop (i+1))=.ok (b,r',p')):G3 start (F+1) p acc (src.drop i)=G3 start F p' (acc++[b]) r':=by
 obtain⟨d,hd⟩:=J8 h;rw[AZ hc,Ez,if_neg (by rw[h1];decide),if_neg (by rw[h2];decide),if_neg (by rw[h3];decide)];rw[AZ hd] at hx ⊢;simp only[hx]
end
end Go.SP
namespace Go.SW
open Go.RowKit
section
variable{P:Program}{n:Nat}{Q:AU}{σ:Bb}{ds:List Deferred}{w:World}{ops:Array Oper}{ty T T':TypeId}{pos:String}{af:Array Edge}{rest:List Oper}{d b off k:Nat}{x y:Operand}
variable {l:List Value}{e t t':TypeId}{w':World}
theorem Ma{k:IntKind}{a b:Int}(m:Int)(hx:ev σ x=some (.int k a))(hy:ev σ y=some (.int k b))(h:k.wrap (a+b)=m):AG P σ (.binOp .add t x y t') ty w (.int k m) w :=
 λρ _ _ _ _ hρ=>by simp[execOp,hρ _ _ hx,hρ _ _ hy,eqGuard,binOp,Op.intArith,h]
theorem Fx{k:IntKind}{a b:Int}(m:Int)(hx:ev σ x=some (.int k a))(hy:ev σ y=some (.int k b))(h:k.wrap (a-b)=m):AG P σ (.binOp .sub t x y t') ty w (.int k m) w :=
 λρ _ _ _ _ hρ=>by simp[execOp,hρ _ _ hx,hρ _ _ hy,eqGuard,binOp,Op.intArith,h]
theorem PW{k:IntKind}{a b:Int}(m:Int)(hx:ev σ x=some (.int k a))(hy:ev σ y=some (.int k b))(h:k.wrap (a*b)=m):AG P σ (.binOp .mul t x y t') ty w (.int k m) w :=
 λρ _ _ _ _ hρ=>by simp[execOp,hρ _ _ hx,hρ _ _ hy,eqGuard,binOp,Op.intArith,h]
theorem Jr{k k2:IntKind}{a b:Int}(m:Int)(hx:ev σ x=some (.int k a))(hy:ev σ y=some (.int k2 b))(h0:¬b<0)(h:k.wrap (a*2 ^ (min b.toNat k.bits))=m):AG P σ (.binOp .shl t x y t') ty w (.int k m) w :=
 λρ _ _ _ _ hρ=>by simp only[execOp,hρ _ _ hx,hρ _ _ hy,eqGuard,binOp,Op.shift,if_neg h0,h];rfl
theorem UI{k k2:IntKind}{a b:Int}(m:Int)(hx:ev σ x=some (.int k a))(hy:ev σ y=some (.int k2 b))(h0:¬b<0)(h:a.fdiv (2 ^ (min b.toNat k.bits))=m):AG P σ (.binOp .shr t x y t') ty w (.int k m) w :=
 λρ _ _ _ _ hρ=>by simp only[execOp,hρ _ _ hx,hρ _ _ hy,eqGuard,binOp,Op.shift,if_neg h0,h];rfl
theorem Kt{k:IntKind}{a:Int}(m:Int)(hx:ev σ x=some (.int k a))(h:k.wrap (0-a)=m):AG P σ (.unOp .neg t x) ty w (.int k m) w:=λρ _ _ _ _ hρ=>by
 have h':k.wrap (-a)=m:=by rw[← h];congr 1;omega
 simp[execOp,hρ _ _ hx,Op.unary,Op.intArith,h']
theorem Hv(ht:Zu P t=true)(hx:ev σ x=some .nilIface):AG P σ (.binOp .neq t x (.const .nilIface) t') ty w (.bool false) w:=by
 obtain⟨ms,hu⟩:=H3 ht;have e:(Op.equal t .nilIface .nilIface).run P w=.ok true w:=eY (Op.maxDepth-1) hu
 exact λρ _ _ _ _ hρ=>by
   have hy:ρ (.const .nilIface)=.nilIface:=hρ _ _ rfl;simp[execOp,hρ _ _ hx,hy,eqGuard,binOp,e]
theorem Kf{v:Value}(ht:Zu P t=true)(hx:ev σ x=some (.iface T v)):AG P σ (.binOp .neq t x (.const .nilIface) t') ty w (.bool true) w:=by
 obtain⟨ms,hu⟩:=H3 ht;have e:(Op.equal t (.iface T v) .nilIface).run P w=.ok false w:=eR (Op.maxDepth-1) hu
 exact λρ _ _ _ _ hρ=>by
   have hy:ρ (.const .nilIface)=.nilIface:=hρ _ _ rfl;simp[execOp,hρ _ _ hx,hy,eqGuard,binOp,e]
def cR(P:Program)(T:TypeId):Bool:=match P.info? T,P.underlying T with|some i,some (.int _)=>i.comparable|_,_=>false
theorem wP{ms}(dd:Nat){k:IntKind}{a b:Int}(hu:P.underlying t=some (.interface ms))(hc:cR P T=true):(Op.equalIn (dd+2) t (.iface T (.int k a)) (.iface T (.int k b))).run P w=.ok (a==b) w:=by
 unfold cR at hc
 split at hc
 · rename_i i k' hi hk
   have h2:(Op.equalIn (dd+1) T (.int k a) (.int k b)).run P w=.ok (a==b) w:=by simp[Op.equalIn,run_underlying hk]
   rw[Op.equalIn];simp[run_underlying hu,typeInfo,hi,hc,h2]
 · cases hc
theorem ZP{k:IntKind}{a b:Int}(ht:Zu P t=true)(hc:cR P T=true)(hx:ev σ x=some (.iface T (.int k a)))(hy:ev σ y=some (.iface T (.int k b))):AG P σ (.binOp .neq t x y t') ty w (.bool (!(a==b))) w:=by
 obtain⟨ms,hu⟩:=H3 ht;have e:(Op.equal t (.iface T (.int k a)) (.iface T (.int k b))).run P w=.ok (a==b) w:=wP (Op.maxDepth-2) hu hc;exact λρ _ _ _ _ hρ=>by simp[execOp,hρ _ _ hx,hρ _ _ hy,eqGuard,binOp,e]
structure nR(w:World)(b:Nat)(l:List Value):Prop where
 lt:b<w.heap.size
 at':∀j v,l[j]?=some v→w.cell? ⟨b,j,none⟩=some v
theorem nR.ext{w:World}{b:Nat}(h:nR w b l)(hE:AS w w'):nR w' b l :=
 ⟨Nat.lt_of_lt_of_le h.lt hE.size,λj v hv=>(hE.cell (p:=⟨b,j,none⟩) h.lt).trans (h.at' j v hv)⟩
theorem ZQ{v:Value}(hx:ev σ x=some (.pointer (some ⟨b,off,none⟩)))(hT:AN P T=some (false,k))(hb:nR w b l)(hv:l[off]?=some v):AG P σ (.load T x) ty w v w:=λρ _ _ _ _ hρ=>by
 have hc:=hb.at' off v hv;simp[execOp,hρ _ _ hx,Instr.loadAt,Instr.sureAddr,loadVar,Et hT,run_load,hc]
def jZ(P:Program)(s d:TypeId):Option TypeId:=match P.underlying s with
 |some .string=>match P.underlying d with|some (.slice e)=>(match P.underlying e with|some (.int .u8)=>some e|_=>none)|_=>none
 |_=>none
theorem dS{l:lU}(hd:Nat.blt d n=true)(hx:ev σ x=some (S l))(hc:jZ P T T'=some e)
   (h:∀b c w',nR w' b (bC l)→AS w w'→GO P n ops Q rest (AA σ d (.slice (some ⟨b,0,none⟩) l.length c)) ds w'):GO P n ops Q (⟨some d,.convert T T' x,ty,pos,af,none⟩::rest) σ ds w:=by
 unfold jZ at hc
 split at hc
 · rename_i hs
   split at hc
   · rename_i e' hd'
     split at hc
     · rename_i he
       injection hc with hc
       subst hc
       have hr:AG P σ (.convert T T' x) ty w (.slice (some ⟨w.heap.size,0,none⟩) l.length (grownCap w l.length 0 e')) (Lib.bytesWorld w e' ⟨l.toArray⟩):=λρ _ _ _ _ hρ=>by
         have:=Lib.run_convert_string_bytes (P:=P) w T T' e' ⟨l.toArray⟩ hs hd' he;have e2:(⟨l.toArray⟩:ByteArray).size=l.length:=by simp[ByteArray.size]
         rw[e2] at this;simp only[execOp,hρ _ _ hx,Sem.run_bind,this];rfl
       refine Ab hd hr (h _ _ _ ⟨by rw[Lib.bytesWorld_size];omega,λj v hv=>?_⟩ ⟨rfl,rfl,rfl,by rw[Lib.bytesWorld_size];omega,λj hj=>Lib.bytesWorld_at_old w e' _ j hj⟩)
       have hj:j<l.length:=by
         rcases Nat.lt_or_ge j l.length with h|h
         · exact h
         · rw[List.getElem?_eq_none (by simpa[bC] using h)] at hv;cases hv
       have:=Lib.bytesWorld_cell w e' ⟨l.toArray⟩ j (by simpa[ByteArray.size] using hj);rw[this,← hv];simp[bC,hj]
     · cases hc
   · cases hc
 · cases hc
end
theorem Hd{n:Int}(h:0≤n∧n≤18446744073709551615):IntKind.u64.wrap n=n:=IntWalk.u64_in _ h
theorem Ih{n:Int}(h : -9223372036854775808≤n∧n≤9223372036854775807):IntKind.i64.wrap n=n:=IntWalk.i64_in _ h
end Go.SW
namespace Go.SW
open Go.RowKit
variable {lo:Operand}
theorem Lx{P:Program}{σ:Bb}{w:World}{ty T:TypeId}{x:Operand}{c:UInt8}{s:lU}{k1:IntKind}(hx:ev σ x=some (S (c::s)))(hlo:ev σ lo=some (.int k1 1))(hs:P.underlying T=some .string) :
   AG P σ (.slice T x (some lo) none none) ty w (S s) w:=by
 have:=TB (ty:=ty) (w:=w) hx hlo hs ⟨oM,by simp only[List.length_cons];omega⟩;simpa using this
end Go.SW
namespace Go.SW
open Go.RowKit
section
variable{P:Program}{σ:Bb}{w:World}{ty T T':TypeId}{x y:Operand}
variable {vs:List Value}{t t':TypeId}
theorem XF{f:FuncId}{fn:Func}{e:Array Value→Sem Value}{g:Operand}{args:List Operand}{ts:Array TypeId}{v:Value}(hf:P.funcs[f]?=some fn)(hn:(fn.name == "runtime.NumGoroutine")=false) (hb:fn.body.isNone=true)
   (h1:Extern.findNext fn=none) (h2:Extern.find fn=some e) (hg:ev σ g=some (.func (.func f) #[] #[])) (ha:Ik σ args=some vs) (hv:(e vs.toArray).run P w=.ok v w) :
   AG P σ (.call {callee:=.value g,args:=args.toArray,argTypes:=ts}) ty w v w:=λρ _ _ _ _ hρ=>by
 have h:=Ej hρ ha;have hc:=run_callFunc_extern hf hn hb h1 h2 vs.toArray w;simp[execOp,resolve,hρ _ _ hg,Deferred.ofValue,invoke,h,hc,hv]
theorem lX{k:FloatKind}{a b:Nat}(hx:ev σ x=some (.float k a))(hy:ev σ y=some (.float k b)):AG P σ (.binOp .neq t x y t') ty w (.bool (!(Op.floatEq k a b))) w :=
 λρ _ _ _ _ hρ=>by simp[execOp,hρ _ _ hx,hρ _ _ hy,eqGuard,binOp,Op.floatCmp,Op.floatEq];rfl
theorem U1{k:FloatKind}{a b r:Nat}(hx:ev σ x=some (.float k a))(hy:ev σ y=some (.float k b))(h:k.format.div a b=some r):AG P σ (.binOp .quo t x y t') ty w (.float k r) w :=
 λρ _ _ _ _ hρ=>by simp[execOp,hρ _ _ hx,hρ _ _ hy,eqGuard,binOp,Op.floatArith,h]
theorem dU{k:FloatKind}{a:Nat}(hx:ev σ x=some (.float k a)):AG P σ (.unOp .neg t x) ty w (.float k (Op.negFloat k a)) w:=λρ _ _ _ _ hρ=>by
 simp[execOp,hρ _ _ hx,Op.unary]
def uH(P:Program)(s d:TypeId):Option FloatKind:=match P.underlying s,P.underlying d with|some _,some (.float k)=>some k|_,_=>none
theorem iN{k:FloatKind}{k0:IntKind}{n:Int}(hx:ev σ x=some (.int k0 n))(hc:uH P T T'=some k):AG P σ (.convert T T' x) ty w (.float k (k.nearest n)) w:=by
 unfold uH at hc
 cases hs:P.underlying T with
 |none=>rw[hs] at hc;cases hc
 |some s =>
   cases hd:P.underlying T' with
   |none=>rw[hs,hd] at hc;cases hc
   |some d =>
     rw[hs,hd] at hc
     cases d <;> simp at hc
     rename_i k';subst hc
     exact λρ _ _ _ _ hρ=>by
       simp[execOp,hρ _ _ hx,convert,run_underlying hs,run_underlying hd,Conv.intToFloat]
end
theorem Se(x k:Nat):(x:Int).fdiv (2 ^ k)=((x / 2 ^ k:Nat):Int):=by
 rw[Int.fdiv_eq_ediv_of_nonneg _ (Int.le_of_lt (Int.pow_pos (by decide)))];simp
theorem IF(n:Nat):IntKind.u8.wrap (n:Int)=((UInt8.ofNat n).toNat:Int):=by
 unfold IntKind.wrap;simp[IntKind.bits,IntKind.signed]
end Go.SW
namespace Go.SW
open Go.RowKit
section
variable{P:Program}{n:Nat}{Q:AU}{S:World→Prop}{σ:Bb}{ds:List Deferred}{w:World}{ops:Array Oper}{op:Op}{ty:TypeId}{pos:String}{af:Array Edge}{rest:List Oper}{r:List (Bool×Oper)}{d:Nat}
variable {want:Bool}{dj j:Nat}{dst:Option Tmp}
theorem VM{a:Act}(ha:St n σ ds a)(hj:(ops[j]?).bind (·.dst)=some dj)(hv:σ dj=some undef) :
   Region.wanted ⟨dst,op,ty,pos,af,some (j,want)⟩ (yielded ops a.tmps)=false:=by
 have h1:=ha.val dj _ hv
 cases hx:a.tmps[dj]? with
 |none=>simp[Region.wanted,yielded,hj,hx]
 |some u =>
   rw[Array.getD_eq_getD_getElem?,hx] at h1;simp at h1;subst h1;simp[Region.wanted,yielded,hj,hx,undef]
end
end Go.SW
namespace Go.SW
open Go.RowKit
section
variable{P:Program}{n:Nat}{Q:AU}{σ:Bb}{ds:List Deferred}{w:World}
def vN(Q:AU):AU:={q:=λe σ ds w=>match e with|.goto _=>False|e=>Q.q e σ ds w,p:=Q.p}
theorem V0{c:Code}(h:GY P n c (vN Q) σ ds w):GY P n (.scope c) Q σ ds w:=λa ha =>
 wp_scope_straight (wp_mono (h a ha) λe a' w' he=>by
   cases e with
   |goto l=>obtain⟨_,_,_,hf⟩:=he;exact hf.elim
   |normal=>exact he
   |panic c=>exact he
   |outgrown=>exact he
   |ret=>exact he
   |exit i=>exact he)
theorem fP(h:Q.q .ret σ ds w):(vN Q).q .ret σ ds w:=h
theorem WE{l:Nat}(h:Q.q .normal σ ds w):GY P n (.label l) Q σ ds w:=λ_ ha=>wp_label ⟨σ,ds,ha,h⟩
end
section
variable{P:Program}{σ:Bb}{w:World}{ty T T':TypeId}{x y:Operand}
variable {kk:IntKind}{t t':TypeId}
theorem hZ{a b:Bool}(ht:P.underlying t=some .bool)(hx:ev σ x=some (.bool a))(hy:ev σ y=some (.bool b)):AG P σ (.binOp .eql t x y t') ty w (.bool (a==b)) w:=by
 have e:(Op.equal t (.bool a) (.bool b)).run P w=.ok (a==b) w:=by
   show (Op.equalIn (Op.maxDepth-1+1) t _ _).run P w=_;simp[Op.equalIn,run_underlying ht]
 exact λρ _ _ _ _ hρ=>by simp[execOp,hρ _ _ hx,hρ _ _ hy,eqGuard,binOp,e]
theorem Pr{b:Bool}(ht:P.underlying t=some .bool)(hx:ev σ x=some (.bool true))(hy:ev σ y=some (.bool b)):AG P σ (.binOp .eql t x y t') ty w (.bool b) w:=by
 have:=hZ (ty:=ty) (w:=w) (t':=t') ht hx hy;rwa[show (true==b)=b by cases b <;> rfl] at this
theorem Z3{k:IntKind}{a b:Int}(m:Int)(hx:ev σ x=some (.int k a))(hy:ev σ y=some (.int k b))(h:k.wrap (BitVec.ofInt k.bits a ||| BitVec.ofInt k.bits b).toNat=m):AG P σ (.binOp .or t x y t') ty w (.int k m) w :=
 λρ _ _ _ _ hρ=>by
   simp only[execOp,hρ _ _ hx,hρ _ _ hy,eqGuard,binOp,Op.intBits,h,ne_eq,not_true_eq_false,if_false];rfl
theorem cB{a b:Int}{ts:Array TypeId}(hx:ev σ x=some (.int kk a))(hy:ev σ y=some (.int kk b)):AG P σ (.call {callee:=.builtin .min,args:=#[x,y],argTypes:=ts}) ty w (.int kk (if b<a then b else a)) w:=λρ _ _ _ _ hρ=>by
 simp[execOp,resolve,invoke,builtin,hρ _ _ hx,hρ _ _ hy,Builtin.min_,Builtin.min2]
end
end Go.SW
namespace Go.SW
open Go.RowKit
variable {r1 r2 r3 r4:ResultVar}{v1 v2 v3 v4:Value}
theorem fZ{P:Program}{σ:Bb}{w:World}{fn:Func}{r5 r6 r7:ResultVar}{v5 v6 v7:Value}(h:fn.results=#[r1,r2,r3,r4,r5,r6,r7])(h1:Rv P σ w r1 v1)(h2:Rv P σ w r2 v2)(h3:Rv P σ w r3 v3)(h4:Rv P σ w r4 v4)(h5:Rv P σ w r5 v5)(h6:Rv P σ w r6 v6)(h7:Rv P σ w r7 v7) :
   SA P fn σ w (.tuple #[v1,v2,v3,v4,v5,v6,v7]):=λtmps ht=>by
 have g1:=h1 tmps ht;have g2:=h2 tmps ht;have g3:=h3 tmps ht;have g4:=h4 tmps ht;have g5:=h5 tmps ht;have g6:=h6 tmps ht;have g7:=h7 tmps ht;rw[GK,h,List.mapM_toArray];simp[g1,g2,g3,g4,g5,g6,g7]
end Go.SW
namespace Go.SW
open Go.RowKit
theorem Hu{P:Program}{σ:Bb}{w:World}{ty T:TypeId}{x:Operand}{b off k:Nat}{v:Value}(hx:ev σ x=some (.pointer (some ⟨b,off,none⟩)))(hT:AN P T=some (false,k))(hc:w.cell? ⟨b,off,none⟩=some v):AG P σ (.load T x) ty w v w:=λρ _ _ _ _ hρ=>by
 simp[execOp,hρ _ _ hx,Instr.loadAt,Instr.sureAddr,loadVar,Et hT,run_load,hc]
end Go.SW
namespace Go.SW
open Go.RowKit
section
variable{P:Program}{n:Nat}{Q:AU}{σ:Bb}{ds:List Deferred}{w:World}{ty T T':TypeId}{x y:Operand}
variable {t t':TypeId}
theorem aJ{a b:Int}(m:Int)(hx:ev σ x=some (.int .u64 a))(hy:ev σ y=some (.int .u64 b))(hb:b≠0)(h:a.tmod b=m):AG P σ (.binOp .rem t x y t') ty w (.int .u64 m) w :=
 λρ _ _ _ _ hρ=>by simp[execOp,hρ _ _ hx,hρ _ _ hy,eqGuard,binOp,Op.intDiv,hb,h]
end
end Go.SW
namespace Go.SP
open Go.SW
variable {co ln nm:Int}{U:Nat→Prop}{a:Option Addr}
theorem GU.head{w:World}{n c:Nat}{op:Int}{tx:lU}{kids rest:Nd}(h:GU U w a n c (.cons op ln co tx nm kids rest)):∃b off l T ka kn kc l',U b∧a=some ⟨b,off,none⟩∧AI w b l T ∧
   l.drop off=.int .i64 op::.int .i64 ln::.int .i64 co::S tx::.int .i64 nm::.slice ka kn kc::l'∧GU U w ka kn kc kids∧Fy U w rest l'∧n=rest.len+1:=by
 obtain⟨h1,h2,h3|⟨b,off,l,T,hu,ha,hb,ka,kn,kc,l',h4,h5,h6⟩⟩:=h
 · rw[h3] at h1;cases h1
 · exact⟨b,off,l,T,ka,kn,kc,l',hu,ha,hb,h4,h5,h6,h1⟩
end Go.SP
namespace Go.SW
open Go.RowKit
def Y4(P:Program)(t:TypeId):Bool:=match P.underlying t with
 |some (.struct fs)=>(match fs.toList with
   | [f,g]=>(f.name != "_" && g.name != "_")&&(f.offset==0&&g.offset==1)&&(match P.underlying f.type,P.underlying g.type with|some (.int .i64),some (.int .i64)=>true|_,_=>false)
   |_=>false)&&(!P.stoodInHeld t&&!P.eqGuardType P.depth t)
 |_=>false
variable {e t t':TypeId}
theorem Gk{P:Program}{w:World}{k:IntKind}{cs:Array Value}{off:Nat}{v:Value}(he:P.underlying e=some (.int k))(hv:cs[off]?=some v):(part e cs off).run P w=.ok v w:=by
 simp[part,isAgg,run_underlying he,hv]
theorem Wz{P:Program}{w:World}{a1 a2 b1 b2:Int}(h:Y4 P t=true)(d:Nat) :
   (Op.equalIn (d+2) t (.agg #[.int .i64 a1,.int .i64 a2]) (.agg #[.int .i64 b1,.int .i64 b2])).run P w=.ok (a1==b1&&a2==b2) w:=by
 unfold Y4 at h
 split at h
 · rename_i fs hu
   rw[Bool.and_eq_true] at h;obtain⟨h1,h2⟩:=h
   split at h1
   · rename_i f g hfs
     simp only[Bool.and_eq_true] at h1 h2;obtain⟨⟨⟨hn1,hn2⟩,ho1,ho2⟩,h3⟩:=h1
     split at h3
     · rename_i hf hg
       have e1:f.offset=0:=by simpa using ho1
       have e2:g.offset=1:=by simpa using ho2
       have n1:f.name ≠ "_" := by simpa using hn1
       have n2:g.name ≠ "_" := by simpa using hn2
       have hst:P.stoodInHeld t=false:=by simpa using h2.1
       have q1:(Op.equalIn (d+1) f.type (.int .i64 a1) (.int .i64 b1)).run P w=.ok (a1==b1) w:=by simp[Op.equalIn,run_underlying hf]
       have q2:(Op.equalIn (d+1) g.type (.int .i64 a2) (.int .i64 b2)).run P w=.ok (a2==b2) w:=by simp[Op.equalIn,run_underlying hg]
       have p1:(part f.type #[Value.int .i64 a1,.int .i64 a2] 0).run P w=.ok (.int .i64 a1) w:=Gk hf rfl;have p2:(part f.type #[Value.int .i64 b1,.int .i64 b2] 0).run P w=.ok (.int .i64 b1) w:=Gk hf rfl;have p3:(part g.type #[Value.int .i64 a1,.int .i64 a2] 1).run P w=.ok (.int .i64 a2) w:=Gk hg rfl;have p4:(part g.type #[Value.int .i64 b1,.int .i64 b2] 1).run P w=.ok (.int .i64 b2) w:=Gk hg rfl;obtain⟨fl⟩:=fs;simp only at hfs;subst hfs;rw[Op.equalIn];simp only[Sem.run_bind,run_underlying hu,Result.andThen_ok,run_program,hst,Bool.false_eq_true,if_false]
       cases h1:a1==b1 <;> cases h2:a2==b2 <;> simp[n1,n2,e1,e2,p1,p2,p3,p4,q1,q2,h1,h2]
     · cases h3
   · cases h1
 · cases h
theorem Y9{P:Program}{σ:Bb}{w:World}{ty:TypeId}{x y:Operand}{a1 a2 b1 b2:Int}(h:Y4 P t=true)(hx:ev σ x=some (.agg #[.int .i64 a1,.int .i64 a2]))(hy:ev σ y=some (.agg #[.int .i64 b1,.int .i64 b2])) :
   AG P σ (.binOp .eql t x y t') ty w (.bool (a1==b1&&a2==b2)) w:=λρ _ _ _ _ hρ=>by
 have hg:P.eqGuardType P.depth t=false:=by
   unfold Y4 at h
   split at h
   · simp only[Bool.and_eq_true] at h;simpa using h.2.2
   · cases h
 have e:=Wz (w:=w) (a1:=a1) (a2:=a2) (b1:=b1) (b2:=b2) h 9998;simp[execOp,hρ _ _ hx,hρ _ _ hy,run_eqGuard_agg w _ _ _ _ _ _ hg,run_eql_struct,e]
abbrev Fq:=Nat→Nat
structure HB where
 b:Nat
 l:List Value
 T:TypeId
 nw:Bool
structure RB where
 e:TypeId
 size:Nat
 a:Option Addr
 c:Nat
 n:Nat
 xs:List Value
structure FB where
 b:Nat
 off:Nat
 l:List Value
structure LH(M:Nat→Prop)(w w':World):Prop where
 os:w'.os=w.os
 tape:w'.tape=w.tape
 output:w'.output=w.output
 size:w.heap.size≤w'.heap.size
 block:∀k,k<w.heap.size→¬M k→w'.heap[k]?=w.heap[k]?
theorem LH.refl(M:Nat→Prop)(w:World):LH M w w:=⟨rfl,rfl,rfl,Nat.le_refl _,λ_ _ _=>rfl⟩
variable {nw:Bool}{f':Fq}{H':List HB}{l l':List Value}{b i off:Nat}{M M':Nat→Prop}{T:TypeId}{w' w1 w2:World}
theorem LH.trans{w:World}(h:LH M w w1)(k:LH M w1 w2):LH M w w2 :=
 ⟨k.os.trans h.os,k.tape.trans h.tape,k.output.trans h.output,Nat.le_trans h.size k.size,λi hi hm=>(k.block i (Nat.lt_of_lt_of_le hi h.size) hm).trans (h.block i hi hm)⟩
theorem LH.mono{w:World}(h:LH M w w1)(hm:∀b,M b→M' b):LH M' w w1:=⟨h.os,h.tape,h.output,h.size,λi hi hn=>h.block i hi λhh=>hn (hm i hh)⟩
theorem LH.of_ext{w:World}(h:AS w w'):LH M w w':=⟨h.os,h.tape,h.output,h.size,λk hk _=>h.block k hk⟩
theorem LH.ext{w:World}(h:LH (λ_=>False) w w'):AS w w':=⟨h.os,h.tape,h.output,h.size,λk hk=>h.block k hk (λh=>h)⟩
theorem Di{w:World}(h:w'.heap[b]?=w.heap[b]?)(o:Nat):w'.cell? ⟨b,o,none⟩=w.cell? ⟨b,o,none⟩:=by simp[World.cell?,h]
def Hp(w:World)(f:Fq)(w':World)(f':Fq):Prop:=∀b,f b≤f' b∧∀o,o<f b→w'.cell? ⟨b,o,none⟩=w.cell? ⟨b,o,none⟩
theorem Hp.refl(w:World)(f:Fq):Hp w f w f:=λ_=>⟨Nat.le_refl _,λ_ _=>rfl⟩
theorem Hp.trans{w:World}{f f1 f2:Fq}(h:Hp w f w1 f1)(k:Hp w1 f1 w2 f2):Hp w f w2 f2:=λb =>
 ⟨Nat.le_trans (h b).1 (k b).1,λo ho=>((k b).2 o (Nat.lt_of_lt_of_le ho (h b).1)).trans ((h b).2 o ho)⟩
def Cs(w:World)(f:Fq)(b off:Nat)(l:List Value):Prop:=∀j v,l[j]?=some v→off+j<f b∧w.cell? ⟨b,off+j,none⟩=some v
abbrev Fc(φ:World→Fq→Prop):Prop:=∀w f w' f',φ w f→Hp w f w' f'→φ w' f'
theorem Cs.mono{w:World}{f:Fq}(h:Cs w f b off l)(hF:Hp w f w' f'):Cs w' f' b off l:=λj v hj=>by
 obtain⟨h1,h2⟩:=h j v hj;exact⟨Nat.lt_of_lt_of_le h1 (hF b).1,((hF b).2 _ h1).trans h2⟩
abbrev EV(MI:Nat→Prop)(I:World→Fq→Prop):Prop:=∀w f w' f',I w f→Hp w f w' f'→(∀b,MI b→w'.heap[b]?=w.heap[b]?)→I w' f'
structure Cx where
 M:Nat→Prop
 MI:Nat→Prop
 I:World→Fq→Prop
 w0:World
 f0:Fq
def C6(H:List HB)(R:List RB):List Nat:=H.map (·.b)++R.filterMap λr=>rb r.a
structure AO(X:Cx)(w:World)(f:Fq)(H:List HB)(R:List RB)(B:List FB)(Fs:List (World→Fq→Prop)):Prop where
 stp:LH X.M X.w0 w
 old:∀b,b<X.w0.heap.size→f b=X.f0 b
 val:∀b,w.heap.size≤b→f b=0
 ent:Hp X.w0 X.f0 w f
 res:X.I w f
 stab:EV X.MI X.I
 mi:∀b,X.MI b→b<w.heap.size∧f b=0∧(X.w0.heap.size≤b∨X.M b)
 blk:∀e,e∈H→AI w e.b e.l e.T
 row:∀r,r∈R→BP w r.e r.size r.a r.c r.n r.xs
 nd:(C6 H R).Nodup
 own:∀b,b∈C6 H R→f b=0∧(X.w0.heap.size≤b∨X.M b)∧¬X.MI b
 hnw:∀e,e∈H→e.nw=true→X.w0.heap.size≤e.b
 rnw:∀r,r∈R→∀b,rb r.a=some b→X.w0.heap.size≤b
 fro:∀e,e∈B→Cs w f e.b e.off e.l
 fac:∀φ,φ∈Fs→φ w f
 mono:∀φ,φ∈Fs→Fc φ
section
variable{X:Cx}{w:World}{f:Fq}{H:List HB}{R:List RB}{B:List FB}{Fs:List (World→Fq→Prop)}
theorem AO.lt(h:AO X w f H R B Fs)(hb:b∈C6 H R):b<w.heap.size:=by
 rcases List.mem_append.1 hb with hb|hb
 · obtain⟨e,he,rfl⟩:=List.mem_map.1 hb
   exact (h.blk e he).lt
 · obtain⟨r,hr,hb⟩:=List.mem_filterMap.1 hb
   exact (h.row r hr).lt hb
theorem AO.step(h:AO X w f H R B Fs)(hs:LH X.M w w')(hF:Hp w f w' f')(hold:∀b,b<w.heap.size→f' b=f b)(hval:∀b,w'.heap.size≤b→f' b=0)
   (hown:∀b,b∈C6 H R→w'.heap[b]?=w.heap[b]?) (hmi:∀b,X.MI b→w'.heap[b]?=w.heap[b]?):AO X w' f' H R B Fs where
 stp:=h.stp.trans hs
 old b hb:=(hold b (Nat.lt_of_lt_of_le hb h.stp.size)).trans (h.old b hb)
 val:=hval
 ent:=h.ent.trans hF
 res:=h.stab _ _ _ _ h.res hF hmi
 stab:=h.stab
 mi b hb:=⟨Nat.lt_of_lt_of_le (h.mi b hb).1 hs.size,(hold b (h.mi b hb).1).trans (h.mi b hb).2.1,(h.mi b hb).2.2⟩
 blk e he:=(hown e.b (List.mem_append.2 (.inl (List.mem_map.2 ⟨e,he,rfl⟩)))).trans (h.blk e he)
 row r hr:=by
   refine⟨(h.row r hr).1,(h.row r hr).2.imp id ?_⟩;rintro⟨b,l,h1,h2,h3⟩;exact⟨b,l,h1,(hown b (List.mem_append.2 (.inr (List.mem_filterMap.2 ⟨r,hr,by rw[h1];rfl⟩)))).trans h2,h3⟩
 nd:=h.nd
 own b hb:=⟨(hold b (h.lt hb)).trans (h.own b hb).1,(h.own b hb).2⟩
 hnw:=h.hnw
 rnw:=h.rnw
 fro e he:=(h.fro e he).mono hF
 fac φ hφ:=h.mono φ hφ _ _ _ _ (h.fac φ hφ) hF
 mono:=h.mono
theorem IB(w:World)(o:Obj)(k:Nat)(h:k<w.heap.size):(w.alloc o).heap[k]?=w.heap[k]?:=(Jh w o).block k h
theorem WH(h:∀b,w.heap.size≤b→f b=0)(o:Obj):Hp w f (w.alloc o) f:=λb=>⟨Nat.le_refl _,λk hk=>by
 have hb:b<w.heap.size:=by
   rcases Nat.lt_or_ge b w.heap.size with hh|hh
   · exact hh
   · have:=h b hh;omega
 exact Di (IB w o b hb) k⟩
theorem AO.alloc(h:AO X w f H R B Fs):AO X (w.alloc (.cells l.toArray T)) f (⟨w.heap.size,l,T,true⟩::H) R B Fs:=by
 have h1:AO X (w.alloc (.cells l.toArray T)) f H R B Fs:=h.step (LH.of_ext (Jh w _)) (WH h.val _) (λ_ _=>rfl) (λb hb=>h.val b (by rw[G9] at hb;omega))
   (λb hb=>IB w _ b (h.lt hb)) (λb hb=>IB w _ b (h.mi b hb).1)
 refine {h1 with blk:=?_,nd:=?_,own:=?_,hnw:=?_}
 · intro e he
   rcases List.mem_cons.1 he with rfl|he
   · exact LR w l T
   · exact h1.blk e he
 · show (w.heap.size::C6 H R).Nodup
   exact List.nodup_cons.2 ⟨λhh=>Nat.lt_irrefl _ (h.lt hh),h.nd⟩
 · intro b hb
   have hb':b∈w.heap.size::C6 H R:=hb;rcases List.mem_cons.1 hb' with rfl|hb'
   · exact⟨h.val _ (Nat.le_refl _),.inl h.stp.size,λhm=>Nat.lt_irrefl _ (h.mi _ hm).1⟩
   · exact h1.own b hb'
 · intro e he hn
   rcases List.mem_cons.1 he with rfl|he
   · exact h.stp.size
   · exact h.hnw e he hn
def PA:List HB→Nat→HB→Option (List HB)
 | [],_,_=>none
 |_::H,0,e=>some (e::H)
 |x::H,i+1,e=>match PA H i e with
   |some r=>some (x::r)
   |none=>none
def Hg:List HB→Nat→Option HB
 | [],_=>none
 |x::_,0=>some x
 |_::H,i+1=>Hg H i
theorem Ze:∀{H H':List HB}{i:Nat}{e e':HB},Hg H i=some e→PA H i e'=some H'→e'.b=e.b→H'.map (·.b)=H.map (·.b)∧(∀x,x∈H'→x=e'∨x∈H)∧e∈H
 | [],_,_,_,_,h,_,_=>by cases h
 |x::H,H',0,e,e',hg,hs,hb=>by
   cases hg;cases hs
   exact⟨by simp[hb],λx hx=>by rcases List.mem_cons.1 hx with h|h;exact .inl h;exact .inr (.tail _ h),.head _⟩
 |x::H,H',i+1,e,e',hg,hs,hb=>by
   unfold PA at hs
   cases hr:PA H i e' with
   |none=>rw[hr] at hs;cases hs
   |some r =>
     rw[hr] at hs;cases hs;obtain⟨h1,h2,h3⟩:=Ze (H:=H) hg hr hb
     exact⟨by simp[h1],λy hy=>by
       rcases List.mem_cons.1 hy with rfl|hy
       · exact .inr (.head _)
       · rcases h2 y hy with h|h
         · exact .inl h
         · exact .inr (.tail _ h),.tail _ h3⟩
theorem Qe:∀{H H':List HB}{i:Nat}{e e':HB},Hg H i=some e→PA H i e'=some H'→(H.map (·.b)).Nodup→∀x,x∈H'→x=e'∨(x∈H∧x.b≠e.b)
 | [],_,_,_,_,h,_,_=>by cases h
 |x::H,H',0,e,e',hg,hs,hn=>by
   cases hg;cases hs
   intro y hy;rcases List.mem_cons.1 hy with h|h
   · exact .inl h
   · refine .inr ⟨.tail _ h,λe=>?_⟩
     have:=(List.nodup_cons.1 hn).1;exact this (List.mem_map.2 ⟨y,h,e⟩)
 |x::H,H',i+1,e,e',hg,hs,hn=>by
   unfold PA at hs
   cases hr:PA H i e' with
   |none=>rw[hr] at hs;cases hs
   |some r =>
     rw[hr] at hs;cases hs;have hn':=List.nodup_cons.1 hn;have ih:=Qe (H:=H) hg hr hn'.2;intro y hy;rcases List.mem_cons.1 hy with rfl|hy
     · refine .inr ⟨.head _,λh=>hn'.1 ?_⟩
       have he:e∈H:=by
         have:∀(H:List HB)(i:Nat)(e:HB),Hg H i=some e→e∈H:=by
           intro H
           induction H with
           |nil=>intro i e h;cases h
           |cons a H ih=>intro i e h;cases i with|zero=>cases h;exact .head _|succ i=>exact .tail _ (ih i e h)
         exact this H i e hg
       exact List.mem_map.2 ⟨e,he,h.symm⟩
     · rcases ih y hy with h|h
       · exact .inl h
       · exact .inr ⟨.tail _ h.1,h.2⟩
theorem BG:∀{H:List HB}{i:Nat}{e:HB},Hg H i=some e→e∈H
 | [],_,_,h=>by cases h
 |_::_,0,_,h=>by cases h;exact .head _
 |_::H,i+1,e,h=>.tail _ (BG (H:=H) h)
theorem AO.chg(h:AO X w f H R B Fs)(hg:Hg H i=some ⟨b,l,T,nw⟩)(hs:PA H i ⟨b,l',T,nw⟩=some H')(hb:AI w' b l' T)(hC:FZ b w w'):AO X w' f H' R B Fs:=by
 have hmem:b∈C6 H R:=List.mem_append.2 (.inl (List.mem_map.2 ⟨_,BG hg,rfl⟩));obtain⟨h1,h2,h3⟩:=h.own b hmem
 have hF:Hp w f w' f:=λk=>⟨Nat.le_refl _,λo ho=>by
   have:k≠b:=λe=>by rw[e,h1] at ho;omega
   exact Di (hC.block k this) o⟩
 obtain⟨e1,_,_⟩:=Ze hg hs rfl;have hnH:(H.map (·.b)).Nodup:=(List.nodup_append.1 h.nd).1
 have hnR:∀r,r∈R→rb r.a≠some b:=λr hr e=>by
   have:=(List.nodup_append.1 h.nd).2.2 b (List.mem_map.2 ⟨_,BG hg,rfl⟩) b (List.mem_filterMap.2 ⟨r,hr,e⟩);exact this rfl
 have hmi:∀k,X.MI k→w'.heap[k]?=w.heap[k]?:=λk hk=>hC.block k (λe=>h3 (e▸hk))
 exact {stp:=⟨hC.os.trans h.stp.os,hC.tape.trans h.stp.tape,hC.output.trans h.stp.output,by rw[hC.size];exact h.stp.size,λk hk hm=>(hC.block k (λe=>by
           subst e;rcases h2 with h2|h2
           · omega
           · exact hm h2)).trans (h.stp.block k hk hm)⟩,
         old:=h.old,val:=λk hk=>h.val k (by rw[hC.size] at hk;exact hk),ent:=h.ent.trans hF,res:=h.stab _ _ _ _ h.res hF hmi,stab:=h.stab,
         mi:=λk hk=>by rw[hC.size];exact h.mi k hk,
         blk:=λx hx=>by
           rcases Qe hg hs hnH x hx with rfl|⟨hx,hne⟩
           · exact hb
           · exact (h.blk x hx).chg hC hne,
         row:=λr hr=>(h.row r hr).chg hC (hnR r hr),
         nd:=by unfold C6;rw[e1];exact h.nd,
         own:=λk hk=>h.own k (by unfold C6 at hk ⊢;rwa[e1] at hk),
         hnw:=λx hx hn=>by
           rcases Qe hg hs hnH x hx with rfl|⟨hx,_⟩
           · exact h.hnw ⟨b,l,T,nw⟩ (BG hg) hn
           · exact h.hnw x hx hn,
         rnw:=h.rnw,
         fro:=λx hx=>(h.fro x hx).mono hF,fac:=λφ hφ=>h.mono φ hφ _ _ _ _ (h.fac φ hφ) hF,mono:=h.mono}
end
structure VV where
 fl:List (Nat×Nat×Nat)
 sl:List (Nat×Nat×Nat)
 st:List Nat
 bo:List Nat
 ti:List (Nat×Bool×Nat)
 zr:List (Nat×List Value)
 pl:List (Nat×List (Nat×Nat))
 pt:List (Nat×Nat)
def gG(P:Program):List (Nat×Nat×Nat)→Prop
 | []=>True
 |(T,i,o)::l=>EI P T i=some o∧gG P l
def allS(P:Program):List (Nat×Nat×Nat)→Prop
 | []=>True
 |(T,e,k)::l=>Ip P T=some (e,k)∧allS P l
def aS(P:Program)(d:TypeDesc):List Nat→Prop
 | []=>True
 |T::l=>P.underlying T=some d∧aS P d l
def nL(P:Program):List (Nat×Bool×Nat)→Prop
 | []=>True
 |(T,a,k)::l=>AN P T=some (a,k)∧nL P l
def nD(P:Program):List (Nat×List Value)→Prop
 | []=>True
 |(T,z)::l=>GQ P T=some z∧nD P l
def lS(P:Program):List (Nat×List (Nat×Nat))→Prop
 | []=>True
 |(T,z)::l=>L9 P T=some z∧lS P l
def jJ(P:Program):List (Nat×Nat)→Prop
 | []=>True
 |(T,e)::l=>P.underlying T=some (.pointer e)∧jJ P l
structure VV.Ok(P:Program)(t:VV):Prop where
 fl:gG P t.fl
 sl:allS P t.sl
 st:aS P .string t.st
 bo:aS P .bool t.bo
 ti:nL P t.ti
 zr:nD P t.zr
 pl:lS P t.pl
 pt:jJ P t.pt
def tB:List (Nat×Nat×Nat)→Nat→Nat→Option Nat
 | [],_,_=>none
 |(T,i,o)::l,T',i'=>bif Nat.beq T T'&&Nat.beq i i' then some o else tB l T' i'
def UN:List (Nat×Nat×Nat)→Nat→Option (Nat×Nat)
 | [],_=>none
 |(T,e,k)::l,T'=>bif Nat.beq T T' then some (e,k) else UN l T'
def nZ:List Nat→Nat→Bool
 | [],_=>false
 |T::l,T'=>bif Nat.beq T T' then true else nZ l T'
def jK:List (Nat×Bool×Nat)→Nat→Option (Bool×Nat)
 | [],_=>none
 |(T,a,k)::l,T'=>bif Nat.beq T T' then some (a,k) else jK l T'
def WS{α:Type}:List (Nat×α)→Nat→Option α
 | [],_=>none
 |(T,z)::l,T'=>bif Nat.beq T T' then some z else WS l T'
theorem Zh{P:Program}:∀{l:List (Nat×Nat×Nat)}{T i o:Nat},gG P l→tB l T i=some o→EI P T i=some o
 | [],_,_,_,_,h=>by cases h
 |(T,i,o)::l,T',i',o',ha,h=>by
   unfold tB at h
   cases hb:(Nat.beq T T'&&Nat.beq i i') with
   |true =>
     rw[hb] at h;simp only[Bool.and_eq_true] at hb;have e1:=Nat.eq_of_beq_eq_true hb.1;have e2:=Nat.eq_of_beq_eq_true hb.2;subst e1 e2
     cases h
     exact ha.1
   |false=>rw[hb] at h;exact Zh ha.2 h
theorem JP{P:Program}:∀{l:List (Nat×Nat×Nat)}{T e k:Nat},allS P l→UN l T=some (e,k)→Ip P T=some (e,k)
 | [],_,_,_,_,h=>by cases h
 |(T,e,k)::l,T',e',k',ha,h=>by
   unfold UN at h
   cases hb:Nat.beq T T' with
   |true=>rw[hb] at h;have e1:=Nat.eq_of_beq_eq_true hb;subst e1;cases h;exact ha.1
   |false=>rw[hb] at h;exact JP ha.2 h
theorem P5{P:Program}{d:TypeDesc}:∀{l:List Nat}{T:Nat},aS P d l→nZ l T=true→P.underlying T=some d
 | [],_,_,h=>by cases h
 |T::l,T',ha,h=>by
   unfold nZ at h
   cases hb:Nat.beq T T' with
   |true=>have e1:=Nat.eq_of_beq_eq_true hb;subst e1;exact ha.1
   |false=>rw[hb] at h;exact P5 ha.2 h
theorem FM{P:Program}:∀{l:List (Nat×Bool×Nat)}{T k:Nat}{a:Bool},nL P l→jK l T=some (a,k)→AN P T=some (a,k)
 | [],_,_,_,_,h=>by cases h
 |(T,a,k)::l,T',k',a',ha,h=>by
   unfold jK at h
   cases hb:Nat.beq T T' with
   |true=>rw[hb] at h;have e1:=Nat.eq_of_beq_eq_true hb;subst e1;cases h;exact ha.1
   |false=>rw[hb] at h;exact FM ha.2 h
theorem Pw{P:Program}:∀{l:List (Nat×List Value)}{T:Nat}{z:List Value},nD P l→WS l T=some z→GQ P T=some z
 | [],_,_,_,h=>by cases h
 |(T,z)::l,T',z',ha,h=>by
   unfold WS at h
   cases hb:Nat.beq T T' with
   |true=>rw[hb] at h;have e1:=Nat.eq_of_beq_eq_true hb;subst e1;cases h;exact ha.1
   |false=>rw[hb] at h;exact Pw ha.2 h
theorem XR{P:Program}:∀{l:List (Nat×List (Nat×Nat))}{T:Nat}{z:List (Nat×Nat)},lS P l→WS l T=some z→L9 P T=some z
 | [],_,_,_,h=>by cases h
 |(T,z)::l,T',z',ha,h=>by
   unfold WS at h
   cases hb:Nat.beq T T' with
   |true=>rw[hb] at h;have e1:=Nat.eq_of_beq_eq_true hb;subst e1;cases h;exact ha.1
   |false=>rw[hb] at h;exact XR ha.2 h
theorem YQ{P:Program}:∀{l:List (Nat×Nat)}{T e:Nat},jJ P l→WS l T=some e→P.underlying T=some (.pointer e)
 | [],_,_,_,h=>by cases h
 |(T,e)::l,T',e',ha,h=>by
   unfold WS at h
   cases hb:Nat.beq T T' with
   |true=>rw[hb] at h;have e1:=Nat.eq_of_beq_eq_true hb;subst e1;cases h;exact ha.1
   |false=>rw[hb] at h;exact YQ ha.2 h
def kD:BinOp→Option Addr→Option Value
 |.eql,some _=>some (.bool false)
 |.eql,none=>some (.bool true)
 |.neq,some _=>some (.bool true)
 |.neq,none=>some (.bool false)
 |_,_=>none
def lG:BinOp→Value→Value→Option Value
 |.eql,.int k a,.int k' b=>bif k==k' then some (.bool (a==b)) else none
 |.neq,.int k a,.int k' b=>bif k==k' then some (.bool (a != b)) else none
 |.lss,.int k a,.int k' b=>bif k==k' then some (.bool (decide (a<b))) else none
 |.leq,.int k a,.int k' b=>bif k==k' then some (.bool (decide (a≤b))) else none
 |.gtr,.int k a,.int k' b=>bif k==k' then some (.bool (decide (b<a))) else none
 |.geq,.int k a,.int k' b=>bif k==k' then some (.bool (decide (b≤a))) else none
 |.eql,.string ⟨⟨a⟩⟩,.string ⟨⟨b⟩⟩=>some (.bool (a==b))
 |.neq,.string ⟨⟨a⟩⟩,.string ⟨⟨b⟩⟩=>some (.bool (!(a==b)))
 |_,_,_=>none
def pv(tb:VV)(σ:Bb):Op→Option Value
 |.move x=>ev σ x
 |.assign x=>ev σ x
 |.pick c x y=>match ev σ c with
   |some (.bool true)=>ev σ x
   |some (.bool false)=>ev σ y
   |_=>none
 |.unOp .not _ x=>match ev σ x with
   |some (.bool b)=>some (.bool (!b))
   |_=>none
 |.binOp o T x y _=>match ev σ x,ev σ y with
   |some (.pointer a),some (.pointer none)=>match WS tb.pt T with
     |some _=>kD o a
     |none=>none
   |some (.slice a _ _),some (.slice none _ _)=>match UN tb.sl T,o with
     |some _,.eql=>some (.bool a.isNone)
     |_,_=>none
   |some a,some b=>lG o a b
   |_,_=>none
 |.fieldAddr T x i=>match ev σ x,tB tb.fl T i with
   |some (.pointer (some ⟨b,o,none⟩)),some d=>some (.pointer (some ⟨b,o+d,none⟩))
   |_,_=>none
 |.nilCheck x=>match ev σ x with
   |some (.pointer (some a))=>some (.pointer (some a))
   |_=>none
 |.extract x i=>match ev σ x with
   |some (.tuple ⟨vs⟩)=>vs[i]?
   |_=>none
 |.build T ⟨parts⟩=>match Ge σ parts,WS tb.pl T,WS tb.zr T with
   |some pv,some pl,some z=>match JB pl z pv with
     |some out=>some (.agg ⟨out⟩)
     |none=>none
   |_,_,_=>none
 |.call ⟨.builtin .len,⟨[x]⟩,⟨[T]⟩⟩=>match ev σ x with
   |some (.slice _ n _)=>match UN tb.sl T with
     |some _=>some (.int .i64 n)
     |none=>none
   |some (.string ⟨⟨s⟩⟩)=>match nZ tb.st T with
     |true=>some (.int .i64 s.length)
     |false=>none
   |_=>none
 |_=>none
section
variable{P:Program}{σ:Bb}{w:World}{ty:TypeId}
variable {c' n':Nat}{x:Operand}{a:Option Addr}{e t t':TypeId}
theorem gU{o:BinOp}{y:Operand}{a b v:Value}(hx:ev σ x=some a)(hy:ev σ y=some b)(h:lG o a b=some v):AG P σ (.binOp o t x y t') ty w v w:=by
 unfold lG at h
 split at h
 all_goals first
   |(
     rename_i k a k' b
     cases hk:(k==k') with
     |false=>rw[hk] at h;cases h
     |true =>
       rw[hk] at h;have e:k=k':=by simpa using hk
       subst e
       cases h
       first|exact kX hx hy|exact YU hx hy|exact T0 hx hy|exact Xb hx hy|exact Y5 hx hy|exact Xu hx hy)
   |(cases h;first|exact kE hx hy|exact lK hx hy)
   |cases h
theorem gY{o:BinOp}{y:Operand}{v:Value}(ht:P.underlying t=some (.pointer e))(hx:ev σ x=some (.pointer a))(hy:ev σ y=some (.pointer none))(h:kD o a=some v):AG P σ (.binOp o t x y t') ty w v w:=by
 have h1:(Op.equal t (.pointer a) (.pointer none)).run P w=.ok a.isNone w:=by
   show (Op.equalIn (Op.maxDepth-1+1) t _ _).run P w=_
   cases a <;> simp[Op.equalIn,run_underlying ht]
 unfold kD at h
 split at h
 all_goals first
   |(cases h;exact λρ _ _ _ _ hρ=>by simp[execOp,hρ _ _ hx,hρ _ _ hy,eqGuard,binOp,h1])
   |cases h
theorem dA{y:Operand}{n c k:Nat}(ht:Ip P t=some (e,k))(hx:ev σ x=some (.slice a n c))(hy:ev σ y=some (.slice none n' c')):AG P σ (.binOp .eql t x y t') ty w (.bool a.isNone) w:=by
 obtain⟨i,hu,_,_⟩:=G6 ht
 have h1:(Op.equal t (.slice a n c) (.slice none n' c')).run P w=.ok a.isNone w:=by
   show (Op.equalIn (Op.maxDepth-1+1) t _ _).run P w=_
   cases a <;> simp[Op.equalIn,run_underlying hu]
 exact λρ _ _ _ _ hρ=>by simp[execOp,hρ _ _ hx,hρ _ _ hy,eqGuard,binOp,h1]
theorem Px{tb:VV}(ht:tb.Ok P):∀{op:Op}{v:Value},pv tb σ op=some v→AG P σ op ty w v w:=by
 intro op v h;unfold pv at h
 split at h
 · exact Ay h
 · exact CK h
 · split at h
   · rename_i hc;exact Np hc rfl h
   · rename_i hc;exact ME hc rfl h
   · cases h
 · split at h
   · rename_i hx;cases h;exact Uk hx
   · cases h
 · split at h
   · rename_i hx hy
     split at h
     · rename_i hp;exact gY (YQ ht.pt hp) hx hy h
     · cases h
   · rename_i hx hy
     split at h
     · rename_i q hp;cases h;exact dA (JP (e:=q.1) (k:=q.2) ht.sl hp) hx hy
     · cases h
   · rename_i hx hy;exact gU hx hy h
   · cases h
 · split at h
   · rename_i hx hf;cases h;exact B9 hx (Zh ht.fl hf)
   · cases h
 · split at h
   · rename_i hx;cases h;exact Bu hx
   · cases h
 · split at h
   · rename_i hx;exact S8 hx h
   · cases h
 · split at h
   · rename_i hp hl hz
     split at h
     · rename_i hf;cases h;exact Du hp (XR ht.pl hl) (Pw ht.zr hz) hf
     · cases h
   · cases h
 · split at h
   · rename_i hx
     split at h
     · rename_i e hs;cases h;exact Ld hx (JP (e:=e.1) (k:=e.2) ht.sl hs)
     · cases h
   · rename_i hx
     split at h <;> rename_i hs
     · cases h;exact LM hx (P5 ht.st hs)
     · cases h
   · cases h
 · cases h
end
end Go.SW
namespace Go.SW
open Go.RowKit
inductive Fr where
 |sq (y:Code)
 |bk (i:Nat)
inductive JZ where
 |code (c:Code)
 |ops (all l:List Oper)
 |out (e:Exit)
def nth{α:Type}:List α→Nat→Option α
 | [],_=>none
 |x::_,0=>some x
 |_::l,i+1=>nth l i
theorem Ep{α:Type}:∀(l:List α)(i:Nat),nth l i=l[i]?
 | [],_=>by simp[nth]
 |x::_,0=>by simp[nth]
 |_::l,i+1=>by simp[nth,Ep l i]
def gd(all:List Oper)(σ:Bb)(g:Option (Nat×Bool)):Option Bool:=match g with
 |none=>some true
 |some (j,want)=>match nth all j with
   |some q=>match q.dst with
     |some dj=>match σ dj with
       |some (.bool true)=>some want
       |some (.bool false)=>some (!want)
       |some (.tuple ⟨[]⟩)=>some false
       |_=>none
     |none=>none
   |none=>none
section
variable(P:Program)(n:Nat)(Q:AU)(ds:List Deferred)(X:Cx)(R:List RB)(B:List FB)(Fs:List (World→Fq→Prop))(tb:VV)
def L8:List Fr→AU
 | []=>Q
 |.sq y::fs=>sG P n y (L8 fs)
 |.bk i::fs=>blk i (L8 fs)
def A3(k:JZ)(fs:List Fr)(σ:Bb)(H:List HB):Prop:=∀w f,AO X w f H R B Fs→match k with
 |.code c=>GY P n c (L8 P n Q fs) σ ds w
 |.ops all l=>GO P n all.toArray (L8 P n Q fs) l σ ds w
 |.out e=>(L8 P n Q fs).q e σ ds w
def ex:Nat→List Nat→JZ→List Fr→Bb→List HB→Prop
 |0,_,k,fs,σ,H=>True→A3 P n Q ds X R B Fs k fs σ H
 |m+1,hs,.code c,fs,σ,H=>(match c with
   |.skip=>ex m hs (.out .normal) fs σ H
   |.ret=>ex m hs (.out .ret) fs σ H
   |.exit i=>ex m hs (.out (.exit i)) fs σ H
   |.seq a b=>ex m hs (.code a) (.sq b::fs) σ H
   |.block i a=>ex m hs (.code a) (.bk i::fs) σ H
   |.region _ ⟨l⟩ false=>ex m hs (.ops l l) fs σ H
   |.cond x a b=>(match ev σ x with
     |some (.bool true)=>ex m hs (.code a) fs σ H
     |some (.bool false)=>ex m hs (.code b) fs σ H
     |_=>False)
   |_=>False)
 |m+1,hs,.out e,fs,σ,H=>(match fs with
   | []=>False
   |.sq y::fs=>(match e with
     |.normal=>ex m hs (.code y) fs σ H
     |.ret=>ex m hs (.out .ret) fs σ H
     |.exit i=>ex m hs (.out (.exit i)) fs σ H
     |_=>False)
   |.bk i::fs=>(match e with
     |.normal=>ex m hs (.out .normal) fs σ H
     |.ret=>ex m hs (.out .ret) fs σ H
     |.exit j=>(match Nat.beq j i with
       |true=>ex m hs (.out .normal) fs σ H
       |false=>ex m hs (.out (.exit j)) fs σ H)
     |_=>False))
 |m+1,hs,.ops all [],fs,σ,H=>ex m hs (.out .normal) fs σ H
 |m+1,hs,.ops all (⟨dst,op,ty,pos,af,g⟩::r),fs,σ,H=>(match gd all σ g with
   |none=>False
   |some false=>(match dst with
     |some d=>(match Nat.blt d n with
       |true=>ex m hs (.ops all r) fs (AA σ d undef) H
       |false=>False)
     |none=>False)
   |some true=>(match dst with
     |none=>(match op with
       |.store T x y=>(match hs with
         | []=>False
         |h::hs=>(match ev σ x,ev σ y,Hg H h,jK tb.ti T with
           |some (.pointer (some ⟨b,o,none⟩)),some v,some ⟨b',l,T',nw⟩,some (a,k)=>(match Hl v with
             |some vs=>(match Nat.beq vs.length k&&LG vs,NL l o vs with
               |true,some l'=>(match PA H h ⟨b',l',T',nw⟩ with
                 |some H'=>b'=b∧ex m hs (.ops all r) fs σ H'
                 |none=>False)
               |_,_=>False)
             |none=>False)
           |_,_,_,_=>False))
       |_=>False)
     |some d=>(match Nat.blt d n with|false=>False|true=>(match op with
       |.alloc T=>(match WS tb.zr T with
         |some z=>∀b,ex m hs (.ops all r) fs (AA σ d (.pointer (some ⟨b,0,none⟩))) (⟨b,z,T,true⟩::H)
         |none=>False)
       |.box T x=>(match ev σ x with
         |some v=>(match Hl v with
           |some l=>∀b,ex m hs (.ops all r) fs (AA σ d (.pointer (some ⟨b,0,none⟩))) (⟨b,l,T,true⟩::H)
           |none=>False)
         |none=>False)
       |.buildSlice T len ⟨parts⟩=>(match UN tb.sl T,Ge σ parts with
         |some (e,k),some pv=>(match WS tb.zr e with
           |some z=>(match (Nat.beq z.length k&&Nat.blt 0 k)&&(Nat.blt 0 len&&Nat.ble (len*k) 16777216),JB (J7 k 0 len) (F9 len z) pv with
             |true,some l=>∀b,ex m hs (.ops all r) fs (AA σ d (.slice (some ⟨b,0,none⟩) len len)) (⟨b,l,e,true⟩::H)
             |_,_=>False)
           |none=>False)
         |_,_=>False)
       |.load T x=>(match hs with
         | []=>False
         |h::hs=>(match ev σ x,jK tb.ti T with
           |some (.pointer (some ⟨b,o,none⟩)),some (a,k)=>(match Nat.blt h 100 with
             |true=>(match Hg H h with
               |some ⟨b',l,_,_⟩=>(match a with
                 |false=>(match nth l o with
                   |some v=>b'=b∧ex m hs (.ops all r) fs (AA σ d v) H
                   |none=>False)
                 |true=>(match Sx l o k with
                   |some vs=>b'=b∧ex m hs (.ops all r) fs (AA σ d (.agg ⟨vs⟩)) H
                   |none=>False))
               |none=>False)
             |false=>(match hs with
               | []=>False
               |q::hs=>(match nth B (h-100) with
                 |some ⟨b',off,l⟩=>(match a with
                   |false=>(match nth l q with
                     |some v=>(b'=b∧off+q=o)∧ex m hs (.ops all r) fs (AA σ d v) H
                     |none=>False)
                   |true=>(match Sx l q k with
                     |some vs=>(b'=b∧off+q=o)∧ex m hs (.ops all r) fs (AA σ d (.agg ⟨vs⟩)) H
                     |none=>False))
                 |none=>False)))
           |_,_=>False))
       |.indexAddr T x y=>(match ev σ x,ev σ y,UN tb.sl T with
         |some (.slice (some ⟨b,o,none⟩) len _),some (.int _ i),some (_,k)=>(0≤i∧i<len)∧ex m hs (.ops all r) fs (AA σ d (.pointer (some ⟨b,o+i.toNat*k,none⟩))) H
         |_,_,_=>False)
       |.index T x y=>(match ev σ x,ev σ y,nZ tb.st T with
         |some (.string ⟨⟨s⟩⟩),some (.int _ i),true=>(0≤i∧i<s.length)∧∀c,s[i.toNat]?=some c→ex m hs (.ops all r) fs (AA σ d (.int .u8 c.toNat)) H
         |_,_,_=>False)
       |.binOp .add T x y T'=>(match ev σ x,ev σ y with
         |some (.int .i64 a),some (.int .i64 b)=>P3 (a+b)∧ex m hs (.ops all r) fs (AA σ d (.int .i64 (a+b))) H
         |some (.string ⟨⟨a⟩⟩),some (.string ⟨⟨b⟩⟩)=>a.length+b.length≤9223372036854775807∧ex m hs (.ops all r) fs (AA σ d (S (a++b))) H
         |_,_=>False)
       |.binOp .sub T x y T'=>(match ev σ x,ev σ y with
         |some (.int .i64 a),some (.int .i64 b)=>P3 (a-b)∧ex m hs (.ops all r) fs (AA σ d (.int .i64 (a-b))) H
         |_,_=>False)
       |op=>(match pv tb σ op with
         |some v=>ex m hs (.ops all r) fs (AA σ d v) H
         |none=>False)))))
end
variable {af:Array Edge}{f:Fq}{H:List HB}{l vs:List Value}{b d i o off:Nat}{x:Operand}{g:Option (Nat×Bool)}{dst:Option Tmp}{pos:String}{T:TypeId}
theorem Jj{n:Nat}{σ:Bb}{ds:List Deferred}{all:List Oper}{a:Act}{op:Op}{ty:TypeId}{b:Bool}(ha:St n σ ds a)(h:gd all σ g=some b) :
   Region.wanted ⟨dst,op,ty,pos,af,g⟩ (yielded all.toArray a.tmps)=b:=by
 unfold gd at h
 split at h
 · cases h;rfl
 · rename_i j want
   split at h
   · rename_i q hq
     rw[Ep] at hq
     split at h
     · rename_i dj hd
       have hj:(all.toArray[j]?).bind (·.dst)=some dj:=by simp[hq,hd]
       split at h
       · rename_i hv;cases h;rw[Gr ha hj hv];cases b <;> rfl
       · rename_i hv;cases h;rw[Gr ha hj hv];cases want <;> rfl
       · rename_i hv;cases h;exact VM ha hj hv
       · cases h
     · cases h
   · cases h
section
variable{P:Program}{n:Nat}{Q:AU}{ds:List Deferred}{X:Cx}{R:List RB}{B:List FB}{Fs:List (World→Fq→Prop)}{tb:VV}
theorem B1{Q:AU}{σ:Bb}{w:World}{all r:List Oper}{op:Op}{ty:TypeId}(hg:gd all σ g=some true)
   (h:GO P n all.toArray Q (⟨dst,op,ty,pos,af,none⟩::r) σ ds w):GO P n all.toArray Q (⟨dst,op,ty,pos,af,g⟩::r) σ ds w:=λa ha=>by
 have h1:=h a ha;unfold wpList at h1 ⊢;rw[if_pos (by simp[Region.wanted])] at h1;rw[if_pos (Jj ha hg)];exact h1
theorem NH{Q:AU}{σ:Bb}{w:World}{all r:List Oper}{op:Op}{ty:TypeId}(hg:gd all σ g=some false)(hd:Nat.blt d n=true)
   (h:GO P n all.toArray Q r (AA σ d undef) ds w):GO P n all.toArray Q (⟨some d,op,ty,pos,af,g⟩::r) σ ds w:=λa ha=>by
 unfold wpList;rw[if_neg (by rw[Jj ha hg];simp)];exact h _ (ha.put hd undef)
theorem AO.getB{w:World}(h:AO X w f H R B Fs)(hg:nth B i=some ⟨b,off,l⟩):Cs w f b off l:=by
 rw[Ep] at hg;exact h.fro _ (List.mem_of_getElem? hg)
theorem PM:∀{l:List Value}{q k:Nat}{vs:List Value},Sx l q k=some vs→vs.length=k∧∀j v,vs[j]?=some v→l[q+j]?=some v:=by
 intro l q k vs h;obtain⟨h1,h2⟩:=KC h;refine⟨h2,λj v hj=>?_⟩;rw[← h1] at hj
 have hlt:j<k:=by
   rcases Nat.lt_or_ge j k with h|h
   · exact h
   · rw[List.getElem?_take,if_neg (by omega)] at hj;cases hj
 rwa[List.getElem?_take,if_pos hlt,List.getElem?_drop] at hj
theorem I7{σ:Bb}{w:World}{ty:TypeId}{k:Nat}{v:Value}(hx:ev σ x=some (.pointer (some ⟨b,o,none⟩)))(hT:AN P T=some (false,k))(hc:w.cell? ⟨b,o,none⟩=some v):AG P σ (.load T x) ty w v w:=λρ _ _ _ _ hρ=>by
 simp[execOp,hρ _ _ hx,Instr.loadAt,Instr.sureAddr,loadVar,Et hT,run_load,hc]
theorem Kv{σ:Bb}{w:World}{ty:TypeId}{k:Nat}(hx:ev σ x=some (.pointer (some ⟨b,o,none⟩)))(hT:AN P T=some (true,k))(hk:vs.length=k)(hc:∀j v,vs[j]?=some v→w.cell? ⟨b,o+j,none⟩=some v) :
   AG P σ (.load T x) ty w (.agg vs.toArray) w:=λρ _ _ _ _ hρ=>by
 have h1:=run_loadCells_list (P:=P) w ⟨b,o,none⟩ vs (λj v hj=>by rw[Ed];exact hc j v hj);rw[hk] at h1;simp[execOp,hρ _ _ hx,Instr.loadAt,Instr.sureAddr,loadVar,Et hT,HS hT,h1]
theorem Ix(ht:tb.Ok P):∀(m:Nat)(hs:List Nat)(k:JZ)(fs:List Fr)(σ:Bb)(H:List HB),ex P n Q ds X R B Fs tb m hs k fs σ H→A3 P n Q ds X R B Fs k fs σ H
 |0,_,_,_,_,_,h=>h tQ
 |m+1,hs,.code c,fs,σ,H,h=>by
   have ih:=Ix ht m;intro w f hM;unfold ex at h
   split at h
   · exact H0 (ih _ _ _ _ _ h w f hM)
   · exact Jq (ih _ _ _ _ _ h w f hM)
   · exact Kn (ih _ _ _ _ _ h w f hM)
   · exact BQ (ih _ _ _ _ _ h w f hM)
   · exact DM (ih _ _ _ _ _ h w f hM)
   · exact Cz (ih _ _ _ _ _ h w f hM)
   · split at h
     · rename_i hx;exact F2 hx rfl (ih _ _ _ _ _ h w f hM)
     · rename_i hx;exact Ji hx rfl (ih _ _ _ _ _ h w f hM)
     · exact h.elim
   · exact h.elim
 |m+1,hs,.out e,fs,σ,H,h=>by
   have ih:=Ix ht m;intro w f hM;unfold ex at h
   split at h
   · exact h.elim
   · split at h
     · exact Dk (ih _ _ _ _ _ h w f hM)
     · exact U0 (ih _ _ _ _ _ h w f hM)
     · exact UM (ih _ _ _ _ _ h w f hM)
     · exact h.elim
   · split at h
     · exact D3 (ih _ _ _ _ _ h w f hM)
     · exact U5 (ih _ _ _ _ _ h w f hM)
     · split at h
       · rename_i hb
         have e:=Nat.eq_of_beq_eq_true hb;subst e;exact Oq (ih _ _ _ _ _ h w f hM)
       · rename_i hb;exact fO hb (ih _ _ _ _ _ h w f hM)
     · exact h.elim
 |m+1,hs,.ops all [],fs,σ,H,h=>by
   intro w f hM;unfold ex at h;exact Ae (Ix ht m _ _ _ _ _ h w f hM)
 |m+1,hs,.ops all (⟨dst,op,ty,pos,af,g⟩::r),fs,σ,H,h=>by
   have ih:=Ix ht m;intro w f hM;unfold ex at h
   split at h
   · exact h.elim
   · rename_i hg
     split at h
     · split at h
       · rename_i hd;exact NH hg hd (ih _ _ _ _ _ h w f hM)
       · exact h.elim
     · exact h.elim
   · rename_i hg
     refine B1 hg ?_
     split at h
     · split at h
       · split at h
         · exact h.elim
         · split at h
           · rename_i hx hy hH hT
             split at h
             · rename_i vs hv
               split at h
               · rename_i hk hp
                 split at h
                 · rename_i H' hs'
                   obtain⟨rfl,h⟩:=h;simp only[Bool.and_eq_true] at hk;exact A1 hx hy hv (FM ht.ti hT) hk.1 (hM.blk _ (BG hH)) hk.2 hp λw' hb hC=>ih _ _ _ _ _ h w' f (hM.chg hH hs' hb hC)
                 · exact h.elim
               · exact h.elim
             · exact h.elim
           · exact h.elim
       · exact h.elim
     · split at h
       · exact h.elim
       rename_i hd
       split at h
       · split at h
         · rename_i z hz
           exact Ab hd (Sa (Pw ht.zr hz)) (ih _ _ _ _ _ (h _) _ f hM.alloc)
         · exact h.elim
       · split at h
         · rename_i v hx
           split at h
           · rename_i l hl
             have e:=Gt hl;subst e;exact Ab hd (Zj hx) (ih _ _ _ _ _ (h _) _ f hM.alloc)
           · exact h.elim
         · exact h.elim
       · split at h
         · rename_i hs' hp
           split at h
           · rename_i z hz
             split at h
             · rename_i hc hf
               simp only[Bool.and_eq_true] at hc;exact Ab hd (fW hp (JP ht.sl hs') (Pw ht.zr hz) hc.1.1 hc.1.2 hc.2.1 hc.2.2 hf) (ih _ _ _ _ _ (h _) _ f hM.alloc)
             · exact h.elim
           · exact h.elim
         · exact h.elim
       · split at h
         · exact h.elim
         · split at h
           · rename_i hx hT
             split at h
             · split at h
               · rename_i hH
                 split at h
                 · split at h
                   · rename_i v hv
                     obtain⟨rfl,h⟩:=h;rw[Ep] at hv;exact Ab hd (Ai hx (FM ht.ti hT) (hM.blk _ (BG hH)) hv) (ih _ _ _ _ _ h w f hM)
                   · exact h.elim
                 · split at h
                   · rename_i vs hv
                     obtain⟨rfl,h⟩:=h;exact Ab hd (CT hx (FM ht.ti hT) (hM.blk _ (BG hH)) hv) (ih _ _ _ _ _ h w f hM)
                   · exact h.elim
               · exact h.elim
             · split at h
               · exact h.elim
               · split at h
                 · rename_i hB
                   have hc:=hM.getB hB
                   split at h
                   · split at h
                     · rename_i v hv
                       obtain⟨⟨rfl,rfl⟩,h⟩:=h;rw[Ep] at hv;exact Ab hd (I7 hx (FM ht.ti hT) (hc _ v hv).2) (ih _ _ _ _ _ h w f hM)
                     · exact h.elim
                   · split at h
                     · rename_i vs hv
                       obtain⟨⟨rfl,rfl⟩,h⟩:=h;obtain⟨hk,hg2⟩:=PM hv;exact Ab hd (Kv hx (FM ht.ti hT) hk (λj v hj=>by have:=(hc _ v (hg2 j v hj)).2;rwa[← Nat.add_assoc] at this)) (ih _ _ _ _ _ h w f hM)
                     · exact h.elim
                 · exact h.elim
           · exact h.elim
       · split at h
         · rename_i hx hy hT
           exact Ab hd (NG hx hy (JP ht.sl hT) h.1) (ih _ _ _ _ _ h.2 w f hM)
         · exact h.elim
       · split at h
         · rename_i s _ i hx hy hT
           obtain⟨h1,h⟩:=h;have hlt:i.toNat<s.length:=oM;exact Ab hd (Dd hx hy (P5 ht.st hT) h1.1 (List.getElem?_eq_getElem hlt)) (ih _ _ _ _ _ (h _ (List.getElem?_eq_getElem hlt)) w f hM)
         · exact h.elim
       · split at h
         · rename_i hx hy
           exact Ab hd (Mt hx hy h.1) (ih _ _ _ _ _ h.2 w f hM)
         · rename_i hx hy
           exact Ab hd (Jt hx hy h.1) (ih _ _ _ _ _ h.2 w f hM)
         · exact h.elim
       · split at h
         · rename_i hx hy
           exact Ab hd (GL hx hy h.1) (ih _ _ _ _ _ h.2 w f hM)
         · exact h.elim
       · split at h
         · rename_i v hv
           exact Ab hd (Px ht hv) (ih _ _ _ _ _ h w f hM)
         · exact h.elim
end
end Go.SW
