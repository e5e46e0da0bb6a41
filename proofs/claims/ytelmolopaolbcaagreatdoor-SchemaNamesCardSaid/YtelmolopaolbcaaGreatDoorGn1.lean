/- What it rests on, part 1. -/
import Derived.KernelRfl
import Derived.WalkKit
import Derived.OrdersHeld
import Derived.Below
import Derived.Shelf.Small.Strs
import Derived.Shelf.Strings.Search1
import Derived.Shelf.Strings.Search2
import Derived.Shelf.Strings.Search3
import Derived.Shelf.Strings.Cut
import Derived.Shelf.Strings.Prefix
import Derived.Shelf.Strings.SlTrimAscii
import Derived.Shelf.Strconv.ToErrorRange
import Derived.Ground.NamesProg
import Derived.Test.YtelmolopaolbcaaGreatDoorProg
import Derived.Laws.AppendOwn
import Derived.Lib.IndexMore
import Derived.Deep.Draws
import Derived.Laws.StructEq
import Derived.Defers
import Derived.Recover
import Derived.Laws.IdiomStrings
import Derived.Laws.BytesArg
import Derived.Lib.SlTrimSet
import Derived.Lib.Strings
import GoSem.Core.Float
import GoSem.Op.Unary
import GoSem.Op.Equal
import Derived.Lib.ConvBytes
import Derived.Laws.Externs
import Derived.Scope
import Derived.Laws.FloatArith
set_option linter.unusedVariables false
set_option linter.unusedSimpArgs false
universe u
namespace Go
theorem oM{p:Prop}(h:p:=by omega):p:=h
theorem dC{p:Prop}(h:p:=by decide):p:=h
theorem kR{p:Prop}(h:p:=by kernel_rfl):p:=h
theorem nM{p:Prop}(h:p:=by simp only[List.mem_cons,List.not_mem_nil,or_false];omega):p:=h
theorem lM{p:Prop}(h:p:=by first|omega|(simp only[List.length_cons,List.length_append,List.length_nil];omega)):p:=h
theorem C{α:Sort u}{a:α}:a=a:=rfl
theorem tQ:True:=.intro
abbrev lU:=List UInt8
end Go
namespace Go.SW
open Go.RowKit
abbrev Bf:=Nat→Option Value
def e0:Bf:=λ_=>none
def AF(σ:Bf)(d:Nat)(v:Value):Bf:=λt=>bif Nat.beq t d then some v else σ t
def ev(σ:Bf):Operand→Option Value
 |.tmp t=>σ t
 |.const v=>some v
 |.global g=>some (.pointer (some ⟨g,0,none⟩))
 |.func f=>some (.func (.func f) #[] #[])
def Le(σ' σ:Bf):Prop:=∀t v,σ' t=some v→σ t=some v
theorem J2(σ:Bf):Le e0 σ:=λ_ _ h=>by cases h
theorem le_refl(σ:Bf):Le σ σ:=λ_ _ h=>h
variable {args:Array Value}{σ':Bf}{want:Bool}{l:List Value}{dj i j:Nat}{I:Nat→Bf→List Deferred→World→Prop}{dst:Option Tmp}{r1 r2 r3:ResultVar}{v1 v2 v3:Value}{w':World}
theorem A6{σ:Bf}{d:Nat}{v:Value}(h:Le σ' σ)(hd:σ d=some v):Le (AF σ' d v) σ:=by
 intro t u ht;unfold AF at ht
 cases hb:Nat.beq t d with
 |true=>rw[hb] at ht;have:=Nat.eq_of_beq_eq_true hb;subst this;simpa[← hd] using ht
 |false=>rw[hb] at ht;exact h t u ht
structure St(n:Nat)(σ:Bf)(ds:List Deferred)(a:Act):Prop where
 size:a.tmps.size=n
 defs:a.defers=ds
 val:∀t v,σ t=some v→a.tmps.getD t undef=v
theorem St.le{n:Nat}{σ:Bf}{ds:List Deferred}{a:Act}(h:St n σ ds a)(hl:Le σ' σ):St n σ' ds a:=⟨h.size,h.defs,λt v ht=>h.val t v (hl t v ht)⟩
theorem St.ev{n:Nat}{σ:Bf}{ds:List Deferred}{a:Act}(h:St n σ ds a):∀x v,ev σ x=some v→a.eval x=v:=by
 intro x v hx
 cases x with
 |tmp t=>exact h.val t v hx
 |const u=>exact Option.some.inj hx
 |global g=>exact Option.some.inj hx
 |func f=>exact Option.some.inj hx
theorem St.put{n:Nat}{σ:Bf}{ds:List Deferred}{a:Act}(h:St n σ ds a){d:Nat}(hd:Nat.blt d n=true)(v:Value):St n (AF σ d v) ds (a.put (some d) v):=by
 have hd':d<n:=Nat.le_of_ble_eq_true hd;refine⟨by simp[Act.put,h.size],h.defs,λt u ht=>?_⟩;unfold AF at ht
 cases hb:Nat.beq t d with
 |true =>
   rw[hb] at ht;have:=Nat.eq_of_beq_eq_true hb;subst this;simp at ht;subst ht;simp[Act.put,Array.getD_eq_getD_getElem?,h.size,hd']
 |false =>
   rw[hb] at ht;have hne:d≠t:=λe=>by rw[e,Nat.beq_refl] at hb;cases hb
   have:=h.val t u ht;simpa[Act.put,Array.getD_eq_getD_getElem?,Array.getElem?_setIfInBounds_ne hne] using this
structure AX where
 q:Exit→Bf→List Deferred→World→Prop
 p:List PanicEntry→Bf→List Deferred→World→Prop
def AX.up(n:Nat)(Q:AX):Exit→Act→World→Prop
 |.panic c,a,w=>∃σ ds,St n σ ds a∧Q.p c σ ds w
 |.outgrown,_,_=>False
 |.normal,a,w=>∃σ ds,St n σ ds a∧Q.q .normal σ ds w
 |.ret,a,w=>∃σ ds,St n σ ds a∧Q.q .ret σ ds w
 |.exit i,a,w=>∃σ ds,St n σ ds a∧Q.q (.exit i) σ ds w
 |.goto i,a,w=>∃σ ds,St n σ ds a∧Q.q (.goto i) σ ds w
def HH(P:Program)(n:Nat)(c:Code)(Q:AX)(σ:Bf)(ds:List Deferred)(w:World):Prop :=
 ∀a,St n σ ds a→c.wp P (Q.up n) a w
def Hu(P:Program)(n:Nat)(ops:Array Oper)(Q:AX)(l:List Oper)(σ:Bf)(ds:List Deferred)(w:World):Prop :=
 ∀a,St n σ ds a→wpList P ops (Q.up n) l a w
section
variable{P:Program}{n:Nat}{Q:AX}{σ:Bf}{ds:List Deferred}{w:World}
theorem NT{c:Code}(hl:Le σ' σ)(h:HH P n c Q σ' ds w):HH P n c Q σ ds w:=λa ha=>h a (ha.le hl)
def zY(P:Program)(n:Nat)(y:Code)(Q:AX):AX :=
 {q:=λe σ ds w=>match e with|.normal=>HH P n y Q σ ds w|e=>Q.q e σ ds w,p:=Q.p}
theorem BW{x y:Code}(h:HH P n x (zY P n y Q) σ ds w):HH P n (.seq x y) Q σ ds w:=λa ha =>
 wp_seq (wp_mono (h a ha) λe a' w' he=>by
   cases e with
   |normal=>obtain⟨σ',ds',hs,hq⟩:=he;exact hq a' hs
   |panic c=>exact he
   |outgrown=>exact he
   |ret=>exact he
   |exit i=>exact he
   |goto i=>exact he)
theorem Dw{y:Code}(h:HH P n y Q σ ds w):(zY P n y Q).q .normal σ ds w:=h
theorem I9(h:Q.q .normal σ ds w):HH P n .skip Q σ ds w:=λ_ ha=>wp_skip ⟨σ,ds,ha,h⟩
theorem Kk(h:Q.q .ret σ ds w):HH P n .ret Q σ ds w:=λ_ ha=>wp_ret ⟨σ,ds,ha,h⟩
theorem Lp(h:Q.q (.exit i) σ ds w):HH P n (.exit i) Q σ ds w:=λ_ ha=>wp_exit ⟨σ,ds,ha,h⟩
def blk(i:Nat)(Q:AX):AX :=
 {q:=λe σ ds w=>match e with|.exit j=>if j=i then Q.q .normal σ ds w else Q.q (.exit j) σ ds w|e=>Q.q e σ ds w,p:=Q.p}
theorem Eg{c:Code}(h:HH P n c (blk i Q) σ ds w):HH P n (.block i c) Q σ ds w:=λa ha =>
 wp_block (wp_mono (h a ha) λe a' w' he=>by
   cases e with
   |exit j =>
     obtain⟨σ',ds',hs,hq⟩:=he;simp only[Exit.inBlock]
     split
     · rename_i hj;simp only[blk,hj,if_true] at hq;exact⟨σ',ds',hs,hq⟩
     · rename_i hj;simp only[blk,hj,if_false] at hq;exact⟨σ',ds',hs,hq⟩
   |normal=>exact he
   |panic c=>exact he
   |outgrown=>exact he
   |ret=>exact he
   |goto i=>exact he)
theorem DO(h:Q.q .normal σ ds w):(blk i Q).q .normal σ ds w:=h
theorem X4(h:Q.q .ret σ ds w):(blk i Q).q .ret σ ds w:=h
theorem Qs(h:Q.q .normal σ ds w):(blk i Q).q (.exit i) σ ds w:=by simp only[blk,if_true];exact h
theorem qL(hne:Nat.beq j i=false)(h:Q.q (.exit j) σ ds w):(blk i Q).q (.exit j) σ ds w:=by
 have:j≠i:=λe=>by rw[e,Nat.beq_refl] at hne;cases hne
 simp only[blk,this,if_false];exact h
theorem WH{y:Code}(h:Q.q .ret σ ds w):(zY P n y Q).q .ret σ ds w:=h
theorem Xv{y:Code}(h:Q.q (.exit j) σ ds w):(zY P n y Q).q (.exit j) σ ds w:=h
theorem N2{c:Operand}{x y:Code}{b:Bool}(hc:ev σ c=some (.bool b))(ht:b=true→HH P n x Q σ ds w)(hf:b=false→HH P n y Q σ ds w) :
   HH P n (.cond c x y) Q σ ds w:=λa ha =>
 wp_cond_split (t:=b) (ha.ev _ _ hc) (λh=>ht h a ha) (λh=>hf h a ha)
theorem Gh{c:Operand}{x y:Code}{b:Bool}(hc:ev σ c=some (.bool b))(hb:b=true)(ht:HH P n x Q σ ds w):HH P n (.cond c x y) Q σ ds w :=
 N2 hc (λ_=>ht) (λh=>by rw[h] at hb;cases hb)
theorem Ki{c:Operand}{x y:Code}{b:Bool}(hc:ev σ c=some (.bool b))(hb:b=false)(hf:HH P n y Q σ ds w):HH P n (.cond c x y) Q σ ds w :=
 N2 hc (λh=>by rw[h] at hb;cases hb) (λ_=>hf)
def lp(I:Nat→Bf→List Deferred→World→Prop)(k:Nat)(Q:AX):AX :=
 {q:=λe σ ds w=>match e with|.normal=>∃k' σ',k'<k∧Le σ' σ∧I k' σ' ds w|e=>Q.q e σ ds w,p:=Q.p}
theorem HF{k:Nat}(k':Nat)(σ':Bf)(hk:k'<k)(hl:Le σ' σ)(h:I k' σ' ds w):(lp I k Q).q .normal σ ds w:=⟨k',σ',hk,hl,h⟩
theorem Yw{k:Nat}(h:Q.q .ret σ ds w):(lp I k Q).q .ret σ ds w:=h
theorem OJ{k:Nat}(h:Q.q (.exit j) σ ds w):(lp I k Q).q (.exit j) σ ds w:=h
theorem DU{c:Code}(I:Nat→Bf→List Deferred→World→Prop)(k:Nat)(σ':Bf)(hl:Le σ' σ)(h0:I k σ' ds w)
   (round:∀k σ ds w,I k σ ds w→HH P n c (lp I k Q) σ ds w):HH P n (.loop c) Q σ ds w:=by
 intro a ha b kk cs
 have key:∀k a w σ' ds,St n σ' ds a→I k σ' ds w →
     ∃e a' w',Q.up n e a' w'∧Arrives P (lone (b.at a (.code c::.inLoop c::kk)) cs w) b kk cs e a' w':=by
   intro k
   induction k using Nat.strongRecOn with
   |_ k ih =>
     intro a w σ' ds hs hI;obtain⟨e,a₁,w₁,hq,harr⟩:=round k σ' ds w hI a hs b (.inLoop c::kk) cs
     cases e with
     |normal =>
       obtain⟨σ₁,ds₁,hs₁,k',σ₂,hk,hle,hI₁⟩:=hq;obtain⟨e₂,a₂,w₂,hq₂,harr₂⟩:=ih k' hk a₁ w₁ σ₂ ds₁ (hs₁.le hle) hI₁;exact⟨e₂,a₂,w₂,hq₂,.of_steps (Steps.trans harr (.one step_inLoop)) harr₂⟩
     |exit id=>exact⟨.exit id,a₁,w₁,hq,.pass (x:=.inLoop c) rfl (λ_ _=>.inl (by simp)) harr⟩
     |goto l=>exact⟨.goto l,a₁,w₁,hq,.pass (x:=.inLoop c) rfl (λ_ _=>.inl (by simp)) harr⟩
     |ret=>exact⟨.ret,a₁,w₁,hq,.pass (x:=.inLoop c) rfl (λ_ _=>.inl (by simp)) harr⟩
     |panic ch=>exact⟨.panic ch,a₁,w₁,hq,.pass (x:=.inLoop c) rfl (λ_ _=>.inl (by simp)) harr⟩
     |outgrown=>exact hq.elim
 obtain⟨e,a',w',hq,harr⟩:=key k a w σ' ds (ha.le hl) h0;exact⟨e,a',w',hq,.of_steps (.one step_loop) harr⟩
def AK(P:Program)(σ:Bf)(op:Op)(ty:TypeId)(w:World)(v:Value)(w':World):Prop :=
 ∀(ρ:Operand→Value) d pos af g,(∀x v,ev σ x=some v→ρ x=v)→(execOp ρ ⟨d,op,ty,pos,af,g⟩).run P w=.ok (.value v) w'
def oX(P:Program)(σ:Bf)(op:Op)(ty:TypeId)(w:World)(w':World):Prop :=
 ∀(ρ:Operand→Value) d pos af g,(∀x v,ev σ x=some v→ρ x=v)→(execOp ρ ⟨d,op,ty,pos,af,g⟩).run P w=.ok .skip w'
def Enters(P:Program)(σ:Bf)(op:Op)(ty:TypeId)(w:World)(f:FuncId)(args:Array Value):Prop :=
 ∀(ρ:Operand→Value) d pos af g,(∀x v,ev σ x=some v→ρ x=v)→(execOp ρ ⟨d,op,ty,pos,af,g⟩).run P w=.ok (.enter f args) w
def tF(P:Program)(σ:Bf)(op:Op)(ty:TypeId)(w:World)(v:Value)(w':World):Prop :=
 ∀(ρ:Operand→Value) d pos af g,(∀x v,ev σ x=some v→ρ x=v)→(execOp ρ ⟨d,op,ty,pos,af,g⟩).run P w=.halt (.panic v) w'
theorem CD{l:List Oper}(h:Hu P n l.toArray Q l σ ds w):HH P n (.region i l.toArray false) Q σ ds w:=λa ha=>wp_region_lit (h a ha)
variable{ops:Array Oper}{op:Op}{ty:TypeId}{pos:String}{af:Array Edge}{rest:List Oper}{d:Nat}
theorem Ae(h:Q.q .normal σ ds w):Hu P n ops Q [] σ ds w:=λ_ ha=>wpList_nil ⟨σ,ds,ha,h⟩
theorem Ab{v:Value}(hd:Nat.blt d n=true)(hr:AK P σ op ty w v w')(h:Hu P n ops Q rest (AF σ d v) ds w') :
   Hu P n ops Q (⟨some d,op,ty,pos,af,none⟩::rest) σ ds w:=λa ha =>
 wpList_plain rfl λK hK=>by
   unfold Oper.wp;rw[hr a.eval _ _ _ _ ha.ev];exact hK _ _ (h _ (ha.put hd v))
theorem JB(hr:oX P σ op ty w w')(h:Hu P n ops Q rest σ ds w') :
   Hu P n ops Q (⟨none,op,ty,pos,af,none⟩::rest) σ ds w:=λa ha =>
 wpList_plain rfl λK hK=>by
   unfold Oper.wp;rw[hr a.eval _ _ _ _ ha.ev];exact hK _ _ (h _ ha)
theorem Cl{v:Value}(hr:tF P σ op ty w v w')(h:Q.p [{v,recovered:=false}] σ ds w') :
   Hu P n ops Q (⟨dst,op,ty,pos,af,none⟩::rest) σ ds w:=λa ha =>
 wpList_plain rfl λK hK=>by
   unfold Oper.wp;rw[hr a.eval _ _ _ _ ha.ev];exact⟨σ,ds,ha,h⟩
def Bq(P:Program)(f:FuncId)(args:Array Value)(w:World)(R:Value→World→Prop):Prop :=
 Calls P f args w λe w'=>∃v,e=.returned v∧R v w'
def BI(P:Program)(f:FuncId)(args:Array Value)(w:World)(R:Value→World→Prop)(X:List PanicEntry→World→Prop):Prop :=
 Calls P f args w λe w'=>(∃v,e=.returned v∧R v w')∨∃c,e=.panicked c∧X c w'
theorem Bq.mono{f:FuncId}{R R':Value→World→Prop}(h:Bq P f args w R)(hr:∀v w',R v w'→R' v w'):Bq P f args w R' :=
 Calls.mono h λ_ _ ⟨v,he,hv⟩=>⟨v,he,hr _ _ hv⟩
theorem BI.mono{f:FuncId}{R R':Value→World→Prop}{X X':List PanicEntry→World→Prop}(h:BI P f args w R X)(hr:∀v w',R v w'→R' v w')
   (hx:∀c w',X c w'→X' c w'):BI P f args w R' X' :=
 Calls.mono h λ_ _ he=>he.imp (λ⟨v,he,hv⟩=>⟨v,he,hr _ _ hv⟩) (λ⟨c,he,hv⟩=>⟨c,he,hx _ _ hv⟩)
theorem Bq.retP{f:FuncId}{R:Value→World→Prop}{X:List PanicEntry→World→Prop}(h:Bq P f args w R):BI P f args w R X :=
 Calls.mono h λ_ _ he=>.inl he
theorem A4{f:FuncId}{R:Value→World→Prop}(hd:Nat.blt d n=true)(he:Enters P σ op ty w f args)(hc:Bq P f args w R)
   (h:∀v w',R v w'→Hu P n ops Q rest (AF σ d v) ds w'):Hu P n ops Q (⟨some d,op,ty,pos,af,none⟩::rest) σ ds w:=λa ha =>
 wpList_plain rfl λK hK=>by
   unfold Oper.wp;rw[he a.eval _ _ _ _ ha.ev];refine Calls.mono hc λe w' hr=>?_;obtain⟨v,rfl,hv⟩:=hr;exact hK _ _ (h v w' hv _ (ha.put hd v))
theorem Cg{f:FuncId}{R:Value→World→Prop}{X:List PanicEntry→World→Prop}(hd:Nat.blt d n=true)(he:Enters P σ op ty w f args)
   (hc:BI P f args w R X) (h:∀v w',R v w'→Hu P n ops Q rest (AF σ d v) ds w') (hx:∀c w',X c w'→Q.p c σ ds w') :
   Hu P n ops Q (⟨some d,op,ty,pos,af,none⟩::rest) σ ds w:=λa ha =>
 wpList_plain rfl λK hK=>by
   unfold Oper.wp;rw[he a.eval _ _ _ _ ha.ev];refine Calls.mono hc λe w' hr=>?_;rcases hr with ⟨v,rfl,hv⟩|⟨c,rfl,hv⟩
   · exact hK _ _ (h v w' hv _ (ha.put hd v))
   · exact⟨σ,ds,ha,hx c w' hv⟩
theorem Hc{a:Act}{b:Bool}(ha:St n σ ds a)(hj:(ops[j]?).bind (·.dst)=some dj)(hv:σ dj=some (.bool b)) :
   Region.wanted ⟨dst,op,ty,pos,af,some (j,want)⟩ (yielded ops a.tmps)=(b==want):=by
 have h1:=ha.val dj _ hv
 have h2:a.tmps[dj]?=some (.bool b):=by
   rw[Array.getD_eq_getD_getElem?] at h1
   cases hx:a.tmps[dj]? with
   |none=>rw[hx] at h1;simp[undef] at h1
   |some u=>rw[hx] at h1;simpa using h1
 simp[Region.wanted,yielded,hj,h2]
theorem B7{b:Bool}(hj:(ops[j]?).bind (·.dst)=some dj)(hv:σ dj=some (.bool b))(hb:b=want)
   (h:Hu P n ops Q (⟨dst,op,ty,pos,af,none⟩::rest) σ ds w):Hu P n ops Q (⟨dst,op,ty,pos,af,some (j,want)⟩::rest) σ ds w:=λa ha=>by
 have h1:=h a ha;unfold wpList at h1 ⊢;rw[if_pos (by simp[Region.wanted])] at h1;rw[if_pos (by rw[Hc ha hj hv,hb];simp)];exact h1
theorem mL{b:Bool}(hd:Nat.blt d n=true)(hj:(ops[j]?).bind (·.dst)=some dj)(hv:σ dj=some (.bool b))(hb:b=!want)
   (h:Hu P n ops Q rest (AF σ d undef) ds w):Hu P n ops Q (⟨some d,op,ty,pos,af,some (j,want)⟩::rest) σ ds w:=λa ha=>by
 unfold wpList;rw[if_neg (by rw[Hc ha hj hv,hb];cases want <;> simp)];exact h _ (ha.put hd undef)
def UH(P:Program)(fn:Func)(σ:Bf)(w:World)(v:Value):Prop :=
 ∀tmps:Array Value,(∀t v,σ t=some v→tmps.getD t undef=v)→(results fn tmps).run P w=.ok v w
def FR(P:Program)(fn:Func)(R:Value→World→Prop)(X:List PanicEntry→World→Prop):AX :=
 {q:=λe σ ds w=>match e with|.normal|.ret=>ds=[]∧∃v,UH P fn σ w v∧R v w|_=>False,p:=λc _ ds w=>ds=[]∧X c w}
def Il:List Value→Nat→Bf
 | [],_=>e0
 |v::l,k=>AF (Il l (k+1)) k v
theorem Px:∀(l:List Value)(k t:Nat)(v:Value),Il l k t=some v→k≤t∧l[t-k]?=some v
 | [],_,_,_,h=>by cases h
 |u::l,k,t,v,h=>by
   unfold Il AF at h
   cases hb:Nat.beq t k with
   |true=>rw[hb] at h;have:=Nat.eq_of_beq_eq_true hb;subst this;simp at h;simp[h]
   |false =>
     rw[hb] at h;obtain⟨h1,h2⟩:=Px l (k+1) t v h;refine⟨oM,?_⟩;have:t-k=(t-(k+1))+1:=oM;rw[this];simpa using h2
theorem JA(hn:Nat.ble l.length n=true):St n (Il l 0) [] {tmps:=l.toArray++Array.replicate (n-l.toArray.size) undef,defers:=[]}:=by
 have hn':l.length≤n:=by simpa using hn
 refine⟨by simp;omega,rfl,λt v h=>?_⟩;obtain⟨_,h2⟩:=Px l 0 t v h
 have hlt:t<l.length:=by
   rcases Nat.lt_or_ge t l.length with h|h
   · exact h
   · simp[List.getElem?_eq_none h] at h2
 simp[Array.getElem?_append,hlt] at h2 ⊢;simpa[hlt] using h2
theorem IV{f:FuncId}{fn:Func}{c:Code}{R:Value→World→Prop}{X:List PanicEntry→World→Prop}(hf:P.funcs[f]?=some fn)(hb:fn.body=some c)
   (hn:fn.ntmps=n) (hl:Nat.ble l.length n=true) (h:HH P n c (FR P fn R X) (Il l 0) [] w):BI P f l.toArray w R X:=by
 refine calls_of_wp hf hb ?_;rw[hn];refine wp_mono (h _ (JA hl)) λe a w' he=>?_
 cases e with
 |normal=>obtain⟨σ,ds,hs,hd,v,hv,hr⟩:=he;exact⟨by rw[hs.defs,hd],v,hv _ hs.val,.inl ⟨v,rfl,hr⟩⟩
 |ret=>obtain⟨σ,ds,hs,hd,v,hv,hr⟩:=he;exact⟨by rw[hs.defs,hd],v,hv _ hs.val,.inl ⟨v,rfl,hr⟩⟩
 |panic c=>obtain⟨σ,ds,hs,hd,hx⟩:=he;exact⟨by rw[hs.defs,hd],.inr ⟨c,rfl,hx⟩⟩
 |outgrown=>exact he.elim
 |exit i=>obtain⟨σ,ds,hs,hq⟩:=he;exact hq.elim
 |goto i=>obtain⟨σ,ds,hs,hq⟩:=he;exact hq.elim
theorem enter{f:FuncId}{fn:Func}{c:Code}{R:Value→World→Prop}(hf:P.funcs[f]?=some fn)(hb:fn.body=some c)
   (hn:fn.ntmps=n) (hl:Nat.ble l.length n=true) (h:HH P n c (FR P fn R λ_ _=>False) (Il l 0) [] w):Bq P f l.toArray w R :=
 Calls.mono (IV hf hb hn hl h) λ_ _ he=>he.elim id λ⟨_,_,h⟩=>h.elim
theorem G6{fn:Func}{R:Value→World→Prop}{X:List PanicEntry→World→Prop}{v:Value}(hv:UH P fn σ w v)(h:R v w):(FR P fn R X).q .normal σ [] w:=⟨rfl,v,hv,h⟩
theorem Bp{fn:Func}{R:Value→World→Prop}{X:List PanicEntry→World→Prop}{v:Value}(hv:UH P fn σ w v)(h:R v w):(FR P fn R X).q .ret σ [] w:=⟨rfl,v,hv,h⟩
def zI(tmps:Array Value):ResultVar→Sem Value
 |.tmp t=>pure (tmps.getD t undef)
 |.cell a t=>do loadVar t (← asAddr (tmps.getD a undef))
theorem Hy(fn:Func)(tmps:Array Value):results fn tmps=(do let vs ← fn.results.mapM (zI tmps);pure (if h:vs.size=1 then vs[0] else .tuple vs)):=by
 unfold results
 congr
def Rv(P:Program)(σ:Bf)(w:World)(r:ResultVar)(v:Value):Prop :=
 ∀tmps:Array Value,(∀t v,σ t=some v→tmps.getD t undef=v)→(zI tmps r).run P w=.ok v w
theorem Ah{t:Nat}{v:Value}(hv:σ t=some v):Rv P σ w (.tmp t) v:=λtmps ht=>by simp only[zI,ht t v hv];rfl
theorem DL{fn:Func}(h:fn.results=#[]):UH P fn σ w (.tuple #[]):=λtmps _=>results_none h tmps P w
theorem AE{fn:Func}{r:ResultVar}{v:Value}(h:fn.results=#[r])(hv:Rv P σ w r v):UH P fn σ w v:=λtmps ht=>by
 have h1:=hv tmps ht;rw[Hy,h,List.mapM_toArray];simp[h1]
theorem Cn{fn:Func}(h:fn.results=#[r1,r2])(h1:Rv P σ w r1 v1)(h2:Rv P σ w r2 v2):UH P fn σ w (.tuple #[v1,v2]):=λtmps ht=>by
 have g1:=h1 tmps ht;have g2:=h2 tmps ht;rw[Hy,h,List.mapM_toArray];simp[g1,g2]
theorem DP{fn:Func}(h:fn.results=#[r1,r2,r3])(h1:Rv P σ w r1 v1)(h2:Rv P σ w r2 v2)(h3:Rv P σ w r3 v3):UH P fn σ w (.tuple #[v1,v2,v3]):=λtmps ht=>by
 have g1:=h1 tmps ht;have g2:=h2 tmps ht;have g3:=h3 tmps ht;rw[Hy,h,List.mapM_toArray];simp[g1,g2,g3]
end
end Go.SW
namespace Go
open Go.RowKit
theorem aI{a b:Prop}(h:a)(k:b):a∧b:=⟨h,k⟩
@[reducible] def iV(n:Int):Value:=.int .i64 n
@[reducible] def pB(b:Nat):Value:=.pointer (some ⟨b,0,none⟩)
@[reducible] def zT:List Value:=[.int .i64 0,.int .i64 0,.string ⟨#[]⟩,.slice none 0 0]
@[reducible] def zN:List Value:=[.int .i64 0,.int .i64 0,.int .i64 0,.string ⟨#[]⟩,.int .i64 0,.slice none 0 0]
abbrev oA:=Option Addr
abbrev wO:=World
abbrev tI:=TypeId
abbrev lV:=List Value
theorem dT{p:Prop}{i:Decidable p}(h:decide p=true):p:=of_decide_eq_true h
theorem dF{p:Prop}{i:Decidable p}(h:decide p=false):¬p:=of_decide_eq_false h
end Go
namespace Go.Proofs
open Go.Shelf
def Tryz.lays137_ren:Go.Shelf.Ren:=⟨λ|137=>75|217=>101|266=>125|n=>n,λ|9=>9|5=>5|3=>3|n=>n,λ|n=>n⟩
theorem Tryz.lays137:Go.Proofs.Lays.n137 prog Tryz.lays137_ren:={
 mixed:=kR
 f137:=func75.trans (congrArg some kR)
 f217:=func101.trans (congrArg some kR)
 f266:=func125.trans (congrArg some kR)
 t3:=underlying3
 a3:=isAgg3
 z3:=sizeOf3
 v3:=zeroValue3
 t5:=underlying5
 a5:=isAgg5
 z5:=sizeOf5
 v5:=zeroValue5
 t9:=underlying9
 a9:=isAgg9
 z9:=sizeOf9
 v9:=zeroValue9}
def Tryz.lays144_ren:Go.Shelf.Ren:=⟨λ|144=>57|143=>86|219=>115|217=>101|225=>137|224=>138|267=>139|266=>125|314=>160|n=>n,λ|9=>9|4=>4|3=>3|5=>5|46=>208|146=>251|51=>221|n=>n,λ|1=>2|n=>n⟩
theorem Tryz.lays144:Go.Proofs.Lays.n144 prog Tryz.lays144_ren:={
 mixed:=kR
 f143:=func86.trans (congrArg some kR)
 f144:=func57.trans (congrArg some kR)
 f217:=func101.trans (congrArg some kR)
 f219:=func115.trans (congrArg some kR)
 f224:=func138.trans (congrArg some kR)
 f225:=func137.trans (congrArg some kR)
 f266:=func125.trans (congrArg some kR)
 f267:=func139.trans (congrArg some kR)
 f314:=func160.trans (congrArg some kR)
 t3:=underlying3
 a3:=isAgg3
 z3:=sizeOf3
 v3:=zeroValue3
 t4:=underlying4
 a4:=isAgg4
 z4:=sizeOf4
 v4:=zeroValue4
 t5:=underlying5
 a5:=isAgg5
 z5:=sizeOf5
 v5:=zeroValue5
 t9:=underlying9
 a9:=isAgg9
 z9:=sizeOf9
 v9:=zeroValue9
 t46:=underlying208
 a46:=isAgg208
 z46:=sizeOf208
 v46:=zeroValue208
 t51:=underlying221
 a51:=isAgg221
 z51:=sizeOf221
 v51:=zeroValue221
 t146:=underlying251
 a146:=isAgg251
 z146:=sizeOf251
 v146:=zeroValue251
 g1:=by kernel_rfl}
def Tryz.lays145_ren:Go.Shelf.Ren:=⟨λ|145=>128|220=>146|219=>115|217=>101|225=>137|224=>138|267=>139|266=>125|314=>160|n=>n,λ|9=>9|4=>4|59=>211|3=>3|5=>5|46=>208|146=>251|51=>221|n=>n,λ|1=>2|n=>n⟩
theorem Tryz.lays145:Go.Proofs.Lays.n145 prog Tryz.lays145_ren:={
 mixed:=kR
 f145:=func128.trans (congrArg some kR)
 f217:=func101.trans (congrArg some kR)
 f219:=func115.trans (congrArg some kR)
 f220:=func146.trans (congrArg some kR)
 f224:=func138.trans (congrArg some kR)
 f225:=func137.trans (congrArg some kR)
 f266:=func125.trans (congrArg some kR)
 f267:=func139.trans (congrArg some kR)
 f314:=func160.trans (congrArg some kR)
 t3:=underlying3
 a3:=isAgg3
 z3:=sizeOf3
 v3:=zeroValue3
 t4:=underlying4
 a4:=isAgg4
 z4:=sizeOf4
 v4:=zeroValue4
 t5:=underlying5
 a5:=isAgg5
 z5:=sizeOf5
 v5:=zeroValue5
 t9:=underlying9
 a9:=isAgg9
 z9:=sizeOf9
 v9:=zeroValue9
 t46:=underlying208
 a46:=isAgg208
 z46:=sizeOf208
 v46:=zeroValue208
 t51:=underlying221
 a51:=isAgg221
 z51:=sizeOf221
 v51:=zeroValue221
 t59:=underlying211
 a59:=isAgg211
 z59:=sizeOf211
 v59:=zeroValue211
 t146:=underlying251
 a146:=isAgg251
 z146:=sizeOf251
 v146:=zeroValue251
 g1:=by kernel_rfl}
def Tryz.lays101_ren:Go.Shelf.Ren:=⟨λ|101=>106|208=>131|206=>150|n=>n,λ|9=>9|4=>4|3=>3|n=>n,λ|n=>n⟩
theorem Tryz.lays101:Go.Proofs.Lays.n101 prog Tryz.lays101_ren:={
 mixed:=kR
 f101:=func106.trans (congrArg some kR)
 f206:=func150.trans (congrArg some kR)
 f208:=func131.trans (congrArg some kR)
 t3:=underlying3
 a3:=isAgg3
 z3:=sizeOf3
 v3:=zeroValue3
 t4:=underlying4
 a4:=isAgg4
 z4:=sizeOf4
 v4:=zeroValue4
 t9:=underlying9
 a9:=isAgg9
 z9:=sizeOf9
 v9:=zeroValue9}
def Tryz.lays160_ren:Go.Shelf.Ren:=⟨λ|160=>132|232=>152|231=>151|227=>153|234=>155|233=>154|236=>157|235=>156|228=>171|271=>174|151=>173|197=>172|120=>188|152=>187|260=>186|137=>75|119=>204|224=>138|225=>137|217=>101|266=>125|n=>n,λ|9=>9|4=>4|3=>3|5=>5|117=>236|116=>235|0=>0|124=>239|21=>21|105=>267|46=>208|119=>196|139=>317|138=>316|n=>n,λ|3=>10|4=>11|n=>n⟩
theorem Tryz.lays160:Go.Proofs.Lays.n160 prog Tryz.lays160_ren:={
 mixed:=kR
 f119:=func204.trans (congrArg some kR)
 f120:=func188.trans (congrArg some kR)
 f137:=func75.trans (congrArg some kR)
 f151:=func173.trans (congrArg some kR)
 f152:=func187.trans (congrArg some kR)
 f160:=func132.trans (congrArg some kR)
 f197:=func172.trans (congrArg some kR)
 f217:=func101.trans (congrArg some kR)
 f224:=func138.trans (congrArg some kR)
 f225:=func137.trans (congrArg some kR)
 f227:=func153.trans (congrArg some kR)
 f228:=func171.trans (congrArg some kR)
 f231:=func151.trans (congrArg some kR)
 f232:=func152.trans (congrArg some kR)
 f233:=func154.trans (congrArg some kR)
 f234:=func155.trans (congrArg some kR)
 f235:=func156.trans (congrArg some kR)
 f236:=func157.trans (congrArg some kR)
 f260:=func186.trans (congrArg some kR)
 f266:=func125.trans (congrArg some kR)
 f271:=func174.trans (congrArg some kR)
 t0:=underlying0
 a0:=isAgg0
 z0:=sizeOf0
 v0:=zeroValue0
 t3:=underlying3
 a3:=isAgg3
 z3:=sizeOf3
 v3:=zeroValue3
 t4:=underlying4
 a4:=isAgg4
 z4:=sizeOf4
 v4:=zeroValue4
 t5:=underlying5
 a5:=isAgg5
 z5:=sizeOf5
 v5:=zeroValue5
 t9:=underlying9
 a9:=isAgg9
 z9:=sizeOf9
 v9:=zeroValue9
 t21:=underlying21
 a21:=isAgg21
 z21:=sizeOf21
 v21:=zeroValue21
 t46:=underlying208
 a46:=isAgg208
 z46:=sizeOf208
 v46:=zeroValue208
 t105:=underlying267
 a105:=isAgg267
 z105:=sizeOf267
 v105:=zeroValue267
 t116:=underlying235
 a116:=isAgg235
 z116:=sizeOf235
 t117:=underlying236
 a117:=isAgg236
 z117:=sizeOf236
 v117:=zeroValue236
 t119:=underlying196
 a119:=isAgg196
 z119:=sizeOf196
 t124:=underlying239
 a124:=isAgg239
 z124:=sizeOf239
 v124:=zeroValue239
 t138:=underlying316
 a138:=isAgg316
 z138:=sizeOf316
 v138:=zeroValue316
 t139:=underlying317
 a139:=isAgg317
 z139:=sizeOf317
 v139:=zeroValue317
 g3:=kR
 g4:=by kernel_rfl}
def Tryz.lays245_ren:Go.Shelf.Ren:=⟨λ|245=>145|279=>166|280=>167|281=>168|282=>169|316=>182|171=>95|205=>183|243=>120|246=>141|283=>161|284=>162|285=>163|286=>164|129=>176|317=>175|318=>177|319=>178|320=>179|337=>189|338=>190|n=>n,λ|9=>9|3=>3|75=>184|167=>258|4=>4|168=>261|210=>280|37=>44|0=>0|127=>207|145=>290|143=>288|2=>2|171=>253|53=>43|5=>5|173=>256|212=>273|51=>221|20=>20|213=>274|46=>208|232=>318|233=>319|80=>187|n=>n,λ|15=>5|16=>6|17=>4|18=>12|19=>13|n=>n⟩
theorem Tryz.lays245:Go.Proofs.LaysC.n245 prog Tryz.lays245_ren:={
 mixed:=kR
 f129:=func176.trans (congrArg some kR)
 f171:=func95.trans (congrArg some kR)
 f205:=func183.trans (congrArg some kR)
 f243:=func120.trans (congrArg some kR)
 f245:=func145.trans (congrArg some kR)
 f246:=func141.trans (congrArg some kR)
 f279:=func166.trans (congrArg some kR)
 f280:=func167.trans (congrArg some kR)
 f281:=func168.trans (congrArg some kR)
 f282:=func169.trans (congrArg some kR)
 f283:=func161.trans (congrArg some kR)
 f284:=func162.trans (congrArg some kR)
 f285:=func163.trans (congrArg some kR)
 f286:=func164.trans (congrArg some kR)
 f316:=func182.trans (congrArg some kR)
 f317:=func175.trans (congrArg some kR)
 f318:=func177.trans (congrArg some kR)
 f319:=func178.trans (congrArg some kR)
 f320:=func179.trans (congrArg some kR)
 f337:=func189.trans (congrArg some kR)
 f338:=func190.trans (congrArg some kR)
 t0:=underlying0
 a0:=isAgg0
 z0:=sizeOf0
 v0:=zeroValue0
 t2:=underlying2
 a2:=isAgg2
 z2:=sizeOf2
 v2:=zeroValue2
 t3:=underlying3
 a3:=isAgg3
 z3:=sizeOf3
 v3:=zeroValue3
 t4:=underlying4
 a4:=isAgg4
 z4:=sizeOf4
 v4:=zeroValue4
 t5:=underlying5
 a5:=isAgg5
 z5:=sizeOf5
 v5:=zeroValue5
 t9:=underlying9
 a9:=isAgg9
 z9:=sizeOf9
 v9:=zeroValue9
 t20:=underlying20
 a20:=isAgg20
 z20:=sizeOf20
 v20:=zeroValue20
 t37:=underlying44
 a37:=isAgg44
 z37:=sizeOf44
 v37:=zeroValue44
 t46:=underlying208
 a46:=isAgg208
 z46:=sizeOf208
 v46:=zeroValue208
 t51:=underlying221
 a51:=isAgg221
 z51:=sizeOf221
 v51:=zeroValue221
 t53:=underlying43
 a53:=isAgg43
 z53:=sizeOf43
 v53:=zeroValue43
 t75:=underlying184
 a75:=isAgg184
 z75:=sizeOf184
 v75:=zeroValue184
 t127:=underlying207
 a127:=isAgg207
 z127:=sizeOf207
 v127:=zeroValue207
 t143:=underlying288
 a143:=isAgg288
 z143:=sizeOf288
 v143:=zeroValue288
 t145:=underlying290
 a145:=isAgg290
 z145:=sizeOf290
 v145:=zeroValue290
 t167:=underlying258
 a167:=isAgg258
 z167:=sizeOf258
 v167:=zeroValue258
 t168:=underlying261
 a168:=isAgg261
 z168:=sizeOf261
 v168:=zeroValue261
 t171:=underlying253
 a171:=isAgg253
 z171:=sizeOf253
 v171:=zeroValue253
 t173:=underlying256
 a173:=isAgg256
 z173:=sizeOf256
 v173:=zeroValue256
 t210:=underlying280
 a210:=isAgg280
 z210:=sizeOf280
 v210:=zeroValue280
 t212:=underlying273
 a212:=isAgg273
 z212:=sizeOf273
 v212:=zeroValue273
 t213:=underlying274
 a213:=isAgg274
 z213:=sizeOf274
 t232:=underlying318
 a232:=isAgg318
 z232:=sizeOf318
 v232:=zeroValue318
 t233:=underlying319
 a233:=isAgg319
 z233:=sizeOf319
 v233:=zeroValue319
 g15:=kR
 g16:=kR
 g17:=kR
 g18:=kR
 g19:=kR
 t80:=underlying187
 a80:=isAgg187
 z80:=sizeOf187
 v80:=zeroValue187
 i0:=kR
 i2:=kR
 i3:=kR
 i4:=kR
 i5:=kR
 i9:=kR
 i20:=kR
 i37:=kR
 i46:=kR
 i51:=kR
 i53:=kR
 i75:=kR
 i80:=kR
 i127:=kR
 i143:=kR
 i145:=kR
 i167:=kR
 i168:=kR
 i171:=kR
 i173:=kR
 i210:=kR
 i212:=kR
 i232:=kR
 i233:=kR
 m15:=kR
 m16:=kR
 m17:=kR
 m18:=kR
 m19:=kR
 c0:=kR
 c2:=kR
 c3:=kR
 c4:=kR
 c5:=kR
 c9:=kR
 c20:=kR
 c37:=kR
 c46:=kR
 c51:=kR
 c53:=kR
 c75:=kR
 c80:=kR
 c127:=kR
 c143:=kR
 c145:=kR
 c167:=kR
 c168:=kR
 c171:=kR
 c173:=kR
 c210:=kR
 c212:=kR
 c213:=kR
 c232:=kR
 c233:=by kernel_rfl}
end Go.Proofs
namespace Go.SW
open Go.RowKit
abbrev S(l:lU):Value:=.string ⟨l.toArray⟩
theorem PK(l:lU):(⟨l.toArray⟩:ByteArray).toList=l:=by
 rw[ByteArray.toList_eq]
theorem FE{b:Bool}(h:(!b)=true):b=false:=by simpa using h
theorem FO{b:Bool}(h:(!b)=false):b=true:=by simpa using h
section
variable{P:Program}{σ:Bf}{w:wO}{ty:tI}{x y c:Operand}
theorem Az{v:Value}(h:ev σ x=some v):AK P σ (.move x) ty w v w:=λD _ _ _ _ d=>by simp[execOp,d _ _ h]
theorem De{v:Value}(h:ev σ x=some v):AK P σ (.assign x) ty w v w:=λD _ _ _ _ d=>by simp[execOp,d _ _ h]
theorem ON{v:Value}{b:Bool}(D:ev σ c=some (.bool b))(F:b=true)(h:ev σ x=some v):AK P σ (.pick c x y) ty w v w:=λG _ _ _ _ d=>by
 simp[execOp,d _ _ D,d _ _ h,asBool,F]
theorem N3{v:Value}{b:Bool}(D:ev σ c=some (.bool b))(F:b=false)(h:ev σ y=some v):AK P σ (.pick c x y) ty w v w:=λG _ _ _ _ d=>by
 simp[execOp,d _ _ D,d _ _ h,asBool,F]
variable {t t':tI}
theorem UM{b:Bool}(h:ev σ x=some (.bool b)):AK P σ (.unOp .not t x) ty w (.bool (!b)) w:=λD _ _ _ _ d=>by
 simp[execOp,d _ _ h,Op.unary]
theorem rW{k:IntKind}{a b:Int}(h:ev σ x=some (.int k a))(D:ev σ y=some (.int k b)):AK P σ (.binOp .eql t x y t') ty w (.bool (a==b)) w :=
 λF _ _ _ _ d=>by simp[execOp,d _ _ h,d _ _ D,eqGuard,binOp,Op.intCmp]
theorem fA{k:IntKind}{a b:Int}(h:ev σ x=some (.int k a))(D:ev σ y=some (.int k b)):AK P σ (.binOp .neq t x y t') ty w (.bool (a != b)) w :=
 λF _ _ _ _ d=>by simp[execOp,d _ _ h,d _ _ D,eqGuard,binOp,Op.intCmp]
theorem VG{k:IntKind}{a b:Int}(h:ev σ x=some (.int k a))(D:ev σ y=some (.int k b)):AK P σ (.binOp .lss t x y t') ty w (.bool (decide (a<b))) w :=
 λF _ _ _ _ d=>by simp[execOp,d _ _ h,d _ _ D,eqGuard,binOp,Op.intCmp]
theorem aU{k:IntKind}{a b:Int}(h:ev σ x=some (.int k a))(D:ev σ y=some (.int k b)):AK P σ (.binOp .leq t x y t') ty w (.bool (decide (a≤b))) w :=
 λF _ _ _ _ d=>by simp[execOp,d _ _ h,d _ _ D,eqGuard,binOp,Op.intCmp]
theorem aG{k:IntKind}{a b:Int}(h:ev σ x=some (.int k a))(D:ev σ y=some (.int k b)):AK P σ (.binOp .gtr t x y t') ty w (.bool (decide (b<a))) w :=
 λF _ _ _ _ d=>by simp[execOp,d _ _ h,d _ _ D,eqGuard,binOp,Op.intCmp]
theorem gK{k:IntKind}{a b:Int}(h:ev σ x=some (.int k a))(D:ev σ y=some (.int k b)):AK P σ (.binOp .geq t x y t') ty w (.bool (decide (b≤a))) w :=
 λF _ _ _ _ d=>by simp[execOp,d _ _ h,d _ _ D,eqGuard,binOp,Op.intCmp]
def QN(n:Int):Prop := -9223372036854775808≤n∧n≤9223372036854775807
theorem Nb{n:Int}(h:QN n):IntKind.i64.wrap n=n:=IntWalk.i64_in _ ⟨h.1,by have:=h.2;omega⟩
theorem Oj{a b:Int}(D:ev σ x=some (.int .i64 a))(F:ev σ y=some (.int .i64 b))(h:QN (a+b)):AK P σ (.binOp .add t x y t') ty w (.int .i64 (a+b)) w :=
 λG _ _ _ _ d=>by simp[execOp,d _ _ D,d _ _ F,eqGuard,binOp,Op.intArith,Nb h]
theorem Hp{a b:Int}(D:ev σ x=some (.int .i64 a))(F:ev σ y=some (.int .i64 b))(h:QN (a-b)):AK P σ (.binOp .sub t x y t') ty w (.int .i64 (a-b)) w :=
 λG _ _ _ _ d=>by simp[execOp,d _ _ D,d _ _ F,eqGuard,binOp,Op.intArith,Nb h]
theorem rX{a b:lU}(h:ev σ x=some (S a))(D:ev σ y=some (S b)):AK P σ (.binOp .eql t x y t') ty w (.bool (a==b)) w :=
 λF _ _ _ _ d=>by simp[execOp,d _ _ h,d _ _ D,eqGuard,binOp,Op.stringOp]
theorem tU{a b:lU}(h:ev σ x=some (S a))(D:ev σ y=some (S b)):AK P σ (.binOp .neq t x y t') ty w (.bool (!(a==b))) w :=
 λF _ _ _ _ d=>by simp[execOp,d _ _ h,d _ _ D,eqGuard,binOp,Op.stringOp]
theorem JY{a b:lU}(D:ev σ x=some (S a))(F:ev σ y=some (S b))(h:a.length+b.length≤9223372036854775807) :
   AK P σ (.binOp .add t x y t') ty w (S (a++b)) w:=λK _ _ _ _ d=>by
 have G:¬(((⟨a.toArray⟩:ByteArray).size+(⟨b.toArray⟩:ByteArray).size:Nat):Int)>IntKind.i64.max:=by
   have hm:IntKind.i64.max=9223372036854775807:=dC;rw[hm];simp[ByteArray.size];omega
 have J:((⟨a.toArray⟩:ByteArray)++⟨b.toArray⟩)=⟨(a++b).toArray⟩:=by
   apply ByteArray.ext;simp
 simp only[execOp,d _ _ D,d _ _ F,eqGuard,binOp,Op.stringOp,G,J];simp
end
def AP(P:Program)(T:tI):Option (Bool×Nat) :=
 match P.underlying T,P.info? T with
 |some d,some i=>some (match d with|.struct _|.array _ _=>true|_=>false,i.size)
 |_,_=>none
def FA(P:Program)(T:tI)(i:Nat):Option Nat :=
 match P.underlying T with
 |some (.struct fs)=>match fs[i]? with
   |some f=>match P.info? f.type with
     |some j=>if j.size=0 then none else some f.offset
     |none=>none
   |none=>none
 |_=>none
def Je(P:Program)(T:tI):Option (tI×Nat) :=
 match P.underlying T with
 |some (.slice e)=>(P.info? e).map λj=>(e,j.size)
 |_=>none
def HG(P:Program)(T:tI):Option lV:=match P.info? T with|some i=>i.zero.map λv=>v.cells.toList|none=>none
def AM(w:wO)(b:Nat)(l:lV)(T:tI):Prop:=w.heap[b]?=some (.cells l.toArray T (0,0))
abbrev AU(w w':wO):Prop:=Below w.heap.size w w'
structure GG(b:Nat)(w w':wO):Prop where
 os:w'.os=w.os
 tape:w'.tape=w.tape
 output:w'.output=w.output
 size:w'.heap.size=w.heap.size
 block:∀k,k≠b→w'.heap[k]?=w.heap[k]?
theorem AU.refl(w:wO):AU w w:=Below.refl _ _
variable {kk:IntKind}{pl:List (Nat×Nat)}{parts:List (Nat×Operand)}{vs z:lV}{i n o:Nat}{hi lo:Operand}{ρ:Operand→Value}{a:oA}{e:tI}{w' w1 w2:wO}
theorem AU.trans{w:wO}(h:AU w w1)(d:AU w1 w2):AU w w2:=Below.trans h (d.mono h.size)
theorem AU.drew{w:wO}:AU w w.drew:=Below.drew (Below.refl _ _)
theorem AM.lt{w:wO}{b:Nat}{l:lV}{T:tI}(h:AM w b l T):b<w.heap.size:=by
 rcases Nat.lt_or_ge b w.heap.size with d | d
 · exact d
 · unfold AM at h;rw[Array.getElem?_eq_none d] at h;cases h
theorem AM.ext{w:wO}{b:Nat}{l:lV}{T:tI}(h:AM w b l T)(he:AU w w'):AM w' b l T:=(he.block b h.lt).trans h
theorem AM.chg{w:wO}{b c:Nat}{l:lV}{T:tI}(h:AM w b l T)(he:GG c w w')(d:b≠c):AM w' b l T:=(he.block b d).trans h
theorem AU.chg{w:wO}{b:Nat}(h:AU w w1)(d:GG b w1 w2)(F:w.heap.size≤b):AU w w2 :=
 ⟨d.os.trans h.os,d.tape.trans h.tape,d.output.trans h.output,by rw[d.size];exact h.size,λk D=>(d.block k oM).trans (h.block k D)⟩
theorem AM.cell{w:wO}{b:Nat}{l:lV}{T:tI}(h:AM w b l T)(o:Nat):w.cell? ⟨b,o,none⟩=l[o]?:=by
 unfold AM at h;simp[World.cell?,h]
section
variable{P:Program}{w:wO}
theorem Fc{T:tI}{a:Bool}(h:AP P T=some (a,n)):(isAgg T).run P w=.ok a w:=by
 unfold AP at h
 cases hu:P.underlying T with
 |none=>rw[hu] at h;cases h
 |some d =>
   cases hi:P.info? T with
   |none=>rw[hu,hi] at h;cases h
   |some i =>
     rw[hu,hi] at h
     cases d <;> simp_all [isAgg,run_underlying hu]
theorem IP{T:tI}{a:Bool}(h:AP P T=some (a,n)):(sizeOf T).run P w=.ok n w:=by
 unfold AP at h
 cases hu:P.underlying T with
 |none=>rw[hu] at h;cases h
 |some d =>
   cases hi:P.info? T with
   |none=>rw[hu,hi] at h;cases h
   |some i =>
     rw[hu,hi] at h;have D:i.size=n:=by injection h with h;exact (Prod.mk.inj h).2
     simp[sizeOf,typeInfo,hi,D]
def SL:Nat→lV→Option lV
 |0,_=>some []
 |_+1,[]=>none
 |k+1,v::l=>match SL k l with
   |some r=>some (v::r)
   |none=>none
def Vz:lV→Nat→Nat→Option lV
 |l,0,k=>SL k l
 | [],_+1,_=>none
 |_::l,o+1,k=>Vz l o k
theorem NJ:∀{k:Nat}{l vs:lV},SL k l=some vs→l.take k=vs∧vs.length=k
 |0,_,_,h=>by injection h with h;subst h;simp
 |_+1,[],_,h=>by cases h
 |k+1,v::l,vs,h=>by
   unfold SL at h
   cases d:SL k l with
   |none=>rw[d] at h;cases h
   |some r =>
     rw[d] at h;injection h with h
     subst h;have:=NJ d;simp[this.1,this.2]
theorem L7:∀{l:lV}{o k:Nat}{vs:lV},Vz l o k=some vs→(l.drop o).take k=vs∧vs.length=k
 |l,0,k,vs,h=>by unfold Vz at h;simpa using NJ h
 | [],_+1,_,_,h=>by cases h
 |_::l,o+1,k,vs,h=>by unfold Vz at h;simpa using L7 (l:=l) h
def Ia:Value→Option lV
 |.agg ⟨l⟩=>some l
 |v=>some [v]
theorem EH(b o k:Nat):(⟨b,o,none⟩:Addr).add k=⟨b,o+k,none⟩:=by unfold Addr.add;split <;> simp_all
variable{σ:Bf}{ty T T':tI}{x y:Operand}{b off k:Nat}{l:lV}
theorem Ai{v:Value}(h:ev σ x=some (.pointer (some ⟨b,off,none⟩)))(D:AP P T=some (false,k))(F:AM w b l T')(G:l[off]?=some v) :
   AK P σ (.load T x) ty w v w:=λρ _ _ _ _ d=>by
 have J:w.cell? ⟨b,off,none⟩=some v:=by rw[F.cell,G]
 simp[execOp,d _ _ h,Instr.loadAt,Instr.sureAddr,loadVar,Fc D,run_load,J]
theorem Di(O:ev σ x=some (.pointer (some ⟨b,off,none⟩)))(K:AP P T=some (true,k))(Q:AM w b l T')(D:Vz l off k=some vs) :
   AK P σ (.load T x) ty w (.agg vs.toArray) w:=λρ _ _ _ _ F=>by
 obtain⟨U,G⟩:=L7 D
 have L:=run_loadCells_list (P:=P) w ⟨b,off,none⟩ vs (λj v d=>by
   rw[EH,Q.cell];rw[← U] at d
   have J:j<k:=by
     rcases Nat.lt_or_ge j k with h|h
     · exact h
     · rw[List.getElem?_take,if_neg (by omega)] at d;cases d
   rwa[List.getElem?_take,if_pos J,List.getElem?_drop] at d)
 rw[G] at L;simp[execOp,F _ _ O,Instr.loadAt,Instr.sureAddr,loadVar,Fc K,IP K,L]
theorem BF(F:ev σ x=some (.pointer (some ⟨b,off,none⟩)))(d:FA P T i=some o):AK P σ (.fieldAddr T x i) ty w (.pointer (some ⟨b,off+o,none⟩)) w:=λρ _ _ _ _ h=>by
 unfold FA at d
 split at d
 · rename_i fs hu
   split at d
   · rename_i f D
     split at d
     · rename_i j G
       split at d
       · cases d
       · rename_i hz
         injection d with d
         subst d;simp[execOp,h _ _ F,Instr.fieldAt,run_underlying hu,D,Instr.sureAddr,fieldPlace,sizeOf,typeInfo,G,hz,EH]
     · cases d
   · cases d
 · cases d
theorem H8(h:Je P T=some (e,k)):∃i,P.underlying T=some (.slice e)∧P.info? e=some i∧i.size=k:=by
 unfold Je at h
 split at h
 · rename_i D hu
   cases d:P.info? D with
   |none=>rw[d] at h;cases h
   |some j =>
     rw[d] at h;simp at h;obtain⟨rfl,F⟩:=h;exact⟨j,hu,d,F⟩
 · cases h
theorem OE{i:Int}{len cap:Nat}(h:ev σ x=some (.slice (some ⟨b,off,none⟩) len cap))(D:ev σ y=some (.int kk i))(F:Je P T=some (e,k))
   (hi:0≤i∧i<len):AK P σ (.indexAddr T x y) ty w (.pointer (some ⟨b,off+i.toNat*k,none⟩)) w:=λρ _ _ _ _ d=>by
 obtain⟨j,hu,G,rfl⟩:=H8 F;simp[execOp,d _ _ h,d _ _ D,Instr.indexAt,asIntOf,run_underlying hu,hi,sizeOf,typeInfo,G,EH]
theorem KL{len cap:Nat}(d:ev σ x=some (.slice (some ⟨b,off,none⟩) len cap))(h:ev σ y=some (.int kk (i:Int)))(D:Je P T=some (e,k))
   (hi:i<len):AK P σ (.indexAddr T x y) ty w (.pointer (some ⟨b,off+i*k,none⟩)) w:=by
 have:=OE (w:=w) (ty:=ty) d h D ⟨oM,oM⟩;simpa using this
theorem Vd{v:Value}(h:ev σ x=some (.tuple vs.toArray))(D:vs[i]?=some v):AK P σ (.extract x i) ty w v w:=λρ _ _ _ _ d=>by
 simp[execOp,d _ _ h,Instr.extract,D]
def Jd(σ:Bf):List Operand→Option lV
 | []=>some []
 |x::l=>match ev σ x,Jd σ l with
   |some v,some vs=>some (v::vs)
   |_,_=>none
theorem EN(d:∀x v,ev σ x=some v→ρ x=v):∀{l:List Operand}{vs:lV},Jd σ l=some vs→l.map ρ=vs
 | [],_,h=>by injection h with h
 |x::l,vs,h=>by
   unfold Jd at h
   cases D:ev σ x with
   |none=>rw[D] at h;cases h
   |some v =>
     cases F:Jd σ l with
     |none=>rw[D,F] at h;cases h
     |some us =>
       rw[D,F] at h;injection h with h
       subst h;simp[d x v D,EN d F]
theorem Mw{cap:Nat}(h:ev σ x=some (.slice a n cap))(D:Je P T=some (e,k)) :
   AK P σ (.call {callee:=.builtin .len,args:=#[x],argTypes:=#[T]}) ty w (.int .i64 n) w:=λρ _ _ _ _ d=>by
 obtain⟨j,hu,F,rfl⟩:=H8 D;simp[execOp,resolve,invoke,builtin,d _ _ h,Builtin.len_,run_underlying hu,goInt]
theorem Ni{s:lU}(D:ev σ x=some (S s))(F:P.underlying T=some .string) :
   AK P σ (.call {callee:=.builtin .len,args:=#[x],argTypes:=#[T]}) ty w (.int .i64 s.length) w:=λρ _ _ _ _ d=>by
 have h:(⟨s.toArray⟩:ByteArray).size=s.length:=by simp[ByteArray.size]
 simp[execOp,resolve,invoke,builtin,d _ _ D,Builtin.len_,run_underlying F,goInt,h]
theorem D2{s:lU}{i:Int}{c:UInt8}(G:ev σ x=some (S s))(J:ev σ y=some (.int kk i))(K:P.underlying T=some .string)(L:0≤i)
   (F:s[i.toNat]?=some c):AK P σ (.index T x y) ty w (.int .u8 c.toNat) w:=λρ _ _ _ _ d=>by
 have D:i.toNat<s.length:=by
   rcases Nat.lt_or_ge i.toNat s.length with h|h
   · exact h
   · rw[List.getElem?_eq_none h] at F;cases F
 have O:(⟨s.toArray⟩:ByteArray)[i.toNat]?=some c:=by
   have Q:i.toNat<(⟨s.toArray⟩:ByteArray).size:=by simpa[ByteArray.size] using D
   rw[getElem?_pos (⟨s.toArray⟩:ByteArray) i.toNat Q];rw[List.getElem?_eq_getElem D] at F;exact F
 simp[execOp,d _ _ G,d _ _ J,Instr.index,asIntOf,run_underlying K,L,O]
theorem KI(s:lU)(i j:Nat):(⟨s.toArray⟩:ByteArray).extract i j=⟨((s.take j).drop i).toArray⟩:=by
 apply ByteArray.ext;simp[ByteArray.data_extract,List.extract_eq_take_drop,List.drop_take]
theorem M0{s:lU}{k1 k2:IntKind}{i j:Int}(J:ev σ x=some (S s))(D:ev σ lo=some (.int k1 i))(F:ev σ hi=some (.int k2 j))(K:P.underlying T=some .string)
   (h:0≤i∧i≤j∧j≤s.length):AK P σ (.slice T x (some lo) (some hi) none) ty w (S ((s.take j.toNat).drop i.toNat)) w:=λρ _ _ _ _ d=>by
 have G:(⟨s.toArray⟩:ByteArray).size=s.length:=by simp[ByteArray.size]
 have L:0≤j:=oM;simp[execOp,d _ _ J,d _ _ D,d _ _ F,Instr.sliceAt,Instr.slice,Instr.sliceBounds,Instr.sliceBound,asIntOf,run_underlying K,G,h,L,KI];intro hm;omega
theorem U5{s:lU}{k1:IntKind}{i:Int}(G:ev σ x=some (S s))(D:ev σ lo=some (.int k1 i))(J:P.underlying T=some .string)
   (h:0≤i∧i≤s.length):AK P σ (.slice T x (some lo) none none) ty w (S (s.drop i.toNat)) w:=λρ _ _ _ _ d=>by
 have F:(⟨s.toArray⟩:ByteArray).size=s.length:=by simp[ByteArray.size]
 simp[execOp,d _ _ G,d _ _ D,Instr.sliceAt,Instr.slice,Instr.sliceBounds,Instr.sliceBound,asIntOf,run_underlying J,F,h,KI]
theorem Ip{s:lU}{k1:IntKind}{j:Int}(G:ev σ x=some (S s))(D:ev σ hi=some (.int k1 j))(J:P.underlying T=some .string)
   (h:0≤j∧j≤s.length):AK P σ (.slice T x none (some hi) none) ty w (S (s.take j.toNat)) w:=λρ _ _ _ _ d=>by
 have F:(⟨s.toArray⟩:ByteArray).size=s.length:=by simp[ByteArray.size]
 simp[execOp,d _ _ G,d _ _ D,Instr.sliceAt,Instr.slice,Instr.sliceBounds,Instr.sliceBound,asIntOf,run_underlying J,F,h,KI]
theorem Mi{k1:IntKind}{len cap:Nat}(F:ev σ x=some (.slice a len cap))(D:ev σ lo=some (.int k1 (i:Int)))
   (G:Je P T=some (e,k)) (h:i≤len):AK P σ (.slice T x (some lo) none none) ty w (.slice (if cap=i then a else a.map (·.add (i*k))) (len-i) (cap-i)) w:=λρ _ _ _ _ d=>by
 obtain⟨j,hu,J,rfl⟩:=H8 G;simp[execOp,d _ _ F,d _ _ D,Instr.sliceAt,Instr.slice,Instr.sliceBounds,Instr.sliceBound,asIntOf,run_underlying hu,sizeOf,typeInfo,J];intro hm;omega
theorem WT{k1:IntKind}{len cap:Nat}(F:ev σ x=some (.slice a len cap))(D:ev σ hi=some (.int k1 (i:Int)))
   (G:Je P T=some (e,k)) (h:i≤cap):AK P σ (.slice T x none (some hi) none) ty w (.slice a i cap) w:=λρ _ _ _ _ d=>by
 obtain⟨j,hu,J,rfl⟩:=H8 G;simp[execOp,d _ _ F,d _ _ D,Instr.sliceAt,Instr.slice,Instr.sliceBounds,Instr.sliceBound,asIntOf,run_underlying hu,sizeOf,typeInfo,J]
 cases a <;> (simp[Addr.add];intro hm;omega)
def No(P:Program)(T:tI):Option (List (Nat×Nat)) :=
 match P.underlying T with
 |some (.struct fs)=>fs.toList.mapM λf=>(P.info? f.type).map λj=>(f.offset,j.size)
 |_=>none
def GY(σ:Bf):List (Nat×Operand)→Option (List (Nat×Value))
 | []=>some []
 |(i,x)::l=>match ev σ x,GY σ l with
   |some v,some vs=>some ((i,v)::vs)
   |_,_=>none
theorem Jc(d:∀x v,ev σ x=some v→ρ x=v):∀{l:List (Nat×Operand)}{vs:List (Nat×Value)},GY σ l=some vs→(l.map λp=>(p.1,ρ p.2))=vs
 | [],_,h=>by injection h with h
 |(i,x)::l,vs,h=>by
   unfold GY at h
   cases D:ev σ x with
   |none=>rw[D] at h;cases h
   |some v =>
     cases F:GY σ l with
     |none=>rw[D,F] at h;cases h
     |some us =>
       rw[D,F] at h;injection h with h
       subst h;simp[d x v D,Jc d F]
def Mv:Value→lV
 |.agg cs=>cs.toList
 |v=>[v]
theorem Iq(v:Value):v.cells=(Mv v).toArray:=by cases v <;> simp[Value.cells,Mv]
theorem GZ{v:Value}{l:lV}(h:Ia v=some l):Mv v=l:=by
 cases v with
 |agg cs=>exact Option.some.inj h
 |_=>exact Option.some.inj h
def Et:lV→Nat→lV→lV
 |cs,_,[]=>cs
 |cs,o,c::l=>Et (cs.set o c) (o+1) l
def Qk:lV→lV→Option lV
 |cs,[]=>some cs
 | [],_::_=>none
 |_::cs,v::vs=>match Qk cs vs with
   |some r=>some (v::r)
   |none=>none
def P5:lV→Nat→lV→Option lV
 |cs,0,vs=>Qk cs vs
 | [],_+1,_=>none
 |c::cs,o+1,vs=>match P5 cs o vs with
   |some r=>some (c::r)
   |none=>none
theorem Mz(c:Value):∀(vs cs:lV)(o:Nat),Et (c::cs) (o+1) vs=c::Et cs o vs
 | [],_,_=>rfl
 |v::vs,cs,o=>by rw[Et,Et,List.set_cons_succ,Mz c vs]
theorem S6:∀{cs vs r:lV},Qk cs vs=some r→Et cs 0 vs=r∧vs.length≤cs.length
 |cs,[],_,h=>by unfold Qk at h;injection h with h;subst h;simp[Et]
 | [],_::_,_,h=>by cases h
 |c::cs,v::vs,_,h=>by
   unfold Qk at h
   cases d:Qk cs vs with
   |none=>rw[d] at h;cases h
   |some r =>
     rw[d] at h;injection h with h
     subst h;have:=S6 d;rw[Et,List.set_cons_zero,Mz,this.1];exact⟨C,by simpa using this.2⟩
theorem Sh:∀{cs:lV}{o:Nat}{vs r:lV},P5 cs o vs=some r→Et cs o vs=r∧o+vs.length≤cs.length
 |cs,0,vs,r,h=>by unfold P5 at h;simpa using S6 h
 | [],_+1,_,_,h=>by cases h
 |c::cs,o+1,vs,_,h=>by
   unfold P5 at h
   cases d:P5 cs o vs with
   |none=>rw[d] at h;cases h
   |some r =>
     rw[d] at h;injection h with h
     subst h;have:=Sh d;rw[Mz,this.1];refine⟨C,?_⟩;have D:=this.2;simp only[List.length_cons];omega
def K0(pl:List (Nat×Nat)):lV→List (Nat×Value)→Option lV
 |cs,[]=>some cs
 |cs,(i,v)::rest=>match pl[i]?,Ia v with
   |some (off,size),some vs=>if Nat.beq vs.length size then (match P5 cs off vs with|some d=>K0 pl d rest|none=>none) else none
   |_,_=>none
theorem Gw:∀(vs cs:lV)(o:Nat),(Et cs o vs).length=cs.length
 | [],_,_=>rfl
 |v::vs,cs,o=>by rw[Et,Gw vs];simp
theorem PO:∀(vs:lV)(j o:Nat)(cs:lV),(vs.zipIdx j).foldl (λ(cs:Array Value)(p:Value×Nat)=>cs.setIfInBounds (o+p.2) p.1) cs.toArray=(Et cs (o+j) vs).toArray
 | [],_,_,_=>rfl
 |v::vs,j,o,cs=>by
   rw[List.zipIdx_cons,List.foldl_cons,Et];have:=PO vs (j+1) o (cs.set (o+j) v);simp only[List.setIfInBounds_toArray] at this ⊢;rw[this,Nat.add_assoc]
theorem Rk{g:Nat→Option (Nat×Nat)}(Q:∀i p,pl[i]?=some p→g i=some p):∀(parts:List (Nat×Value))(cs out:lV),K0 pl cs parts=some out→Instr.fill g cs.toArray parts=some out.toArray
 | [],cs,out,h=>by unfold K0 at h;injection h with h;subst h;rfl
 |(i,v)::rest,cs,out,h=>by
   unfold K0 at h;unfold Instr.fill
   cases J:pl[i]? with
   |none=>rw[J] at h;cases h
   |some p =>
     obtain⟨off,size⟩:=p;rw[Q i _ J]
     cases D:Ia v with
     |none=>rw[J,D] at h;cases h
     |some vs =>
       rw[J,D] at h;simp only at h;have F:=GZ D
       split at h
       · rename_i Y
         have K:=Nat.eq_of_beq_eq_true Y
         cases d:P5 cs off vs with
         |none=>rw[d] at h;cases h
         |some G =>
           rw[d] at h;obtain⟨L,hle⟩:=Sh d;have O:v.cells.size=size:=by rw[Iq,F];simpa using K
           simp only[O];rw[if_neg (by simp;omega)]
           have hz:v.cells.zipIdx.foldl (λcs (p:Value×Nat)=>cs.setIfInBounds (off+p.2) p.1) cs.toArray=G.toArray:=by
             rw[Iq,← Array.foldl_toList,← L,← F];have:=PO (Mv v) 0 off cs;simpa using this
           have U:=Rk Q rest G out h;rw[← hz] at U;exact U
       · cases h
theorem TG{fs:List Field}(h:fs.mapM (λf=>(P.info? f.type).map λj=>(f.offset,j.size))=some pl) :
   (fs.mapM λf=>(do pure (f.offset,← sizeOf f.type):Sem (Nat×Nat))).run P w=.ok pl w:=by
 induction fs generalizing pl with
 |nil=>simp at h;subst h;simp
 |cons f fs F =>
   simp only[List.mapM_cons] at h ⊢
   cases hi:P.info? f.type with
   |none=>simp[hi] at h
   |some j =>
     cases D:fs.mapM (λf=>(P.info? f.type).map λj=>(f.offset,j.size)) with
     |none=>simp[hi,D] at h
     |some pr =>
       simp[hi,D] at h;subst h;have:=F D;have d:(do pure (f.offset,← sizeOf f.type):Sem (Nat×Nat)).run P w=.ok (f.offset,j.size) w:=by simp[sizeOf,typeInfo,hi]
       rw[Sem.run_bind,d,Result.andThen_ok,Sem.run_bind,this,Result.andThen_ok];rfl
theorem Pq(h:HG P T=some z):∃v,(zeroValue T).run P w=.ok v w∧v.cells=z.toArray:=by
 unfold HG at h
 split at h
 · rename_i i hi
   cases hz:i.zero with
   |none=>rw[hz] at h;cases h
   |some v=>rw[hz] at h;simp at h;exact⟨v,by simp[zeroValue,typeInfo,hi,hz],by rw[← h]⟩
 · cases h
theorem DC{pv:List (Nat×Value)}{out:lV}(O:GY σ parts=some pv)(d:No P T=some pl)
   (hz:HG P T=some z) (Q:K0 pl z pv=some out):AK P σ (.build T parts.toArray) ty w (.agg out.toArray) w:=λρ _ _ _ _ F=>by
 unfold No at d
 split at d
 · rename_i fs hu
   obtain⟨v,U,G⟩:=Pq (w:=w) hz;have hm:=TG (w:=w) d
   have J:(fs.mapM λf=>(do pure (f.offset,← sizeOf f.type):Sem (Nat×Nat))).run P w=.ok pl.toArray w:=by
     rw[← Array.toArray_toList (xs:=fs),List.mapM_toArray];simp at hm;simp[hm]
   have K:=Jc F O;have L:=Rk (g:=λi=>pl[i]?) (λi p h=>h) pv z out Q;have D:(parts.toArray.map λp=>(p.1,ρ p.2))=pv.toArray:=by rw[← K];simp
   simp only[execOp]
   have:(Instr.build T (parts.toArray.map λ(i,x)=>(i,ρ x))).run P w=.ok (.agg out.toArray) w:=by
     have e:(parts.toArray.map λ(p:Nat×Operand)=>match p with|(i,x)=>(i,ρ x))=pv.toArray:=D;rw[e];simp only[Instr.build,Sem.run_bind,U,Result.andThen_ok,run_underlying hu,G];simp only[J,Result.andThen_ok];simp[L]
   rw[Sem.run_bind,this];rfl
 · cases d
end
section
variable{P:Program}{n:Nat}{Q:AX}{σ:Bf}{ds:List Deferred}{w:wO}{ops:Array Oper}{ty T T':tI}{pos:String}{af:Array Edge}{rest:List Oper}{d b off k:Nat}{x y:Operand}{l:lV}
theorem Np(w:wO)(l:lV)(T:tI):AM (w.alloc (.cells l.toArray T)) w.heap.size l T:=heap_alloc_new w _
theorem Kj(w:wO)(o:Obj):AU w (w.alloc o):=Below.alloc (Below.refl _ _) (Nat.le_refl _) o
theorem H4(w:wO)(o:Obj):(w.alloc o).heap.size=w.heap.size+1:=by simp
def nF(w:wO)(l:lV)(T:tI)(K:Nat→wO→Prop):Prop :=
 ∀b w',AM w' b l T→AU w w'→w.heap.size=b→w'.heap.size=b+1→K b w'
theorem KR{K:Nat→wO→Prop}(h:nF w l T K):K w.heap.size (w.alloc (.cells l.toArray T)):=h _ _ (Np w l T) (Kj w _) C (H4 w _)
theorem ZE{v:Value}(D:ev σ x=some v):AK P σ (.box T x) ty w (.pointer (some ⟨w.heap.size,0,none⟩)) (w.alloc (.cells (Mv v).toArray T)):=λF _ _ _ _ h=>by
 simp[execOp,h _ _ D,Instr.box,newVar,newRow,Iq]
theorem Ei{v:Value}(hd:Nat.blt d n=true)(F:ev σ x=some v)(D:Ia v=some l)
   (h:nF w l T λb w'=>Hu P n ops Q rest (AF σ d (.pointer (some ⟨b,0,none⟩))) ds w'):Hu P n ops Q (⟨some d,.box T x,ty,pos,af,none⟩::rest) σ ds w:=by
 have G:=GZ D;subst G;exact Ab hd (ZE F) (KR h)
theorem TK(hz:HG P T=some l):AK P σ (.alloc T) ty w (.pointer (some ⟨w.heap.size,0,none⟩)) (w.alloc (.cells l.toArray T)):=λG _ _ _ _ D=>by
 obtain⟨v,F,h⟩:=Pq (w:=w) hz;simp[execOp,Instr.alloc,F,newVar,newRow,h]
theorem CI(hd:Nat.blt d n=true)(hz:HG P T=some l)
   (h:nF w l T λb w'=>Hu P n ops Q rest (AF σ d (.pointer (some ⟨b,0,none⟩))) ds w'):Hu P n ops Q (⟨some d,.alloc T,ty,pos,af,none⟩::rest) σ ds w :=
 Ab hd (TK hz) (KR h)
theorem Pe(m k:Nat)(z:lV)(hz:z.length=k)(h:0<k):((Array.range (m*k)).map λi=>z.toArray[i % z.toArray.size]!)=((List.range (m*k)).map λi=>z.getD (i % k) default).toArray:=by
 apply Array.ext';simp only[Array.toList_map,Array.toList_range];apply List.map_congr_left;intro i _;have D:i % k<k:=Nat.mod_lt _ h;simp[hz,D]
def Gv:Nat→lV→lV
 |0,_=>[]
 |m+1,z=>z++Gv m z
theorem Rb(k:Nat)(z:lV)(hz:z.length=k)(D:0<k):∀m,((List.range (m*k)).map λi=>z.getD (i % k) default)=Gv m z
 |0=>by simp[Gv]
 |m+1=>by
   have F:=Rb k z hz D m;rw[Gv,← F,Nat.add_mul,Nat.one_mul,Nat.add_comm,List.range_add,List.map_append,List.map_map]
   congr 1
   · apply List.ext_getElem?
     intro i
     by_cases h:i<k
     · have:i<z.length:=oM
       simp[h,Nat.mod_eq_of_lt h,this]
     · simp[Nat.le_of_not_lt h,hz]
   · apply List.map_congr_left
     intro i _;simp[Nat.add_mod_left]
def K4(k:Nat):Nat→Nat→List (Nat×Nat)
 |_,0=>[]
 |i,m+1=>(i*k,k)::K4 k (i+1) m
theorem QE(k:Nat):∀(m i j:Nat),j<m→(K4 k i m)[j]?=some ((i+j)*k,k)
 |0,_,_,h=>by omega
 |m+1,i,0,_=>by simp[K4]
 |m+1,i,j+1,h=>by
   rw[K4,List.getElem?_cons_succ,QE k m (i+1) j (by omega)]
   congr 3
   omega
theorem Qi(k:Nat):∀m i,(K4 k i m).length=m
 |0,_=>rfl
 |m+1,i=>by simp[K4,Qi k m]
variable {l':lV}{m:Nat}{t:tI}
theorem eJ{k:Nat}(parts:List (Nat×Value))(cs out:lV)(h:K0 (K4 k 0 m) cs parts=some out):Instr.fill (λi=>some (i*k,k)) cs.toArray parts=some out.toArray :=
 Rk (λi p D=>by
   have G:i<m:=by
     rcases Nat.lt_or_ge i m with F | F
     · exact F
     · rw[List.getElem?_eq_none (by rw[Qi];exact F)] at D;cases D
   rw[QE k m 0 i G] at D;simpa using D) parts cs out h
theorem pI{pv:List (Nat×Value)}{out:lV}(hp:GY σ parts=some pv)(hs:Je P T=some (e,k))(hz:HG P e=some z)
   (J:Nat.beq z.length k=true) (hk:Nat.blt 0 k=true) (hm:Nat.blt 0 m=true) (K:Nat.ble (m*k) 16777216=true) (hf:K0 (K4 k 0 m) (Gv m z) pv=some out) :
   AK P σ (.buildSlice T m parts.toArray) ty w (.slice (some ⟨w.heap.size,0,none⟩) m m) (w.alloc (.cells out.toArray e)):=λρ _ _ _ _ L=>by
 obtain⟨j,hu,hj,rfl⟩:=H8 hs;obtain⟨v,hv,O⟩:=Pq (w:=w) hz;have h:=Nat.eq_of_beq_eq_true J;have D:0<j.size:=Nat.le_of_ble_eq_true hk;have U:0<m:=Nat.le_of_ble_eq_true hm;have hmk':m*j.size≤16777216:=Nat.le_of_ble_eq_true K;have Y:m*j.size≠0:=Nat.ne_of_gt (Nat.mul_pos U D);have Z:=Jc L hp;have F:(parts.toArray.map λ(p:Nat×Operand)=>match p with|(i,x)=>(i,ρ x))=pv.toArray:=by rw[← Z];simp
 have hfl:=eJ pv (Gv m z) out hf;have hsz:(sizeOf e).run P w=.ok j.size w:=by simp[sizeOf,typeInfo,hj]
 have G:((Array.range (m*j.size)).map λi=>z.toArray[i % z.toArray.size]!)=(Gv m z).toArray:=by rw[Pe m j.size z h D,Rb j.size z h D m]
 have:(Instr.buildSlice T m (parts.toArray.map λ(p:Nat×Operand)=>match p with|(i,x)=>(i,ρ x))).run P w=.ok (.slice (some ⟨w.heap.size,0,none⟩) m m) (w.alloc (.cells out.toArray e)):=by
   rw[F];simp only[Instr.buildSlice,Sem.run_bind,run_underlying hu,Result.andThen_ok,hsz];rw[if_neg (by omega),if_neg Y];simp only[Sem.run_bind,hv,Result.andThen_ok,O,Sem.run_pure];rw[G];simp[hfl,newRow]
 simp only[execOp];rw[Sem.run_bind,this];rfl
theorem Ch{pv:List (Nat×Value)}(hd:Nat.blt d n=true)(G:GY σ parts=some pv)(J:Je P T=some (e,k))(hz:HG P e=some z)
   (D:Nat.beq z.length k=true) (K:Nat.blt 0 k=true) (hm:Nat.blt 0 m=true) (F:Nat.ble (m*k) 16777216=true) (L:K0 (K4 k 0 m) (Gv m z) pv=some l)
   (h:nF w l e λb w'=>Hu P n ops Q rest (AF σ d (.slice (some ⟨b,0,none⟩) m m)) ds w'):Hu P n ops Q (⟨some d,.buildSlice T m parts.toArray,ty,pos,af,none⟩::rest) σ ds w :=
 Ab hd (pI G J hz D K hm F L) (KR h)
def MV:lV→Bool
 | []=>true
 |v::l=>v.oneCell'&&MV l
theorem Mr:∀{l:lV},MV l=true→∀v∈l,v.oneCell'=true
 | [],_,v,D=>by cases D
 |u::l,h,v,D=>by
   simp only[MV,Bool.and_eq_true] at h;rcases List.mem_cons.1 D with rfl|D
   · exact h.1
   · exact Mr h.2 v D
theorem Nj:∀(vs cs:lV)(o:Nat),o+vs.length≤cs.length→Et cs o vs=cs.take o++vs++cs.drop (o+vs.length)
 | [],cs,o,_=>by simp[Et]
 |v::vs,cs,o,h=>by
   simp only[List.length_cons] at h;rw[Et,Nj vs (cs.set o v) (o+1) (by simp;omega)]
   have D:(cs.set o v).take (o+1)=cs.take o++[v]:=by
     rw[List.take_succ_eq_append_getElem (by simp;omega)];simp[List.take_set_of_le]
   have F:(cs.set o v).drop (o+1+vs.length)=cs.drop (o+(v::vs).length):=by
     rw[List.drop_set_of_lt (by omega)];simp only[List.length_cons]
     congr 1
     omega
   rw[D,F];simp
theorem Pj(w:wO)(b:Nat)(cs:Array Value):GG b w (w.setRow b cs):=⟨C,C,C,by simp[World.setRow],λk h=>setRow_other w b k cs h⟩
theorem Pb{v:Value}{a:Bool}(O:ev σ x=some (.pointer (some ⟨b,off,none⟩)))(U:ev σ y=some v)(K:Mv v=vs)(Y:AP P T=some (a,k))(Z:Nat.beq vs.length k=true)
   (hb:AM w b l T') (h1:MV vs=true) (L:off+vs.length≤l.length):oX P σ (.store T x y) ty w (w.setRow b (Et l off vs).toArray):=λρ _ _ _ _ h=>by
 have F:=Nat.eq_of_beq_eq_true Z;have D:=run_storeCells_at P b off T' vs 0 l.toArray w hb (by simpa using L) (Mr h1);have G:v.cells.size=k:=by rw[Iq,K];simpa using F
 have J:v.cells.toList=vs:=by rw[Iq,K]
 have hp:(List.take (off+0) l.toArray.toList++vs++List.drop (off+0+vs.length) l.toArray.toList).toArray=(Et l off vs).toArray:=by rw[Nj vs l off L];simp
 rw[hp] at D;simp[execOp,h _ _ O,h _ _ U,Instr.storeAt,Instr.sureAddr,storeVar,G,IP Y,J,D]
theorem A1{v:Value}{a:Bool}(G:ev σ x=some (.pointer (some ⟨b,off,none⟩)))(J:ev σ y=some v)(K:Ia v=some vs)(L:AP P T=some (a,k))(O:Nat.beq vs.length k=true)
   (F:AM w b l T') (U:MV vs=true) (Y:P5 l off vs=some l')
   (h:∀w',AM w' b l' T'→GG b w w'→Hu P n ops Q rest σ ds w'):Hu P n ops Q (⟨none,.store T x y,ty,pos,af,none⟩::rest) σ ds w:=by
 obtain⟨D,hle⟩:=Sh Y;subst D;exact JB (Pb G J (GZ K) L O F U hle) (h _ (setRow_heap w b _ _ T' _ F) (Pj w b _))
def BB(P:Program)(f:FuncId):Prop:=∀args w,(callFunc f args).run P w=.ok (.enter f args) w
theorem Am{f:FuncId}{fn:Func}(h:P.funcs[f]?=some fn)(D:(fn.name == "runtime.NumGoroutine")=false) (F:fn.body.isNone=false):BB P f:=λargs w=>by
 simp only[callFunc,Sem.run_bind,run_program,Result.andThen_ok,h,D,F];simp
theorem Ax{f:FuncId}{g:Operand}{args:List Operand}{F:Array tI}(he:BB P f)(G:ev σ g=some (.func (.func f) #[] #[]))(J:Jd σ args=some vs) :
   Enters P σ (.call {callee:=.value g,args:=args.toArray,argTypes:=F}) ty w f vs.toArray:=λK _ _ _ _ D=>by
 have h:=EN D J;simp[execOp,resolve,D _ _ G,Deferred.ofValue,invoke,h,he vs.toArray w]
theorem BE{v:Value}(D:ev σ x=some (.iface t v)):tF P σ (.panic x) ty w (.iface t v) w:=λF _ _ _ _ h=>by
 simp[execOp,h _ _ D,Instr.panic,goPanic,Sem.run]
def xZ(P:Program)(T:tI):Bool:=match P.underlying T with|some (.interface _)=>false|some _=>true|none=>false
theorem BR{v:Value}(G:ev σ x=some v)(h:xZ P T=true):AK P σ (.makeInterface T x) ty w (.iface T v) w:=λJ _ _ _ _ F=>by
 unfold xZ at h
 cases hu:P.underlying T with
 |none=>rw[hu] at h;cases h
 |some D =>
   rw[hu] at h
   cases D <;> simp_all [execOp,Instr.makeInterface,run_underlying hu]
theorem Ac{t:Nat}(O:σ t=some (.pointer (some ⟨b,off,none⟩)))(K:AP P T=some (true,k))(U:AM w b l T')(F:Vz l off k=some vs) :
   Rv P σ w (.cell t T) (.agg vs.toArray):=λtmps Y=>by
 obtain⟨F,G⟩:=L7 F
 have L:=run_loadCells_list (P:=P) w ⟨b,off,none⟩ vs (λj v D=>by
   rw[EH,U.cell];rw[← F] at D
   have J:j<k:=by
     rcases Nat.lt_or_ge j k with h|h
     · exact h
     · rw[List.getElem?_take,if_neg (by omega)] at D;cases D
   rwa[List.getElem?_take,if_pos J,List.getElem?_drop] at D)
 rw[G] at L;have Z:(loadVar T ⟨b,off,none⟩).run P w=.ok (.agg vs.toArray) w:=by simp[loadVar,Fc K,IP K,L]
 simp only[zI,Y t _ O,asAddr];simp[Z]
theorem Br{t:Nat}{v:Value}(h:σ t=some (.pointer (some ⟨b,off,none⟩)))(D:AP P T=some (false,k))(F:AM w b l T')(G:l[off]?=some v):Rv P σ w (.cell t T) v:=λtmps J=>by
 have K:w.cell? ⟨b,off,none⟩=some v:=by rw[F.cell,G]
 have L:(loadVar T ⟨b,off,none⟩).run P w=.ok v w:=by simp[loadVar,Fc D,run_load,K]
 simp only[zI,J t _ h,asAddr];simp[L]
end
def Pn(ops:Array Oper):List (Bool×Nat)→Array Bool→Bool
 | [],listed=>(Region.ready .any ops listed).isEmpty
 |(true,i)::r,listed=>Region.free .any ops listed i&&(Region.ready .any ops listed).contains i&&Pn ops r (listed.setIfInBounds i true)
 |(false,i)::r,listed=>(match Region.ready .any ops listed with | [j]=>Nat.beq j i|_=>false)&&Pn ops r (listed.setIfInBounds i true)
def pick(l:List Oper):List (Bool×Nat)→Option (List (Bool×Oper))
 | []=>some []
 |(f,i)::r=>match l[i]?,pick l r with
   |some o,some ol=>some ((f,o)::ol)
   |_,_=>none
def xX(P:Program)(ops:Array Oper)(Q:Exit→Act→wO→Prop)(S:wO→Prop):List (Bool×Oper)→Act→wO→Prop
 | [],a,w=>Q .normal a w
 |(true,o)::r,a,w=>∃v,YieldsIf P ops S o v a∧xX P ops Q S r (a.put o.dst v) w
 |(false,o)::r,a,w=>wpList P ops (Exit.then (λa' w'=>S w'∧xX P ops Q S r a' w') Q) [o] a w
section
variable{P:Program}{n:Nat}{Q:AX}{S:wO→Prop}
variable {want:Bool}{bs:List Nat}{l:lV}{b dj j:Nat}{T:tI}
theorem IC{ops:Array Oper}{G:Exit→Act→wO→Prop}{K:Act→wO→Prop}{o:Oper}{a:Act}{w:wO}(O:ops[i]?=some o)
   (D:∀a w,¬G .outgrown a w) (h:wpList P ops (Exit.then K G) [o] a w):wpOp P ops G i K a w:=by
 unfold wpList at h;unfold wpOp;simp only[O]
 split
 · rename_i hw
   rw[if_pos hw] at h;rcases h with h|⟨_,a',w',U⟩
   · refine .inl ?_
     unfold Oper.wp at h ⊢;generalize (execOp a.eval o).run P w=r at h ⊢
     cases r with
     |ok Y w' =>
       cases Y <;> simp only[Oper.upon,wpList,Exit.then] at h ⊢ <;> first
         |exact h
         |(
           refine Calls.mono h λe Z he=>?_
           cases e with
           |returned v=>exact he
           |panicked c=>exact he
           |outgrown=>obtain⟨J,L,F⟩:=he;exact (D _ _ F).elim)
     |halt hh w'=>cases hh <;> simp only[Oper.upon,Exit.then] at h ⊢ <;> exact h
   · exact (D _ _ U).elim
 · rename_i hw
   rw[if_neg hw] at h;exact h
def PI(Q:AX):Prop:=∀c σ h ds w,Q.p c σ ds w→Q.p c h ds w
theorem cF{Q:AX}{n:Nat}(D:PI Q){c:List PanicEntry}{a:Act}{d:Nat}{v:Value}{w:wO}(h:Q.up n (.panic c) (a.put (some d) v) w):Q.up n (.panic c) a w:=by
 obtain⟨σ,ds,F,G⟩:=h;exact⟨e0,ds,⟨by have:=F.size;simpa[Act.put] using this,F.defs,λ_ _ h=>by cases h⟩,D _ _ _ _ _ G⟩
theorem Ob{l:List Oper}(Y:Region.noSelect l.toArray=true)(G:PI Q):∀(ord:List (Bool×Nat))(ol:List (Bool×Oper))(listed:Array Bool)(a:Act)(w:wO),pick l ord=some ol →
   Pn l.toArray ord listed=true→S w→xX P l.toArray (Q.up n) S ol a w→wpAnyH P .any l.toArray (Q.up n) S ord.length listed a w
 | [],ol,listed,a,w,D,F,Z,h=>by
   injection D with D
   subst D;exact wpAnyH_done (by simpa[Pn] using F) h 0
 |(f,i)::ord,ol,listed,a,w,D,F,Z,h=>by
   unfold pick at D
   cases K:l[i]? with
   |none=>rw[K] at D;cases D
   |some o =>
     cases L:pick l ord with
     |none=>rw[K,L] at D;cases D
     |some r =>
       rw[K,L] at D;injection D with D
       subst D;have J:l.toArray[i]?=some o:=by simpa using K
       cases f with
       |true =>
         simp only[Pn,Bool.and_eq_true] at F;obtain⟨v,hy,h'⟩:=h
         exact wpAnyH_take J Y F.1.1 F.1.2 (λc a w O=>by
           cases hd:o.dst with
           |none=>rw[hd] at O;exact O
           |some d=>rw[hd] at O;exact cF G O) hy Z (Ob Y G ord r _ _ w L F.2 Z h')
       |false =>
         simp only[Pn,Bool.and_eq_true] at F
         have hrd:Region.ready .any l.toArray listed=[i]:=by
           have h1:=F.1
           split at h1
           · rename_i j U;rw[U,Nat.eq_of_beq_eq_true h1]
           · cases h1
         refine wpAnyH_all hrd (by simp) λj U=>?_;rw[List.mem_singleton] at U;subst U;exact wpOp_mono (λa' w' hk=>⟨hk.1,Ob Y G ord r _ a' w' L F.2 hk.1 hk.2⟩) (IC J (λ_ _ h=>h) h)
def W8(P:Program)(n:Nat)(ops:Array Oper)(Q:AX)(S:wO→Prop)(ol:List (Bool×Oper))(σ:Bf)(ds:List Deferred)(w:wO):Prop :=
 ∀a,St n σ ds a→xX P ops (Q.up n) S ol a w
variable{σ:Bf}{ds:List Deferred}{w:wO}{ops:Array Oper}{op:Op}{ty:tI}{pos:String}{af:Array Edge}{r:List (Bool×Oper)}{d:Nat}
theorem DX{l:List Oper}(hm:P.follows .mixedOrders=true)(S:wO→Prop)(ord:List (Bool×Nat)){ol:List (Bool×Oper)}(F:Pn l.toArray ord (Array.replicate l.length false)=true)
   (D:Region.noSelect l.toArray=true) (hlen:Nat.beq ord.length l.length=true) (J:pick l ord=some ol)
   (h:∀w',AU w w'→w'.heap.size=w.heap.size→S w'∧W8 P n l.toArray Q S ol σ ds w') (G:PI Q:=by exact λ_ _ _ _ _ h=>h):HH P n (.region i l.toArray true) Q σ ds w:=λa K=>by
 refine wp_region_held (S:=S) hm ?_;obtain⟨L,O⟩:=h w.drew AU.drew C;have:=Ob (P:=P) (n:=n) (Q:=Q) D G ord ol (Array.replicate l.length false) a w.drew J F L (O a K);rw[Nat.eq_of_beq_eq_true hlen] at this;simpa using this
theorem El(h:Q.q .normal σ ds w):W8 P n ops Q S [] σ ds w:=λ_ D=>⟨σ,ds,D,h⟩
theorem A0{v:Value}(hd:Nat.blt d n=true)(F:∀w,S w→AK P σ op ty w v w)(h:W8 P n ops Q S r (AF σ d v) ds w) :
   W8 P n ops Q S ((true,⟨some d,op,ty,pos,af,none⟩)::r) σ ds w:=λa D =>
 ⟨v,.inl ⟨by simp[Region.wanted],λw G=>F w G a.eval _ _ _ _ D.ev⟩,h _ (D.put hd v)⟩
theorem C9{v:Value}{b:Bool}(hd:Nat.blt d n=true)(F:(ops[j]?).bind (·.dst)=some dj)(G:σ dj=some (.bool b))(J:b=want)(K:∀w,S w→AK P σ op ty w v w)
   (h:W8 P n ops Q S r (AF σ d v) ds w):W8 P n ops Q S ((true,⟨some d,op,ty,pos,af,some (j,want)⟩)::r) σ ds w:=λa D =>
 ⟨v,.inl ⟨by rw[Hc D F G,J];simp,λw L=>K w L a.eval _ _ _ _ D.ev⟩,h _ (D.put hd v)⟩
theorem C8{b:Bool}(hd:Nat.blt d n=true)(F:(ops[j]?).bind (·.dst)=some dj)(G:σ dj=some (.bool b))(J:b=!want)
   (h:W8 P n ops Q S r (AF σ d undef) ds w):W8 P n ops Q S ((true,⟨some d,op,ty,pos,af,some (j,want)⟩)::r) σ ds w:=λa D =>
 ⟨undef,.inr ⟨by rw[Hc D F G,J];cases want <;> simp,C⟩,h _ (D.put hd undef)⟩
theorem PV(dj:Nat){b:Bool}{l:List (Bool×Oper)}(D:σ dj=some (.bool b))(F:b=true→W8 P n ops Q S l σ ds w)(G:b=false→W8 P n ops Q S l σ ds w):W8 P n ops Q S l σ ds w:=by
 have _:=D
 cases h:b with
 |true=>exact F h
 |false=>exact G h
def A5(w:wO)(bs:List Nat)(w':wO):Prop:=∀b,b∈bs→b<w'.heap.size∧w'.heap[b]?=w.heap[b]?
theorem A5.nil(w w':wO):A5 w [] w':=λ_ h=>by cases h
theorem A5.cons{w:wO}(F:AM w b l T)(G:AU w w')(h:A5 w bs w'):A5 w (b::bs) w':=λc D=>by
 rcases List.mem_cons.1 D with rfl|D
 · exact⟨Nat.lt_of_lt_of_le F.lt G.size,G.block _ F.lt⟩
 · exact h c D
theorem A5.ext{w:wO}(h:A5 w bs w')(F:AU w' w2):A5 w bs w2:=λc D=>⟨Nat.lt_of_lt_of_le (h c D).1 F.size,(F.block c (h c D).1).trans (h c D).2⟩
theorem A5.chg{w:wO}(h:A5 w bs w')(F:GG b w' w2)(G:∀c,c∈bs→c≠b):A5 w bs w2 :=
 λc D=>⟨by rw[F.size];exact (h c D).1,(F.block c (G c D)).trans (h c D).2⟩
theorem AM.keep{w:wO}(D:AM w b l T)(h:A5 w bs w')(hm:b∈bs):AM w' b l T:=(h b hm).2.trans D
def onw(P:Program)(n:Nat)(ops:Array Oper)(Q:AX)(S:wO→Prop)(r:List (Bool×Oper)):AX :=
 {q:=λe σ ds w=>match e with|.normal=>S w∧W8 P n ops Q S r σ ds w|e=>Q.q e σ ds w,p:=Q.p}
theorem EK{o:Oper}(h:Hu P n ops (onw P n ops Q S r) [o] σ ds w):W8 P n ops Q S ((false,o)::r) σ ds w:=λa Z=>by
 have D:=h a Z;show wpList P ops (Exit.then (λa' w'=>S w'∧xX P ops (Q.up n) S r a' w') (Q.up n)) [o] a w;unfold wpList at D ⊢
 split
 · rename_i hw
   rw[if_pos hw] at D;rcases D with D|⟨_,a',w',h'⟩
   · refine .inl ?_
     unfold Oper.wp at D ⊢;generalize (execOp a.eval o).run P w=rr at D ⊢
     have key:∀a' w',wpList P ops ((onw P n ops Q S r).up n) [] a' w'→wpList P ops (Exit.then (λa' w'=>S w'∧xX P ops (Q.up n) S r a' w') (Q.up n)) [] a' w':=λa' w' hk=>by
       obtain⟨K,L,F,G⟩:=hk;exact⟨G.1,G.2 a' F⟩
     cases rr with
     |ok nx w' =>
       cases nx <;> simp only[Oper.upon] at D ⊢ <;> first
         |exact key _ _ D
         |(
           refine Calls.mono D λe O he=>?_
           cases e with
           |returned v=>exact key _ _ he
           |panicked c=>exact he
           |outgrown=>obtain⟨U,Y,J⟩:=he;exact J.elim)
         |exact Rows.mono D λv O he=>key _ _ he
     |halt hh w'=>cases hh <;> simp only[Oper.upon] at D ⊢ <;> exact D
   · exact h'.elim
 · rename_i hw
   rw[if_neg hw] at D;obtain⟨K,L,F,G⟩:=D;exact⟨G.1,G.2 _ F⟩
theorem Hn(D:S w)(h:W8 P n ops Q S r σ ds w):(onw P n ops Q S r).q .normal σ ds w:=⟨D,h⟩
end
inductive OT where
 |fin
 |rd (i:Nat) (k:OT)
 |br (i:Nat) (k o:OT)
def OT.alts:OT→List Nat
 |.br i _ o=>i::o.alts
 |_=>[]
def OT.ok(ops:Array Oper):Bool→OT→Array Bool→Bool
 |top,.fin,listed=>!top||(Region.ready .any ops listed).isEmpty
 |top,.rd i k,listed=>top&&Region.free .any ops listed i&&(Region.ready .any ops listed).contains i&&k.ok ops true (listed.setIfInBounds i true)
 |top,.br i k o,listed=>(!top||Region.ready .any ops listed==i::o.alts)&&k.ok ops true (listed.setIfInBounds i true)&&o.ok ops false listed
def OT.depth:OT→Nat
 |.fin=>0
 |.rd _ k=>k.depth+1
 |.br _ k _=>k.depth+1
def OT.even:Bool→Nat→OT→Bool
 |top,n,.fin=>!top||n==0
 |_,0,_=>false
 |_,n+1,.rd _ k=>k.even true n
 |_,n+1,.br _ k o=>k.even true n&&o.even false (n+1)
def hZ(P:Program)(l:List Oper)(Q:Exit→Act→wO→Prop)(S:wO→Prop):Bool→OT→Act→wO→Prop
 |top,.fin,a,w=>top=true→Q .normal a w
 |_,.rd i k,a,w=>∃o v,l[i]?=some o∧YieldsIf P l.toArray S o v a∧hZ P l Q S true k (a.put o.dst v) w
 |_,.br i k o',a,w=>(∃o,l[i]?=some o∧wpList P l.toArray (Exit.then (λa' w'=>S w'∧hZ P l Q S true k a' w') Q) [o] a w)∧hZ P l Q S false o' a w
section
variable{P:Program}{n:Nat}{Q:AX}{S:wO→Prop}{l:List Oper}
theorem OT.alts_mem:∀(t:OT)(ops:Array Oper)(listed:Array Bool)(m:Nat)(j:Nat),t.ok ops false listed=true→t.even false m=true→j∈t.alts→∃k,k.ok ops true (listed.setIfInBounds j true)=true∧(∃K,m=K+1∧k.even true K=true) ∧
   ∀(P:Program)(l:List Oper)(G:Exit→Act→wO→Prop)(S:wO→Prop)(a:Act)(w:wO),hZ P l G S false t a w→∃o,l[j]?=some o∧wpList P l.toArray (Exit.then (λa' w'=>S w'∧hZ P l G S true k a' w') G) [o] a w
 |.fin,_,_,_,_,_,_,h=>by cases h
 |.rd _ _,_,_,_,_,_,_,h=>by cases h
 |.br i k o,ops,listed,m,j,F,D,J=>by
   simp only[OT.ok,Bool.and_eq_true] at F
   cases m with
   |zero=>simp[OT.even] at D
   |succ m =>
     simp only[OT.even,Bool.and_eq_true] at D;simp only[OT.alts,List.mem_cons] at J;rcases J with rfl|J
     · exact⟨k,F.1.2,⟨m,C,D.1⟩,λP l G S a w h=>h.1⟩
     · obtain⟨L,O,U,Y⟩:=OT.alts_mem o ops listed (m+1) j F.2 D.2 J
       exact⟨L,O,U,λP l G S a w h=>Y P l G S a w h.2⟩
theorem LZ(U:Region.noSelect l.toArray=true)(G:PI Q):∀(m:Nat)(t:OT)(listed:Array Bool)(a:Act)(w:wO),t.even true m=true→t.ok l.toArray true listed=true→S w→hZ P l (Q.up n) S true t a w→wpAnyH P .any l.toArray (Q.up n) S m listed a w
 |m,.fin,listed,a,w,D,F,L,h=>by
   simp[OT.even] at D;subst D;exact wpAnyH_done (by simpa[OT.ok] using F) (h C) 0
 |0,.rd _ _,_,_,_,D,_,_,_=>by simp[OT.even] at D
 |0,.br _ _ _,_,_,_,D,_,_,_=>by simp[OT.even] at D
 |m+1,.rd i k,listed,a,w,D,F,L,h=>by
   simp only[OT.ok,Bool.and_eq_true,Bool.true_and] at F;obtain⟨o,v,hi,hy,h'⟩:=h
   exact wpAnyH_take (by simpa using hi) U F.1.1 F.1.2 (λc a w O=>by
     cases hd:o.dst with
     |none=>rw[hd] at O;exact O
     |some d=>rw[hd] at O;exact cF G O) hy L (LZ U G m k _ _ w D F.2 L h')
 |m+1,.br i k o,listed,a,w,D,F,L,h=>by
   have J:(OT.br i k o).ok l.toArray false listed=true:=by
     simp only[OT.ok,Bool.and_eq_true] at F ⊢;exact⟨⟨C,F.1.2⟩,F.2⟩
   have K:(OT.br i k o).even false (m+1)=true:=D
   have Y:Region.ready .any l.toArray listed=(OT.br i k o).alts:=by
     simp only[OT.ok,Bool.and_eq_true,Bool.not_true,Bool.false_or,beq_iff_eq] at F;exact F.1.1
   have Z:hZ P l (Q.up n) S false (.br i k o) a w:=h;refine wpAnyH_all Y (by simp[OT.alts]) λj hj=>?_;obtain⟨k',h1,⟨m',hm,h2⟩,h3⟩:=OT.alts_mem (.br i k o) l.toArray listed (m+1) j J K hj;obtain rfl:m=m':=oM;obtain⟨op,hop,hwl⟩:=h3 P l (Q.up n) S a w Z;exact wpOp_mono (λa' w' hk=>⟨hk.1,LZ U G m k' _ a' w' h2 h1 hk.1 hk.2⟩) (IC (by simpa using hop) (λ_ _ h=>h) hwl)
def WG(P:Program)(n:Nat)(l:List Oper)(Q:AX)(S:wO→Prop)(top:Bool)(t:OT)(σ:Bf)(ds:List Deferred)(w:wO):Prop :=
 ∀a,St n σ ds a→hZ P l (Q.up n) S top t a w
variable{σ:Bf}{ds:List Deferred}{w:wO}{op:Op}{ty:tI}{pos:String}{af:Array Edge}{d i:Nat}{k o:OT}{top:Bool}
variable {id:Nat}
theorem Em(hm:P.follows .mixedOrders=true)(S:wO→Prop)(t:OT)(F:t.ok l.toArray true (Array.replicate l.length false)=true)(G:t.even true l.length=true)(D:Region.noSelect l.toArray=true)
   (h:∀w',AU w w'→w'.heap.size=w.heap.size→S w'∧WG P n l Q S true t σ ds w') (J:PI Q:=by exact λ_ _ _ _ _ h=>h):HH P n (.region id l.toArray true) Q σ ds w:=λa K=>by
 refine wp_region_held (S:=S) hm ?_;obtain⟨L,O⟩:=h w.drew AU.drew C;have:=LZ (P:=P) (n:=n) (Q:=Q) D J l.length t (Array.replicate l.length false) a w.drew G F L (O a K);simpa using this
theorem By(h:Q.q .normal σ ds w):WG P n l Q S true .fin σ ds w:=λ_ D _=>⟨σ,ds,D,h⟩
theorem Af:WG P n l Q S false .fin σ ds w:=λ_ _ h=>by cases h
theorem Av{v:Value}(F:l[i]?=some ⟨some d,op,ty,pos,af,none⟩)(hd:Nat.blt d n=true)(G:∀w,S w→AK P σ op ty w v w)(h:WG P n l Q S true k (AF σ d v) ds w):WG P n l Q S top (.rd i k) σ ds w:=λa D =>
 ⟨_,v,F,.inl ⟨by simp[Region.wanted],λw J=>G w J a.eval _ _ _ _ D.ev⟩,h _ (D.put hd v)⟩
def Zs(P:Program)(n:Nat)(l:List Oper)(Q:AX)(S:wO→Prop)(k:OT):AX :=
 {q:=λe σ ds w=>match e with|.normal=>S w∧WG P n l Q S true k σ ds w|e=>Q.q e σ ds w,p:=Q.p}
theorem Ao(D:S w)(h:WG P n l Q S true k σ ds w):(Zs P n l Q S k).q .normal σ ds w:=⟨D,h⟩
theorem An{x:Oper}(hi:l[i]?=some x)(h:Hu P n l.toArray (Zs P n l Q S k) [x] σ ds w)(h2:WG P n l Q S false o σ ds w):WG P n l Q S top (.br i k o) σ ds w:=λa U=>by
 refine⟨⟨x,hi,?_⟩,h2 a U⟩;have D:=h a U;unfold wpList at D ⊢
 split
 · rename_i hw
   rw[if_pos hw] at D;rcases D with D|⟨_,a',w',h'⟩
   · refine .inl ?_
     unfold Oper.wp at D ⊢;generalize (execOp a.eval x).run P w=rr at D ⊢
     have key:∀a' w',wpList P l.toArray ((Zs P n l Q S k).up n) [] a' w'→wpList P l.toArray (Exit.then (λa' w'=>S w'∧hZ P l (Q.up n) S true k a' w') (Q.up n)) [] a' w':=λa' w' hk=>by
       obtain⟨K,L,F,G⟩:=hk;exact⟨G.1,G.2 a' F⟩
     cases rr with
     |ok nx w' =>
       cases nx <;> simp only[Oper.upon] at D ⊢ <;> first
         |exact key _ _ D
         |(
           refine Calls.mono D λe O he=>?_
           cases e with
           |returned v=>exact key _ _ he
           |panicked c=>exact he
           |outgrown=>obtain⟨Y,Z,J⟩:=he;exact J.elim)
         |exact Rows.mono D λv O he=>key _ _ he
     |halt hh w'=>cases hh <;> simp only[Oper.upon] at D ⊢ <;> exact D
   · exact h'.elim
 · rename_i hw
   rw[if_neg hw] at D;obtain⟨K,L,F,G⟩:=D;exact⟨G.1,G.2 _ F⟩
end
def BX(w:World)(e:TypeId)(size:Nat)(a:Option Addr)(c n:Nat)(xs:List Value):Prop :=
 xs.length=n*size∧((a=none∧c=0∧n=0)∨∃b l,a=some ⟨b,0,none⟩∧AM w b l e∧n≤c∧c≤maxLen∧l.length=c*size∧l.take (n*size)=xs)
def rb(a:Option Addr):Option Nat:=a.map (·.block)
theorem Gf(w:World)(e:TypeId)(size:Nat):BX w e size none 0 0 []:=⟨by simp,.inl ⟨C,C,C⟩⟩
structure Fj(a:Option Addr)(w:World)(a':Option Addr)(w':World):Prop where
 os:w'.os=w.os
 tape:w'.tape=w.tape
 output:w'.output=w.output
 size:w.heap.size≤w'.heap.size
 block:∀k,k<w.heap.size→some k≠rb a→w'.heap[k]?=w.heap[k]?
 own:rb a'=rb a∨rb a'=some w.heap.size
variable {l news xs zl:List Value}{b bytes cs m off:Nat}{a' q':Option Addr}{Ts:TypeId}
theorem BX.ext{w:World}{size:Nat}{c n:Nat}(h:BX w e size a c n xs)(D:AU w w'):BX w' e size a c n xs :=
 ⟨h.1,h.2.imp id λ⟨b,l,F,G,J⟩=>⟨b,l,F,G.ext D,J⟩⟩
theorem BX.chg{w:World}{size:Nat}{c n:Nat}(h:BX w e size a c n xs)(G:GG b w w')(D:rb a≠some b):BX w' e size a c n xs :=
 ⟨h.1,h.2.imp id λ⟨g,l,F,J,K⟩=>⟨g,l,F,J.chg G (λe=>D (by rw[F,← e];rfl)),K⟩⟩
theorem AM.grow{w:World}{T:TypeId}(h:AM w b l T)(F:Fj a w a' w')(D:some b≠rb a):AM w' b l T:=(F.block b h.lt D).trans h
theorem BX.grow{w:World}{size:Nat}{c n:Nat}{q:Option Addr}(h:BX w e size a c n xs)(J:Fj q w q' w')(F:rb a=none∨rb a≠rb q):BX w' e size a c n xs :=
 ⟨h.1,h.2.imp id λ⟨g,l,G,K,L⟩=>⟨g,l,G,K.grow J (λe=>by
   rcases F with D|D
   · rw[G] at D;cases D
   · exact D (by rw[G];exact e)),L⟩⟩
theorem AU.grow{w:World}(h:AU w w1)(D:Fj a w1 a' w2)(G:∀b,rb a=some b→w.heap.size≤b):AU w w2 :=
 ⟨D.os.trans h.os,D.tape.trans h.tape,D.output.trans h.output,Nat.le_trans h.size D.size,λk F=>(D.block k (Nat.lt_of_lt_of_le F h.size) (λe=>by have:=G k e.symm;omega)).trans (h.block k F)⟩
theorem BX.lt{w:World}{size:Nat}{c n:Nat}(h:BX w e size a c n xs)(D:rb a=some b):b<w.heap.size:=by
 rcases h.2 with ⟨F,_⟩|⟨g,l,F,G,_⟩
 · rw[F] at D;cases D
 · rw[F] at D;cases D;exact G.lt
theorem BX.n_le{w:World}{size:Nat}{c n:Nat}(h:BX w e size a c n xs):n≤c:=by
 rcases h.2 with ⟨_,D,F⟩|⟨g,l,D,F,G,_⟩ <;> omega
section
variable{P:Program}{n:Nat}{Q:AX}{σ:Bf}{ds:List Deferred}{w:World}{ops:Array Oper}{ty T:TypeId}{pos:String}{af:Array Edge}{rest:List Oper}{d:Nat}{x y:Operand}
def OB(P:Program)(T:TypeId):Option (TypeId×Nat×Nat×List Value) :=
 match P.underlying T with
 |some (.slice e)=>match P.info? e with
   |some i=>match i.zero with
     |some z=>some (e,i.size,i.bytes,z.cells.toList)
     |none=>none
   |none=>none
 |_=>none
theorem XB{size:Nat}(U:OB P T=some (e,size,bytes,zl))(hzl:Nat.beq zl.length size=true)(hsz:Nat.blt 0 size=true){c k src:Nat}
   (hs:ev σ x=some (.slice a k c)) (hx:ev σ y=some (.slice (some ⟨src,off,none⟩) m cs)) (G:BX w e size a c k xs) (D:∀j u,news[j]?=some u→w.cell? ((⟨src,off,none⟩:Addr).add j)=some u) (hl:news.length=m*size)
   (h1:∀v∈news,v.oneCell'=true) (hm:0<m) (h47:(k+m)*bytes≤140737488355328) (h63:k+m≤9223372036854775807) :
   ∃a' c' w',AK P σ (.call {callee:=.builtin .append,args:=#[x,y],argTypes:=#[T,T]}) ty w (.slice a' (k+m) c') w'∧BX w' e size a' c' (k+m) (xs++news)∧Fj a w a' w':=by
 unfold OB at U
 split at U
 · rename_i F hu
   split at U
   · rename_i i hi
     split at U
     · rename_i z hz
       injection U with U
       obtain⟨rfl,rfl,rfl,rfl⟩:=by simpa using U
       have hzl':z.cells.size=i.size:=by have:=Nat.eq_of_beq_eq_true hzl;simpa using this
       have hsz':0<i.size:=Nat.le_of_ble_eq_true hsz;have hlen:(xs++news).length=(k+m)*i.size:=by rw[List.length_append,G.1,hl,Nat.add_mul]
       have grown:∀old:Nat,BX (w.drew.alloc (.cells (xs.toArray++news.toArray++Builtin.zeroCells z.cells (grownCap w (k+m) old F-(k+m))) F)) F i.size (some ⟨w.heap.size,0,none⟩) (grownCap w (k+m) old F) (k+m) (xs++news) ∧
           Fj a w (some ⟨w.heap.size,0,none⟩) (w.drew.alloc (.cells (xs.toArray++news.toArray++Builtin.zeroCells z.cells (grownCap w (k+m) old F-(k+m))) F)):=by
         intro old;have hge:=grownCap_ge w (k+m) old F;have hcm:grownCap w (k+m) old F≤maxLen:=grownCap_le_maxLen w (k+m) old F (by unfold maxLen;omega);refine⟨⟨hlen,.inr ⟨w.heap.size,xs++news++(Builtin.zeroCells z.cells (grownCap w (k+m) old F-(k+m))).toList,C,?_,hge,hcm,?_,?_⟩⟩,⟨C,C,C,by simp,λj Y _=>Below.heap_alloc w.drew _ j Y,.inr C⟩⟩
         · have:=heap_alloc_new w.drew (.cells (xs.toArray++news.toArray++Builtin.zeroCells z.cells (grownCap w (k+m) old F-(k+m))) F)
           unfold AM
           have e2:(xs++news++(Builtin.zeroCells z.cells (grownCap w (k+m) old F-(k+m))).toList).toArray=xs.toArray++news.toArray++Builtin.zeroCells z.cells (grownCap w (k+m) old F-(k+m)):=by
             apply Array.ext';simp
           rw[e2];exact this
         · simp only[List.length_append,Array.length_toList,size_zeroCells,hzl',G.1,hl,← Nat.add_mul]
           congr 1
           omega
         · rw[← hlen];exact List.take_left
       have J:∀(v':Value)(w':World),(Builtin.append_ #[T,T] ty #[.slice a k c,.slice (some ⟨src,off,none⟩) m cs]).run P w=.ok v' w' →
           AK P σ (.call {callee:=.builtin .append,args:=#[x,y],argTypes:=#[T,T]}) ty w v' w':=λv' w' hr ρ _ _ _ _ hρ=>by
         simp only[execOp,resolve,invoke,builtin,Sem.run_bind,Sem.run_pure,Result.andThen_ok,List.map_toArray,List.map_cons,List.map_nil,hρ _ _ hs,hρ _ _ hx,hr]
       rcases G.2 with ⟨rfl,rfl,rfl⟩|⟨g,l,rfl,hg,hnc,hcm,hcs,O⟩
       · have hxs:xs=[]:=List.eq_nil_of_length_eq_zero (by simpa using G.1)
         subst hxs;have hr:=run_append_nil (P:=P) w T ty F i z hu hi hz ⟨src,off,none⟩ m cs news hl D hm oM (by have hb:=h47;simp only[Nat.zero_add] at hb;omega);have L:=grown 0;simp only[Nat.zero_add,List.nil_append,Array.empty_append] at L ⊢;exact⟨_,_,_,J _ _ hr,L.1,L.2⟩
       · by_cases K:k+m≤c
         · have Z:k*i.size+news.length≤l.toArray.size:=by rw[hl,List.size_toArray,hcs,← Nat.add_mul];exact Nat.mul_le_mul_right _ K
           have hr:=run_append_room (P:=P) w T ty F i hu hi g k c l.toArray hg ⟨src,off,none⟩ m cs news hl D h1 K Z
           refine⟨some ⟨g,0,none⟩,c,_,J _ _ hr,⟨hlen,.inr ⟨g,l.take (k*i.size)++news++l.drop (k*i.size+news.length),C,setRow_heap w g _ _ F _ hg,K,hcm,?_,?_⟩⟩,
             ⟨C,C,C,by simp[World.setRow],λj _ Y=>setRow_other w g j _ (λe=>Y (by rw[e];rfl)),.inl C⟩⟩
           · simp only[List.size_toArray] at Z
             simp only[List.length_append,List.length_take,List.length_drop];omega
           · rw[O,← hlen];exact List.take_left
         · have holds:∀j u,xs[j]?=some u→w.cell? ((⟨g,0,none⟩:Addr).add j)=some u:=λj u Y=>by
             rw[EH,hg.cell,Nat.zero_add];rw[← O] at Y
             have hlt:j<k*i.size:=by
               rcases Nat.lt_or_ge j (k*i.size) with h|h
               · exact h
               · rw[List.getElem?_take,if_neg (by omega)] at Y;cases Y
             rwa[List.getElem?_take,if_pos hlt] at Y
           have hr:=run_append_grow (P:=P) w T ty F i z hu hi hz ⟨g,0,none⟩ k c xs G.1 holds ⟨src,off,none⟩ m cs news hl D oM oM (growslice_fits oM h47);have L:=grown c;exact⟨_,_,_,J _ _ hr,L.1,L.2⟩
     · cases U
   · cases U
 · cases U
theorem wC{size:Nat}(Z:OB P T=some (e,size,bytes,zl))(K:Nat.beq zl.length size=true)(L:Nat.blt 0 size=true){c k src:Nat}{sl:List Value}
   (hs:ev σ x=some (.slice a k c)) (hx:ev σ y=some (.slice (some ⟨src,off,none⟩) m cs)) (F:BX w e size a c k xs) (G:AM w src sl Ts) (D:(sl.drop off).take (m*size)=news) (hl:news.length=m*size)
   (h1:∀v∈news,v.oneCell'=true) (hm:0<m) (O:(k+m)*bytes≤140737488355328) (U:k+m≤9223372036854775807) :
   ∃a' c' w',AK P σ (.call {callee:=.builtin .append,args:=#[x,y],argTypes:=#[T,T]}) ty w (.slice a' (k+m) c') w'∧BX w' e size a' c' (k+m) (xs++news)∧Fj a w a' w':=by
 refine XB Z K L hs hx F (λj u J=>?_) hl h1 hm O U;rw[EH,G.cell];rw[← D] at J
 have Y:j<m*size:=by
   rcases Nat.lt_or_ge j (m*size) with h|h
   · exact h
   · rw[List.getElem?_take,if_neg (by omega)] at J;cases J
 rwa[List.getElem?_take,if_pos Y,List.getElem?_drop] at J
theorem lD{size:Nat}(hd:Nat.blt d n=true)(Y:OB P T=some (e,size,bytes,zl))(J:Nat.beq zl.length size=true)(K:Nat.blt 0 size=true){c k src:Nat}{sl:List Value}
   (Z:ev σ x=some (.slice a k c)) (hx:ev σ y=some (.slice (some ⟨src,off,none⟩) m cs)) (F:BX w e size a c k xs) (G:AM w src sl Ts) (D:(sl.drop off).take (m*size)=news) (hl:news.length=m*size)
   (h1:∀v∈news,v.oneCell'=true) (hm:0<m) (L:(k+m)*bytes≤140737488355328)
   (h:∀a' c' w',BX w' e size a' c' (k+m) (xs++news)→Fj a w a' w'→Hu P n ops Q rest (AF σ d (.slice a' (k+m) c')) ds w') (O:k+m≤9223372036854775807) :
   Hu P n ops Q (⟨some d,.call {callee:=.builtin .append,args:=#[x,y],argTypes:=#[T,T]},ty,pos,af,none⟩::rest) σ ds w:=by
 obtain⟨a',c',w',hr,U,hg⟩:=wC (ty:=ty) Y J K Z hx F G D hl h1 hm L O;exact Ab hd hr (h a' c' w' U hg)
theorem Bb{size:Nat}(hd:Nat.blt d n=true)(U:OB P T=some (e,size,bytes,zl))(J:Nat.beq zl.length size=true)(K:Nat.blt 0 size=true){c k src:Nat}
   (Y:ev σ x=some (.slice a k c)) (Z:ev σ y=some (.slice (some ⟨src,0,none⟩) 1 cs)) (D:BX w e size a c k xs) (F:AM w src news Ts) (hl:Nat.beq news.length size=true)
   (h1:MV news=true) (L:(k+1)*bytes≤140737488355328) (O:k+1≤9223372036854775807)
   (h:∀a' c' w',BX w' e size a' c' (k+1) (xs++news)→Fj a w a' w'→Hu P n ops Q rest (AF σ d (.slice a' (k+1) c')) ds w') :
   Hu P n ops Q (⟨some d,.call {callee:=.builtin .append,args:=#[x,y],argTypes:=#[T,T]},ty,pos,af,none⟩::rest) σ ds w:=by
 have G:=Nat.eq_of_beq_eq_true hl;exact lD hd U J K Y Z D F (by simp[← G]) (by simpa using G) (Mr h1) oM L h O
end
def ZF(P:Program)(T:TypeId):Bool:=match P.underlying T with|some (.interface _)=>true|_=>false
def yT(P:Program)(T:TypeId):Bool:=match P.underlying T with|some (.interface _)=>false|some _=>true|none=>false
def Z3(P:Program)(s d:TypeId):Option IntKind:=match P.underlying s,P.underlying d with|some _,some (.int k)=>some k|_,_=>none
def mV(P:Program)(s d:TypeId):Option TypeId:=match P.underlying s with
 |some (.slice e)=>match P.underlying e,P.underlying d with
   |some (.int .u8),some .string=>some e
   |_,_=>none
 |_=>none
end Go.SW
namespace Go.SP
structure AB where
 k:Int
 ln:Int
 co:Int
 nm:Int
 tx:lU
inductive Fo where
 |nil
 |cons (t:AB) (kids rest:Fo)
def Fo.len:Fo→Nat
 |.nil=>0
 |.cons _ _ r=>r.len+1
def AB.ok(t:AB):Prop:=(t.k=5→t.tx≠[])∧t.tx.length≤100000
def Fo.ok:Fo→Prop
 |.nil=>True
 |.cons t k r=>t.ok∧k.ok∧k.len≤100000∧r.ok
def Fo.all(p:AB→Fo→Prop):Fo→Prop
 |.nil=>True
 |.cons t k r=>p t k∧r.all p
def Fo.snoc:Fo→AB→Fo→Fo
 |.nil,t,k=>.cons t k .nil
 |.cons u l r,t,k=>.cons u l (r.snoc t k)
def Fo.app:Fo→Fo→Fo
 |.nil,y=>y
 |.cons u l r,y=>.cons u l (r.app y)
def Fo.deep:Nat→Fo→Bool
 |_,.nil=>true
 |0,.cons _ _ _=>false
 |n+1,.cons _ l r=>l.deep n&&r.deep (n+1)
def GR(n:Nat)(t:AB)(k:Fo):Prop:=t.ok∧k.ok∧k.len≤100000∧k.deep n=true
theorem NA:∀(n:Nat)(d:Fo),d.ok→d.deep (n+1)=true→d.all (GR n)
 |_,.nil,_,_=>trivial
 |n,.cons t k r,h,hd=>by
   simp only[Fo.deep,Bool.and_eq_true] at hd;exact⟨⟨h.1,h.2.1,h.2.2.1,hd.1⟩,NA n r h.2.2.2 hd.2⟩
inductive Nd where
 |nil
 |cons (op ln co:Int) (tx:lU) (nm:Int) (kids rest:Nd)
def Nd.len:Nd→Nat
 |.nil=>0
 |.cons _ _ _ _ _ _ r=>r.len+1
def Nd.app:Nd→Nd→Nd
 |.nil,y=>y
 |.cons a b c d e l r,y=>.cons a b c d e l (r.app y)
structure N where
 op:Int
 ln:Int
 co:Int
 tx:lU
 nm:Int
 kids:Nd
def N.cons(a:N)(r:Nd):Nd:=.cons a.op a.ln a.co a.tx a.nm a.kids r
def N.one(a:N):Nd:=a.cons .nil
abbrev R:=Except (Int×Int)
def Cq:lU→lU→Bool
 | [],sub=>sub.isEmpty
 |b::l,sub=>sub.isPrefixOf (b::l)||Cq l sub
theorem TX(sub:lU):∀l,-1≤Lib.index l sub
 | []=>by unfold Lib.index;split <;> omega
 |b::l=>by
   have:=TX sub l;unfold Lib.index
   split
   · omega
   · split <;> omega
theorem JK(sub:lU):∀l,Lib.contains l sub=Cq l sub
 | []=>by unfold Lib.contains Lib.index Cq;cases h:sub.isEmpty <;> simp
 |b::l=>by
   have d:=JK sub l;have F:=TX sub l;unfold Lib.contains at d ⊢;unfold Lib.index Cq
   cases J:sub.isPrefixOf (b::l) with
   |true=>simp
   |false =>
     rw[← d];simp only[Bool.false_eq_true,if_false,Bool.false_or]
     by_cases D:Lib.index l sub = -1
     · simp[D]
     · have G:¬(Lib.index l sub == -1)=true:=by simpa using D
       rw[if_neg G];simp only[decide_eq_decide];omega
def qA:lU:=[32,102,110,32,108,101,116,32,114,101,99,32,105,102,32,115,101,113,32,116,117,112,108,101,32,99,97,115,101,32,116,114,121,32,114,97,105,115,101,32,116,114,97,110,115,97,99,116,32,100,97,116,97,32,114,111,111,116,32,100,101,102,32,100,111,32]
def vO:lU:=[32,45,62,32,116,117,112,108,101,32,114,101,102,32,112,114,101,102,32]
def Om(tx:lU):Bool:=Cq qA ([32]++tx++[32])
def VW(tx:lU):Bool:=Cq vO ([32]++tx++[32])
def Z4(tx:lU):UInt8:=tx.headD 0
namespace AB
def isWord(t:AB)(s:lU):Bool:=t.k==5&&t.tx==s
def isVar(t:AB):Bool:=t.k==5&&(!(t.tx==[95])&&(((Z4 t.tx).toNat:Int) != 39&&!Om t.tx))
def isHole(t:AB):Bool:=t.isVar||t.isWord [95]
def isTypeName(t:AB):Bool:=t.isVar&&!VW t.tx
def isTypeVar(t:AB):Bool:=t.k==5&&(((Z4 t.tx).toNat:Int)==39&&decide (1<(t.tx.length:Int)))
end AB
def within(n d h:Int):Bool:=decide (d≤n)&&decide (n≤h)
def Ry(t:AB):Fo→Bool
 |.nil=>false
 |.cons h _ _=>t.k==0&&h.isWord [102,110]
def need{α:Type}(t:AB)(b:Bool)(x:R α):R α:=if b then x else .error (t.ln,t.co)
def Ay(t:AB)(op:Int)(tx:lU)(kids:Nd):N:=⟨op,t.ln,t.co,tx,0,kids⟩
def A9(f:AB→Fo→R N):Fo→R Nd
 |.nil=>.ok .nil
 |.cons t k r=>match f t k with
   |.error e=>.error e
   |.ok a=>match A9 f r with
     |.error e=>.error e
     |.ok b=>.ok (a.cons b)
def H3(t:AB)(_:Fo):R N:=.ok (if t.isWord [95] then Ay t 21 [] .nil else Ay t 22 t.tx .nil)
def Ky:Fo→Bool
 |.nil=>true
 |.cons t _ r=>t.isHole&&Ky r
def BD(seen:List lU):Nd→Option (List lU)
 |.nil=>some seen
 |.cons op _ _ tx _ kids rest =>
   match (if op==22 then (if seen.contains tx then none else some (tx::seen)) else some seen) with
   |none=>none
   |some s1=>match BD s1 kids with
     |none=>none
     |some s2=>BD s2 rest
def D9:Nat→AB→Fo→R N
 |0,t,_=>.error (t.ln,t.co)
 |n+1,t,kids =>
   if t.k==2 then .ok ⟨23,t.ln,t.co,[],t.nm,.nil⟩
   else if t.k==4 then .ok (Ay t 24 t.tx .nil)
   else if t.k==6 then .ok (Ay t 26 t.tx .nil)
   else if t.k==5 then need t t.isHole (H3 t kids)
   else if t.k==3 then .error (t.ln,t.co)
   else match kids with
     |.nil=>.ok (Ay t 25 [] .nil)
     |.cons h _ l =>
       if h.k==6 then need t (within l.len 1 8) (match A9 (D9 n) l with|.error e=>.error e|.ok d=>.ok (Ay t 26 h.tx d))
       else need t (h.isWord [116,117,112,108,101]&&within l.len 2 8) (match A9 (D9 n) l with|.error e=>.error e|.ok d=>.ok (Ay t 27 [] d))
def CP(t:AB):Nd→Option N
 |.nil=>none
 |.cons op ln co tx nm kids r=>match r with
   |.nil=>some ⟨op,ln,co,tx,nm,kids⟩
   |_=>match CP t r with
     |none=>none
     |some o=>some (Ay t 32 [45,62] (.cons op ln co tx nm kids o.one))
def BV:Nat→AB→Fo→R N
 |0,t,_=>.error (t.ln,t.co)
 |n+1,t,kids =>
   if t.k==0 then match kids with
     |.nil=>.error (t.ln,t.co)
     |.cons h _ l =>
       if h.isWord [45,62] then need t (decide ((2:Int)≤l.len)) (match A9 (BV n) l with
         |.error e=>.error e
         |.ok d=>match CP t d with
           |some o=>.ok o
           |none=>.error (t.ln,t.co))
       else
         let ok:=if h.isWord [116,117,112,108,101] then within l.len 2 8
           else if h.isWord [114,101,102]||h.isWord [112,114,101,102] then (l.len:Int)==1
           else h.isTypeName&&within l.len 1 8
         need t ok (match A9 (BV n) l with|.error e=>.error e|.ok d=>.ok (Ay t 32 h.tx d))
   else if t.isTypeVar then .ok (Ay t 31 t.tx .nil)
   else need t t.isTypeName (.ok (Ay t 32 t.tx .nil))
def Gp(n:Nat)(ex:AB→Fo→R N)(t:AB)(kids:Fo):R N :=
 match kids with
 |.cons p d (.cons b bk .nil)=>need t (t.k==0) (match D9 n p d with
   |.error e=>.error e
   |.ok q=>need p (BD [] q.one).isSome (match ex b bk with
     |.error e=>.error e
     |.ok x=>.ok (Ay t 18 [] (q.cons x.one))))
 |_=>.error (t.ln,t.co)
def Bh(n:Nat)(ex:AB→Fo→R N)(t:AB)(w:lU)(l:Fo):R N :=
 if w==[102,110] then match l with
   |.cons p F (.cons b bk .nil)=>need t (p.k==0&&(within F.len 1 8&&Ky F)) (match A9 H3 F with
     |.error e=>.error e
     |.ok J=>match ex b bk with
       |.error e=>.error e
       |.ok x=>.ok (Ay t 7 [] (J.app x.one)))
   |_=>.error (t.ln,t.co)
 else if w==[108,101,116] then match l with
   |.cons v _ (.cons e d (.cons b bk .nil))=>need t v.isHole (match ex e d with
     |.error e=>.error e
     |.ok x=>match ex b bk with
       |.error e=>.error e
       |.ok y=>.ok (Ay t 9 v.tx (x.cons y.one)))
   |_=>.error (t.ln,t.co)
 else if w==[114,101,99] then match l with
   |.cons v _ (.cons e d (.cons b bk .nil))=>need t (v.isVar&&Ry e d) (match ex e d with
     |.error e=>.error e
     |.ok x=>match ex b bk with
       |.error e=>.error e
       |.ok y=>.ok (Ay t 10 v.tx (x.cons y.one)))
   |_=>.error (t.ln,t.co)
 else if w==[105,102] then need t ((l.len:Int)==3) (match A9 ex l with|.error e=>.error e|.ok h=>.ok (Ay t 11 [] h))
 else if w==[115,101,113] then need t (decide ((1:Int)≤l.len)) (match A9 ex l with|.error e=>.error e|.ok h=>.ok (Ay t 12 [] h))
 else if w==[116,117,112,108,101] then need t (within l.len 2 8) (match A9 ex l with|.error e=>.error e|.ok h=>.ok (Ay t 13 [] h))
 else if w==[99,97,115,101]||w==[116,114,121] then need t (decide ((2:Int)≤l.len)) (match l with
   |.nil=>.error (t.ln,t.co)
   |.cons e d D=>match ex e d with
     |.error e=>.error e
     |.ok x=>match A9 (Gp n ex) D with
       |.error e=>.error e
       |.ok G=>.ok (Ay t (if w==[116,114,121] then 15 else 14) [] (x.cons G)))
 else if w==[114,97,105,115,101]||w==[116,114,97,110,115,97,99,116] then match l with
   |.cons e d .nil=>match ex e d with
     |.error e=>.error e
     |.ok x=>.ok (Ay t (if w==[116,114,97,110,115,97,99,116] then 17 else 16) [] x.one)
   |_=>.error (t.ln,t.co)
 else .error (t.ln,t.co)
def BG:Nat→AB→Fo→R N
 |0,t,_=>.error (t.ln,t.co)
 |n+1,t,kids =>
   if t.k==2 then .ok ⟨1,t.ln,t.co,[],t.nm,.nil⟩
   else if t.k==3 then .ok (Ay t 2 t.tx .nil)
   else if t.k==4 then .ok (Ay t 3 t.tx .nil)
   else if t.k==6 then .ok (Ay t 6 t.tx .nil)
   else if t.k==5 then need t t.isVar (.ok (Ay t 5 t.tx .nil))
   else match kids with
     |.nil=>.ok (Ay t 4 [] .nil)
     |.cons h _ l =>
       if h.k==6 then need t (within l.len 1 8) (match A9 (BG n) l with|.error e=>.error e|.ok d=>.ok (Ay t 6 h.tx d))
       else if h.k==5&&Om h.tx then Bh n (BG n) t h.tx l
       else need t (within l.len 1 8) (match A9 (BG n) kids with|.error e=>.error e|.ok d=>.ok (Ay t 8 [] d))
def Eo(n:Nat)(t:AB)(kids:Fo):R N :=
 match kids with
 |.nil=>.error (t.ln,t.co)
 |.cons h _ l=>need t (t.k==0&&(h.k==6&&decide ((kids.len:Int)≤9))) (match A9 (BV n) l with|.error e=>.error e|.ok d=>.ok (Ay t 42 h.tx d))
def Bk:Fo→Option Nd
 |.nil=>some .nil
 |.cons v _ r=>if v.isTypeVar then (match Bk r with|none=>none|some x=>some ((Ay v 31 v.tx .nil).cons x)) else none
def Co(n:Nat)(t:AB)(kids:Fo):R N :=
 match kids with
 |.nil=>.error (t.ln,t.co)
 |.cons h _ l=>need t (t.k==0&&h.k==5) (
   if h.tx==[100,97,116,97] then match l with
     |.cons a _ (.cons b bk (.cons c d r))=>need t (a.isTypeName&&(b.k==0&&decide ((bk.len:Int)≤8))) (match Bk bk with
       |none=>.error (t.ln,t.co)
       |some vs=>match A9 (Eo n) (.cons c d r) with
         |.error e=>.error e
         |.ok cs=>.ok (Ay t 41 a.tx (vs.app cs)))
     |_=>.error (t.ln,t.co)
   else if h.tx==[114,111,111,116] then match l with
     |.cons a _ (.cons b bk (.cons c d .nil))=>need t a.isVar (match BV n b bk with
       |.error e=>.error e
       |.ok x=>match BG n c d with
         |.error e=>.error e
         |.ok y=>.ok (Ay t 43 a.tx (x.cons y.one)))
     |_=>.error (t.ln,t.co)
   else if h.tx==[100,101,102] then match l with
     |.cons a _ (.cons b bk .nil)=>need t a.isVar (match BG n b bk with|.error e=>.error e|.ok x=>.ok (Ay t 44 a.tx x.one))
     |_=>.error (t.ln,t.co)
   else if h.tx==[114,101,99] then match l with
     |.cons a _ (.cons b bk .nil)=>need t (a.isVar&&Ry b bk) (match BG n b bk with|.error e=>.error e|.ok x=>.ok (Ay t 45 a.tx x.one))
     |_=>.error (t.ln,t.co)
   else if h.tx==[100,111] then match l with
     |.cons b bk .nil=>match BG n b bk with|.error e=>.error e|.ok x=>.ok (Ay t 46 [] x.one)
     |_=>.error (t.ln,t.co)
   else .error (t.ln,t.co))
def AA:List AB→List (AB×Fo)→Fo→R Fo
 | [],[],cur=>.ok cur
 | [],(o,p)::s,_=>match ((o,p)::s).getLast? with
   |some (q,_)=>.error (q.ln,q.co)
   |none=>.error (0,0)
 |k::l,st,cur =>
   if k.k==0 then (if st.length==200 then .error (k.ln,k.co) else AA l ((k,cur)::st) .nil)
   else if k.k==1 then (match st with
     | []=>.error (k.ln,k.co)
     |(o,p)::s=>AA l s (p.snoc o cur))
   else AA l st (cur.snoc k .nil)
end Go.SP
namespace Go.SP
def HS(n:Nat)(h:Except (Int×Int×Int) (List AB)):Nd×Int×Int×Int :=
 match h with
 |.error e=>(.nil,e)
 |.ok d=>match AA d [] .nil with
   |.error e=>(.nil,e.1,e.2,10)
   |.ok D=>match A9 (Co n) D with
     |.error e=>(.nil,e.1,e.2,10)
     |.ok nds=>(nds,0,0,0)
end Go.SP
namespace Go.SP
open Go.SW Go.RowKit
def Jh(t:AB):List Value:=[.int .i64 t.k,.int .i64 t.ln,.int .i64 t.co,.int .i64 t.nm,S t.tx]
def Sl(U:Nat→Prop)(w:World)(a:Option Addr)(n c len:Nat)(C:List Value→Prop):Prop :=
 n=len∧n≤c∧(n=0∨∃b off l T,U b∧a=some ⟨b,off,none⟩∧AM w b l T∧C (l.drop off))
def HC(U:Nat→Prop)(w:World):Fo→List Value→Prop
 |.nil,_=>True
 |.cons t kids rest,l=>∃a n c d,l=.int .i64 t.k::.int .i64 t.ln::.int .i64 t.co::.int .i64 t.nm::S t.tx::.slice a n c::d∧Sl U w a n c kids.len (HC U w kids)∧HC U w rest d
abbrev Ey(U:Nat→Prop)(w:World)(a:Option Addr)(n c:Nat)(fo:Fo):Prop:=Sl U w a n c fo.len (HC U w fo)
def Gg(U:Nat→Prop)(w:World):Nd→List Value→Prop
 |.nil,_=>True
 |.cons op ln co tx nm kids rest,l=>∃a n c d,l=.int .i64 op::.int .i64 ln::.int .i64 co::S tx::.int .i64 nm::.slice a n c::d∧Sl U w a n c kids.len (Gg U w kids)∧Gg U w rest d
abbrev HD(U:Nat→Prop)(w:World)(a:Option Addr)(n c:Nat)(nd:Nd):Prop:=Sl U w a n c nd.len (Gg U w nd)
variable {vs:List Value}{m:Nat}{U':Nat→Prop}{e:TypeId}
theorem Sl.imp{U:Nat→Prop}{w w':World}{a:Option Addr}{n c len:Nat}{C D:List Value→Prop}(h:Sl U w a n c len C)(F:∀b,U b→b<w.heap.size→U' b∧w'.heap[b]?=w.heap[b]?)(G:∀l,C l→D l):Sl U' w' a n c len D :=
 ⟨h.1,h.2.1,h.2.2.imp id λ⟨b,off,l,T,hu,J,d,K⟩=>⟨b,off,l,T,(F b hu d.lt).1,J,(F b hu d.lt).2.trans d,G _ K⟩⟩
theorem HC.imp{U:Nat→Prop}{w w':World}(d:∀b,U b→b<w.heap.size→U' b∧w'.heap[b]?=w.heap[b]?):∀(fo:Fo)(l:List Value),HC U w fo l→HC U' w' fo l
 |.nil,_,_=>trivial
 |.cons _ kids rest,_,⟨a,n,c,h,D,F,G⟩=>⟨a,n,c,h,D,F.imp d (HC.imp d kids),HC.imp d rest h G⟩
theorem Gg.imp{U:Nat→Prop}{w w':World}(d:∀b,U b→b<w.heap.size→U' b∧w'.heap[b]?=w.heap[b]?):∀(nd:Nd)(l:List Value),Gg U w nd l→Gg U' w' nd l
 |.nil,_,_=>trivial
 |.cons _ _ _ _ _ kids rest,_,⟨a,n,c,h,D,F,G⟩=>⟨a,n,c,h,D,F.imp d (Gg.imp d kids),Gg.imp d rest h G⟩
theorem Ey.imp{U:Nat→Prop}{w w':World}{a:Option Addr}{n c:Nat}{fo:Fo}(h:Ey U w a n c fo)(d:∀b,U b→b<w.heap.size→U' b∧w'.heap[b]?=w.heap[b]?):Ey U' w' a n c fo:=Sl.imp h d (HC.imp d fo)
theorem HD.imp{U:Nat→Prop}{w w':World}{a:Option Addr}{n c:Nat}{nd:Nd}(h:HD U w a n c nd)(d:∀b,U b→b<w.heap.size→U' b∧w'.heap[b]?=w.heap[b]?):HD U' w' a n c nd:=Sl.imp h d (Gg.imp d nd)
section
variable{U:Nat→Prop}{w w':World}{a:Option Addr}{n c:Nat}{fo:Fo}{nd:Nd}{l:List Value}
theorem Ey.ext(h:Ey U w a n c fo)(d:AU w w'):Ey U w' a n c fo:=Ey.imp h λb hu D=>⟨hu,d.block b D⟩
theorem HD.ext(h:HD U w a n c nd)(d:AU w w'):HD U w' a n c nd:=HD.imp h λb hu D=>⟨hu,d.block b D⟩
theorem HC.ext(h:HC U w fo l)(d:AU w w'):HC U w' fo l:=HC.imp (λb hu D=>⟨hu,d.block b D⟩) fo l h
theorem Gg.ext(h:Gg U w nd l)(d:AU w w'):Gg U w' nd l:=Gg.imp (λb hu D=>⟨hu,d.block b D⟩) nd l h
theorem Ey.chg{b:Nat}(h:Ey U w a n c fo)(d:GG b w w')(D:¬U b):Ey U w' a n c fo:=Ey.imp h λk hu _=>⟨hu,d.block k (λe=>D (e▸hu))⟩
theorem HD.chg{b:Nat}(h:HD U w a n c nd)(d:GG b w w')(D:¬U b):HD U w' a n c nd:=HD.imp h λk hu _=>⟨hu,d.block k (λe=>D (e▸hu))⟩
theorem Gg.chg{b:Nat}(h:Gg U w nd l)(d:GG b w w')(D:¬U b):Gg U w' nd l:=Gg.imp (λk hu _=>⟨hu,d.block k (λe=>D (e▸hu))⟩) nd l h
theorem Ey.mono(h:Ey U w a n c fo)(d:∀b,U b→U' b):Ey U' w a n c fo:=Ey.imp h λb hu _=>⟨d b hu,C⟩
theorem HD.mono(h:HD U w a n c nd)(d:∀b,U b→U' b):HD U' w a n c nd:=HD.imp h λb hu _=>⟨d b hu,C⟩
theorem Gg.mono(h:Gg U w nd l)(d:∀b,U b→U' b):Gg U' w nd l:=Gg.imp (λb hu _=>⟨d b hu,C⟩) nd l h
theorem Gg.more:∀(nd:Nd)(l m:List Value),Gg U w nd l→Gg U w nd (l++m)
 |.nil,_,_,_=>trivial
 |.cons _ _ _ _ _ kids rest,l,m,⟨a,n,c,d,h,D,F⟩=>⟨a,n,c,d++m,by rw[h];rfl,D,Gg.more rest d m F⟩
theorem HC.more:∀(fo:Fo)(l m:List Value),HC U w fo l→HC U w fo (l++m)
 |.nil,_,_,_=>trivial
 |.cons _ kids rest,l,m,⟨a,n,c,d,h,D,F⟩=>⟨a,n,c,d++m,by rw[h];rfl,D,HC.more rest d m F⟩
theorem Ey.nil(U:Nat→Prop)(w:World)(a:Option Addr)(c:Nat):Ey U w a 0 c .nil:=⟨C,Nat.zero_le _,.inl C⟩
theorem HD.nil(U:Nat→Prop)(w:World)(a:Option Addr)(c:Nat):HD U w a 0 c .nil:=⟨C,Nat.zero_le _,.inl C⟩
theorem Ey.head{t:AB}{kids rest:Fo}(h:Ey U w a n c (.cons t kids rest)):∃b off l T ka kn kc d,U b∧a=some ⟨b,off,none⟩∧AM w b l T ∧
   l.drop off=.int .i64 t.k::.int .i64 t.ln::.int .i64 t.co::.int .i64 t.nm::S t.tx::.slice ka kn kc::d∧Ey U w ka kn kc kids∧HC U w rest d:=by
 obtain⟨D,Q,F|⟨b,off,l,T,hu,G,J,ka,kn,kc,d,K,L,O⟩⟩:=h
 · rw[F] at D;cases D
 · exact⟨b,off,l,T,ka,kn,kc,d,hu,G,J,K,L,O⟩
end
def Fy(a:Option Addr)(c sz:Nat):Option Addr:=if c=1 then a else a.map (·.add (1*sz))
theorem Ey.rest{U:Nat→Prop}{w:World}{a:Option Addr}{n c:Nat}{t:AB}{kids rest:Fo}(h:Ey U w a n c (.cons t kids rest)):Ey U w (Fy a c 6) rest.len (c-1) rest:=by
 obtain⟨d,Q,D|⟨b,off,l,T,hu,F,G,ka,kn,kc,J,K,Y,L⟩⟩:=h
 · rw[D] at d;cases d
 · have Z:n=rest.len+1:=d
   refine⟨C,oM,?_⟩
   by_cases O:c=1
   · left;omega
   · right
     refine⟨b,off+1*6,l,T,hu,by simp[Fy,O,F,EH],G,?_⟩
     have:l.drop (off+1*6)=J:=by
       rw[← List.drop_drop,K];rfl
     rw[this];exact L
section
variable{P:Program}{σ:Bf}{w:World}{ty T:TypeId}{x y lo:Operand}{k b p off q:Nat}{l cells:List Value}{T':TypeId}
theorem WY{a:Option Addr}{c:Nat}(h:ev σ x=some (.slice a (m+1) c))(d:ev σ lo=some (.int .i64 1))(D:Je P T=some (e,k)):AK P σ (.slice T x (some lo) none none) ty w (.slice (Fy a c k) m (c-1)) w:=by
 have:=Mi (w:=w) (ty:=ty) (i:=1) h (by simpa using d) D oM;simpa[Fy] using this
theorem iP:∀{cells:List Value}{off q k:Nat}{l vs:List Value},cells.drop off=l→Vz l q (k+1)=some vs→Vz cells (off+q) (k+1)=some vs
 |cells,0,q,k,l,vs,h,d=>by rw[Nat.zero_add];rw[List.drop_zero] at h;rw[h];exact d
 | [],off+1,q,k,l,vs,h,d=>by
   rw[List.drop_nil] at h;subst h
   cases q <;> cases d
 |c::cells,off+1,q,k,l,vs,h,d=>by
   rw[List.drop_succ_cons] at h;have:=iP h d;rw[show off+1+q=(off+q)+1 by omega];exact this
theorem Mx(q:Nat)(d:ev σ x=some (.pointer (some ⟨b,p,none⟩)))(h:AP P T=some (true,k+1))(D:AM w b cells T')(hd:cells.drop off=l)(F:p=off+q)(G:Vz l q (k+1)=some vs) :
   AK P σ (.load T x) ty w (.agg vs.toArray) w:=by
 refine Di d h D ?_;rw[F];exact iP hd G
end
end Go.SP
namespace Go.Proofs.YtelmolopaolbcaaGreatDoor
open Go.SW Go.RowKit Go.Proofs.Tryz
theorem uE:OB prog 44=some (5,1,1,[.int .u8 0]):=kR
theorem Jg:OB prog 57=some (108,5,48,[.int .i64 0,.int .i64 0,.int .i64 0,.int .i64 0,.string ⟨#[]⟩]):=kR
theorem YO:OB prog 63=some (110,6,72,[.int .i64 0,.int .i64 0,.int .i64 0,.int .i64 0,.string ⟨#[]⟩,.slice none 0 0]):=kR
theorem yW:OB prog 111=some (63,1,24,[.slice none 0 0]):=kR
theorem Xx:mV prog 44 9=some 5:=kR
theorem pZ:Z3 prog 3 5=some .u8:=kR
theorem tE:Z3 prog 3 43=some .u64:=kR
theorem L3:Z3 prog 3 208=some .u64:=kR
theorem VZ:Z3 prog 5 43=some .u64:=kR
theorem Mm:Z3 prog 43 2=some .i64:=kR
theorem kJ:Z3 prog 190 5=some .u8:=kR
theorem qG:BB prog 37:=Am func37 kR kR
theorem Tm:BB prog 38:=Am func38 kR kR
theorem AaA:BB prog 39:=Am func39 kR kR
theorem iL:BB prog 42:=Am func42 kR kR
theorem pN:BB prog 47:=Am func47 kR kR
theorem Aa3:BB prog 51:=Am func51 kR kR
theorem pU:BB prog 57:=Am func57 kR kR
theorem N5:BB prog 74:=Am func74 kR kR
theorem Xu:BB prog 75:=Am func75 kR kR
theorem pQ:BB prog 76:=Am func76 kR kR
theorem MQ:BB prog 77:=Am func77 kR kR
theorem Aa1:BB prog 78:=Am func78 kR kR
theorem vH:BB prog 102:=Am func102 kR kR
theorem uC:BB prog 103:=Am func103 kR kR
theorem xM:BB prog 104:=Am func104 kR kR
theorem tL:BB prog 105:=Am func105 kR kR
theorem UO:BB prog 106:=Am func106 kR kR
theorem FY:BB prog 107:=Am func107 kR kR
theorem Ww:BB prog 126:=Am func126 kR kR
theorem xK:BB prog 127:=Am func127 kR kR
theorem xO:BB prog 128:=Am func128 kR kR
theorem rS:BB prog 129:=Am func129 kR kR
theorem tX:BB prog 130:=Am func130 kR kR
theorem cJ:BB prog 132:=Am func132 kR kR
theorem wV:BB prog 144:=Am func144 kR kR
theorem uH:BB prog 145:=Am func145 kR kR
theorem vW:BB prog 147:=Am func147 kR kR
theorem wG:BB prog 148:=Am func148 kR kR
theorem gB:BB prog 165:=Am func165 kR kR
theorem rU:BB prog 170:=Am func170 kR kR
theorem sE:BB prog 180:=Am func180 kR kR
theorem uA:BB prog 185:=Am func185 kR kR
theorem xI:BB prog 191:=Am func191 kR kR
theorem xP:BB prog 192:=Am func192 kR kR
theorem tT:BB prog 200:=Am func200 kR kR
theorem sH:BB prog 202:=Am func202 kR kR
theorem vB:BB prog 205:=Am func205 kR kR
theorem tK:FA prog 27 0=some 0:=kR
theorem tN:FA prog 27 1=some 1:=kR
theorem oK:FA prog 103 0=some 0:=kR
theorem HK:FA prog 106 0=some 0:=kR
theorem F4:FA prog 106 1=some 1:=kR
theorem QX:FA prog 106 2=some 2:=kR
theorem Cm:FA prog 106 3=some 4:=kR
theorem jV:FA prog 108 1=some 1:=kR
theorem jY:FA prog 298 0=some 0:=kR
theorem qE:ZF prog 20=true:=kR
theorem G5:ZF prog 184=true:=kR
theorem mixed:prog.follows .mixedOrders=true:=kR
theorem kH:xZ prog 61=true:=kR
theorem Gs:xZ prog 103=true:=kR
theorem LH:xZ prog 258=true:=kR
theorem sN:No prog 27=some [(0,1),(1,1)]:=kR
theorem pl61:No prog 61=some [(0,2)]:=kR
theorem zD:No prog 103=some [(0,2)]:=kR
theorem zA:No prog 106=some [(0,1),(1,1),(2,2),(4,1)]:=kR
theorem Ui:No prog 108=some [(0,1),(1,2),(3,1),(4,1)]:=kR
theorem oO:No prog 110=some [(0,5),(5,1)]:=kR
theorem nI:Je prog 44=some (5,1):=kR
theorem Hj:Je prog 57=some (108,5):=kR
theorem La:Je prog 63=some (110,6):=kR
theorem Ho:Je prog 111=some (63,1):=kR
theorem oS:Je prog 333=some (213,1):=kR
theorem rG:yT prog 103=true:=kR
theorem UR:AP prog 3=some (false,1):=kR
theorem vG:AP prog 4=some (false,1):=kR
theorem ti5:AP prog 5=some (false,1):=kR
theorem ZB:AP prog 9=some (false,1):=kR
theorem Jl:AP prog 27=some (true,2):=kR
theorem YB:AP prog 28=some (false,1):=kR
theorem Du:AP prog 57=some (false,1):=kR
theorem Kt:AP prog 63=some (false,1):=kR
theorem ti74:AP prog 74=some (true,6):=kR
theorem zG:AP prog 103=some (true,2):=kR
theorem DY:AP prog 108=some (true,5):=kR
theorem Lk:AP prog 110=some (true,6):=kR
theorem ti208:AP prog 208=some (false,1):=kR
theorem pT:AP prog 213=some (false,1):=kR
theorem qC:AP prog 333=some (false,1):=kR
theorem un4:prog.underlying 4=some .bool:=kR
theorem JQ:prog.underlying 9=some .string:=kR
theorem zr4:HG prog 4=some [.bool false]:=kR
theorem zr5:HG prog 5=some [.int .u8 0]:=kR
theorem U4:HG prog 27=some [.int .i64 0,.int .i64 0]:=kR
theorem zr28:HG prog 28=some [.int .i64 0]:=kR
theorem zr57:HG prog 57=some [.slice none 0 0]:=kR
theorem zr61:HG prog 61=some [.int .i64 0,.int .i64 0]:=kR
theorem zr63:HG prog 63=some [.slice none 0 0]:=kR
theorem zr74:HG prog 74=some [.int .i64 0,.int .i64 0,.int .i64 0,.string ⟨#[]⟩,.int .i64 0,.slice none 0 0]:=kR
theorem oU:HG prog 103=some [.int .i64 0,.int .i64 0]:=kR
theorem zr106:HG prog 106=some [.string ⟨#[]⟩,.int .i64 0,.int .i64 0,.int .i64 0,.slice none 0 0]:=kR
theorem D7:HG prog 108=some [.int .i64 0,.int .i64 0,.int .i64 0,.int .i64 0,.string ⟨#[]⟩]:=kR
theorem LJ:HG prog 110=some [.int .i64 0,.int .i64 0,.int .i64 0,.int .i64 0,.string ⟨#[]⟩,.slice none 0 0]:=kR
end Go.Proofs.YtelmolopaolbcaaGreatDoor
namespace Go.SP
def G3:List Nat:=[4607182418800017408,4621819117588971520,4636737291354636288,4652007308841189376,4666723172467343360,4681608360884174848,4696837146684686336,4711630319722168320,4726483295884279808,4741671816366391296,4756540486875873280,4771362005757984768,4786511204640096256,4801453603149578240,4816244402031689728]
end Go.SP
namespace Go.Proofs.YtelmolopaolbcaaGreatDoor
open Go.SW Go.SP Go.RowKit Go.Shelf Go.Lib Go.Proofs.Tryz
structure Gl(w:wO):Prop where
 maxLen:∃m:Int,w.cell? ⟨2,0,none⟩=some (.int .i64 m)
 errRange:∃v:Value,w.cell? ⟨6,0,none⟩=some v∧(v=.nilIface∨∃te pe,v=.iface te pe)
 optimize:w.cell? ⟨8,0,none⟩=some (.bool true)
 finfo:w.cell? ⟨9,0,none⟩=some (.int .u64 52)
 pow10:∃b off n c,w.cell? ⟨16,0,none⟩=some (.slice (some ⟨b,off,none⟩) n c)∧15≤n∧∀j v,G3[j]?=some v→w.cell? ⟨b,off+j,none⟩=some (.float .f64 v)
variable {args:Array Value}{b o:Nat}{P:Program}{w w':wO}
theorem IW{v:Value}(h:w.cell? ⟨b,o,none⟩=some v):b<w.heap.size:=by
 rcases Nat.lt_or_ge b w.heap.size with d | d
 · exact d
 · simp[World.cell?,Array.getElem?_eq_none d] at h
theorem E1{v:Value}(h:w.cell? ⟨b,o,none⟩=some v)(d:AU w w'):w'.cell? ⟨b,o,none⟩=some v:=(d.cell (p:=⟨b,o,none⟩) (IW h)).trans h
theorem Gl.ext(h:Gl w)(d:AU w w'):Gl w' :=
 ⟨let ⟨m,hm⟩:=h.maxLen;⟨m,E1 hm d⟩,let ⟨v,D,F⟩:=h.errRange;⟨v,E1 D d,F⟩,E1 h.optimize d,E1 h.finfo d,
   let ⟨b,off,n,c,G,F,J⟩:=h.pow10;⟨b,off,n,c,E1 G d,F,λj v D=>E1 (J j v D) d⟩⟩
theorem Ft(l:lU):(⟨l.toArray⟩:ByteArray).data.toList=l:=rfl
theorem KS(l:lU):(⟨l.toArray⟩:ByteArray).size=l.length:=by simp[ByteArray.size]
theorem Fx{f:FuncId}{v:Value}{R:wO→Prop}(h:Calls P f args w λe w'=>e=.returned v∧R w')(d:∀w',R w'→AU w w') :
   Bq P f args w λu w'=>u=v∧AU w w':=Calls.mono h λ_ _ ⟨he,D⟩=>⟨v,he,C,d _ D⟩
theorem HW(w:wO)(d:Gl w)(a b:lU)(D:a.length<4294967281):Bq prog 57 #[S a,S b] w λv w'=>v=.bool (Cq a b)∧AU w w':=by
 obtain⟨m,hm⟩:=d.maxLen;have h:=Any.strings_Contains Tryz.lays144 ⟨a.toArray⟩ ⟨b.toArray⟩ m w (by rw[KS];exact D) hm;rw[Ft,Ft,JK] at h;exact Fx h (λw' e=>by subst e;exact AU.refl _)
theorem Fp(w:wO)(a:lU)(c:UInt8):Bq prog 75 #[S a,.int .u8 c.toNat] w λv w'=>v=.int .i64 (Lib.indexByte a c)∧AU w w':=by
 have h:=Any.strings_IndexByte Tryz.lays137 ⟨a.toArray⟩ c.toNat w;rw[Ft] at h;have e:((c.toNat:Int).toNat).toUInt8=c:=by simp
 rw[e] at h;exact Fx h (λw' e=>by subst e;exact AU.refl _)
theorem G7(w:wO)(a b:lU):Bq prog 106 #[S a,S b] w λv w'=>v=S (Lib.trimPrefix a b)∧AU w w':=by
 have h:=Any.strings_TrimPrefix Tryz.lays101 ⟨a.toArray⟩ ⟨b.toArray⟩ w;rw[Ft,Ft] at h;exact Fx h (λw' e=>by subst e;exact AU.refl _)
theorem dR(w:wO)(d:Gl w)(a b:lU)(D:a.length<4294967281) :
   Bq prog 128 #[S a,S b] w λv w'=>v=.tuple #[S (Lib.cut a b).1,S (Lib.cut a b).2.1,.bool (Lib.cut a b).2.2]∧AU w w':=by
 obtain⟨m,hm⟩:=d.maxLen;have h:=Any.strings_Cut Tryz.lays145 ⟨a.toArray⟩ ⟨b.toArray⟩ m w (by rw[KS];exact D) hm;rw[Ft,Ft] at h;exact Fx h (λw' ⟨n,e⟩=>by subst e;exact⟨C,C,C,Nat.le_refl _,λ_ _=>C⟩)
theorem QA(w:wO)(a b:lU)(F:a.length≤9223372036854775807)(G:b.length<4294967281)(d:b.all (λc=>decide (c.toNat<128))=true) :
   Bq prog 132 #[S a,S b] w λv w'=>v=S (Lib.trimS a b)∧AU w w':=by
 have h:=Any.strings_Trim_laid Tryz.lays160 kR ⟨a.toArray⟩ ⟨b.toArray⟩ w (by rw[KS];exact F) (by rw[KS];exact G) (λj c D=>by
   rw[Ft] at D;have:=List.all_eq_true.1 d c (List.mem_of_getElem? D);simpa using this)
 rw[Ft,Ft] at h;exact Fx h (λw' h=>h)
theorem Ru(w:wO)(D:Gl w)(fn s:lU)(base bits:Int)(J:s.length≤100000):Bq prog 145 #[S fn,S s,.int .i64 base,.int .i64 bits,.iface 258 (.int .i64 1)] w λv w'=>(∃T u,v=.iface T u)∧AU w w':=by
 obtain⟨ev,F,d⟩:=D.errRange;have h:=Any.strconv_toError_range Tryz.lays245 ⟨fn.toArray⟩ ⟨s.toArray⟩ base bits ev w (by rw[KS];omega) F d;exact Calls.mono h λe w' ⟨N,he,_,_,G⟩=>⟨_,he,⟨_,_,C⟩,G⟩
end Go.Proofs.YtelmolopaolbcaaGreatDoor
namespace Go.SP
open Go.SW Go.RowKit
def At(U:Nat→Prop)(w:World)(a:Option Addr)(i:Nat)(r:Fo):Prop :=
 r=.nil∨∃b off l T,U b∧a=some ⟨b,off,none⟩∧AM w b l T∧HC U w r (l.drop (off+i*6))
variable {fo:Fo}{co ln nm:Int}{xs:List Value}{b c' i kc kn n:Nat}{U:Nat→Prop}{a a' ka:Option Addr}{e:TypeId}{w w' w0 w1:World}
theorem Ey.at{c:Nat}(h:Ey U w a n c fo):At U w a 0 fo:=by
 obtain⟨d,K,D|⟨b,off,l,T,hu,F,G,J⟩⟩:=h
 · left;cases fo with
   |nil=>rfl
   |cons t k r=>rw[D] at d;cases d
 · exact .inr ⟨b,off,l,T,hu,F,G,by simpa using J⟩
theorem At.ext{r:Fo}(h:At U w a i r)(d:AU w w'):At U w' a i r :=
 h.imp id λ⟨b,off,l,T,hu,D,F,G⟩=>⟨b,off,l,T,hu,D,F.ext d,G.ext d⟩
theorem At.head{t:AB}{k r:Fo}(h:At U w a i (.cons t k r)):∃b off l T ka kn kc d,U b∧a=some ⟨b,off,none⟩∧AM w b l T ∧
   l.drop (off+i*6)=.int .i64 t.k::.int .i64 t.ln::.int .i64 t.co::.int .i64 t.nm::S t.tx::.slice ka kn kc::d∧Ey U w ka kn kc k:=by
 rcases h with h|⟨b,off,l,T,hu,D,F,ka,kn,kc,d,G,J,K⟩
 · cases h
 · exact⟨b,off,l,T,ka,kn,kc,d,hu,D,F,G,J⟩
theorem At.next{t:AB}{k r:Fo}(h:At U w a i (.cons t k r)):At U w a (i+1) r:=by
 rcases h with h|⟨b,off,l,T,hu,d,D,ka,kn,kc,F,G,K,J⟩
 · cases h
 · refine .inr ⟨b,off,l,T,hu,d,D,?_⟩
   have:l.drop (off+(i+1)*6)=F:=by
     rw[show off+(i+1)*6=(off+i*6)+6 by omega,← List.drop_drop,G];rfl
   rw[this];exact J
theorem Nd.len_app:∀(x y:Nd),(x.app y).len=x.len+y.len
 |.nil,y=>by simp[Nd.app,Nd.len]
 |.cons _ _ _ _ _ _ r,y=>by simp[Nd.app,Nd.len,Nd.len_app r y];omega
theorem Nd.app_assoc:∀(x y z:Nd),(x.app y).app z=x.app (y.app z)
 |.nil,_,_=>rfl
 |.cons _ _ _ _ _ _ r,y,z=>by simp[Nd.app,Nd.app_assoc r y z]
theorem Nd.app_nil:∀(x:Nd),x.app .nil=x
 |.nil=>rfl
 |.cons _ _ _ _ _ _ r=>by simp[Nd.app,Nd.app_nil r]
theorem Gg.app:∀(x y:Nd)(l m:List Value),Gg U w x l→l.length=x.len*6→Gg U w y m→Gg U w (x.app y) (l++m)
 |.nil,y,l,m,_,d,h=>by
   have:l=[]:=List.eq_nil_of_length_eq_zero (by simpa[Nd.len] using d);subst this;exact h
 |.cons _ _ _ _ _ kids rest,y,l,m,⟨a,n,c,D,F,G,J⟩,d,h=>by
   refine⟨a,n,c,D++m,by rw[F];rfl,G,Gg.app rest y D m J ?_ h⟩;rw[F] at d;simp[Nd.len] at d;omega
structure Ks(e:TypeId)(w0 w:World)(a:Option Addr)(n c:Nat)(nds:Nd):Prop where
 ex:∃xs,BX w e 6 a c n xs∧Gg (λb=>w0.heap.size≤b∧some b≠rb a) w nds xs
 len:n=nds.len
 new:∀b,rb a=some b→w0.heap.size≤b
theorem Ks.nil(e:TypeId)(w0 w:World):Ks e w0 w none 0 0 .nil:=⟨⟨[],Gf _ _ _,tQ⟩,C,λ_ h=>by cases h⟩
theorem Ks.ext{c:Nat}{nds:Nd}(h:Ks e w0 w a n c nds)(d:AU w w'):Ks e w0 w' a n c nds :=
 ⟨let ⟨xs,D,F⟩:=h.ex;⟨xs,D.ext d,F.ext d⟩,h.len,h.new⟩
theorem Ks.chg{c:Nat}{nds:Nd}(h:Ks e w0 w a n c nds)(d:GG b w w')(G:b<w0.heap.size):Ks e w0 w' a n c nds :=
 ⟨let ⟨xs,D,F⟩:=h.ex;⟨xs,D.chg d (λe=>by have:=h.new b e;omega),F.chg d (λe=>by omega)⟩,h.len,h.new⟩
theorem Ks.nds{c:Nat}{nds:Nd}(h:Ks e w0 w a n c nds):HD (λb=>w0.heap.size≤b) w a n c nds:=by
 obtain⟨xs,D,G⟩:=h.ex;refine⟨h.len,D.n_le,?_⟩;rcases D.2 with ⟨_,_,d⟩|⟨b,l,F,J,O,_,Q,K⟩
 · exact .inl d
 · refine .inr ⟨b,0,l,e,h.new b (by rw[F];rfl),F,J,?_⟩
   have d:=Gg.more nds xs (l.drop (n*6)) (G.mono λ_ L=>L.1);rw[List.drop_zero,← List.take_append_drop (n*6) l,K];exact d
theorem Ks.step{c:Nat}{nds:Nd}{op:Int}{tx:lU}{kids:Nd}
   (J:BX w e 6 a c n xs) (O:Gg (λb=>w0.heap.size≤b∧some b≠rb a) w nds xs) (hlen:n=nds.len) (K:∀b,rb a=some b→w0.heap.size≤b)
   (Q:HD (λb=>w1.heap.size≤b) w ka kn kc kids) (Y:w0.heap.size≤w1.heap.size) (Z:w1.heap.size≤w.heap.size) (h1:∀b,rb a=some b→b<w1.heap.size)
   (hr:BX w' e 6 a' c' (n+1) (xs++[.int .i64 op,.int .i64 ln,.int .i64 co,S tx,.int .i64 nm,.slice ka kn kc])) (L:Fj a w a' w') :
   Ks e w0 w' a' (n+1) c' (nds.app (.cons op ln co tx nm kids .nil)):=by
 have h:∀b,rb a'=some b→w0.heap.size≤b:=λb d=>by
   rcases L.own with D|D
   · exact K b (by rw[← D];exact d)
   · rw[D] at d;cases d;omega
 have hold:∀b,(w0.heap.size≤b∧some b≠rb a)→b<w.heap.size→(w0.heap.size≤b∧some b≠rb a')∧w'.heap[b]?=w.heap[b]?:=λb d F=>by
   refine⟨⟨d.1,?_⟩,L.block b F d.2⟩;rcases L.own with D|D
   · rw[D];exact d.2
   · rw[D];intro e;cases e;omega
 have G:HD (λb=>w0.heap.size≤b∧some b≠rb a') w' ka kn kc kids:=HD.imp Q λb d F=>by
   refine hold b ⟨oM,λe=>?_⟩ F;have:=h1 b e.symm;omega
 refine⟨⟨_,hr,Gg.app nds _ xs _ (Gg.imp hold nds xs O) (by rw[J.1,hlen]) ⟨ka,kn,kc,[],C,G,tQ⟩⟩,by rw[Nd.len_app,hlen];rfl,h⟩
def Sn(T:TypeId)(e:Int×Int):List PanicEntry:=[{v:=.iface T (.agg #[.int .i64 e.1,.int .i64 e.2]),recovered:=false}]
end Go.SP
namespace Go.SP
open Go.SW Go.RowKit
def Nd.drop:Nat→Nd→Nd
 |0,x=>x
 |_+1,.nil=>.nil
 |n+1,.cons _ _ _ _ _ _ r=>Nd.drop n r
theorem Nd.drop_lt:∀(i:Nat)(x:Nd),i<x.len→∃op ln co tx nm kids,x.drop i=.cons op ln co tx nm kids (x.drop (i+1))
 |0,.cons op ln co tx nm kids r,_=>⟨op,ln,co,tx,nm,kids,by simp[Nd.drop]⟩
 |i+1,.cons _ _ _ _ _ _ r,h=>by
   obtain⟨op,ln,co,tx,nm,kids,e⟩:=Nd.drop_lt i r (by simp[Nd.len] at h;omega);exact⟨op,ln,co,tx,nm,kids,by simpa[Nd.drop] using e⟩
theorem Nd.drop_len:∀(x:Nd),x.drop x.len=.nil
 |.nil=>rfl
 |.cons _ _ _ _ _ _ r=>by simp[Nd.len,Nd.drop,Nd.drop_len r]
variable {co ln nm:Int}{i n:Nat}{U:Nat→Prop}{a:Option Addr}{w:World}
theorem Gg.dropc:∀(i:Nat)(x:Nd)(l:List Value),Gg U w x l→Gg U w (x.drop i) (l.drop (i*6))
 |0,x,l,h=>by simpa[Nd.drop] using h
 |i+1,.nil,l,h=>trivial
 |i+1,.cons _ _ _ _ _ _ r,l,⟨a,n,c,d,D,G,F⟩=>by
   have:=Gg.dropc i r d F;rw[show (i+1)*6=6+i*6 by omega,← List.drop_drop,D];exact this
theorem HD.get{c:Nat}{nds:Nd}(h:HD U w a n c nds)(i:Nat)(L:i<n):∃b off l T op ln co tx nm kids ka kn kc d,U b∧a=some ⟨b,off,none⟩∧AM w b l T ∧
   nds.drop i=.cons op ln co tx nm kids (nds.drop (i+1)) ∧
   l.drop (off+i*6)=.int .i64 op::.int .i64 ln::.int .i64 co::S tx::.int .i64 nm::.slice ka kn kc::d∧HD U w ka kn kc kids:=by
 obtain⟨O,Q,Y|⟨b,off,l,T,hu,D,F,G⟩⟩:=h
 · omega
 · obtain⟨op,ln,co,tx,nm,kids,e⟩:=Nd.drop_lt i nds oM
   have:=Gg.dropc i nds _ G;rw[e,List.drop_drop] at this;obtain⟨ka,kn,kc,d,J,K,Z⟩:=this;exact⟨b,off,l,T,op,ln,co,tx,nm,kids,ka,kn,kc,d,hu,D,F,e,J,K⟩
theorem Ud{t:AB}{x:Nd}{op:Int}{tx:lU}{kids:Nd}(e:x.drop i=.cons op ln co tx nm kids (x.drop (i+1)))(h:i+1=x.len):CP t (x.drop i)=some ⟨op,ln,co,tx,nm,kids⟩:=by
 rw[e,h,Nd.drop_len];rfl
theorem TW{t:AB}{x:Nd}{op:Int}{tx:lU}{kids:Nd}{o:N}(e:x.drop i=.cons op ln co tx nm kids (x.drop (i+1)))(h:CP t (x.drop (i+1))=some o) :
   CP t (x.drop i)=some (Ay t 32 [45,62] (.cons op ln co tx nm kids o.one)):=by
 rw[e]
 cases D:x.drop (i+1) with
 |nil=>rw[D] at h;cases h
 |cons a b c d f g r=>rw[D] at h;simp only[CP] at h ⊢;rw[h]
end Go.SP
namespace Go.SP
open Go.SW Go.RowKit
theorem Eh{f:AB→Fo→R N}:∀{fo:Fo}{nds:Nd},A9 f fo=.ok nds→nds.len=fo.len
 |.nil,nds,h=>by simp[A9] at h;subst h;rfl
 |.cons t k r,nds,h=>by
   unfold A9 at h
   cases d:f t k with
   |error e=>rw[d] at h;cases h
   |ok a =>
     cases D:A9 f r with
     |error e=>rw[d,D] at h;cases h
     |ok b =>
       rw[d,D] at h;injection h with h
       subst h;simp[N.cons,Nd.len,Fo.len,Eh D]
variable {σ:Bf}{kk:IntKind}{b off:Nat}{x:Operand}{P:Program}{T e ty:TypeId}{w:World}
theorem EL{y:Operand}{k:Nat}{z:Int}(i:Nat){len cap:Nat}(d:ev σ x=some (.slice (some ⟨b,off,none⟩) len cap))(h:ev σ y=some (.int kk z))(hz:z=(i:Int))(D:Je P T=some (e,k))
   (F:i<len):AK P σ (.indexAddr T x y) ty w (.pointer (some ⟨b,off+i*k,none⟩)) w:=by
 subst hz;exact KL d h D F
end Go.SP
namespace Go.SP
open Go.SW Go.RowKit
structure KV(m:Nat)(w w':wO):Prop where
 os:w'.os=w.os
 tape:w'.tape=w.tape
 output:w'.output=w.output
 size:w.heap.size≤w'.heap.size
 block:∀k,k<w.heap.size→k≠m→w'.heap[k]?=w.heap[k]?
theorem KV.refl(m:Nat)(w:wO):KV m w w:=⟨C,C,C,Nat.le_refl _,λ_ _ _=>C⟩
variable {b:Nat}{w1 w2:wO}
theorem KV.trans{m:Nat}{w:wO}(h:KV m w w1)(D:AU w1 w2):KV m w w2 :=
 ⟨D.os.trans h.os,D.tape.trans h.tape,D.output.trans h.output,Nat.le_trans h.size D.size,λk F G=>(D.block k (Nat.lt_of_lt_of_le F h.size)).trans (h.block k F G)⟩
theorem KV.trans2{m:Nat}{w:wO}(h:KV m w w1)(D:KV m w1 w2):KV m w w2 :=
 ⟨D.os.trans h.os,D.tape.trans h.tape,D.output.trans h.output,Nat.le_trans h.size D.size,λk F G=>(D.block k (Nat.lt_of_lt_of_le F h.size) G).trans (h.block k F G)⟩
theorem KV.chg{m:Nat}{w:wO}(h:KV m w w1)(D:GG b w1 w2)(J:w.heap.size≤b∨b=m):KV m w w2 :=
 ⟨D.os.trans h.os,D.tape.trans h.tape,D.output.trans h.output,by rw[D.size];exact h.size,λk F G=>(D.block k oM).trans (h.block k F G)⟩
end Go.SP
namespace Go.SW
open Go.SP Go.RowKit
variable {l:lV}{b:Nat}{w':wO}
theorem AM.exb{m:Nat}{w:wO}{T:tI}(h:AM w b l T)(F:KV m w w')(D:b≠m):AM w' b l T:=(F.block b h.lt D).trans h
end Go.SW
namespace Go.SP
open Go.SW Go.RowKit
variable {co ln nm:Int}{b i:Nat}{U:Nat→Prop}{a:oA}{w' w0:wO}
theorem HD.exb{m:Nat}{w:wO}{n c:Nat}{nd:Nd}(h:HD U w a n c nd)(D:KV m w w')(hm:¬U m):HD U w' a n c nd:=HD.imp h λk hu F=>⟨hu,D.block k F (λe=>hm (e▸hu))⟩
theorem KV.ext{m:Nat}{w:wO}(h:KV m w w')(D:AU w0 w)(hm:w0.heap.size≤m):AU w0 w' :=
 ⟨h.os.trans D.os,h.tape.trans D.tape,h.output.trans D.output,Nat.le_trans D.size h.size,λk F=>(h.block k (Nat.lt_of_lt_of_le F D.size) oM).trans (D.block k F)⟩
def Tk(w:wO)(m:Nat)(seen:List lU):Prop :=
 ∃(es:List MapEntry)(clock:Nat),w.heap[m]?=some (.map es.toArray clock)∧es.map (λe=>(e.key,e.val))=seen.reverse.map λs=>(S s,Value.bool true)
theorem Tk.lt{w:wO}{m:Nat}{seen:List lU}(h:Tk w m seen):m<w.heap.size:=by
 obtain⟨es,c,F,_⟩:=h;rcases Nat.lt_or_ge m w.heap.size with D | D
 · exact D
 · rw[Array.getElem?_eq_none D] at F;cases F
theorem Tk.ext{w:wO}{m:Nat}{seen:List lU}(h:Tk w m seen)(D:AU w w'):Tk w' m seen:=let ⟨es,c,F,G⟩:=h;⟨es,c,(D.block m h.lt).trans F,G⟩
theorem Tk.chg{w:wO}{m:Nat}{seen:List lU}(h:Tk w m seen)(F:GG b w w')(D:m≠b):Tk w' m seen:=let ⟨es,c,G,J⟩:=h;⟨es,c,(F.block m D).trans G,J⟩
section
variable{P:Program}{n:Nat}{Q:AX}{σ:Bf}{ds:List Deferred}{w:wO}{ops:Array Oper}{ty T:tI}{pos:String}{af:Array Edge}{rest:List Oper}{d m:Nat}{x y z:Operand}{tx:lU}{seen:List lU}
theorem Kw{k:tI}{b:Bool}{v:Value}(h:P.underlying k=some .string):(Instr.checkKey b 10000 k v).run P w=.ok () w:=by
 rw[Instr.checkKey];simp[run_underlying h]
end
theorem OZ(s:List lU)(op ln co:Int)(tx:lU)(nm:Int)(kids rest:Nd):BD s (.cons op ln co tx nm kids rest)=match BD s (.cons op ln co tx nm kids .nil) with|none=>none|some s2=>BD s2 rest:=by
 simp only[BD]
 cases (if op==22 then (if s.contains tx then none else some (tx::s)) else some s) with
 |none=>rfl
 |some s1 =>
   simp only
   cases BD s1 kids <;> rfl
def Nd.size:Nd→Nat
 |.nil=>0
 |.cons _ _ _ _ _ kids rest=>kids.size+rest.size+1
def Nd.ok:Nd→Prop
 |.nil=>True
 |.cons _ _ _ _ _ kids rest=>kids.len≤100000∧kids.ok∧rest.ok
def N.ok(nd:N):Prop:=nd.kids.len≤100000∧nd.kids.ok
theorem Nd.ok_drop:∀(i:Nat)(x:Nd),x.ok→(x.drop i).ok
 |0,_,h=>h
 |_+1,.nil,h=>h
 |i+1,.cons _ _ _ _ _ _ r,h=>Nd.ok_drop i r h.2.2
theorem Nd.ok.get{x:Nd}(h:x.ok){op:Int}{tx:lU}{kids rest:Nd}(e:x.drop i=.cons op ln co tx nm kids rest):N.ok ⟨op,ln,co,tx,nm,kids⟩:=by
 have:=Nd.ok_drop i x h;rw[e] at this;exact⟨this.1,this.2.1⟩
end Go.SP
namespace Go.SW
variable {bs:List Nat}{a a':Option Addr}{w w' w2:World}
theorem A5.grow(h:A5 w bs w')(D:Fj a w' a' w2)(F:∀c,c∈bs→some c≠rb a):A5 w bs w2 :=
 λc d=>⟨Nat.lt_of_lt_of_le (h c d).1 D.size,(D.block c (h c d).1 (F c d)).trans (h c d).2⟩
end Go.SW
namespace Go.SP
open Go.SW Go.RowKit
variable {t0 t1:AB}{co ln nm:Int}{xs ys:List Value}{c' kc kn n:Nat}{U:Nat→Prop}{a a' ka:Option Addr}{e:TypeId}{w w' w0:World}
theorem Ey.two{c:Nat}{k0 k1 r:Fo}(h:Ey U w a n c (.cons t0 k0 (.cons t1 k1 r))):∃b off l T a0 d c0 a1 D F K,U b∧a=some ⟨b,off,none⟩∧AM w b l T ∧
   l.drop off=.int .i64 t0.k::.int .i64 t0.ln::.int .i64 t0.co::.int .i64 t0.nm::S t0.tx::.slice a0 d c0::.int .i64 t1.k::.int .i64 t1.ln::.int .i64 t1.co::.int .i64 t1.nm::S t1.tx::.slice a1 D F::K ∧
   Ey U w a0 d c0 k0∧Ey U w a1 D F k1∧HC U w r K:=by
 obtain⟨b,off,l,T,a0,d,c0,l0,L,O,Q,hd,G,a1,D,F,Y,Z,J,hr⟩:=Ey.head h;exact⟨b,off,l,T,a0,d,c0,a1,D,F,Y,L,O,Q,by rw[hd,Z],G,J,hr⟩
theorem Ey.three{c:Nat}{t2:AB}{k0 k1 k2 r:Fo}(h:Ey U w a n c (.cons t0 k0 (.cons t1 k1 (.cons t2 k2 r)))):∃b off l T a0 d c0 a1 D F a2 G c2 O,U b∧a=some ⟨b,off,none⟩∧AM w b l T ∧
   l.drop off=.int .i64 t0.k::.int .i64 t0.ln::.int .i64 t0.co::.int .i64 t0.nm::S t0.tx::.slice a0 d c0::.int .i64 t1.k::.int .i64 t1.ln::.int .i64 t1.co::.int .i64 t1.nm::S t1.tx::.slice a1 D F ::
     .int .i64 t2.k::.int .i64 t2.ln::.int .i64 t2.co::.int .i64 t2.nm::S t2.tx::.slice a2 G c2::O ∧
   Ey U w a0 d c0 k0∧Ey U w a1 D F k1∧Ey U w a2 G c2 k2∧HC U w r O:=by
 obtain⟨b,off,l,T,a0,d,c0,a1,D,F,l1,Q,Y,Z,hd,J,K,a2,G,c2,l2,hl,L,hr⟩:=Ey.two h;exact⟨b,off,l,T,a0,d,c0,a1,D,F,a2,G,c2,l2,Q,Y,Z,by rw[hd,hl],J,K,L,hr⟩
theorem Mf:∀(n:Nat)(d:Fo),d.deep n=true→d.deep (n+1)=true
 |_,.nil,_=>by simp[Fo.deep]
 |0,.cons _ _ _,h=>by simp[Fo.deep] at h
 |n+1,.cons t k r,h=>by
   simp only[Fo.deep,Bool.and_eq_true] at h ⊢;exact⟨Mf n k h.1,by have:=Mf (n+1) r h.2;exact this⟩
theorem Sr{t:AB}{k:Fo}(h:GR n t k):GR (n+1) t k:=⟨h.1,h.2.1,h.2.2.1,Mf n k h.2.2.2⟩
theorem D4{t:AB}{k:Fo}(h:GR (n+1) t k):k.all (GR n):=NA n k h.2.1 h.2.2.2
theorem Gg.one:∀(x:Nd)(l:List Value),Gg U w x l→l.length=x.len*6→∀v∈l,v.oneCell'=true
 |.nil,l,_,h,v,d=>by
   have:l=[]:=List.eq_nil_of_length_eq_zero (by simpa[Nd.len] using h);subst this;cases d
 |.cons _ _ _ _ _ kids rest,l,⟨a,n,c,D,F,J,G⟩,h,v,d=>by
   subst F;simp only[List.mem_cons] at d;rcases d with rfl|rfl|rfl|rfl|rfl|rfl|d
   all_goals first|rfl|exact Gg.one rest D G (by simp[Nd.len] at h;omega) v d
theorem Ks.lit{s:Nat}{op:Int}{tx:lU}{kids:Nd}(d:AM w s [.int .i64 op,.int .i64 ln,.int .i64 co,S tx,.int .i64 nm,.slice ka kn kc] e)(h:w0.heap.size≤s)
   (D:HD (λb=>w0.heap.size≤b∧b≠s) w ka kn kc kids):Ks e w0 w (some ⟨s,0,none⟩) 1 1 (.cons op ln co tx nm kids .nil) :=
 ⟨⟨_,⟨C,.inr ⟨s,_,C,d,Nat.le_refl _,by unfold maxLen;omega,C,C⟩⟩,ka,kn,kc,[],C,HD.mono D (λb d=>⟨d.1,λe=>d.2 (by cases e;rfl)⟩),tQ⟩,C,λb d=>by cases d;exact h⟩
theorem Ks.join{c:Nat}{x y:Nd}{K:Nat→Prop}
   (G:BX w e 6 a c n xs) (Q:Gg (λb=>w0.heap.size≤b∧some b≠rb a) w x xs) (hlen:n=x.len) (J:∀b,rb a=some b→w0.heap.size≤b)
   (Y:Gg K w y ys) (Z:∀b,K b→w0.heap.size≤b∧some b≠rb a)  (h0w:w0.heap.size≤w.heap.size)
   (hr:BX w' e 6 a' c' (n+y.len) (xs++ys)) (L:Fj a w a' w'):Ks e w0 w' a' (n+y.len) c' (x.app y):=by
 have h:∀b,rb a'=some b→w0.heap.size≤b:=λb d=>by
   rcases L.own with D|D
   · exact J b (by rw[← D];exact d)
   · rw[D] at d;cases d;omega
 have hold:∀b,(w0.heap.size≤b∧some b≠rb a)→b<w.heap.size→(w0.heap.size≤b∧some b≠rb a')∧w'.heap[b]?=w.heap[b]?:=λb d F=>by
   refine⟨⟨d.1,?_⟩,L.block b F d.2⟩;rcases L.own with D|D
   · rw[D];exact d.2
   · rw[D];intro e;cases e;omega
 have O:=Gg.imp (U':=λb=>w0.heap.size≤b∧some b≠rb a') (w':=w') (λb (d:K b) F=>hold b (Z b d) F) y ys Y;exact⟨⟨_,hr,Gg.app x y xs ys (Gg.imp hold x xs Q) (by rw[G.1,hlen]) O⟩,by rw[Nd.len_app,hlen],h⟩
end Go.SP
namespace Go.SW
open Go.SP
variable {bs:List Nat}{m:Nat}{w w' w2:World}
theorem A5.exb(h:A5 w bs w')(D:KV m w' w2)(F:∀c,c∈bs→c≠m):A5 w bs w2 :=
 λc d=>⟨Nat.lt_of_lt_of_le (h c d).1 D.size,(D.block c (h c d).1 (F c d)).trans (h c d).2⟩
end Go.SW
namespace Go.SP
theorem PH{f:AB→Fo→R N}{p:AB→Fo→Prop}(F:∀t k nd,p t k→f t k=.ok nd→nd.ok):∀{G:Fo}{nds:Nd},G.all p→A9 f G=.ok nds→nds.ok
 |.nil,nds,_,h=>by simp[A9] at h;subst h;trivial
 |.cons t k r,nds,J,h=>by
   unfold A9 at h
   cases d:f t k with
   |error e=>rw[d] at h;cases h
   |ok a =>
     cases D:A9 f r with
     |error e=>rw[d,D] at h;cases h
     |ok b =>
       rw[d,D] at h;injection h with h
       subst h;have:=F t k a J.1 d;exact⟨this.1,this.2,PH F J.2 D⟩
theorem ZP:∀(n:Nat)(t:AB)(k:Fo)(nd:N),GR n t k→D9 (n+1) t k=.ok nd→nd.ok:=by
 intro n
 induction n with
 |zero =>
   intro t k nd d h
   cases k with
   |cons a b c=>exact absurd d.2.2.2 (by simp[Fo.deep])
   |nil =>
     unfold D9 at h;simp only[H3,need] at h
     repeat' split at h
     all_goals first|(injection h with h;subst h;exact⟨by simp[Ay,Nd.len],tQ⟩)|(cases h;done)|skip
     all_goals first|contradiction|(injection h with h;subst h;split <;> exact⟨by simp[Ay,Nd.len],tQ⟩)
 |succ n G =>
   intro t k nd d h
   have key:∀(l:Fo)(F:Nd)(op:Int)(tx:lU),l.all (GR n)→l.len≤100000→A9 (D9 (n+1)) l=.ok F→N.ok (Ay t op tx F):=λl F op tx J hlen he =>
     ⟨by have:=Eh he;simp[Ay];omega,PH (p:=GR n) G J he⟩
   unfold D9 at h;simp only[H3,need] at h
   cases k with
   |nil =>
     repeat' split at h
     all_goals first|(injection h with h;subst h;exact⟨by simp[Ay,Nd.len],tQ⟩)|(cases h;done)|skip
     all_goals first|contradiction|(injection h with h;subst h;split <;> exact⟨by simp[Ay,Nd.len],tQ⟩)
   |cons a b c =>
     have D:=(D4 d).2;have hlen:c.len≤100000:=by have:=d.2.2.1;simp only[Fo.len] at this;omega
     simp only at h
     repeat' split at h
     all_goals first|(injection h with h;subst h;first|exact key _ _ _ _ D hlen (by assumption)|exact⟨by simp[Ay,Nd.len],tQ⟩)|(cases h;done)|skip
     all_goals first|contradiction|(injection h with h;subst h;split <;> exact⟨by simp[Ay,Nd.len],tQ⟩)
end Go.SP
namespace Go.SP
theorem Fo.ok.all:∀{d:Fo},d.ok→d.all (λt _=>t.ok)
 |.nil,_=>trivial
 |.cons _ _ _,h=>⟨h.1,Fo.ok.all h.2.2.2⟩
theorem Fo.all_true:∀(d:Fo),d.all (λ_ _=>True)
 |.nil=>trivial
 |.cons _ _ r=>⟨tQ,Fo.all_true r⟩
end Go.SP
namespace Go.SP
open Go.SW Go.RowKit
end Go.SP
namespace Go.SP
open Go.SW Go.RowKit
variable {σ:Bf}{b m off:Nat}{lo x:Operand}{P:Program}{T ty:TypeId}{w:World}
theorem bT{k e c:Nat}(h:ev σ x=some (.slice (some ⟨b,off,none⟩) (m+2) c))(d:ev σ lo=some (.int .i64 2))(D:Je P T=some (e,k))(F:c≠2):AK P σ (.slice T x (some lo) none none) ty w (.slice (some ⟨b,off+2*k,none⟩) m (c-2)) w:=by
 have:=Mi (w:=w) (ty:=ty) (i:=2) h (by simpa using d) D oM;rwa[if_neg F,Option.map_some,EH,Nat.add_sub_cancel] at this
theorem Wl{v:AB}{k r:Fo}(h:v.isTypeVar=false):Bk (.cons v k r)=none:=by simp[Bk,h]
theorem UY{v:AB}{k r:Fo}{x:Nd}(h:v.isTypeVar=true)(d:Bk r=some x):Bk (.cons v k r)=some ((Ay v 31 v.tx .nil).cons x):=by simp[Bk,h,d]
theorem T4{v:AB}{k r:Fo}(d:Bk r=none):Bk (.cons v k r)=none:=by simp[Bk,d]
def Z2:List (AB×Fo)→lV
 | []=>[]
 |(o,_)::s=>Z2 s++Jh o
theorem KO:∀s,(Z2 s).length=s.length*5
 | []=>rfl
 |(o,p)::s=>by simp[Z2,KO s,Jh];omega
def nG(u:Nat→Nat)(w0:wO)(a:oA)(L:Nat):Prop:=∀b,rb a=some b→w0.heap.size≤b∧u b=L
def Fz(u:Nat→Nat)(w0:wO)(b:Nat):Prop:=w0.heap.size≤b∧u b=0
def Lv(eT:tI)(u:Nat→Nat)(w0 w:wO)(j:Nat)(a:oA)(c:Nat)(p:Fo):Prop :=
 ∃xs,BX w eT 6 a c p.len xs∧HC (Fz u w0) w p xs∧nG u w0 a (3+j)
def yI(eT:tI)(u:Nat→Nat)(w0 w:wO):List (AB×Fo)→lV→Prop
 | [],[]=>True
 |(_,p)::s,v::vs=>(∃a c,v=.slice a p.len c∧Lv eT u w0 w s.length a c p)∧yI eT u w0 w s vs
 |_,_=>False
structure SV(eT eK eS:tI)(u:Nat→Nat)(w0 w:wO)(so sl:List (AB×Fo))(oa:oA)(oc:Nat)(sa:oA)(sc:Nat)(x:Value)(a:oA)(c:Nat)(p:Fo)(vs:lV)(ka:oA)(kn kc:Nat)(kf:Fo):Prop where
 o:BX w eK 5 oa oc so.length (Z2 so)
 ol:nG u w0 oa 1
 s:BX w eS 1 sa sc (sl.length+1) (vs.reverse++[x])
 sla:nG u w0 sa 2
 top:Lv eT u w0 w sl.length a c p
 lv:yI eT u w0 w sl vs
 kid:Ey (Fz u w0) w ka kn kc kf
def Kp(L:Nat)(u u':Nat→Nat)(w0 w w':wO):Prop:=∀b,b<w.heap.size→w0.heap.size≤b→u b≠L→u' b=u b∧w'.heap[b]?=w.heap[b]?
section
variable{eT eK eS:tI}{u u':Nat→Nat}{w0 w w':wO}{L M:Nat}{a:oA}{c n:Nat}{p:Fo}
variable {xs:lV}{j:Nat}{U:Nat→Prop}{a':oA}{e:tI}
theorem BX.kp{k:Nat}(h:BX w e k a c n xs)(d:nG u w0 a M)(F:Kp L u u' w0 w w')(G:M≠L):BX w' e k a c n xs∧nG u' w0 a M:=by
 refine⟨⟨h.1,h.2.imp id λ⟨b,l,D,J,O⟩=>⟨b,l,D,((F b J.lt (d b (by rw[D];rfl)).1 (by rw[(d b (by rw[D];rfl)).2];exact G)).2).trans J,O⟩⟩,λb K=>?_⟩
 · have:=d b K
   exact⟨this.1,by rw[(F b (h.lt K) this.1 (by rw[this.2];exact G)).1];exact this.2⟩
theorem JF(D:Kp L u u' w0 w w')(F:0≠L):∀b,Fz u w0 b→b<w.heap.size→Fz u' w0 b∧w'.heap[b]?=w.heap[b]?:=λb d h=>by
 have:=D b h d.1 (by rw[d.2];exact F);exact⟨⟨d.1,this.1.trans d.2⟩,this.2⟩
theorem Lv.kp(h:Lv eT u w0 w j a c p)(d:Kp L u u' w0 w w')(D:0≠L)(F:3+j≠L):Lv eT u' w0 w' j a c p:=by
 obtain⟨xs,G,J,K⟩:=h;obtain⟨O,Q⟩:=BX.kp G K d F;exact⟨xs,O,HC.imp (JF d D) p xs J,Q⟩
theorem yI.kp:∀{sl:List (AB×Fo)}{vs:lV},yI eT u w0 w sl vs→Kp L u u' w0 w w'→0≠L→(∀j,j<sl.length→3+j≠L)→yI eT u' w0 w' sl vs
 | [],[],_,_,_,_=>trivial
 |(_,p)::s,v::vs,h,d,D,F=>⟨let ⟨a,c,G,J⟩:=h.1;⟨a,c,G,J.kp d D (F _ (by simp))⟩,yI.kp h.2 d D λj K=>F j (by simp;omega)⟩
 | [],_::_,h,_,_,_=>h.elim
 |_::_,[],h,_,_,_=>h.elim
theorem uL(d:AU w w'):Kp L u u w0 w w':=λb h _ _=>⟨C,d.block b h⟩
theorem aO(d:GG b w w')(h:u b=L):Kp L u u w0 w w':=λk _ _ D=>⟨C,d.block k (λe=>D (e▸h))⟩
def yR(u:Nat→Nat)(w:wO)(L:Nat)(b:Nat):Nat:=if b<w.heap.size then u b else L
theorem R3(h:Fj a w a' w')(D:nG u w0 a L):Kp L u (yR u w L) w0 w w':=λb d _ F=>by
 refine⟨by simp[yR,d],h.block b d λe=>F (D b e.symm).2⟩
theorem Oo{k:Nat}(D:BX w e k a c n xs)(F:Fj a w a' w')(G:nG u w0 a L)(J:w0.heap.size≤w.heap.size):nG (yR u w L) w0 a' L:=λb d=>by
 rcases F.own with h|h
 · rw[h] at d
   have:=G b d;exact⟨this.1,by simp[yR,D.lt d,this.2]⟩
 · rw[h] at d;cases d
   exact⟨J,by simp[yR]⟩
theorem BX.take{k:Nat}(h:BX w e k a c n xs)(hm:m≤n):BX w e k a c m (xs.take (m*k)):=by
 refine⟨by rw[List.length_take,h.1];exact Nat.min_eq_left (Nat.mul_le_mul_right _ hm),h.2.imp (λh=>⟨h.1,h.2.1,oM⟩) λ⟨b,l,d,D,K,F,G,J⟩=>⟨b,l,d,D,oM,F,G,?_⟩⟩;rw[← J,List.take_take,Nat.min_eq_left (Nat.mul_le_mul_right _ hm)]
theorem HC.snoc{t:AB}{k:Fo}{ka:oA}{kn kc:Nat}(h:Ey U w ka kn kc k):∀(p:Fo)(xs:lV),HC U w p xs→xs.length=p.len*6→HC U w (p.snoc t k) (xs++(Jh t++[.slice ka kn kc]))
 |.nil,xs,_,d=>by
   have:xs=[]:=List.eq_nil_of_length_eq_zero (by simpa[Fo.len] using d);subst this;exact⟨ka,kn,kc,[],C,h,tQ⟩
 |.cons t' K r,xs,⟨a,n,c,D,F,G,J⟩,d=>by
   subst F;exact⟨a,n,c,_,C,G,HC.snoc h r D J (by simp[Fo.len] at d;omega)⟩
theorem HC.init{t:AB}{k:Fo}:∀(p:Fo)(xs:lV),HC U w (p.snoc t k) xs→HC U w p (xs.take (p.len*6))
 |.nil,_,_=>trivial
 |.cons t' G r,xs,⟨a,n,c,d,h,D,F⟩=>by
   subst h;refine⟨a,n,c,d.take (r.len*6),?_,D,HC.init r d F⟩;simp only[Fo.len];rw[show (r.len+1)*6=r.len*6+6 by omega];rfl
theorem Fo.len_snoc(t:AB)(k:Fo):∀(p:Fo),(p.snoc t k).len=p.len+1
 |.nil=>rfl
 |.cons _ _ r=>by simp[Fo.snoc,Fo.len,Fo.len_snoc t k r]
end
section
variable{eT eK eS:tI}{u:Nat→Nat}{w0 w w':wO}{so sl:List (AB×Fo)}{oa:oA}{oc:Nat}{sa:oA}{sc:Nat}{x:Value}{a:oA}{c:Nat}{p:Fo}{vs:lV}{ka:oA}{kn kc:Nat}{kf:Fo}
theorem SV.ext(h:SV eT eK eS u w0 w so sl oa oc sa sc x a c p vs ka kn kc kf)(d:AU w w'):SV eT eK eS u w0 w' so sl oa oc sa sc x a c p vs ka kn kc kf:=by
 have D:Kp 2 u u w0 w w':=uL d;exact⟨h.o.ext d,h.ol,h.s.ext d,h.sla,let ⟨xs,F,G,J⟩:=h.top;⟨xs,F.ext d,G.ext d,J⟩,h.lv.kp D dC (λj _=>by omega),Ey.ext h.kid d⟩
theorem SV.pushTok(h:SV eT eK eS u w0 w so sl oa oc sa sc x a c p vs ka kn kc kf)(k:AB)(q:Fo){d:oA}{D:Nat}(J:BX w' eK 5 d D (so.length+1) (Z2 so++Jh k))(G:Fj oa w d w')(K:w0.heap.size≤w.heap.size) :
   ∃u',SV eT eK eS u' w0 w' ((k,q)::so) sl d D sa sc x a c p vs ka kn kc kf:=by
 have F:=R3 G h.ol;obtain⟨O,Q⟩:=BX.kp h.s h.sla F dC;exact⟨_,J,Oo h.o G h.ol K,O,Q,h.top.kp F dC oM,h.lv.kp F dC (λj _=>by omega),Ey.imp h.kid (JF F dC)⟩
theorem SV.pushLev(h:SV eT eK eS u w0 w so sl oa oc sa sc x a c p vs ka kn kc kf)(J:x=.slice a p.len c)(k:AB){d:oA}{D:Nat}(K:BX w' eS 1 d D (sl.length+1+1) (vs.reverse++[x]++[.slice none 0 0]))(G:Fj sa w d w')(O:w0.heap.size≤w.heap.size) :
   ∃u',SV eT eK eS u' w0 w' so ((k,p)::sl) oa oc d D (.slice none 0 0) none 0 .nil (x::vs) ka kn kc kf:=by
 have F:=R3 G h.sla;obtain⟨Q,Y⟩:=BX.kp h.o h.ol F dC;refine⟨_,Q,Y,by simpa using K,Oo h.s G h.sla O,⟨[],Gf _ _ _,tQ,λb Z=>by cases Z⟩,⟨⟨a,c,J,h.top.kp F dC oM⟩,h.lv.kp F dC (λj _=>by omega)⟩,Ey.imp h.kid (JF F dC)⟩
def sJ(u:Nat→Nat)(L:Nat)(b:Nat):Nat:=if u b=L then 0 else u b
theorem SV.pop{o:AB}{q:Fo}{so:List (AB×Fo)}{y:Value}(h:SV eT eK eS u w0 w ((o,q)::so) ((o,q)::so) oa oc sa sc x a c p (y::vs) ka kn kc kf) :
   ∃u' a' c',y=.slice a' q.len c'∧SV eT eK eS u' w0 w so so oa oc sa sc y a' c' q vs a p.len c p:=by
 have d:Kp (3+((o,q)::so).length) u (sJ u (3+((o,q)::so).length)) w0 w w:=λb _ _ D=>⟨by simp only[sJ,if_neg D],C⟩;obtain⟨⟨a',c',Q,Y⟩,Z⟩:=h.lv;obtain⟨xs,t1,t2,t3⟩:=h.top;have G:=BX.take (m:=so.length) h.o (by simp);have J:=BX.take (m:=so.length+1) h.s (by simp);have e1:(Z2 ((o,q)::so)).take (so.length*5)=Z2 so:=by rw[Z2,← KO so];exact List.take_left
 have F:(y::vs).length=so.length+1:=by
   have:=h.s.1;simp at this;simp;omega
 have e2:((y::vs).reverse++[x]).take ((so.length+1)*1)=vs.reverse++[y]:=by
   rw[List.reverse_cons,Nat.mul_one,← F];have:(vs.reverse++[y]).length=(y::vs).length:=by simp
   rw[← this];exact List.take_left
 rw[e1] at G;rw[e2] at J;obtain⟨o1,o2⟩:=BX.kp G h.ol d (by simp only[List.length_cons];omega);obtain⟨s1,s2⟩:=BX.kp J h.sla d (by simp only[List.length_cons];omega);refine⟨_,a',c',Q,o1,o2,s1,s2,Y.kp d (by simp only[List.length_cons];omega) (by simp only[List.length_cons];omega),Z.kp d (by simp only[List.length_cons];omega) (λj hj=>by simp only[List.length_cons];omega),⟨C,t1.n_le,?_⟩⟩;rcases t1.2 with ⟨_,_,h0⟩|⟨b,l,K,D,_,_,_,ht⟩
 · exact .inl h0
 · have O:=t3 b (by rw[K];rfl)
   refine .inr ⟨b,0,l,eT,⟨O.1,by simp only[sJ,O.2,if_true]⟩,K,D,?_⟩;rw[List.drop_zero,← List.take_append_drop (p.len*6) l,ht];exact HC.more p xs _ (HC.imp (JF d (by simp only[List.length_cons];omega)) p xs t2)
variable {t0:AB}{kf0:Fo}{l xs:lV}{c' c1 n1 o sb:Nat}{a':oA}
theorem SV.app(h:SV eT eK eS u w0 w so sl oa oc sa sc x a c p vs ka kn kc kf)(d:BX w eT 6 a c p.len xs)(G:HC (Fz u w0) w p xs)(F:nG u w0 a (3+sl.length))(t:AB){k1:oA}(K:Ey (Fz u w0) w k1 n1 c1 kf0)
     (O:BX w' eT 6 a' c' (p.len+1) (xs++(Jh t++[.slice k1 n1 c1]))) (J:Fj a w a' w') (Q:w0.heap.size≤w.heap.size) :
   ∃u',SV eT eK eS u' w0 w' so sl oa oc sa sc x a' c' (p.snoc t kf0) vs ka kn kc kf:=by
 have D:=R3 J F;obtain⟨Y,Z⟩:=BX.kp h.o h.ol D oM;obtain⟨s1,s2⟩:=BX.kp h.s h.sla D oM;refine⟨_,Y,Z,s1,s2,⟨_,by rw[Fo.len_snoc];exact O,HC.snoc (Ey.imp K (JF D oM)) p xs (HC.imp (JF D oM) p xs G) d.1,Oo d J F Q⟩,h.lv.kp D oM (λj _=>by omega),Ey.imp h.kid (JF D oM)⟩
theorem SV.sblk(h:SV eT eK eS u w0 w so sl oa oc sa sc x a c p vs ka kn kc kf):∃sb l,sa=some ⟨sb,0,none⟩∧AM w sb l eS∧l[sl.length]?=some x∧sl.length+1≤l.length∧w0.heap.size≤sb∧u sb=2:=by
 rcases h.s.2 with ⟨_,_,D⟩|⟨b,l,d,F,K,O,Q,G⟩
 · cases D
 · have J:=h.sla b (by rw[d];rfl)
   have hlen:=h.s.1;refine⟨b,l,d,F,?_,oM,J⟩
   have e:(vs.reverse++[x])[sl.length]?=some x:=by
     have:vs.length=sl.length:=by simp at hlen;omega
     simp[← this]
   rw[← G,List.getElem?_take,if_pos (by omega)] at e;exact e
theorem Qc{vs:lV}(h:o+vs.length≤l.length):(Et l o vs).take (o+vs.length)=l.take o++vs:=by
 rw[Nj vs l o h];have:(l.take o++vs).length=o+vs.length:=by rw[List.length_append,List.length_take];omega
 rw[← this];exact List.take_left
theorem SV.cell(h:SV eT eK eS u w0 w so sl oa oc sa sc x a c p vs ka kn kc kf){y:Value}(d:sa=some ⟨sb,0,none⟩)(O:AM w sb l eS)(F:AM w' sb (Et l sl.length [y]) eS)(Q:GG sb w w') :
   SV eT eK eS u w0 w' so sl oa oc sa sc y a c p vs ka kn kc kf:=by
 have D:Kp 2 u u w0 w w':=aO Q (h.sla sb (by rw[d];rfl)).2;obtain⟨Y,Z⟩:=BX.kp h.o h.ol D dC;refine⟨Y,Z,⟨by have:=h.s.1;simpa using this,?_⟩,h.sla,h.top.kp D dC oM,h.lv.kp D dC (λj _=>by omega),Ey.imp h.kid (JF D dC)⟩;rcases h.s.2 with ⟨_,_,h0⟩|⟨b,l1,K,G,h1,h2,h3,h4⟩
 · cases h0
 · rw[d] at K;cases K
   have J:l=l1:=by have:=O.symm.trans G;simpa using this
   subst J;have hle:sl.length+[y].length≤l.length:=by simp only[List.length_singleton];omega
   refine .inr ⟨sb,_,d,F,h1,h2,by rw[Gw];exact h3,?_⟩;have:=Qc hle;rw[Nat.mul_one];rw[List.length_singleton] at this;rw[this]
   have e:(vs.reverse++[x]).take sl.length=vs.reverse:=by
     have hv:vs.reverse.length=sl.length:=by have:=h.s.1;simp at this;simp;omega
     rw[← hv];exact List.take_left
   rw[← e,← h4,List.take_take,Nat.mul_one,Nat.min_eq_left (by omega)]
theorem SV.tblk{t:AB}{k:Fo}(h:SV eT eK eS u w0 w so sl oa oc sa sc x a c (p.snoc t k) vs ka kn kc kf):∃b l,a=some ⟨b,0,none⟩∧AM w b l eT∧(p.len+1)*6≤l.length∧w0.heap.size≤b∧u b=3+sl.length:=by
 obtain⟨xs,d,Q,F⟩:=h.top;rw[Fo.len_snoc] at d;rcases d.2 with ⟨_,_,G⟩|⟨b,l,D,J,K,_,O,_⟩
 · cases G
 · exact⟨b,l,D,J,by rw[O];exact Nat.mul_le_mul_right _ K,F b (by rw[D];rfl)⟩
theorem SV.last{k0:Fo}(h:SV eT eK eS u w0 w so sl oa oc sa sc x a c (p.snoc t0 k0) vs ka kn kc kf)(G:a=some ⟨b,0,none⟩)(Z:AM w b l eT)(t:AB){k1:oA}(hk:Ey (Fz u w0) w k1 n1 c1 kf0)
   (J:AM w' b (Et l (p.len*6) (Jh t++[.slice k1 n1 c1])) eT) (hC:GG b w w'):SV eT eK eS u w0 w' so sl oa oc sa sc x a c (p.snoc t kf0) vs ka kn kc kf:=by
 obtain⟨xs,F,h2,Y⟩:=h.top;have K:=(Y b (by rw[G];rfl)).2;have d:Kp (3+sl.length) u u w0 w w':=aO hC K;obtain⟨o1,o2⟩:=BX.kp h.o h.ol d oM;obtain⟨s1,s2⟩:=BX.kp h.s h.sla d oM;rw[Fo.len_snoc] at F;refine⟨o1,o2,s1,s2,⟨xs.take (p.len*6)++(Jh t++[.slice k1 n1 c1]),?_,?_,Y⟩,h.lv.kp d oM (λj _=>by omega),Ey.imp h.kid (JF d oM)⟩
 · rw[Fo.len_snoc]
   refine⟨by rw[List.length_append,List.length_take,F.1];simp[Jh];omega,?_⟩;rcases F.2 with ⟨_,_,h0⟩|⟨b1,l1,D,O,h4,h5,h6,h7⟩
   · cases h0
   · rw[G] at D;cases D
     have Q:l=l1:=by have:=Z.symm.trans O;simpa using this
     subst Q;refine .inr ⟨b,_,G,J,h4,h5,by rw[Gw];exact h6,?_⟩;have hle:p.len*6+(Jh t++[Value.slice k1 n1 c1]).length≤l.length:=by simp[Jh];omega
     have:=Qc hle;have e:p.len*6+(Jh t++[Value.slice k1 n1 c1]).length=(p.len+1)*6:=by simp[Jh];omega
     rw[e] at this;rw[this,← h7,List.take_take,Nat.min_eq_left (by omega)]
 · exact HC.snoc (Ey.imp hk (JF d oM)) p _ (HC.imp (JF d oM) p _ (HC.init p xs h2)) (by rw[List.length_take,F.1];omega)
end
end Go.SP
namespace Go.SW
open Go.RowKit
section
variable{P:Program}{n:Nat}{Q:AX}{σ:Bf}{ds:List Deferred}{w:wO}{ops:Array Oper}{ty T T':tI}{pos:String}{af:Array Edge}{rest:List Oper}{b off k:Nat}{x y:Operand}{l:lV}
theorem Ce{v:Value}{vs:lV}{a:Bool}(D:ev σ x=some (.pointer (some ⟨b,off,none⟩)))(F:ev σ y=some v)(G:Ia v=some vs)(J:AP P T=some (a,k))(K:Nat.beq vs.length k=true)
   (d:AM w b l T') (L:MV vs=true) (O:off+vs.length≤l.length)
   (h:∀w',AM w' b (Et l off vs) T'→GG b w w'→Hu P n ops Q rest σ ds w'):Hu P n ops Q (⟨none,.store T x y,ty,pos,af,none⟩::rest) σ ds w :=
 JB (Pb D F (GZ G) J K d L O) (h _ (setRow_heap w b _ _ T' _ d) (Pj w b _))
variable {hi:Operand}{e:tI}
theorem Xn{k1:IntKind}{z:Int}(i:Nat){a:oA}{len cap:Nat}(D:ev σ x=some (.slice a len cap))(d:ev σ hi=some (.int k1 z))(hz:z=(i:Int))
   (F:Je P T=some (e,k)) (h:i≤cap):AK P σ (.slice T x none (some hi) none) ty w (.slice a i cap) w:=by
 subst hz;exact WT D d F h
end
end Go.SW
namespace Go.SP
open Go.SW Go.RowKit
def Fw:List AB→lV
 | []=>[]
 |t::l=>Jh t++Fw l
theorem L2:∀l,(Fw l).length=l.length*5
 | []=>rfl
 |t::l=>by simp[Fw,L2 l,Jh];omega
theorem BA:∀l m,Fw (l++m)=Fw l++Fw m
 | [],_=>rfl
 |t::l,m=>by simp[Fw,BA l m]
variable {t0:AB}{kf0:Fo}{xs ys:lV}{c1 i n1 sb:Nat}{e:tI}
theorem IQ{l:lV}{n:Nat}(h:l.take n=xs++ys):l.drop xs.length=ys++l.drop n:=by
 have d:=List.take_append_drop n l;rw[h,List.append_assoc] at d;rw[← d];have D:(xs++(ys++l.drop n)).drop xs.length=ys++l.drop n:=List.drop_left;rw[d] at D ⊢;exact D
theorem uU{w:wO}{a:oA}{c:Nat}{pre rest:List AB}{k:AB}(h:BX w e 5 a c (pre++k::rest).length (Fw (pre++k::rest)))(hi:pre.length=i) :
   ∃b l D,a=some ⟨b,0,none⟩∧AM w b l e∧l.drop (0+i*5)=.int .i64 k.k::.int .i64 k.ln::.int .i64 k.co::.int .i64 k.nm::S k.tx::D:=by
 rcases h.2 with ⟨_,_,F⟩|⟨b,l,G,J,_,_,_,d⟩
 · simp at F
 · rw[BA,Fw] at d
   have:=IQ d;rw[L2,hi] at this;exact⟨b,l,_,G,J,by rw[Nat.zero_add,this];rfl⟩
section
variable{eT eK eS:tI}{u:Nat→Nat}{w0 w w':wO}{so sl:List (AB×Fo)}{oa:oA}{oc:Nat}{sa:oA}{sc:Nat}{x:Value}{a:oA}{c:Nat}{p:Fo}{vs:lV}{ka:oA}{kn kc:Nat}{kf:Fo}
theorem SV.oblk{o:AB}{q:Fo}{s:List (AB×Fo)}(h:SV eT eK eS u w0 w ((o,q)::s) sl oa oc sa sc x a c p vs ka kn kc kf):∃b l D,oa=some ⟨b,0,none⟩∧AM w b l eK ∧
   l.drop (0+s.length*5)=.int .i64 o.k::.int .i64 o.ln::.int .i64 o.co::.int .i64 o.nm::S o.tx::D:=by
 rcases h.o.2 with ⟨_,_,F⟩|⟨b,l,G,J,_,_,_,d⟩
 · cases F
 · rw[Z2] at d
   have:=IQ d;rw[KO] at this;exact⟨b,l,_,G,J,by rw[Nat.zero_add,this];rfl⟩
theorem T5:∀(o:AB×Fo)(s:List (AB×Fo)),∃q d,(o::s).getLast?=some q∧Z2 (o::s)=Jh q.1++d
 |o,[]=>⟨o,[],C,by simp[Z2]⟩
 |o,o'::s=>by
   obtain⟨q,d,h,D⟩:=T5 o' s;refine⟨q,d++Jh o.1,by rw[List.getLast?_cons_cons];exact h,?_⟩;show Z2 (o'::s)++Jh o.1=_;rw[D,List.append_assoc]
theorem SV.oblk0{o:AB×Fo}{s:List (AB×Fo)}(h:SV eT eK eS u w0 w (o::s) sl oa oc sa sc x a c p vs ka kn kc kf):∃b l d t f,oa=some ⟨b,0,none⟩∧AM w b l eK∧(o::s).getLast?=some (t,f) ∧
   l.drop (0+0*5)=.int .i64 t.k::.int .i64 t.ln::.int .i64 t.co::.int .i64 t.nm::S t.tx::d:=by
 obtain⟨⟨t,f⟩,d,F,G⟩:=T5 o s;rcases h.o.2 with ⟨_,_,J⟩|⟨b,l,K,L,_,_,_,D⟩
 · cases J
 · refine⟨b,l,d++l.drop ((o::s).length*5),t,f,K,L,F,?_⟩
   rw[G] at D;exact IQ (xs:=[]) D
theorem SV.knil(h:SV eT eK eS u w0 w so sl oa oc sa sc x a c p vs ka kn kc kf):SV eT eK eS u w0 w so sl oa oc sa sc x a c p vs none 0 0 .nil:={h with kid:=Ey.nil _ _ _ _}
theorem SV.olt(h:SV eT eK eS u w0 w so sl oa oc sa sc x a c p vs ka kn kc kf):∀b,rb oa=some b→b<w.heap.size:=λ_ d=>h.o.lt d
theorem SV.slt(h:SV eT eK eS u w0 w so sl oa oc sa sc x a c p vs ka kn kc kf):∀b,rb sa=some b→b<w.heap.size:=λ_ d=>h.s.lt d
theorem SV.tlt(h:SV eT eK eS u w0 w so sl oa oc sa sc x a c p vs ka kn kc kf):∀b,rb a=some b→b<w.heap.size:=λ_ d=>let ⟨_,D,_⟩:=h.top;D.lt d
theorem SV.start{b:Nat}(d:AM w b [.slice none 0 0] eS)(D:w0.heap.size≤b):SV eT eK eS (λ_=>2) w0 w [] [] none 0 (some ⟨b,0,none⟩) 1 (.slice none 0 0) none 0 .nil [] none 0 0 .nil :=
 ⟨Gf _ _ _,(λ_ h=>by cases h),⟨C,.inr ⟨b,_,C,d,Nat.le_refl _,by unfold maxLen;omega,C,C⟩⟩,(λc F=>by cases F;exact⟨D,C⟩),⟨[],Gf _ _ _,tQ,(λ_ h=>by cases h)⟩,tQ,Ey.nil _ _ _ _⟩
theorem SV.out(h:SV eT eK eS u w0 w so sl oa oc sa sc x a c p vs ka kn kc kf):Ey (λb=>w0.heap.size≤b) w a p.len c p:=by
 obtain⟨xs,t1,t2,t3⟩:=h.top;refine⟨C,t1.n_le,?_⟩;rcases t1.2 with ⟨_,_,F⟩|⟨b,l,D,d,_,_,_,G⟩
 · exact .inl F
 · have J:=t3 b (by rw[D];rfl)
   refine .inr ⟨b,0,l,eT,J.1,D,d,?_⟩;rw[List.drop_zero,← List.take_append_drop (p.len*6) l,G];exact HC.more p xs _ (HC.imp (λb d _=>⟨d.1,C⟩) p xs t2)
theorem SV.cell'(h:SV eT eK eS u w0 w so sl oa oc sa sc x a c p vs ka kn kc kf){l:lV}{y:Value}(d:sa=some ⟨sb,0,none⟩)(F:AM w sb l eS)(D:AM w' sb (Et l (0+sl.length*1) [y]) eS)(G:GG sb w w') :
   SV eT eK eS u w0 w' so sl oa oc sa sc y a c p vs ka kn kc kf:=h.cell d F (by rwa[Nat.zero_add,Nat.mul_one] at D) G
theorem SV.last'{k0:Fo}(h:SV eT eK eS u w0 w so sl oa oc sa sc x a c (p.snoc t0 k0) vs ka kn kc kf){b:Nat}{l:lV}(D:a=some ⟨b,0,none⟩)(F:AM w b l eT)(t:AB){k1:oA}(G:Ey (Fz u w0) w k1 n1 c1 kf0)
   (d:AM w' b (Et l (0+p.len*6) (Jh t++[.slice k1 n1 c1])) eT) (J:GG b w w'):SV eT eK eS u w0 w' so sl oa oc sa sc x a c (p.snoc t kf0) vs ka kn kc kf:=h.last D F t G (by rwa[Nat.zero_add] at d) J
end
theorem Kd{st:List (AB×Fo)}(h:∀z∈st,z.2.len≤i):∀z∈st,z.2.len≤i+1:=λz hz=>Nat.le_succ_of_le (h z hz)
theorem XM{st:List (AB×Fo)}(k:AB){cur:Fo}(h:∀z∈st,z.2.len≤i)(d:cur.len≤i):∀z∈(k,cur)::st,z.2.len≤i+1:=λz hz=>by
 rcases List.mem_cons.1 hz with rfl|hz
 · exact Nat.le_succ_of_le d
 · exact Kd h z hz
theorem LA{st:List (AB×Fo)}{o:AB×Fo}(h:∀z∈o::st,z.2.len≤i):∀z∈st,z.2.len≤i+1:=λz hz=>Kd h z (.tail _ hz)
section
variable{k:AB}{l:List AB}{st:List (AB×Fo)}{cur:Fo}
theorem Ta(h:(k.k==0)=true)(d:st.length=200):AA (k::l) st cur=.error (k.ln,k.co):=by unfold AA;simp[h,d]
theorem SF(h:(k.k==0)=true)(d:st.length≠200):AA (k::l) st cur=AA l ((k,cur)::st) .nil:=by rw[AA.eq_def];simp[h,d]
theorem U1(h:(k.k==0)=false)(d:(k.k==1)=true):AA (k::l) [] cur=.error (k.ln,k.co):=by unfold AA;simp[h,d]
theorem GX{o:AB}{q:Fo}{s:List (AB×Fo)}(h:(k.k==0)=false)(d:(k.k==1)=true):AA (k::l) ((o,q)::s) cur=AA l s (q.snoc o cur):=by rw[AA.eq_def];simp[h,d]
theorem GM(h:(k.k==0)=false)(d:(k.k==1)=false):AA (k::l) st cur=AA l st (cur.snoc k .nil):=by rw[AA.eq_def];simp[h,d]
theorem W2{o:AB×Fo}{s:List (AB×Fo)}{t:AB}{f:Fo}(h:(o::s).getLast?=some (t,f)):AA [] (o::s) cur=.error (t.ln,t.co):=by
 obtain⟨d,D⟩:=o;unfold AA;rw[h]
theorem T0:AA [] [] cur=.ok cur:=by unfold AA;rfl
end
end Go.SP
namespace Go.SW
open Go.RowKit
section
variable{P:Program}{n:Nat}{Q:AX}{σ:Bf}{ds:List Deferred}{w:wO}{ops:Array Oper}{ty T:tI}{pos:String}{af:Array Edge}{rest:List Oper}{x:Operand}
def Xj(P:Program)(fn:Func)(R:Ending→wO→Prop):AX :=
 {q:=λe σ ds w=>match e with
     |.normal|.ret=>∀tmps:Array Value,(∀t v,σ t=some v→tmps.getD t undef=v)→Leaves P fn tmps R ds .returning w
     |_=>False,
   p:=λc σ ds w=>∀tmps:Array Value,(∀t v,σ t=some v→tmps.getD t undef=v)→Leaves P fn tmps R ds (.panicking c) w}
variable {ts:Array tI}{tmps:Array Value}{u u':FrameMode}{caps:List Operand}{cv l:lV}{d i:Nat}
theorem xV{f:FuncId}{fn:Func}{c:Code}{R:Ending→wO→Prop}(G:P.funcs[f]?=some fn)(J:fn.body=some c)
   (K:fn.ntmps=n) (L:Nat.ble l.length n=true) (h:HH P n c (Xj P fn R) (Il l 0) [] w):Calls P f l.toArray w R:=by
 refine calls_of_wp_defers G J ?_;rw[K];refine wp_mono (h _ (JA L)) λe a w' he=>?_
 cases e with
 |normal=>obtain⟨σ,ds,D,F⟩:=he;show Leaves _ _ _ _ a.defers _ _;rw[D.defs];exact F _ D.val
 |ret=>obtain⟨σ,ds,D,F⟩:=he;show Leaves _ _ _ _ a.defers _ _;rw[D.defs];exact F _ D.val
 |panic c=>obtain⟨σ,ds,D,F⟩:=he;show Leaves _ _ _ _ a.defers _ _;rw[D.defs];exact F _ D.val
 |outgrown=>exact he.elim
 |exit i=>obtain⟨σ,ds,D,F⟩:=he;exact F.elim
 |goto i=>obtain⟨σ,ds,D,F⟩:=he;exact F.elim
theorem VP{f:FuncId}(F:Jd σ caps=some cv):AK P σ (.makeFunc (.func f) #[] caps.toArray) ty w (.func (.func f) #[] cv.toArray) w:=λG _ _ _ _ D=>by
 have h:=EN D F;simp only[execOp,Instr.makeFunc,List.map_toArray,h,Array.map_empty];rfl
theorem QD{g:Operand}{f:FuncId}{ts:Array tI}(F:ev σ g=some (.func (.func f) #[] cv.toArray))
   (h:Hu P n ops Q rest σ ({target:=.fn (.func f) cv.toArray,args:=#[]}::ds) w):Hu P n ops Q (⟨none,.defer {callee:=.value g,args:=#[],argTypes:=ts},ty,pos,af,none⟩::rest) σ ds w:=λa D =>
 wpList_plain C λK G=>by
   unfold Oper.wp
   have e:(execOp a.eval ⟨none,.defer {callee:=.value g,args:=#[],argTypes:=ts},ty,pos,af,none⟩).run P w=.ok (.defer {target:=.fn (.func f) cv.toArray,args:=#[]}) w:=by
     simp[execOp,resolve,Deferred.ofValue,D.ev _ _ F]
   rw[e];exact G _ _ (h _ ⟨D.size,by show _::a.defers=_;rw[D.defs],D.val⟩)
theorem D0{f:FuncId}{fn:Func}{c:Code}{v:Value}{U:tI}{F:String}{Y:Array Edge}{R:wO→Prop}{w:wO}
   (hf:P.funcs[f]?=some fn) (hb:fn.body=some (.seq (.region i #[⟨some d,.call {callee:=.builtin .recover,args:=#[],argTypes:=ts},U,F,Y,none⟩] false) c)) (hn:fn.ntmps=n) (hl:Nat.ble l.length n=true) (hd:Nat.blt d n=true)
   (Z:∀(D:Frame)(cs:List Frame),D.mode=u→(recoverD (D::cs)=some (v,{D with mode:=u' }::cs)∨(recoverD (D::cs)=none∧v=.nilIface∧u'=u)))
   (h:HH P n c (FR P fn (λ_ w'=>R w') λ_ _=>False) (AF (Il l 0) d v) [] w):CallsD P f l.toArray u w λe m w'=>∃x,e=.returned x∧m=u'∧R w':=by
 refine callsD_of_wpS hf hb λD cs hu=>wpS_seq (wpS_region ?_)
 have hx:∀ρ,(execOp ρ ⟨some d,.call {callee:=.builtin .recover,args:=#[],argTypes:=ts},U,F,Y,none⟩).run P w=.ok .recover w:=λρ=>by
   simp[execOp,resolve,invoke,builtin]
 have hgo:∀G,G={D with mode:=u' }::cs→(c.wpS P (bodyPostS P fn D cs λe m w'=>∃x,e=.returned x∧m=u'∧R w') (Act.put {tmps:=l.toArray++Array.replicate (fn.ntmps-l.toArray.size) undef,defers:=[]} (some d) v) G w):=λG hcs=>by
   subst hcs;refine wpS_of_wp ?_;have hst:=JA (n:=n) hl;rw[hn];refine wp_mono (h _ (hst.put hd v)) λe a w' he=>?_
   cases e with
   |normal=>obtain⟨σ,ds,J,K,x,hx,L⟩:=he;exact⟨by rw[J.defs,K],u',C,x,hx _ J.val,x,C,C,L⟩
   |ret=>obtain⟨σ,ds,J,K,x,hx,L⟩:=he;exact⟨by rw[J.defs,K],u',C,x,hx _ J.val,x,C,C,L⟩
   |panic c=>obtain⟨_,_,_,hq⟩:=he;exact hq.2.elim
   |outgrown=>exact he.elim
   |exit i=>obtain⟨σ,ds,J,hq⟩:=he;exact hq.elim
   |goto i=>obtain⟨σ,ds,J,hq⟩:=he;exact hq.elim
 have O:({D with mode:=u}:Frame)=D:=by subst hu;rfl
 show wpOpsS P _ _ [0] _ _ _;simp only[wpOpsS,List.getElem?_toArray,List.getElem?_cons_zero,Region.wanted,if_true,hx];rcases Z D cs hu with L|⟨L,hv,hu'⟩
 · rw[L];exact hgo _ C
 · rw[L]
   subst hv hu';exact hgo _ (by rw[O])
theorem FP{fn:Func}{R:Ending→wO→Prop}{f:FuncId}{R':wO→Prop}(hu:u≠.run)(he:BB P f)(h:CallsD P f cv.toArray u w λe m w'=>∃x,e=.returned x∧m=u'∧R' w')
   (D:∀w',R' w'→Leaves P fn tmps R [] (settle u') w'):Leaves P fn tmps R [{target:=.fn (.func f) cv.toArray,args:=#[]}] u w:=by
 refine leaves_cons (f:=f) (args:=cv.toArray) hu (by simp only[invoke,Array.empty_append];exact he _ _) (CallsD.mono h ?_);rintro e m w' ⟨x,rfl,rfl,hw⟩;exact D w' hw
theorem BT{fn:Func}{R:Ending→wO→Prop}{v:Value}(D:∀t v,σ t=some v→tmps.getD t undef=v)(F:UH P fn σ w v)(h:R (.returned v) w):Leaves P fn tmps R [] .returning w:=⟨v,F _ D,h⟩
theorem V3{v:Value}{X:tI}(F:ev σ x=some (.iface T v))(h:yT P T=true):AK P σ (.typeAssert x X T true) ty w (.tuple #[v,.bool true]) w:=λG _ _ _ _ D=>by
 unfold yT at h
 cases hu:P.underlying T with
 |none=>rw[hu] at h;cases h
 |some d =>
   rw[hu] at h
   cases d <;> simp_all [execOp,Instr.typeAssert,underlying,D _ _ F,run_underlying hu]
end
section
variable{P:Program}{σ:Bf}{w:wO}{ty T:tI}{x y:Operand}
theorem It(h:ZF P T=true):∃ms,P.underlying T=some (.interface ms):=by
 unfold ZF at h
 split at h
 · exact⟨_,by assumption⟩
 · cases h
variable {t t':tI}
theorem pR{ms}(d:Nat)(hu:P.underlying t=some (.interface ms)):(Op.equalIn (d+1) t .nilIface .nilIface).run P w=.ok true w:=by simp[Op.equalIn,run_underlying hu]
theorem pP{ms}(d:Nat){v:Value}(hu:P.underlying t=some (.interface ms)):(Op.equalIn (d+1) t (.iface T v) .nilIface).run P w=.ok false w:=by simp[Op.equalIn,run_underlying hu]
theorem RO(h:ZF P t=true)(D:ev σ x=some .nilIface):AK P σ (.binOp .eql t x (.const .nilIface) t') ty w (.bool true) w:=by
 obtain⟨ms,hu⟩:=It h;have e:(Op.equal t .nilIface .nilIface).run P w=.ok true w:=pR (Op.maxDepth-1) hu
 exact λF _ _ _ _ d=>by
   have G:F (.const .nilIface)=.nilIface:=d _ _ C;simp[execOp,d _ _ D,G,eqGuard,binOp,e]
theorem Ri{v:Value}(h:ZF P t=true)(D:ev σ x=some (.iface T v)):AK P σ (.binOp .eql t x (.const .nilIface) t') ty w (.bool false) w:=by
 obtain⟨ms,hu⟩:=It h;have e:(Op.equal t (.iface T v) .nilIface).run P w=.ok false w:=pP (Op.maxDepth-1) hu
 exact λF _ _ _ _ d=>by
   have G:F (.const .nilIface)=.nilIface:=d _ _ C;simp[execOp,d _ _ D,G,eqGuard,binOp,e]
theorem NU:∀(d:Frame)(cs:List Frame),d.mode=.returning→(recoverD (d::cs)=some (Value.nilIface,{d with mode:=.returning}::cs)∨(recoverD (d::cs)=none∧Value.nilIface=Value.nilIface∧FrameMode.returning=.returning)):=λd cs h=>.inr ⟨by simp[recoverD,h],C,C⟩
theorem Sj{v:Value}:∀(d:Frame)(cs:List Frame),d.mode=.panicking [{v:=v,recovered:=false}]→(recoverD (d::cs)=some (v,{d with mode:=.panicking [{v:=v,recovered:=true}]}::cs)∨(recoverD (d::cs)=none∧v=Value.nilIface∧FrameMode.panicking [{v:=v,recovered:=true}]=.panicking [{v:=v,recovered:=false}])):=λd cs h=>.inl (by simp[recoverD,h])
theorem KK{v:Value}:settle (.panicking [{v:=v,recovered:=true}])=.returning:=by simp[settle]
end
end Go.SW
namespace Go.SP
open Go.SW Go.RowKit
abbrev Ps:=Int×Int
def adv(c:UInt8)(p:Ps):Ps:=if (c.toNat:Int)==10 then (p.1+1,1) else (p.1,p.2+1)
def F5:lU:=[48,49,50,51,52,53,54,55,56,57,97,98,99,100,101,102]
def ED:lU:=[32,9,10]
def Jz:lU:=[32,9,10,40,41,34,59]
def Hv(p:Ps):lU→Except Ps (UInt8×lU×Ps)
 | []=>.error p
 |c::r =>
   if (c.toNat:Int)==34 then .ok (c,r,adv c p)
   else if (c.toNat:Int)==92 then .ok (c,r,adv c p)
   else if (c.toNat:Int)==110 then .ok (10,r,adv c p)
   else if (c.toNat:Int)==120 then
     match r with
     |a::b::r' =>
       if decide ((0:Int)≤Lib.indexByte F5 a)&&decide ((0:Int)≤Lib.indexByte F5 b) then .ok (UInt8.ofNat ((Lib.indexByte F5 a).toNat*16+(Lib.indexByte F5 b).toNat),r',adv b (adv a (adv c p))) else .error p
     |_=>.error p
   else .error p
def F3(start:Ps):Nat→Ps→lU→lU→Except Ps (lU×lU×Ps)
 |0,_,_,_=>.error start
 |_+1,_,_,[]=>.error start
 |n+1,p,acc,c::r =>
   if (c.toNat:Int)==34 then (if decide ((4096:Int)<acc.length) then .error start else .ok (acc,r,adv c p))
   else if decide ((c.toNat:Int)<32) then .error p
   else if (c.toNat:Int) != 92 then F3 start n (adv c p) (acc++[c]) r
   else match r with
     | []=>.error start
     |_=>match Hv (adv c p) r with
       |.error e=>.error e
       |.ok (b,r',d)=>F3 start n d (acc++[b]) r'
def Pk(i:Nat)(p:Ps):Prop:=0≤p.1∧p.1≤i+1∧0≤p.2∧p.2≤i+1
variable {i:Nat}{p:Ps}{src:lU}
theorem Pk.adv{c:UInt8}(h:Pk i p):Pk (i+1) (adv c p):=by
 obtain⟨d,D,F,G⟩:=h;unfold Go.SP.adv
 split <;> (refine⟨?_,?_,?_,?_⟩ <;> simp only <;> omega)
theorem Bc{c:UInt8}(h:src[i]?=some c):src.drop i=c::src.drop (i+1):=by
 obtain⟨d,he⟩:=List.getElem?_eq_some_iff.1 h;rw[List.drop_eq_getElem_cons d,he]
theorem K2(h:i<src.length):∃c,src[i]?=some c:=⟨src[i],List.getElem?_eq_getElem h⟩
theorem Cj{c:UInt8}(h:src[i]?=some c):i<src.length:=(List.getElem?_eq_some_iff.1 h).1
theorem dS(c:UInt8):Lib.indexByte F5 c<16:=by
 have:∀(l:lU),Lib.indexByte l c<l.length∨Lib.indexByte l c = -1:=by
   intro l
   induction l with
   |nil=>right;rfl
   |cons a l d =>
     unfold Lib.indexByte
     split
     · left;simp
     · split
       · right;rfl
       · left;simp only[List.length_cons];rcases d with h|h <;> simp_all
 rcases this F5 with h|h
 · exact h
 · omega
end Go.SP
namespace Go.SW
open Go.RowKit
theorem Bv{P:Program}{σ:Bf}{w:wO}{ty:tI}{x:Operand}{a:Addr}(h:ev σ x=some (.pointer (some a))):AK P σ (.nilCheck x) ty w (.pointer (some a)) w:=λD _ _ _ _ d=>by
 simp[execOp,d _ _ h]
section
variable{P:Program}{σ:Bf}{w:wO}{ty T T':tI}{x y:Operand}
variable {a:oA}{e t t':tI}
theorem nN{a:Int}(D:ev σ x=some (.int .i64 a))(F:ev σ y=some (.int .u64 4))(h:0≤a∧a<16):AK P σ (.binOp .shl t x y t') ty w (.int .i64 (a*16)) w :=
 λG _ _ _ _ d=>by
   have e:IntKind.i64.wrap (a*16)=a*16:=Nb ⟨oM,oM⟩;simp[execOp,d _ _ D,d _ _ F,eqGuard,binOp,Op.shift,IntKind.bits,e]
theorem or16:∀a b:Fin 16,((BitVec.ofInt 64 ((a.val:Int)*16)) ||| (BitVec.ofInt 64 (b.val:Int))).toNat=a.val*16+b.val:=dC
theorem nW{a b:Int}(D:ev σ x=some (.int .i64 (a*16)))(F:ev σ y=some (.int .i64 b))(h:0≤a∧a<16)(G:0≤b∧b<16):AK P σ (.binOp .or t x y t') ty w (.int .i64 (a*16+b)) w :=
 λL _ _ _ _ d=>by
   have e:=or16 ⟨a.toNat,oM⟩ ⟨b.toNat,oM⟩;simp only[Int.toNat_of_nonneg h.1,Int.toNat_of_nonneg G.1] at e;have J:IntKind.i64.wrap (a*16+b)=a*16+b:=Nb ⟨oM,oM⟩;have K:((a.toNat*16+b.toNat:Nat):Int)=a*16+b:=oM;simp only[execOp,d _ _ D,d _ _ F,eqGuard,binOp,Op.intBits];show Result.ok (Next.value (.int .i64 (IntKind.i64.wrap ((BitVec.ofInt 64 (a*16) ||| BitVec.ofInt 64 b).toNat:Int)))) w=_;rw[e,K,J]
theorem BJ{k k0:IntKind}{n m:Int}(G:ev σ x=some (.int k0 n))(h:Z3 P T T'=some k)(hm:k.wrap n=m):AK P σ (.convert T T' x) ty w (.int k m) w:=by
 unfold Z3 at h
 cases D:P.underlying T with
 |none=>rw[D] at h;cases h
 |some s =>
   cases hd:P.underlying T' with
   |none=>rw[D,hd] at h;cases h
   |some d =>
     rw[D,hd] at h
     cases d <;> simp at h
     rename_i J;subst h
     exact λK _ _ _ _ F=>by
       simp[execOp,F _ _ G,convert,run_underlying D,run_underlying hd,Conv.intToInt,hm]
theorem Xq{n:Int}(h:0≤n∧n<256):IntKind.u8.wrap n=n:=by
 unfold IntKind.wrap;simp[IntKind.bits,IntKind.signed];omega
def bC(l:lU):lV:=l.map λc=>.int .u8 c.toNat
theorem bC_app(l m:lU):bC (l++m)=bC l++bC m:=List.map_append
theorem Mj{c:Nat}{l:lU}(G:ev σ x=some (.slice a l.length c))(d:mV P T T'=some e)(J:BX w e 1 a c l.length (bC l)):AK P σ (.convert T T' x) ty w (S l) w:=by
 unfold mV at d
 split at d
 · rename_i D F
   split at d
   · rename_i he hd
     injection d with d
     subst d;refine λU _ _ _ _ h=>?_;simp only[execOp,h _ _ G,Sem.run_bind];rcases J.2 with ⟨rfl,_,K⟩|⟨b,cs,rfl,L,_,_,_,O⟩
     · have:l=[]:=List.eq_nil_of_length_eq_zero K
       subst this;rw[run_convert_bytes_nil w T D F he _ c T' hd];rfl
     · rw[run_convert_bytes_back w T T' D ⟨b,0,none⟩ c l F he hd (λj Q=>by
         rw[EH,L.cell,Nat.zero_add];have:(bC l)[j]?=some (.int .u8 (l[j].toNat:Int)):=by simp[bC,List.getElem?_eq_getElem Q]
         rw[← O,List.getElem?_take,if_pos (by omega)] at this;exact this)]
       rfl
   · cases d
 · cases d
end
end Go.SW
namespace Go.SP
open Go.SW Go.RowKit
def Gy:lU:=[48,49,50,51,52,53,54,55,56,57]
def F6:lU:=[65,66,67,68,69,70,71,72,73,74,75,76,77,78,79,80,81,82,83,84,85,86,87,88,89,90]
def Ev:lU:=[97,98,99,100,101,102,103,104,105,106,107,108,109,110,111,112,113,114,115,116,117,118,119,120,121,122]
def GA:lU:=[39,43,42,47,60,62,61,33,63,95,46,45]
def HV(s l:lU):Bool:=Lib.trimS s l==[]
def EF(s:lU):Bool:=!(s==[])&&HV s Gy
def Bg(s:lU):lU:=Lib.trimPrefix s [45]
def CQ:Nat→lU→Nat
 |n,[]=>n
 |n,c::l=>CQ (n*10+(c.toNat-48)) l
def Pz(s:lU):Bool:=s.head?==some 45
def I0(s:lU):Option Int :=
 if EF (Bg s) then
   (if Pz s then (if CQ 0 (Bg s)≤4611686018427387904 then some (-(CQ 0 (Bg s):Int)) else none)
   else if CQ 0 (Bg s)<4611686018427387904 then some (CQ 0 (Bg s)) else none)
 else none
def Ie(s:lU):Option (lU×lU) :=
 let c:=Lib.cut (Bg s) [46]
 if c.2.2&&(EF c.1&&(EF c.2.1&&decide ((c.1.length:Int)+c.2.1.length≤15))) then some (c.1,c.2.1) else none
end Go.SP
namespace Go.SP
open Go.SW Go.RowKit
theorem hexv{a b:Int}(d:0≤a∧a<16)(h:0≤b∧b<16):((UInt8.ofNat (a.toNat*16+b.toNat)).toNat:Int)=a*16+b:=by
 have:a.toNat*16+b.toNat<256:=oM;simp only[UInt8.toNat_ofNat'];rw[Nat.mod_eq_of_lt this];omega
variable {i:Nat}{p:Ps}{src:lU}
theorem iR{a b:UInt8}(d:src[i]?=some a)(h:src[i+1]?=some b):src.drop i=a::b::src.drop (i+2):=by
 rw[Bc d,Bc h]
theorem Uf{c a b:UInt8}{r:lU}(F:((c.toNat:Int)==34)=false)(G:((c.toNat:Int)==92)=false)(d:((c.toNat:Int)==110)=false)(D:((c.toNat:Int)==120)=true)
   (h:Lib.indexByte F5 a<0∨Lib.indexByte F5 b<0):Hv p (c::a::b::r)=.error p:=by
 simp only[Hv,F,G,d,D,Bool.false_eq_true,if_false,if_true];rw[if_neg];simp only[Bool.and_eq_true,decide_eq_true_eq];omega
theorem gE{c:UInt8}{r:lU}(D:((c.toNat:Int)==34)=false)(F:((c.toNat:Int)==92)=false)(d:((c.toNat:Int)==110)=false)(h:r.length<2):Hv p (c::r)=.error p:=by
 unfold Hv;rcases r with _|⟨a,_|⟨b,r⟩⟩
 · simp[D,F,d]
 · simp[D,F,d]
 · simp at h;omega
end Go.SP
namespace Go.SP
open Go.SW Go.RowKit
def MC(neg:Bool)(a b:lU):Nat :=
 let m:=CQ 0 (a++b)
 let x:=FloatKind.f64.nearest m
 let x:=if neg then Op.negFloat .f64 x else x
 if m=0 then (if neg then 9223372036854775808 else 0) else (FloatKind.f64.format.div x (G3.getD b.length 0)).getD 0
def IN(s:lU):Option Nat:=match Ie s with
 |none=>none
 |some (a,b)=>let f:=MC (Pz s) a b
   some (if Op.floatEq .f64 f f then f else 9221120237041090560)
def Ql(x:Nat):Nat→lU
 |0=>[]
 |j+1=>UInt8.ofNat (x / 2 ^ (8*j))::Ql x j
def Ot(x:Nat):lU:=Ql x 8
def Hw(w:lU):Option (Int×Int×lU) :=
 match I0 w with
 |some n=>some (2,n,[])
 |none=>match IN w with
   |some x=>some (3,0,Ot x)
   |none =>
     if decide ((40:Int)<w.length)||(!(Bg w==[])&&HV (Bg w) Gy) then none
     else if HV (w.take 1) F6&&HV w (F6++Ev++Gy) then some (6,0,w)
     else if HV (w.take 1) (Ev++GA)&&HV w (F6++Ev++Gy++GA) then some (5,0,w)
     else none
def Kq(p:Ps):lU→lU×Ps
 | []=>([],p)
 |c::r=>if (c.toNat:Int) != 10 then Kq (adv c p) r else (c::r,p)
def CW(p:Ps):lU→lU×lU×Ps
 | []=>([],[],p)
 |c::r=>if decide (Lib.indexByte Jz c<0) then (c::(CW (adv c p) r).1,(CW (adv c p) r).2) else ([],c::r,p)
def CH(F:Nat)(p:Ps):lU→Except Ps (List AB×lU×Ps)
 | []=>.error p
 |c::r =>
   if decide ((0:Int)≤Lib.indexByte ED c) then .ok ([],r,adv c p)
   else if (c.toNat:Int)==59 then .ok ([],Kq (adv c p) r)
   else if (c.toNat:Int)==40 then .ok ([⟨0,p.1,p.2,0,[]⟩],r,adv c p)
   else if (c.toNat:Int)==41 then .ok ([⟨1,p.1,p.2,0,[]⟩],r,adv c p)
   else if (c.toNat:Int)==34 then (match F3 p F (adv c p) [] r with
     |.error e=>.error e
     |.ok (tx,r',d)=>.ok ([⟨4,p.1,p.2,0,tx⟩],r',d))
   else (match Hw (c::(CW (adv c p) r).1) with
     |none=>.error p
     |some (k,nm,tx)=>.ok ([⟨k,p.1,p.2,nm,tx⟩],(CW (adv c p) r).2))
def DZ(F:Nat):Nat→Ps→lU→Except Ps (List AB)
 |_,_,[]=>.ok []
 |0,p,_::_=>.error p
 |n+1,p,c::r=>match CH F p (c::r) with
   |.error e=>.error e
   |.ok (t,r',d)=>match DZ F n d r' with
     |.error e=>.error e
     |.ok l=>.ok (t++l)
def Jj(src:lU):Except (Int×Int×Int) (List AB) :=
 if decide ((65536:Int)<src.length) then .error (0,0,4)
 else match DZ (src.length+1) src.length (1,1) src with
   |.error e=>.error (e.1,e.2,10)
   |.ok l=>.ok l
variable {m:Nat}{a a':oA}{w w1 w2:wO}
theorem KV.grow(h:KV m w w1)(d:Fj a w1 a' w2)(J:∀x,rb a=some x→w.heap.size≤x):KV m w w2 :=
 ⟨d.os.trans h.os,d.tape.trans h.tape,d.output.trans h.output,Nat.le_trans h.size d.size,λk G D=>(d.block k (Nat.lt_of_lt_of_le G h.size) (λe=>by have:=J k e.symm;omega)).trans (h.block k G D)⟩
end Go.SP
namespace Go.SW
open Go.SP Go.RowKit
variable {xs:lV}{m n:Nat}{a:oA}{e:tI}{w w':wO}
theorem BX.exb{size:Nat}{c:Nat}(h:BX w e size a c n xs)(G:KV m w w')(d:rb a≠some m):BX w' e size a c n xs :=
 ⟨h.1,h.2.imp id λ⟨b,l,D,J,K⟩=>⟨b,l,D,J.exb G (λe=>d (by rw[D,e];rfl)),K⟩⟩
end Go.SW
namespace Go.SP
open Go.SW Go.RowKit
variable {a a':oA}{w1 w2:wO}
theorem BU{p:Nat→Prop}(D:Fj a w1 a' w2)(h:∀x,rb a=some x→p x)(G:p w1.heap.size):∀x,rb a'=some x→p x:=λx d=>by
 rcases D.own with e|e
 · exact h x (e▸d)
 · have:=Option.some.inj (e.symm.trans d)
   exact this▸G
theorem J6{src:lU}{i:Nat}(h:¬i<src.length):src.drop i=[]:=List.drop_eq_nil_of_le oM
theorem D3(start p:Ps)(n:Nat)(acc r:lU)(c:UInt8):F3 start (n+1) p acc (c::r) =
   (if (c.toNat:Int)==34 then (if decide ((4096:Int)<acc.length) then .error start else .ok (acc,r,adv c p))
   else if decide ((c.toNat:Int)<32) then .error p
   else if (c.toNat:Int) != 92 then F3 start n (adv c p) (acc++[c]) r
   else match r with
     | []=>.error start
     |_=>match Hv (adv c p) r with
       |.error e=>.error e
       |.ok (b,r',d)=>F3 start n d (acc++[b]) r'):=rfl
section
variable{start p:Ps}{F i:Nat}{acc src:lU}{c:UInt8}
theorem Uj(d:0<F)(h:¬i<src.length):F3 start F p acc (src.drop i)=.error start:=by
 rw[J6 h]
 cases F with
 |zero=>omega
 |succ n=>rfl
theorem aJ(d:src[i]?=some c)(h:((c.toNat:Int)==34)=true)(D:decide ((4096:Int)<acc.length)=true):F3 start (F+1) p acc (src.drop i)=.error start:=by rw[Bc d];rw[D3,if_pos h,if_pos D]
theorem iK(d:src[i]?=some c)(h:((c.toNat:Int)==34)=true)(D:decide ((4096:Int)<acc.length)=false):F3 start (F+1) p acc (src.drop i)=.ok (acc,src.drop (i+1),adv c p):=by rw[Bc d];rw[D3,if_pos h,if_neg (by rw[D];decide)]
theorem cT(d:src[i]?=some c)(h:((c.toNat:Int)==34)=false)(D:decide ((c.toNat:Int)<32)=true):F3 start (F+1) p acc (src.drop i)=.error p:=by rw[Bc d];rw[D3,if_neg (by rw[h];decide),if_pos D]
theorem YS(d:src[i]?=some c)(h:((c.toNat:Int)==34)=false)(D:decide ((c.toNat:Int)<32)=false)(G:((c.toNat:Int) != 92)=true) :
   F3 start (F+1) p acc (src.drop i)=F3 start F (adv c p) (acc++[c]) (src.drop (i+1)):=by rw[Bc d];rw[D3,if_neg (by rw[h];decide),if_neg (by rw[D];decide),if_pos G]
theorem YJ(d:src[i]?=some c)(D:((c.toNat:Int)==34)=false)(G:decide ((c.toNat:Int)<32)=false)(J:((c.toNat:Int) != 92)=false)(h:¬i+1<src.length) :
   F3 start (F+1) p acc (src.drop i)=.error start:=by rw[Bc d,J6 h];rw[D3,if_neg (by rw[D];decide),if_neg (by rw[G];decide),if_neg (by rw[J];decide)]
theorem Zv{e:Ps}(G:src[i]?=some c)(J:((c.toNat:Int)==34)=false)(K:decide ((c.toNat:Int)<32)=false)(L:((c.toNat:Int) != 92)=false)(h:i+1<src.length)
   (D:Hv (adv c p) (src.drop (i+1))=.error e):F3 start (F+1) p acc (src.drop i)=.error e:=by
 obtain⟨d,hd⟩:=K2 h;rw[Bc G,D3,if_neg (by rw[J];decide),if_neg (by rw[K];decide),if_neg (by rw[L];decide)];rw[Bc hd] at D ⊢;simp only[D]
theorem Y6{b:UInt8}{r':lU}{D:Ps}(J:src[i]?=some c)(K:((c.toNat:Int)==34)=false)(L:decide ((c.toNat:Int)<32)=false)(O:((c.toNat:Int) != 92)=false)(h:i+1<src.length)
   (G:Hv (adv c p) (src.drop (i+1))=.ok (b,r',D)):F3 start (F+1) p acc (src.drop i)=F3 start F D (acc++[b]) r':=by
 obtain⟨d,hd⟩:=K2 h;rw[Bc J,D3,if_neg (by rw[K];decide),if_neg (by rw[L];decide),if_neg (by rw[O];decide)];rw[Bc hd] at G ⊢;simp only[G]
end
end Go.SP
namespace Go.SW
open Go.RowKit
section
variable{P:Program}{n:Nat}{Q:AX}{σ:Bf}{ds:List Deferred}{w:wO}{ops:Array Oper}{ty T T':tI}{pos:String}{af:Array Edge}{rest:List Oper}{d b off k:Nat}{x y:Operand}
variable {l:lV}{e t t':tI}{w':wO}
theorem Nn{k:IntKind}{a b:Int}(m:Int)(F:ev σ x=some (.int k a))(G:ev σ y=some (.int k b))(h:k.wrap (a+b)=m):AK P σ (.binOp .add t x y t') ty w (.int k m) w :=
 λJ _ _ _ _ D=>by simp[execOp,D _ _ F,D _ _ G,eqGuard,binOp,Op.intArith,h]
theorem Gi{k:IntKind}{a b:Int}(m:Int)(F:ev σ x=some (.int k a))(G:ev σ y=some (.int k b))(h:k.wrap (a-b)=m):AK P σ (.binOp .sub t x y t') ty w (.int k m) w :=
 λJ _ _ _ _ D=>by simp[execOp,D _ _ F,D _ _ G,eqGuard,binOp,Op.intArith,h]
theorem Rp{k:IntKind}{a b:Int}(m:Int)(F:ev σ x=some (.int k a))(G:ev σ y=some (.int k b))(h:k.wrap (a*b)=m):AK P σ (.binOp .mul t x y t') ty w (.int k m) w :=
 λJ _ _ _ _ D=>by simp[execOp,D _ _ F,D _ _ G,eqGuard,binOp,Op.intArith,h]
theorem Ka{k k2:IntKind}{a b:Int}(m:Int)(F:ev σ x=some (.int k a))(G:ev σ y=some (.int k2 b))(J:¬b<0)(h:k.wrap (a*2 ^ (min b.toNat k.bits))=m):AK P σ (.binOp .shl t x y t') ty w (.int k m) w :=
 λK _ _ _ _ D=>by simp only[execOp,D _ _ F,D _ _ G,eqGuard,binOp,Op.shift,if_neg J,h];rfl
theorem WV{k k2:IntKind}{a b:Int}(m:Int)(F:ev σ x=some (.int k a))(G:ev σ y=some (.int k2 b))(J:¬b<0)(h:a.fdiv (2 ^ (min b.toNat k.bits))=m):AK P σ (.binOp .shr t x y t') ty w (.int k m) w :=
 λK _ _ _ _ D=>by simp only[execOp,D _ _ F,D _ _ G,eqGuard,binOp,Op.shift,if_neg J,h];rfl
theorem LO{k:IntKind}{a:Int}(m:Int)(F:ev σ x=some (.int k a))(h:k.wrap (0-a)=m):AK P σ (.unOp .neg t x) ty w (.int k m) w:=λJ _ _ _ _ D=>by
 have G:k.wrap (-a)=m:=by rw[← h];congr 1;omega
 simp[execOp,D _ _ F,Op.unary,Op.intArith,G]
theorem I1(D:ZF P t=true)(F:ev σ x=some .nilIface):AK P σ (.binOp .neq t x (.const .nilIface) t') ty w (.bool false) w:=by
 obtain⟨ms,hu⟩:=It D;have e:(Op.equal t .nilIface .nilIface).run P w=.ok true w:=pR (Op.maxDepth-1) hu
 exact λG _ _ _ _ h=>by
   have J:G (.const .nilIface)=.nilIface:=h _ _ C;simp[execOp,h _ _ F,J,eqGuard,binOp,e]
theorem LG{v:Value}(D:ZF P t=true)(F:ev σ x=some (.iface T v)):AK P σ (.binOp .neq t x (.const .nilIface) t') ty w (.bool true) w:=by
 obtain⟨ms,hu⟩:=It D;have e:(Op.equal t (.iface T v) .nilIface).run P w=.ok false w:=pP (Op.maxDepth-1) hu
 exact λG _ _ _ _ h=>by
   have J:G (.const .nilIface)=.nilIface:=h _ _ C;simp[execOp,h _ _ F,J,eqGuard,binOp,e]
def kT(P:Program)(T:tI):Bool:=match P.info? T,P.underlying T with|some i,some (.int _)=>i.comparable|_,_=>false
theorem eqI{ms}(dd:Nat){k:IntKind}{a b:Int}(hu:P.underlying t=some (.interface ms))(h:kT P T=true):(Op.equalIn (dd+2) t (.iface T (.int k a)) (.iface T (.int k b))).run P w=.ok (a==b) w:=by
 unfold kT at h
 split at h
 · rename_i i J D F
   have G:(Op.equalIn (dd+1) T (.int k a) (.int k b)).run P w=.ok (a==b) w:=by simp[Op.equalIn,run_underlying F]
   rw[Op.equalIn];simp[run_underlying hu,typeInfo,D,h,G]
 · cases h
theorem bE{k:IntKind}{a b:Int}(D:ZF P t=true)(F:kT P T=true)(G:ev σ x=some (.iface T (.int k a)))(J:ev σ y=some (.iface T (.int k b))):AK P σ (.binOp .neq t x y t') ty w (.bool (!(a==b))) w:=by
 obtain⟨ms,hu⟩:=It D;have e:(Op.equal t (.iface T (.int k a)) (.iface T (.int k b))).run P w=.ok (a==b) w:=eqI (Op.maxDepth-2) hu F;exact λK _ _ _ _ h=>by simp[execOp,h _ _ G,h _ _ J,eqGuard,binOp,e]
structure xW(w:wO)(b:Nat)(l:lV):Prop where
 lt:b<w.heap.size
 at':∀j v,l[j]?=some v→w.cell? ⟨b,j,none⟩=some v
theorem xW.ext{w:wO}{b:Nat}(h:xW w b l)(D:AU w w'):xW w' b l :=
 ⟨Nat.lt_of_lt_of_le h.lt D.size,λj v F=>(D.cell (p:=⟨b,j,none⟩) h.lt).trans (h.at' j v F)⟩
theorem cZ{v:Value}(D:ev σ x=some (.pointer (some ⟨b,off,none⟩)))(F:AP P T=some (false,k))(G:xW w b l)(J:l[off]?=some v):AK P σ (.load T x) ty w v w:=λL _ _ _ _ h=>by
 have K:=G.at' off v J;simp[execOp,h _ _ D,Instr.loadAt,Instr.sureAddr,loadVar,Fc F,run_load,K]
def sS(P:Program)(s d:tI):Option tI:=match P.underlying s with
 |some .string=>match P.underlying d with|some (.slice e)=>(match P.underlying e with|some (.int .u8)=>some e|_=>none)|_=>none
 |_=>none
theorem nH{l:lU}(hd:Nat.blt d n=true)(O:ev σ x=some (S l))(D:sS P T T'=some e)
   (h:∀b c w',xW w' b (bC l)→AU w w'→Hu P n ops Q rest (AF σ d (.slice (some ⟨b,0,none⟩) l.length c)) ds w'):Hu P n ops Q (⟨some d,.convert T T' x,ty,pos,af,none⟩::rest) σ ds w:=by
 unfold sS at D
 split at D
 · rename_i Y
   split at D
   · rename_i F J
     split at D
     · rename_i he
       injection D with D
       subst D
       have Z:AK P σ (.convert T T' x) ty w (.slice (some ⟨w.heap.size,0,none⟩) l.length (grownCap w l.length 0 F)) (Lib.bytesWorld w F ⟨l.toArray⟩):=λρ _ _ _ _ K=>by
         have:=Lib.run_convert_string_bytes (P:=P) w T T' F ⟨l.toArray⟩ Y J he;have e2:(⟨l.toArray⟩:ByteArray).size=l.length:=by simp[ByteArray.size]
         rw[e2] at this;simp only[execOp,K _ _ O,Sem.run_bind,this];rfl
       refine Ab hd Z (h _ _ _ ⟨by rw[Lib.bytesWorld_size];omega,λj v L=>?_⟩ ⟨C,C,C,by rw[Lib.bytesWorld_size];omega,λj G=>Lib.bytesWorld_at_old w F _ j G⟩)
       have G:j<l.length:=by
         rcases Nat.lt_or_ge j l.length with h|h
         · exact h
         · rw[List.getElem?_eq_none (by simpa[bC] using h)] at L;cases L
       have:=Lib.bytesWorld_cell w F ⟨l.toArray⟩ j (by simpa[ByteArray.size] using G);rw[this,← L];simp[bC,G]
     · cases D
   · cases D
 · cases D
end
theorem GL{n:Int}(h:0≤n∧n≤18446744073709551615):IntKind.u64.wrap n=n:=IntWalk.u64_in _ h
theorem Gm{n:Int}(h : -9223372036854775808≤n∧n≤9223372036854775807):IntKind.i64.wrap n=n:=IntWalk.i64_in _ h
end Go.SW
namespace Go.SW
open Go.RowKit
variable {lo:Operand}
theorem MA{P:Program}{σ:Bf}{w:wO}{ty T:tI}{x:Operand}{c:UInt8}{s:lU}{k1:IntKind}(D:ev σ x=some (S (c::s)))(h:ev σ lo=some (.int k1 1))(F:P.underlying T=some .string) :
   AK P σ (.slice T x (some lo) none none) ty w (S s) w:=by
 have:=U5 (ty:=ty) (w:=w) D h F ⟨oM,by simp only[List.length_cons];omega⟩;simpa using this
end Go.SW
namespace Go.SW
open Go.RowKit
section
variable{P:Program}{σ:Bf}{w:wO}{ty T T':tI}{x y:Operand}
variable {vs:lV}{t t':tI}
theorem gS{f:FuncId}{fn:Func}{e:Array Value→Sem Value}{g:Operand}{args:List Operand}{F:Array tI}{v:Value}(G:P.funcs[f]?=some fn)(J:(fn.name == "runtime.NumGoroutine")=false) (K:fn.body.isNone=true)
   (L:Extern.findNext fn=none) (O:Extern.find fn=some e) (Y:ev σ g=some (.func (.func f) #[] #[])) (Z:Jd σ args=some vs) (hv:(e vs.toArray).run P w=.ok v w) :
   AK P σ (.call {callee:=.value g,args:=args.toArray,argTypes:=F}) ty w v w:=λρ _ _ _ _ D=>by
 have h:=EN D Z;have hc:=run_callFunc_extern G J K L O vs.toArray w;simp[execOp,resolve,D _ _ Y,Deferred.ofValue,invoke,h,hc,hv]
theorem rJ{k:FloatKind}{a b:Nat}(D:ev σ x=some (.float k a))(F:ev σ y=some (.float k b)):AK P σ (.binOp .neq t x y t') ty w (.bool (!(Op.floatEq k a b))) w :=
 λG _ _ _ _ h=>by simp[execOp,h _ _ D,h _ _ F,eqGuard,binOp,Op.floatCmp,Op.floatEq];rfl
theorem Xd{k:FloatKind}{a b r:Nat}(F:ev σ x=some (.float k a))(G:ev σ y=some (.float k b))(h:k.format.div a b=some r):AK P σ (.binOp .quo t x y t') ty w (.float k r) w :=
 λJ _ _ _ _ D=>by simp[execOp,D _ _ F,D _ _ G,eqGuard,binOp,Op.floatArith,h]
theorem kK{k:FloatKind}{a:Nat}(D:ev σ x=some (.float k a)):AK P σ (.unOp .neg t x) ty w (.float k (Op.negFloat k a)) w:=λF _ _ _ _ h=>by
 simp[execOp,h _ _ D,Op.unary]
def cvF(P:Program)(s d:tI):Option FloatKind:=match P.underlying s,P.underlying d with|some _,some (.float k)=>some k|_,_=>none
theorem sF{k:FloatKind}{k0:IntKind}{n:Int}(G:ev σ x=some (.int k0 n))(h:cvF P T T'=some k):AK P σ (.convert T T' x) ty w (.float k (k.nearest n)) w:=by
 unfold cvF at h
 cases D:P.underlying T with
 |none=>rw[D] at h;cases h
 |some s =>
   cases hd:P.underlying T' with
   |none=>rw[D,hd] at h;cases h
   |some d =>
     rw[D,hd] at h
     cases d <;> simp at h
     rename_i J;subst h
     exact λK _ _ _ _ F=>by
       simp[execOp,F _ _ G,convert,run_underlying D,run_underlying hd,Conv.intToFloat]
end
theorem Tb(x k:Nat):(x:Int).fdiv (2 ^ k)=((x / 2 ^ k:Nat):Int):=by
 rw[Int.fdiv_eq_ediv_of_nonneg _ (Int.le_of_lt (Int.pow_pos (by decide)))];simp
theorem OH(n:Nat):IntKind.u8.wrap (n:Int)=((UInt8.ofNat n).toNat:Int):=by
 unfold IntKind.wrap;simp[IntKind.bits,IntKind.signed]
end Go.SW
namespace Go.SW
open Go.RowKit
section
variable{P:Program}{n:Nat}{Q:AX}{S:wO→Prop}{σ:Bf}{ds:List Deferred}{w:wO}{ops:Array Oper}{op:Op}{ty:tI}{pos:String}{af:Array Edge}{rest:List Oper}{r:List (Bool×Oper)}{d:Nat}
variable {want:Bool}{dj j:Nat}{dst:Option Tmp}
theorem XQ{a:Act}(G:St n σ ds a)(F:(ops[j]?).bind (·.dst)=some dj)(J:σ dj=some undef) :
   Region.wanted ⟨dst,op,ty,pos,af,some (j,want)⟩ (yielded ops a.tmps)=false:=by
 have h:=G.val dj _ J
 cases D:a.tmps[dj]? with
 |none=>simp[Region.wanted,yielded,F,D]
 |some u =>
   rw[Array.getD_eq_getD_getElem?,D] at h;simp at h;subst h;simp[Region.wanted,yielded,F,D,undef]
end
end Go.SW
namespace Go.SW
open Go.RowKit
section
variable{P:Program}{n:Nat}{Q:AX}{σ:Bf}{ds:List Deferred}{w:wO}
def ngt(Q:AX):AX:={q:=λe σ ds w=>match e with|.goto _=>False|e=>Q.q e σ ds w,p:=Q.p}
theorem XR{c:Code}(h:HH P n c (ngt Q) σ ds w):HH P n (.scope c) Q σ ds w:=λa D =>
 wp_scope_straight (wp_mono (h a D) λe a' w' he=>by
   cases e with
   |goto l=>obtain⟨_,_,_,F⟩:=he;exact F.elim
   |normal=>exact he
   |panic c=>exact he
   |outgrown=>exact he
   |ret=>exact he
   |exit i=>exact he)
theorem oQ(h:Q.q .ret σ ds w):(ngt Q).q .ret σ ds w:=h
theorem Yt{l:Nat}(h:Q.q .normal σ ds w):HH P n (.label l) Q σ ds w:=λ_ D=>wp_label ⟨σ,ds,D,h⟩
end
section
variable{P:Program}{σ:Bf}{w:wO}{ty T T':tI}{x y:Operand}
variable {kk:IntKind}{t t':tI}
theorem cO{a b:Bool}(D:P.underlying t=some .bool)(F:ev σ x=some (.bool a))(G:ev σ y=some (.bool b)):AK P σ (.binOp .eql t x y t') ty w (.bool (a==b)) w:=by
 have e:(Op.equal t (.bool a) (.bool b)).run P w=.ok (a==b) w:=by
   show (Op.equalIn (Op.maxDepth-1+1) t _ _).run P w=_;simp[Op.equalIn,run_underlying D]
 exact λJ _ _ _ _ h=>by simp[execOp,h _ _ F,h _ _ G,eqGuard,binOp,e]
theorem RE{b:Bool}(h:P.underlying t=some .bool)(D:ev σ x=some (.bool true))(F:ev σ y=some (.bool b)):AK P σ (.binOp .eql t x y t') ty w (.bool b) w:=by
 have:=cO (ty:=ty) (w:=w) (t':=t') h D F;rwa[show (true==b)=b by cases b <;> rfl] at this
theorem fP{k:IntKind}{a b:Int}(m:Int)(F:ev σ x=some (.int k a))(G:ev σ y=some (.int k b))(h:k.wrap (BitVec.ofInt k.bits a ||| BitVec.ofInt k.bits b).toNat=m):AK P σ (.binOp .or t x y t') ty w (.int k m) w :=
 λJ _ _ _ _ D=>by
   simp only[execOp,D _ _ F,D _ _ G,eqGuard,binOp,Op.intBits,h,ne_eq,not_true_eq_false,if_false];rfl
theorem kQ{a b:Int}{D:Array tI}(F:ev σ x=some (.int kk a))(G:ev σ y=some (.int kk b)):AK P σ (.call {callee:=.builtin .min,args:=#[x,y],argTypes:=D}) ty w (.int kk (if b<a then b else a)) w:=λJ _ _ _ _ h=>by
 simp[execOp,resolve,invoke,builtin,h _ _ F,h _ _ G,Builtin.min_,Builtin.min2]
end
end Go.SW
namespace Go.SW
open Go.RowKit
variable {r1 r2 r3 r4:ResultVar}{v1 v2 v3 v4:Value}
theorem qY{P:Program}{σ:Bf}{w:wO}{fn:Func}{F G J:ResultVar}{v5 v6 K:Value}(h:fn.results=#[r1,r2,r3,r4,F,G,J])(L:Rv P σ w r1 v1)(O:Rv P σ w r2 v2)(Y:Rv P σ w r3 v3)(Z:Rv P σ w r4 v4)(h5:Rv P σ w F v5)(h6:Rv P σ w G v6)(h7:Rv P σ w J K) :
   UH P fn σ w (.tuple #[v1,v2,v3,v4,v5,v6,K]):=λtmps D=>by
 have g1:=L tmps D;have g2:=O tmps D;have g3:=Y tmps D;have g4:=Z tmps D;have g5:=h5 tmps D;have g6:=h6 tmps D;have g7:=h7 tmps D;rw[Hy,h,List.mapM_toArray];simp[g1,g2,g3,g4,g5,g6,g7]
end Go.SW
namespace Go.SW
open Go.RowKit
theorem I6{P:Program}{σ:Bf}{w:wO}{ty T:tI}{x:Operand}{b off k:Nat}{v:Value}(D:ev σ x=some (.pointer (some ⟨b,off,none⟩)))(F:AP P T=some (false,k))(G:w.cell? ⟨b,off,none⟩=some v):AK P σ (.load T x) ty w v w:=λJ _ _ _ _ h=>by
 simp[execOp,h _ _ D,Instr.loadAt,Instr.sureAddr,loadVar,Fc F,run_load,G]
end Go.SW
namespace Go.SW
open Go.RowKit
section
variable{P:Program}{n:Nat}{Q:AX}{σ:Bf}{ds:List Deferred}{w:wO}{ty T T':tI}{x y:Operand}
variable {t t':tI}
theorem Nc{a b:Int}(m:Int)(F:ev σ x=some (.int .u64 a))(G:ev σ y=some (.int .u64 b))(J:b≠0)(h:a.tmod b=m):AK P σ (.binOp .rem t x y t') ty w (.int .u64 m) w :=
 λK _ _ _ _ D=>by simp[execOp,D _ _ F,D _ _ G,eqGuard,binOp,Op.intDiv,J,h]
end
end Go.SW
namespace Go.SP
open Go.SW
variable {co ln nm:Int}{U:Nat→Prop}{a:oA}
theorem HD.head{w:wO}{n c:Nat}{op:Int}{tx:lU}{kids rest:Nd}(h:HD U w a n c (.cons op ln co tx nm kids rest)):∃b off l T ka kn kc D,U b∧a=some ⟨b,off,none⟩∧AM w b l T ∧
   l.drop off=.int .i64 op::.int .i64 ln::.int .i64 co::S tx::.int .i64 nm::.slice ka kn kc::D∧HD U w ka kn kc kids∧Gg U w rest D∧n=rest.len+1:=by
 obtain⟨F,Z,G|⟨b,off,l,T,hu,J,K,ka,kn,kc,D,L,O,Y⟩⟩:=h
 · rw[G] at F;cases F
 · exact⟨b,off,l,T,ka,kn,kc,D,hu,J,K,L,O,Y,F⟩
end Go.SP
namespace Go.SW
open Go.RowKit
def fZ(P:Program)(t:tI):Bool:=match P.underlying t with
 |some (.struct fs)=>(match fs.toList with
   | [f,g]=>(f.name != "_" && g.name != "_")&&(f.offset==0&&g.offset==1)&&(match P.underlying f.type,P.underlying g.type with|some (.int .i64),some (.int .i64)=>true|_,_=>false)
   |_=>false)&&(!P.stoodInHeld t&&!P.eqGuardType P.depth t)
 |_=>false
variable {e t t':tI}
theorem GN{P:Program}{w:wO}{k:IntKind}{cs:Array Value}{off:Nat}{v:Value}(he:P.underlying e=some (.int k))(h:cs[off]?=some v):(part e cs off).run P w=.ok v w:=by
 simp[part,isAgg,run_underlying he,h]
theorem Zh{P:Program}{w:wO}{a1 a2 b1 b2:Int}(h:fZ P t=true)(d:Nat) :
   (Op.equalIn (d+2) t (.agg #[.int .i64 a1,.int .i64 a2]) (.agg #[.int .i64 b1,.int .i64 b2])).run P w=.ok (a1==b1&&a2==b2) w:=by
 unfold fZ at h
 split at h
 · rename_i fs hu
   rw[Bool.and_eq_true] at h;obtain⟨D,G⟩:=h
   split at D
   · rename_i f g F
     simp only[Bool.and_eq_true] at D G;obtain⟨⟨⟨J,K⟩,L,O⟩,h3⟩:=D
     split at h3
     · rename_i Y Z
       have e1:f.offset=0:=by simpa using L
       have e2:g.offset=1:=by simpa using O
       have n1:f.name ≠ "_" := by simpa using J
       have n2:g.name ≠ "_" := by simpa using K
       have hst:P.stoodInHeld t=false:=by simpa using G.1
       have q1:(Op.equalIn (d+1) f.type (.int .i64 a1) (.int .i64 b1)).run P w=.ok (a1==b1) w:=by simp[Op.equalIn,run_underlying Y]
       have q2:(Op.equalIn (d+1) g.type (.int .i64 a2) (.int .i64 b2)).run P w=.ok (a2==b2) w:=by simp[Op.equalIn,run_underlying Z]
       have p1:(part f.type #[Value.int .i64 a1,.int .i64 a2] 0).run P w=.ok (.int .i64 a1) w:=GN Y C;have p2:(part f.type #[Value.int .i64 b1,.int .i64 b2] 0).run P w=.ok (.int .i64 b1) w:=GN Y C;have p3:(part g.type #[Value.int .i64 a1,.int .i64 a2] 1).run P w=.ok (.int .i64 a2) w:=GN Z C;have p4:(part g.type #[Value.int .i64 b1,.int .i64 b2] 1).run P w=.ok (.int .i64 b2) w:=GN Z C;obtain⟨fl⟩:=fs;simp only at F;subst F;rw[Op.equalIn];simp only[Sem.run_bind,run_underlying hu,Result.andThen_ok,run_program,hst,Bool.false_eq_true,if_false]
       cases D:a1==b1 <;> cases G:a2==b2 <;> simp[n1,n2,e1,e2,p1,p2,p3,p4,q1,q2,D,G]
     · cases h3
   · cases D
 · cases h
theorem bW{P:Program}{σ:Bf}{w:wO}{ty:tI}{x y:Operand}{a1 a2 b1 b2:Int}(h:fZ P t=true)(F:ev σ x=some (.agg #[.int .i64 a1,.int .i64 a2]))(G:ev σ y=some (.agg #[.int .i64 b1,.int .i64 b2])) :
   AK P σ (.binOp .eql t x y t') ty w (.bool (a1==b1&&a2==b2)) w:=λK _ _ _ _ D=>by
 have J:P.eqGuardType P.depth t=false:=by
   unfold fZ at h
   split at h
   · simp only[Bool.and_eq_true] at h;simpa using h.2.2
   · cases h
 have e:=Zh (w:=w) (a1:=a1) (a2:=a2) (b1:=b1) (b2:=b2) h 9998;simp[execOp,D _ _ F,D _ _ G,run_eqGuard_agg w _ _ _ _ _ _ J,run_eql_struct,e]
abbrev Fq:=Nat→Nat
structure HB where
 b:Nat
 l:lV
 T:tI
 nw:Bool
structure RB where
 e:tI
 size:Nat
 a:oA
 c:Nat
 n:Nat
 xs:lV
structure FB where
 b:Nat
 off:Nat
 l:lV
structure MW(M:Nat→Prop)(w w':wO):Prop where
 os:w'.os=w.os
 tape:w'.tape=w.tape
 output:w'.output=w.output
 size:w.heap.size≤w'.heap.size
 block:∀k,k<w.heap.size→¬M k→w'.heap[k]?=w.heap[k]?
theorem MW.refl(M:Nat→Prop)(w:wO):MW M w w:=⟨C,C,C,Nat.le_refl _,λ_ _ _=>C⟩
variable {nw:Bool}{f':Fq}{H':List HB}{l l':lV}{b i off:Nat}{M M':Nat→Prop}{T:tI}{w' w1 w2:wO}
theorem MW.trans{w:wO}(h:MW M w w1)(k:MW M w1 w2):MW M w w2 :=
 ⟨k.os.trans h.os,k.tape.trans h.tape,k.output.trans h.output,Nat.le_trans h.size k.size,λi d hm=>(k.block i (Nat.lt_of_lt_of_le d h.size) hm).trans (h.block i d hm)⟩
theorem MW.mono{w:wO}(h:MW M w w1)(hm:∀b,M b→M' b):MW M' w w1:=⟨h.os,h.tape,h.output,h.size,λi d D=>h.block i d λF=>D (hm i F)⟩
theorem MW.of_ext{w:wO}(h:AU w w'):MW M w w':=⟨h.os,h.tape,h.output,h.size,λk d _=>h.block k d⟩
theorem MW.ext{w:wO}(h:MW (λ_=>False) w w'):AU w w':=⟨h.os,h.tape,h.output,h.size,λk d=>h.block k d (λh=>h)⟩
theorem Dz{w:wO}(h:w'.heap[b]?=w.heap[b]?)(o:Nat):w'.cell? ⟨b,o,none⟩=w.cell? ⟨b,o,none⟩:=by simp[World.cell?,h]
def Ii(w:wO)(f:Fq)(w':wO)(f':Fq):Prop:=∀b,f b≤f' b∧∀o,o<f b→w'.cell? ⟨b,o,none⟩=w.cell? ⟨b,o,none⟩
theorem Ii.refl(w:wO)(f:Fq):Ii w f w f:=λ_=>⟨Nat.le_refl _,λ_ _=>C⟩
theorem Ii.trans{w:wO}{f f1 f2:Fq}(h:Ii w f w1 f1)(k:Ii w1 f1 w2 f2):Ii w f w2 f2:=λb =>
 ⟨Nat.le_trans (h b).1 (k b).1,λo d=>((k b).2 o (Nat.lt_of_lt_of_le d (h b).1)).trans ((h b).2 o d)⟩
def Cs(w:wO)(f:Fq)(b off:Nat)(l:lV):Prop:=∀j v,l[j]?=some v→off+j<f b∧w.cell? ⟨b,off+j,none⟩=some v
abbrev FU(φ:wO→Fq→Prop):Prop:=∀w f w' f',φ w f→Ii w f w' f'→φ w' f'
theorem Cs.mono{w:wO}{f:Fq}(h:Cs w f b off l)(d:Ii w f w' f'):Cs w' f' b off l:=λj v F=>by
 obtain⟨D,G⟩:=h j v F;exact⟨Nat.lt_of_lt_of_le D (d b).1,((d b).2 _ D).trans G⟩
abbrev FD(MI:Nat→Prop)(I:wO→Fq→Prop):Prop:=∀w f w' f',I w f→Ii w f w' f'→(∀b,MI b→w'.heap[b]?=w.heap[b]?)→I w' f'
structure Cx where
 M:Nat→Prop
 MI:Nat→Prop
 I:wO→Fq→Prop
 w0:wO
 f0:Fq
def CO(H:List HB)(R:List RB):List Nat:=H.map (·.b)++R.filterMap λr=>rb r.a
structure AQ(X:Cx)(w:wO)(f:Fq)(H:List HB)(R:List RB)(B:List FB)(Fs:List (wO→Fq→Prop)):Prop where
 stp:MW X.M X.w0 w
 old:∀b,b<X.w0.heap.size→f b=X.f0 b
 val:∀b,w.heap.size≤b→f b=0
 ent:Ii X.w0 X.f0 w f
 res:X.I w f
 stab:FD X.MI X.I
 mi:∀b,X.MI b→b<w.heap.size∧f b=0∧(X.w0.heap.size≤b∨X.M b)
 blk:∀e,e∈H→AM w e.b e.l e.T
 row:∀r,r∈R→BX w r.e r.size r.a r.c r.n r.xs
 nd:(CO H R).Nodup
 own:∀b,b∈CO H R→f b=0∧(X.w0.heap.size≤b∨X.M b)∧¬X.MI b
 hnw:∀e,e∈H→e.nw=true→X.w0.heap.size≤e.b
 rnw:∀r,r∈R→∀b,rb r.a=some b→X.w0.heap.size≤b
 fro:∀e,e∈B→Cs w f e.b e.off e.l
 fac:∀φ,φ∈Fs→φ w f
 mono:∀φ,φ∈Fs→FU φ
section
variable{X:Cx}{w:wO}{f:Fq}{H:List HB}{R:List RB}{B:List FB}{Fs:List (wO→Fq→Prop)}
theorem AQ.lt(h:AQ X w f H R B Fs)(d:b∈CO H R):b<w.heap.size:=by
 rcases List.mem_append.1 d with d|d
 · obtain⟨e,he,rfl⟩:=List.mem_map.1 d
   exact (h.blk e he).lt
 · obtain⟨r,D,d⟩:=List.mem_filterMap.1 d
   exact (h.row r D).lt d
theorem AQ.step(h:AQ X w f H R B Fs)(O:MW X.M w w')(J:Ii w f w' f')(hold:∀b,b<w.heap.size→f' b=f b)(F:∀b,w'.heap.size≤b→f' b=0)
   (D:∀b,b∈CO H R→w'.heap[b]?=w.heap[b]?) (K:∀b,X.MI b→w'.heap[b]?=w.heap[b]?):AQ X w' f' H R B Fs where
 stp:=h.stp.trans O
 old b d:=(hold b (Nat.lt_of_lt_of_le d h.stp.size)).trans (h.old b d)
 val:=F
 ent:=h.ent.trans J
 res:=h.stab _ _ _ _ h.res J K
 stab:=h.stab
 mi b d:=⟨Nat.lt_of_lt_of_le (h.mi b d).1 O.size,(hold b (h.mi b d).1).trans (h.mi b d).2.1,(h.mi b d).2.2⟩
 blk e he:=(D e.b (List.mem_append.2 (.inl (List.mem_map.2 ⟨e,he,C⟩)))).trans (h.blk e he)
 row r L:=by
   refine⟨(h.row r L).1,(h.row r L).2.imp id ?_⟩;rintro⟨b,l,Q,U,Y⟩;exact⟨b,l,Q,(D b (List.mem_append.2 (.inr (List.mem_filterMap.2 ⟨r,L,by rw[Q];rfl⟩)))).trans U,Y⟩
 nd:=h.nd
 own b d:=⟨(hold b (h.lt d)).trans (h.own b d).1,(h.own b d).2⟩
 hnw:=h.hnw
 rnw:=h.rnw
 fro e he:=(h.fro e he).mono J
 fac φ G:=h.mono φ G _ _ _ _ (h.fac φ G) J
 mono:=h.mono
theorem JS(w:wO)(o:Obj)(k:Nat)(h:k<w.heap.size):(w.alloc o).heap[k]?=w.heap[k]?:=(Kj w o).block k h
theorem Y7(h:∀b,w.heap.size≤b→f b=0)(o:Obj):Ii w f (w.alloc o) f:=λb=>⟨Nat.le_refl _,λk F=>by
 have D:b<w.heap.size:=by
   rcases Nat.lt_or_ge b w.heap.size with d|d
   · exact d
   · have:=h b d;omega
 exact Dz (JS w o b D) k⟩
theorem AQ.alloc(h:AQ X w f H R B Fs):AQ X (w.alloc (.cells l.toArray T)) f (⟨w.heap.size,l,T,true⟩::H) R B Fs:=by
 have F:AQ X (w.alloc (.cells l.toArray T)) f H R B Fs:=h.step (MW.of_ext (Kj w _)) (Y7 h.val _) (λ_ _=>C) (λb d=>h.val b (by rw[H4] at d;omega))
   (λb d=>JS w _ b (h.lt d)) (λb d=>JS w _ b (h.mi b d).1)
 refine {F with blk:=?_,nd:=?_,own:=?_,hnw:=?_}
 · intro e he
   rcases List.mem_cons.1 he with rfl|he
   · exact Np w l T
   · exact F.blk e he
 · show (w.heap.size::CO H R).Nodup
   exact List.nodup_cons.2 ⟨λG=>Nat.lt_irrefl _ (h.lt G),h.nd⟩
 · intro b d
   have D:b∈w.heap.size::CO H R:=d;rcases List.mem_cons.1 D with rfl|D
   · exact⟨h.val _ (Nat.le_refl _),.inl h.stp.size,λhm=>Nat.lt_irrefl _ (h.mi _ hm).1⟩
   · exact F.own b D
 · intro e he J
   rcases List.mem_cons.1 he with rfl|he
   · exact h.stp.size
   · exact h.hnw e he J
def RA:List HB→Nat→HB→Option (List HB)
 | [],_,_=>none
 |_::H,0,e=>some (e::H)
 |x::H,i+1,e=>match RA H i e with
   |some r=>some (x::r)
   |none=>none
def Ib:List HB→Nat→Option HB
 | [],_=>none
 |x::_,0=>some x
 |_::H,i+1=>Ib H i
theorem cB:∀{H H':List HB}{i:Nat}{e D:HB},Ib H i=some e→RA H i D=some H'→D.b=e.b→H'.map (·.b)=H.map (·.b)∧(∀x,x∈H'→x=D∨x∈H)∧e∈H
 | [],_,_,_,_,h,_,_=>by cases h
 |x::H,H',0,e,D,F,d,G=>by
   cases F;cases d
   exact⟨by simp[G],λx L=>by rcases List.mem_cons.1 L with h|h;exact .inl h;exact .inr (.tail _ h),.head _⟩
 |x::H,H',i+1,e,D,F,d,G=>by
   unfold RA at d
   cases J:RA H i D with
   |none=>rw[J] at d;cases d
   |some r =>
     rw[J] at d;cases d;obtain⟨O,Q,U⟩:=cB (H:=H) F J G
     exact⟨by simp[O],λy K=>by
       rcases List.mem_cons.1 K with rfl|K
       · exact .inr (.head _)
       · rcases Q y K with h|h
         · exact .inl h
         · exact .inr (.tail _ h),.tail _ U⟩
theorem R4:∀{H H':List HB}{i:Nat}{e D:HB},Ib H i=some e→RA H i D=some H'→(H.map (·.b)).Nodup→∀x,x∈H'→x=D∨(x∈H∧x.b≠e.b)
 | [],_,_,_,_,h,_,_=>by cases h
 |x::H,H',0,e,D,J,d,K=>by
   cases J;cases d
   intro y F;rcases List.mem_cons.1 F with h|h
   · exact .inl h
   · refine .inr ⟨.tail _ h,λe=>?_⟩
     have:=(List.nodup_cons.1 K).1;exact this (List.mem_map.2 ⟨y,h,e⟩)
 |x::H,H',i+1,e,D,J,d,K=>by
   unfold RA at d
   cases L:RA H i D with
   |none=>rw[L] at d;cases d
   |some r =>
     rw[L] at d;cases d;have G:=List.nodup_cons.1 K;have O:=R4 (H:=H) J L G.2;intro y F;rcases List.mem_cons.1 F with rfl|F
     · refine .inr ⟨.head _,λh=>G.1 ?_⟩
       have he:e∈H:=by
         have:∀(H:List HB)(i:Nat)(e:HB),Ib H i=some e→e∈H:=by
           intro H
           induction H with
           |nil=>intro i e h;cases h
           |cons a H O=>intro i e h;cases i with|zero=>cases h;exact .head _|succ i=>exact .tail _ (O i e h)
         exact this H i e J
       exact List.mem_map.2 ⟨e,he,h.symm⟩
     · rcases O y F with h|h
       · exact .inl h
       · exact .inr ⟨.tail _ h.1,h.2⟩
theorem BO:∀{H:List HB}{i:Nat}{e:HB},Ib H i=some e→e∈H
 | [],_,_,h=>by cases h
 |_::_,0,_,h=>by cases h;exact .head _
 |_::H,i+1,e,h=>.tail _ (BO (H:=H) h)
theorem AQ.chg(h:AQ X w f H R B Fs)(G:Ib H i=some ⟨b,l,T,nw⟩)(Y:RA H i ⟨b,l',T,nw⟩=some H')(hb:AM w' b l' T)(d:GG b w w'):AQ X w' f H' R B Fs:=by
 have J:b∈CO H R:=List.mem_append.2 (.inl (List.mem_map.2 ⟨_,BO G,C⟩));obtain⟨h1,O,h3⟩:=h.own b J
 have Q:Ii w f w' f:=λk=>⟨Nat.le_refl _,λo ho=>by
   have:k≠b:=λe=>by rw[e,h1] at ho;omega
   exact Dz (d.block k this) o⟩
 obtain⟨e1,_,_⟩:=cB G Y C;have K:(H.map (·.b)).Nodup:=(List.nodup_append.1 h.nd).1
 have Z:∀r,r∈R→rb r.a≠some b:=λr U e=>by
   have:=(List.nodup_append.1 h.nd).2.2 b (List.mem_map.2 ⟨_,BO G,C⟩) b (List.mem_filterMap.2 ⟨r,U,e⟩);exact this C
 have hmi:∀k,X.MI k→w'.heap[k]?=w.heap[k]?:=λk D=>d.block k (λe=>h3 (e▸D))
 exact {stp:=⟨d.os.trans h.stp.os,d.tape.trans h.stp.tape,d.output.trans h.stp.output,by rw[d.size];exact h.stp.size,λk D hm=>(d.block k (λe=>by
           subst e;rcases O with O|O
           · omega
           · exact hm O)).trans (h.stp.block k D hm)⟩,
         old:=h.old,val:=λk D=>h.val k (by rw[d.size] at D;exact D),ent:=h.ent.trans Q,res:=h.stab _ _ _ _ h.res Q hmi,stab:=h.stab,
         mi:=λk D=>by rw[d.size];exact h.mi k D,
         blk:=λx F=>by
           rcases R4 G Y K x F with rfl|⟨F,hne⟩
           · exact hb
           · exact (h.blk x F).chg d hne,
         row:=λr U=>(h.row r U).chg d (Z r U),
         nd:=by unfold CO;rw[e1];exact h.nd,
         own:=λk D=>h.own k (by unfold CO at D ⊢;rwa[e1] at D),
         hnw:=λx F hn=>by
           rcases R4 G Y K x F with rfl|⟨F,_⟩
           · exact h.hnw ⟨b,l,T,nw⟩ (BO G) hn
           · exact h.hnw x F hn,
         rnw:=h.rnw,
         fro:=λx F=>(h.fro x F).mono Q,fac:=λφ L=>h.mono φ L _ _ _ _ (h.fac φ L) Q,mono:=h.mono}
end
structure Zt where
 fl:List (Nat×Nat×Nat)
 sl:List (Nat×Nat×Nat)
 st:List Nat
 bo:List Nat
 ti:List (Nat×Bool×Nat)
 zr:List (Nat×lV)
 pl:List (Nat×List (Nat×Nat))
 pt:List (Nat×Nat)
def tB(P:Program):List (Nat×Nat×Nat)→Prop
 | []=>True
 |(T,i,o)::l=>FA P T i=some o∧tB P l
def allS(P:Program):List (Nat×Nat×Nat)→Prop
 | []=>True
 |(T,e,k)::l=>Je P T=some (e,k)∧allS P l
def mC(P:Program)(d:TypeDesc):List Nat→Prop
 | []=>True
 |T::l=>P.underlying T=some d∧mC P d l
def uT(P:Program):List (Nat×Bool×Nat)→Prop
 | []=>True
 |(T,a,k)::l=>AP P T=some (a,k)∧uT P l
def rQ(P:Program):List (Nat×lV)→Prop
 | []=>True
 |(T,z)::l=>HG P T=some z∧rQ P l
def vE(P:Program):List (Nat×List (Nat×Nat))→Prop
 | []=>True
 |(T,z)::l=>No P T=some z∧vE P l
def sX(P:Program):List (Nat×Nat)→Prop
 | []=>True
 |(T,e)::l=>P.underlying T=some (.pointer e)∧sX P l
structure Zt.Ok(P:Program)(t:Zt):Prop where
 fl:tB P t.fl
 sl:allS P t.sl
 st:mC P .string t.st
 bo:mC P .bool t.bo
 ti:uT P t.ti
 zr:rQ P t.zr
 pl:vE P t.pl
 pt:sX P t.pt
def lkF:List (Nat×Nat×Nat)→Nat→Nat→Option Nat
 | [],_,_=>none
 |(T,i,o)::l,h,D=>bif Nat.beq T h&&Nat.beq i D then some o else lkF l h D
def X6:List (Nat×Nat×Nat)→Nat→Option (Nat×Nat)
 | [],_=>none
 |(T,e,k)::l,h=>bif Nat.beq T h then some (e,k) else X6 l h
def yD:List Nat→Nat→Bool
 | [],_=>false
 |T::l,h=>bif Nat.beq T h then true else yD l h
def rA:List (Nat×Bool×Nat)→Nat→Option (Bool×Nat)
 | [],_=>none
 |(T,a,k)::l,h=>bif Nat.beq T h then some (a,k) else rA l h
def Z1{α:Type}:List (Nat×α)→Nat→Option α
 | [],_=>none
 |(T,z)::l,h=>bif Nat.beq T h then some z else Z1 l h
theorem iS{P:Program}:∀{l:List (Nat×Nat×Nat)}{T i o:Nat},tB P l→lkF l T i=some o→FA P T i=some o
 | [],_,_,_,_,h=>by cases h
 |(T,i,o)::l,G,J,o',F,h=>by
   unfold lkF at h
   cases D:(Nat.beq T G&&Nat.beq i J) with
   |true =>
     rw[D] at h;simp only[Bool.and_eq_true] at D;have K:=Nat.eq_of_beq_eq_true D.1;have L:=Nat.eq_of_beq_eq_true D.2;subst K L
     cases h
     exact F.1
   |false=>rw[D] at h;exact iS F.2 h
theorem K7{P:Program}:∀{l:List (Nat×Nat×Nat)}{T e k:Nat},allS P l→X6 l T=some (e,k)→Je P T=some (e,k)
 | [],_,_,_,_,h=>by cases h
 |(T,e,k)::l,G,K,L,F,h=>by
   unfold X6 at h
   cases D:Nat.beq T G with
   |true=>rw[D] at h;have J:=Nat.eq_of_beq_eq_true D;subst J;cases h;exact F.1
   |false=>rw[D] at h;exact K7 F.2 h
theorem R9{P:Program}{d:TypeDesc}:∀{l:List Nat}{T:Nat},mC P d l→yD l T=true→P.underlying T=some d
 | [],_,_,h=>by cases h
 |T::l,G,D,h=>by
   unfold yD at h
   cases F:Nat.beq T G with
   |true=>have J:=Nat.eq_of_beq_eq_true F;subst J;exact D.1
   |false=>rw[F] at h;exact R9 D.2 h
theorem GB{P:Program}:∀{l:List (Nat×Bool×Nat)}{T k:Nat}{a:Bool},uT P l→rA l T=some (a,k)→AP P T=some (a,k)
 | [],_,_,_,_,h=>by cases h
 |(T,a,k)::l,G,K,a',F,h=>by
   unfold rA at h
   cases D:Nat.beq T G with
   |true=>rw[D] at h;have J:=Nat.eq_of_beq_eq_true D;subst J;cases h;exact F.1
   |false=>rw[D] at h;exact GB F.2 h
theorem Rx{P:Program}:∀{l:List (Nat×lV)}{T:Nat}{z:lV},rQ P l→Z1 l T=some z→HG P T=some z
 | [],_,_,_,h=>by cases h
 |(T,z)::l,G,K,F,h=>by
   unfold Z1 at h
   cases D:Nat.beq T G with
   |true=>rw[D] at h;have J:=Nat.eq_of_beq_eq_true D;subst J;cases h;exact F.1
   |false=>rw[D] at h;exact Rx F.2 h
theorem ZN{P:Program}:∀{l:List (Nat×List (Nat×Nat))}{T:Nat}{z:List (Nat×Nat)},vE P l→Z1 l T=some z→No P T=some z
 | [],_,_,_,h=>by cases h
 |(T,z)::l,G,K,F,h=>by
   unfold Z1 at h
   cases D:Nat.beq T G with
   |true=>rw[D] at h;have J:=Nat.eq_of_beq_eq_true D;subst J;cases h;exact F.1
   |false=>rw[D] at h;exact ZN F.2 h
theorem aH{P:Program}:∀{l:List (Nat×Nat)}{T e:Nat},sX P l→Z1 l T=some e→P.underlying T=some (.pointer e)
 | [],_,_,_,h=>by cases h
 |(T,e)::l,G,K,F,h=>by
   unfold Z1 at h
   cases D:Nat.beq T G with
   |true=>rw[D] at h;have J:=Nat.eq_of_beq_eq_true D;subst J;cases h;exact F.1
   |false=>rw[D] at h;exact aH F.2 h
def xB:BinOp→oA→Option Value
 |.eql,some _=>some (.bool false)
 |.eql,none=>some (.bool true)
 |.neq,some _=>some (.bool true)
 |.neq,none=>some (.bool false)
 |_,_=>none
def vF:BinOp→Value→Value→Option Value
 |.eql,.int k a,.int h b=>bif k==h then some (.bool (a==b)) else none
 |.neq,.int k a,.int h b=>bif k==h then some (.bool (a != b)) else none
 |.lss,.int k a,.int h b=>bif k==h then some (.bool (decide (a<b))) else none
 |.leq,.int k a,.int h b=>bif k==h then some (.bool (decide (a≤b))) else none
 |.gtr,.int k a,.int h b=>bif k==h then some (.bool (decide (b<a))) else none
 |.geq,.int k a,.int h b=>bif k==h then some (.bool (decide (b≤a))) else none
 |.eql,.string ⟨⟨a⟩⟩,.string ⟨⟨b⟩⟩=>some (.bool (a==b))
 |.neq,.string ⟨⟨a⟩⟩,.string ⟨⟨b⟩⟩=>some (.bool (!(a==b)))
 |_,_,_=>none
def pv(tb:Zt)(σ:Bf):Op→Option Value
 |.move x=>ev σ x
 |.assign x=>ev σ x
 |.pick c x y=>match ev σ c with
   |some (.bool true)=>ev σ x
   |some (.bool false)=>ev σ y
   |_=>none
 |.unOp .not _ x=>match ev σ x with
   |some (.bool b)=>some (.bool (!b))
   |_=>none
 |.binOp o T x y _=>match ev σ x,ev σ y with
   |some (.pointer a),some (.pointer none)=>match Z1 tb.pt T with
     |some _=>xB o a
     |none=>none
   |some (.slice a _ _),some (.slice none _ _)=>match X6 tb.sl T,o with
     |some _,.eql=>some (.bool a.isNone)
     |_,_=>none
   |some a,some b=>vF o a b
   |_,_=>none
 |.fieldAddr T x i=>match ev σ x,lkF tb.fl T i with
   |some (.pointer (some ⟨b,o,none⟩)),some d=>some (.pointer (some ⟨b,o+d,none⟩))
   |_,_=>none
 |.nilCheck x=>match ev σ x with
   |some (.pointer (some a))=>some (.pointer (some a))
   |_=>none
 |.extract x i=>match ev σ x with
   |some (.tuple ⟨vs⟩)=>vs[i]?
   |_=>none
 |.build T ⟨parts⟩=>match GY σ parts,Z1 tb.pl T,Z1 tb.zr T with
   |some pv,some pl,some z=>match K0 pl z pv with
     |some out=>some (.agg ⟨out⟩)
     |none=>none
   |_,_,_=>none
 |.call ⟨.builtin .len,⟨[x]⟩,⟨[T]⟩⟩=>match ev σ x with
   |some (.slice _ n _)=>match X6 tb.sl T with
     |some _=>some (.int .i64 n)
     |none=>none
   |some (.string ⟨⟨s⟩⟩)=>match yD tb.st T with
     |true=>some (.int .i64 s.length)
     |false=>none
   |_=>none
 |_=>none
section
variable{P:Program}{σ:Bf}{w:wO}{ty:tI}
variable {c' n':Nat}{x:Operand}{a:oA}{e t t':tI}
theorem tD{o:BinOp}{y:Operand}{a b v:Value}(D:ev σ x=some a)(F:ev σ y=some b)(h:vF o a b=some v):AK P σ (.binOp o t x y t') ty w v w:=by
 unfold vF at h
 split at h
 all_goals first
   |(
     rename_i k a J b
     cases G:(k==J) with
     |false=>rw[G] at h;cases h
     |true =>
       rw[G] at h;have e:k=J:=by simpa using G
       subst e
       cases h
       first|exact rW D F|exact fA D F|exact VG D F|exact aU D F|exact aG D F|exact gK D F)
   |(cases h;first|exact rX D F|exact tU D F)
   |cases h
theorem sY{o:BinOp}{y:Operand}{v:Value}(F:P.underlying t=some (.pointer e))(G:ev σ x=some (.pointer a))(J:ev σ y=some (.pointer none))(h:xB o a=some v):AK P σ (.binOp o t x y t') ty w v w:=by
 have K:(Op.equal t (.pointer a) (.pointer none)).run P w=.ok a.isNone w:=by
   show (Op.equalIn (Op.maxDepth-1+1) t _ _).run P w=_
   cases a <;> simp[Op.equalIn,run_underlying F]
 unfold xB at h
 split at h
 all_goals first
   |(cases h;exact λL _ _ _ _ D=>by simp[execOp,D _ _ G,D _ _ J,eqGuard,binOp,K])
   |cases h
theorem mN{y:Operand}{n c k:Nat}(D:Je P t=some (e,k))(F:ev σ x=some (.slice a n c))(G:ev σ y=some (.slice none n' c')):AK P σ (.binOp .eql t x y t') ty w (.bool a.isNone) w:=by
 obtain⟨i,hu,_,_⟩:=H8 D
 have J:(Op.equal t (.slice a n c) (.slice none n' c')).run P w=.ok a.isNone w:=by
   show (Op.equalIn (Op.maxDepth-1+1) t _ _).run P w=_
   cases a <;> simp[Op.equalIn,run_underlying hu]
 exact λK _ _ _ _ h=>by simp[execOp,h _ _ F,h _ _ G,eqGuard,binOp,J]
theorem Rq{tb:Zt}(F:tb.Ok P):∀{op:Op}{v:Value},pv tb σ op=some v→AK P σ op ty w v w:=by
 intro op v h;unfold pv at h
 split at h
 · exact Az h
 · exact De h
 · split at h
   · rename_i K;exact ON K C h
   · rename_i K;exact N3 K C h
   · cases h
 · split at h
   · rename_i D;cases h;exact UM D
   · cases h
 · split at h
   · rename_i D G
     split at h
     · rename_i J;exact sY (aH F.pt J) D G h
     · cases h
   · rename_i D G
     split at h
     · rename_i q J;cases h;exact mN (K7 (e:=q.1) (k:=q.2) F.sl J) D G
     · cases h
   · rename_i D G;exact tD D G h
   · cases h
 · split at h
   · rename_i D L;cases h;exact BF D (iS F.fl L)
   · cases h
 · split at h
   · rename_i D;cases h;exact Bv D
   · cases h
 · split at h
   · rename_i D;exact Vd D h
   · cases h
 · split at h
   · rename_i J U hz
     split at h
     · rename_i L;cases h;exact DC J (ZN F.pl U) (Rx F.zr hz) L
     · cases h
   · cases h
 · split at h
   · rename_i D
     split at h
     · rename_i e O;cases h;exact Mw D (K7 (e:=e.1) (k:=e.2) F.sl O)
     · cases h
   · rename_i D
     split at h <;> rename_i O
     · cases h;exact Ni D (R9 F.st O)
     · cases h
   · cases h
 · cases h
end
end Go.SW
namespace Go.SW
open Go.RowKit
inductive Fr where
 |sq (y:Code)
 |bk (i:Nat)
inductive KX where
 |code (c:Code)
 |ops (all l:List Oper)
 |out (e:Exit)
def nth{α:Type}:List α→Nat→Option α
 | [],_=>none
 |x::_,0=>some x
 |_::l,i+1=>nth l i
theorem EP{α:Type}:∀(l:List α)(i:Nat),nth l i=l[i]?
 | [],_=>by simp[nth]
 |x::_,0=>by simp[nth]
 |_::l,i+1=>by simp[nth,EP l i]
def gd(all:List Oper)(σ:Bf)(g:Option (Nat×Bool)):Option Bool:=match g with
 |none=>some true
 |some (j,want)=>match nth all j with
   |some q=>match q.dst with
     |some h=>match σ h with
       |some (.bool true)=>some want
       |some (.bool false)=>some (!want)
       |some (.tuple ⟨[]⟩)=>some false
       |_=>none
     |none=>none
   |none=>none
section
variable(P:Program)(n:Nat)(Q:AX)(ds:List Deferred)(X:Cx)(R:List RB)(B:List FB)(Fs:List (wO→Fq→Prop))(tb:Zt)
def MK:List Fr→AX
 | []=>Q
 |.sq y::fs=>zY P n y (MK fs)
 |.bk i::fs=>blk i (MK fs)
def A3(k:KX)(fs:List Fr)(σ:Bf)(H:List HB):Prop:=∀w f,AQ X w f H R B Fs→match k with
 |.code c=>HH P n c (MK P n Q fs) σ ds w
 |.ops all l=>Hu P n all.toArray (MK P n Q fs) l σ ds w
 |.out e=>(MK P n Q fs).q e σ ds w
def ex:Nat→List Nat→KX→List Fr→Bf→List HB→Prop
 |0,_,k,fs,σ,H=>True→A3 P n Q ds X R B Fs k fs σ H
 |m+1,D,.code c,fs,σ,H=>(match c with
   |.skip=>ex m D (.out .normal) fs σ H
   |.ret=>ex m D (.out .ret) fs σ H
   |.exit i=>ex m D (.out (.exit i)) fs σ H
   |.seq a b=>ex m D (.code a) (.sq b::fs) σ H
   |.block i a=>ex m D (.code a) (.bk i::fs) σ H
   |.region _ ⟨l⟩ false=>ex m D (.ops l l) fs σ H
   |.cond x a b=>(match ev σ x with
     |some (.bool true)=>ex m D (.code a) fs σ H
     |some (.bool false)=>ex m D (.code b) fs σ H
     |_=>False)
   |_=>False)
 |m+1,D,.out e,fs,σ,H=>(match fs with
   | []=>False
   |.sq y::fs=>(match e with
     |.normal=>ex m D (.code y) fs σ H
     |.ret=>ex m D (.out .ret) fs σ H
     |.exit i=>ex m D (.out (.exit i)) fs σ H
     |_=>False)
   |.bk i::fs=>(match e with
     |.normal=>ex m D (.out .normal) fs σ H
     |.ret=>ex m D (.out .ret) fs σ H
     |.exit j=>(match Nat.beq j i with
       |true=>ex m D (.out .normal) fs σ H
       |false=>ex m D (.out (.exit j)) fs σ H)
     |_=>False))
 |m+1,D,.ops all [],fs,σ,H=>ex m D (.out .normal) fs σ H
 |m+1,D,.ops all (⟨dst,op,ty,pos,af,g⟩::r),fs,σ,H=>(match gd all σ g with
   |none=>False
   |some false=>(match dst with
     |some d=>(match Nat.blt d n with
       |true=>ex m D (.ops all r) fs (AF σ d undef) H
       |false=>False)
     |none=>False)
   |some true=>(match dst with
     |none=>(match op with
       |.store T x y=>(match D with
         | []=>False
         |h::D=>(match ev σ x,ev σ y,Ib H h,rA tb.ti T with
           |some (.pointer (some ⟨b,o,none⟩)),some v,some ⟨F,l,G,nw⟩,some (a,k)=>(match Ia v with
             |some vs=>(match Nat.beq vs.length k&&MV vs,P5 l o vs with
               |true,some J=>(match RA H h ⟨F,J,G,nw⟩ with
                 |some H'=>F=b∧ex m D (.ops all r) fs σ H'
                 |none=>False)
               |_,_=>False)
             |none=>False)
           |_,_,_,_=>False))
       |_=>False)
     |some d=>(match Nat.blt d n with|false=>False|true=>(match op with
       |.alloc T=>(match Z1 tb.zr T with
         |some z=>∀b,ex m D (.ops all r) fs (AF σ d (.pointer (some ⟨b,0,none⟩))) (⟨b,z,T,true⟩::H)
         |none=>False)
       |.box T x=>(match ev σ x with
         |some v=>(match Ia v with
           |some l=>∀b,ex m D (.ops all r) fs (AF σ d (.pointer (some ⟨b,0,none⟩))) (⟨b,l,T,true⟩::H)
           |none=>False)
         |none=>False)
       |.buildSlice T len ⟨parts⟩=>(match X6 tb.sl T,GY σ parts with
         |some (e,k),some pv=>(match Z1 tb.zr e with
           |some z=>(match (Nat.beq z.length k&&Nat.blt 0 k)&&(Nat.blt 0 len&&Nat.ble (len*k) 16777216),K0 (K4 k 0 len) (Gv len z) pv with
             |true,some l=>∀b,ex m D (.ops all r) fs (AF σ d (.slice (some ⟨b,0,none⟩) len len)) (⟨b,l,e,true⟩::H)
             |_,_=>False)
           |none=>False)
         |_,_=>False)
       |.load T x=>(match D with
         | []=>False
         |h::D=>(match ev σ x,rA tb.ti T with
           |some (.pointer (some ⟨b,o,none⟩)),some (a,k)=>(match Nat.blt h 100 with
             |true=>(match Ib H h with
               |some ⟨F,l,_,_⟩=>(match a with
                 |false=>(match nth l o with
                   |some v=>F=b∧ex m D (.ops all r) fs (AF σ d v) H
                   |none=>False)
                 |true=>(match Vz l o k with
                   |some vs=>F=b∧ex m D (.ops all r) fs (AF σ d (.agg ⟨vs⟩)) H
                   |none=>False))
               |none=>False)
             |false=>(match D with
               | []=>False
               |q::D=>(match nth B (h-100) with
                 |some ⟨F,off,l⟩=>(match a with
                   |false=>(match nth l q with
                     |some v=>(F=b∧off+q=o)∧ex m D (.ops all r) fs (AF σ d v) H
                     |none=>False)
                   |true=>(match Vz l q k with
                     |some vs=>(F=b∧off+q=o)∧ex m D (.ops all r) fs (AF σ d (.agg ⟨vs⟩)) H
                     |none=>False))
                 |none=>False)))
           |_,_=>False))
       |.indexAddr T x y=>(match ev σ x,ev σ y,X6 tb.sl T with
         |some (.slice (some ⟨b,o,none⟩) len _),some (.int _ i),some (_,k)=>(0≤i∧i<len)∧ex m D (.ops all r) fs (AF σ d (.pointer (some ⟨b,o+i.toNat*k,none⟩))) H
         |_,_,_=>False)
       |.index T x y=>(match ev σ x,ev σ y,yD tb.st T with
         |some (.string ⟨⟨s⟩⟩),some (.int _ i),true=>(0≤i∧i<s.length)∧∀c,s[i.toNat]?=some c→ex m D (.ops all r) fs (AF σ d (.int .u8 c.toNat)) H
         |_,_,_=>False)
       |.binOp .add T x y G=>(match ev σ x,ev σ y with
         |some (.int .i64 a),some (.int .i64 b)=>QN (a+b)∧ex m D (.ops all r) fs (AF σ d (.int .i64 (a+b))) H
         |some (.string ⟨⟨a⟩⟩),some (.string ⟨⟨b⟩⟩)=>a.length+b.length≤9223372036854775807∧ex m D (.ops all r) fs (AF σ d (S (a++b))) H
         |_,_=>False)
       |.binOp .sub T x y G=>(match ev σ x,ev σ y with
         |some (.int .i64 a),some (.int .i64 b)=>QN (a-b)∧ex m D (.ops all r) fs (AF σ d (.int .i64 (a-b))) H
         |_,_=>False)
       |op=>(match pv tb σ op with
         |some v=>ex m D (.ops all r) fs (AF σ d v) H
         |none=>False)))))
end
variable {af:Array Edge}{f:Fq}{H:List HB}{l vs:lV}{b d i o off:Nat}{x:Operand}{g:Option (Nat×Bool)}{dst:Option Tmp}{pos:String}{T:tI}
theorem JZ{n:Nat}{σ:Bf}{ds:List Deferred}{all:List Oper}{a:Act}{op:Op}{ty:tI}{b:Bool}(F:St n σ ds a)(h:gd all σ g=some b) :
   Region.wanted ⟨dst,op,ty,pos,af,g⟩ (yielded all.toArray a.tmps)=b:=by
 unfold gd at h
 split at h
 · cases h;rfl
 · rename_i j want
   split at h
   · rename_i q J
     rw[EP] at J
     split at h
     · rename_i K hd
       have G:(all.toArray[j]?).bind (·.dst)=some K:=by simp[J,hd]
       split at h
       · rename_i D;cases h;rw[Hc F G D];cases b <;> rfl
       · rename_i D;cases h;rw[Hc F G D];cases want <;> rfl
       · rename_i D;cases h;exact XQ F G D
       · cases h
     · cases h
   · cases h
section
variable{P:Program}{n:Nat}{Q:AX}{ds:List Deferred}{X:Cx}{R:List RB}{B:List FB}{Fs:List (wO→Fq→Prop)}{tb:Zt}
theorem B2{Q:AX}{σ:Bf}{w:wO}{all r:List Oper}{op:Op}{ty:tI}(G:gd all σ g=some true)
   (h:Hu P n all.toArray Q (⟨dst,op,ty,pos,af,none⟩::r) σ ds w):Hu P n all.toArray Q (⟨dst,op,ty,pos,af,g⟩::r) σ ds w:=λa F=>by
 have D:=h a F;unfold wpList at D ⊢;rw[if_pos (by simp[Region.wanted])] at D;rw[if_pos (JZ F G)];exact D
theorem O9{Q:AX}{σ:Bf}{w:wO}{all r:List Oper}{op:Op}{ty:tI}(F:gd all σ g=some false)(hd:Nat.blt d n=true)
   (h:Hu P n all.toArray Q r (AF σ d undef) ds w):Hu P n all.toArray Q (⟨some d,op,ty,pos,af,g⟩::r) σ ds w:=λa D=>by
 unfold wpList;rw[if_neg (by rw[JZ D F];simp)];exact h _ (D.put hd undef)
theorem AQ.getB{w:wO}(h:AQ X w f H R B Fs)(D:nth B i=some ⟨b,off,l⟩):Cs w f b off l:=by
 rw[EP] at D;exact h.fro _ (List.mem_of_getElem? D)
theorem R8:∀{l:lV}{q k:Nat}{vs:lV},Vz l q k=some vs→vs.length=k∧∀j v,vs[j]?=some v→l[q+j]?=some v:=by
 intro l q k vs h;obtain⟨G,J⟩:=L7 h;refine⟨J,λj v D=>?_⟩;rw[← G] at D
 have F:j<k:=by
   rcases Nat.lt_or_ge j k with h|h
   · exact h
   · rw[List.getElem?_take,if_neg (by omega)] at D;cases D
 rwa[List.getElem?_take,if_pos F,List.getElem?_drop] at D
theorem JH{σ:Bf}{w:wO}{ty:tI}{k:Nat}{v:Value}(D:ev σ x=some (.pointer (some ⟨b,o,none⟩)))(F:AP P T=some (false,k))(G:w.cell? ⟨b,o,none⟩=some v):AK P σ (.load T x) ty w v w:=λJ _ _ _ _ h=>by
 simp[execOp,h _ _ D,Instr.loadAt,Instr.sureAddr,loadVar,Fc F,run_load,G]
theorem Lc{σ:Bf}{w:wO}{ty:tI}{k:Nat}(G:ev σ x=some (.pointer (some ⟨b,o,none⟩)))(D:AP P T=some (true,k))(J:vs.length=k)(K:∀j v,vs[j]?=some v→w.cell? ⟨b,o+j,none⟩=some v) :
   AK P σ (.load T x) ty w (.agg vs.toArray) w:=λO _ _ _ _ h=>by
 have F:=run_loadCells_list (P:=P) w ⟨b,o,none⟩ vs (λj v L=>by rw[EH];exact K j v L);rw[J] at F;simp[execOp,h _ _ G,Instr.loadAt,Instr.sureAddr,loadVar,Fc D,IP D,F]
theorem J8(J:tb.Ok P):∀(m:Nat)(Z:List Nat)(k:KX)(fs:List Fr)(σ:Bf)(H:List HB),ex P n Q ds X R B Fs tb m Z k fs σ H→A3 P n Q ds X R B Fs k fs σ H
 |0,_,_,_,_,_,h=>h tQ
 |m+1,Z,.code c,fs,σ,H,h=>by
   have F:=J8 J m;intro w f D;unfold ex at h
   split at h
   · exact I9 (F _ _ _ _ _ h w f D)
   · exact Kk (F _ _ _ _ _ h w f D)
   · exact Lp (F _ _ _ _ _ h w f D)
   · exact BW (F _ _ _ _ _ h w f D)
   · exact Eg (F _ _ _ _ _ h w f D)
   · exact CD (F _ _ _ _ _ h w f D)
   · split at h
     · rename_i G;exact Gh G C (F _ _ _ _ _ h w f D)
     · rename_i G;exact Ki G C (F _ _ _ _ _ h w f D)
     · exact h.elim
   · exact h.elim
 |m+1,Z,.out e,fs,σ,H,h=>by
   have F:=J8 J m;intro w f D;unfold ex at h
   split at h
   · exact h.elim
   · split at h
     · exact Dw (F _ _ _ _ _ h w f D)
     · exact WH (F _ _ _ _ _ h w f D)
     · exact Xv (F _ _ _ _ _ h w f D)
     · exact h.elim
   · split at h
     · exact DO (F _ _ _ _ _ h w f D)
     · exact X4 (F _ _ _ _ _ h w f D)
     · split at h
       · rename_i hb
         have e:=Nat.eq_of_beq_eq_true hb;subst e;exact Qs (F _ _ _ _ _ h w f D)
       · rename_i hb;exact qL hb (F _ _ _ _ _ h w f D)
     · exact h.elim
 |m+1,Z,.ops all [],fs,σ,H,h=>by
   intro w f D;unfold ex at h;exact Ae (J8 J m _ _ _ _ _ h w f D)
 |m+1,Z,.ops all (⟨dst,op,ty,pos,af,g⟩::r),fs,σ,H,h=>by
   have F:=J8 J m;intro w f D;unfold ex at h
   split at h
   · exact h.elim
   · rename_i hg
     split at h
     · split at h
       · rename_i hd;exact O9 hg hd (F _ _ _ _ _ h w f D)
       · exact h.elim
     · exact h.elim
   · rename_i hg
     refine B2 hg ?_
     split at h
     · split at h
       · split at h
         · exact h.elim
         · split at h
           · rename_i G L hH O
             split at h
             · rename_i vs K
               split at h
               · rename_i hk hp
                 split at h
                 · rename_i H' Y
                   obtain⟨rfl,h⟩:=h;simp only[Bool.and_eq_true] at hk;exact A1 G L K (GB J.ti O) hk.1 (D.blk _ (BO hH)) hk.2 hp λw' hb hC=>F _ _ _ _ _ h w' f (D.chg hH Y hb hC)
                 · exact h.elim
               · exact h.elim
             · exact h.elim
           · exact h.elim
       · exact h.elim
     · split at h
       · exact h.elim
       rename_i hd
       split at h
       · split at h
         · rename_i z hz
           exact Ab hd (TK (Rx J.zr hz)) (F _ _ _ _ _ (h _) _ f D.alloc)
         · exact h.elim
       · split at h
         · rename_i v G
           split at h
           · rename_i l hl
             have e:=GZ hl;subst e;exact Ab hd (ZE G) (F _ _ _ _ _ (h _) _ f D.alloc)
           · exact h.elim
         · exact h.elim
       · split at h
         · rename_i Y hp
           split at h
           · rename_i z hz
             split at h
             · rename_i U hf
               simp only[Bool.and_eq_true] at U;exact Ab hd (pI hp (K7 J.sl Y) (Rx J.zr hz) U.1.1 U.1.2 U.2.1 U.2.2 hf) (F _ _ _ _ _ (h _) _ f D.alloc)
             · exact h.elim
           · exact h.elim
         · exact h.elim
       · split at h
         · exact h.elim
         · split at h
           · rename_i G O
             split at h
             · split at h
               · rename_i hH
                 split at h
                 · split at h
                   · rename_i v K
                     obtain⟨rfl,h⟩:=h;rw[EP] at K;exact Ab hd (Ai G (GB J.ti O) (D.blk _ (BO hH)) K) (F _ _ _ _ _ h w f D)
                   · exact h.elim
                 · split at h
                   · rename_i vs K
                     obtain⟨rfl,h⟩:=h;exact Ab hd (Di G (GB J.ti O) (D.blk _ (BO hH)) K) (F _ _ _ _ _ h w f D)
                   · exact h.elim
               · exact h.elim
             · split at h
               · exact h.elim
               · split at h
                 · rename_i hB
                   have U:=D.getB hB
                   split at h
                   · split at h
                     · rename_i v K
                       obtain⟨⟨rfl,rfl⟩,h⟩:=h;rw[EP] at K;exact Ab hd (JH G (GB J.ti O) (U _ v K).2) (F _ _ _ _ _ h w f D)
                     · exact h.elim
                   · split at h
                     · rename_i vs K
                       obtain⟨⟨rfl,rfl⟩,h⟩:=h;obtain⟨hk,hg2⟩:=R8 K;exact Ab hd (Lc G (GB J.ti O) hk (λj v hj=>by have:=(U _ v (hg2 j v hj)).2;rwa[← Nat.add_assoc] at this)) (F _ _ _ _ _ h w f D)
                     · exact h.elim
                 · exact h.elim
           · exact h.elim
       · split at h
         · rename_i G L O
           exact Ab hd (OE G L (K7 J.sl O) h.1) (F _ _ _ _ _ h.2 w f D)
         · exact h.elim
       · split at h
         · rename_i s _ i G L O
           obtain⟨h1,h⟩:=h;have hlt:i.toNat<s.length:=oM;exact Ab hd (D2 G L (R9 J.st O) h1.1 (List.getElem?_eq_getElem hlt)) (F _ _ _ _ _ (h _ (List.getElem?_eq_getElem hlt)) w f D)
         · exact h.elim
       · split at h
         · rename_i G L
           exact Ab hd (Oj G L h.1) (F _ _ _ _ _ h.2 w f D)
         · rename_i G L
           exact Ab hd (JY G L h.1) (F _ _ _ _ _ h.2 w f D)
         · exact h.elim
       · split at h
         · rename_i G L
           exact Ab hd (Hp G L h.1) (F _ _ _ _ _ h.2 w f D)
         · exact h.elim
       · split at h
         · rename_i v K
           exact Ab hd (Rq J K) (F _ _ _ _ _ h w f D)
         · exact h.elim
end
end Go.SW
namespace Go.SW
open Go.RowKit
structure CK(M:Nat→Prop)(w:wO)(f:Fq)(w':wO)(f':Fq):Prop where
 stp:MW M w w'
 old:∀b,b<w.heap.size→f' b=f b
 val:∀b,w'.heap.size≤b→f' b=0
variable {af:Array Edge}{args:Array Value}{σ':Bf}{fid:FuncId}{H':List HB}{XX:List PanicEntry→wO→Prop}{l:lV}{d i:Nat}{M M':Nat→Prop}{g:Option (Nat×Bool)}{dst:Option Tmp}{pos:String}{ty:tI}{R0:Value→wO→Prop}{I' φ:wO→Fq→Prop}
theorem CK.fle{w w':wO}{f f':Fq}(h:CK M w f w' f')(G:∀b,w.heap.size≤b→f b=0)(hm:∀b,M b→f b=0):Ii w f w' f':=λb=>by
 rcases Nat.lt_or_ge b w.heap.size with D|D
 · refine⟨by rw[h.old b D];exact Nat.le_refl _,λo F=>Dz (h.stp.block b D λJ=>?_) o⟩
   rw[hm b J] at F;omega
 · refine⟨by rw[G b D];exact Nat.zero_le _,λo F=>?_⟩
   rw[G b D] at F;omega
theorem CK.refl(M:Nat→Prop){w:wO}{f:Fq}(h:∀b,w.heap.size≤b→f b=0):CK M w f w f:=⟨MW.refl _ _,λ_ _=>C,h⟩
theorem CK.mono{w w':wO}{f f':Fq}(h:CK M w f w' f')(hm:∀b,M b→M' b):CK M' w f w' f':=⟨h.stp.mono hm,h.old,h.val⟩
theorem CK.of_ext{w w':wO}{f:Fq}(h:AU w w')(D:∀b,w.heap.size≤b→f b=0):CK (λ_=>False) w f w' f:=⟨MW.of_ext h,λ_ _=>C,λb F=>D b (Nat.le_trans h.size F)⟩
theorem AQ.exm{X:Cx}{w:wO}{f:Fq}{H:List HB}{R:List RB}{B:List FB}{Fs:List (wO→Fq→Prop)}(h:AQ X w f H R B Fs):CK X.M X.w0 X.f0 w f:=⟨h.stp,h.old,h.val⟩
section
variable{X:Cx}{w w':wO}{f f':Fq}{H:List HB}{R:List RB}{B:List FB}{Fs:List (wO→Fq→Prop)}
theorem AQ.call0(h:AQ X w f H R B Fs)(he:CK (λ_=>False) w f w' f'):AQ X w' f' H R B Fs :=
 have F:=he.fle h.val (λ_ h=>h.elim)
 h.step (he.stp.mono λ_ h=>h.elim) F he.old he.val (λb D=>he.stp.block b (h.lt D) λh=>h) (λb D=>he.stp.block b (h.mi b D).1 λh=>h)
theorem AQ.callI(h:AQ X w f H R B Fs)(he:CK X.MI w f w' f')(Z:I' w' f')(L:FD X.MI I'):AQ {X with I:=I' } w' f' H R B Fs :=
 have O:=he.fle h.val (λb D=>(h.mi b D).2.1);have F:∀b,b∈CO H R→w'.heap[b]?=w.heap[b]?:=λb D=>he.stp.block b (h.lt D) (h.own b D).2.2
 {stp:=⟨he.stp.os.trans h.stp.os,he.stp.tape.trans h.stp.tape,he.stp.output.trans h.stp.output,Nat.le_trans h.stp.size he.stp.size,λk U hm=>(he.stp.block k (Nat.lt_of_lt_of_le U h.stp.size) λG=>by
       rcases (h.mi k G).2.2 with J|J
       · exact absurd U (Nat.not_lt.2 J)
       · exact hm J).trans (h.stp.block k U hm)⟩,
   old:=λb D=>(he.old b (Nat.lt_of_lt_of_le D h.stp.size)).trans (h.old b D),val:=he.val,ent:=h.ent.trans O,res:=Z,stab:=L,
   mi:=λb D=>⟨Nat.lt_of_lt_of_le (h.mi b D).1 he.stp.size,(he.old b (h.mi b D).1).trans (h.mi b D).2.1,(h.mi b D).2.2⟩,
   blk:=λe G=>(F e.b (List.mem_append.2 (.inl (List.mem_map.2 ⟨e,G,C⟩)))).trans (h.blk e G),
   row:=λr Y=>by
     refine⟨(h.row r Y).1,(h.row r Y).2.imp id ?_⟩;rintro⟨b,l,J,h2,h3⟩;exact⟨b,l,J,(F b (List.mem_append.2 (.inr (List.mem_filterMap.2 ⟨r,Y,by rw[J];rfl⟩)))).trans h2,h3⟩,
   nd:=h.nd,
   own:=λb D=>⟨(he.old b (h.lt D)).trans (h.own b D).1,(h.own b D).2⟩,hnw:=h.hnw,rnw:=h.rnw,
   fro:=λe G=>(h.fro e G).mono O,fac:=λφ K=>h.mono φ K _ _ _ _ (h.fac φ K) O,mono:=h.mono}
theorem AQ.more{B':List FB}{F':List (wO→Fq→Prop)}(h:AQ X w f H R B Fs)(F:∀e,e∈B'→Cs w f e.b e.off e.l)(G:∀φ,φ∈F'→φ w f)(hm:∀φ,φ∈F'→FU φ):AQ X w f H R (B'++B) (F'++Fs) :=
 {h with
   fro:=λe he=>(List.mem_append.1 he).elim (F e) (h.fro e),
   fac:=λφ D=>(List.mem_append.1 D).elim (G φ) (h.fac φ),
   mono:=λφ D=>(List.mem_append.1 D).elim (hm φ) (h.mono φ)}
theorem AQ.less{R':List RB}{B':List FB}{F':List (wO→Fq→Prop)}(h:AQ X w f H R B Fs)(F:H'.Sublist H)(G:R'.Sublist R)(O:∀e,e∈B'→e∈B)(K:∀φ,φ∈F'→φ∈Fs):AQ X w f H' R' B' F' :=
 have L:(CO H' R').Sublist (CO H R):=List.Sublist.append (F.map _) (G.filterMap _)
 {h with
   blk:=λe he=>h.blk e (F.subset he),row:=λr J=>h.row r (G.subset J),nd:=L.nodup h.nd,own:=λb U=>h.own b (L.subset U),hnw:=λe he=>h.hnw e (F.subset he),rnw:=λr J=>h.rnw r (G.subset J),
   fro:=λe he=>h.fro e (O e he),fac:=λφ D=>h.fac φ (K φ D),mono:=λφ D=>h.mono φ (K φ D)}
theorem AQ.fact(h:AQ X w f H R B Fs)(D:nth Fs i=some φ):φ w f:=by
 rw[EP] at D;exact h.fac _ (List.mem_of_getElem? D)
end
section
variable{P:Program}{n:Nat}{Q:AX}{ds:List Deferred}{X:Cx}{R:List RB}{B:List FB}{Fs:List (wO→Fq→Prop)}{tb:Zt}{fs:List Fr}{σ:Bf}{H:List HB}
theorem go{k:KX}(F:tb.Ok P)(m:Nat)(D:List Nat)(h:ex P n Q ds X R B Fs tb m D k fs σ H):A3 P n Q ds X R B Fs k fs σ H:=J8 F m D k fs σ H h
theorem y{α:Type}{a:α}{p:Prop}(h:p):a=a∧p:=⟨C,h⟩
theorem y2{α β:Type}{a:α}{b:β}{p:Prop}(h:p):(a=a∧b=b)∧p:=⟨⟨C,C⟩,h⟩
def xT:KX→Bool
 |.out _=>false
 |_=>true
theorem A3.le{k:KX}(F:xT k=true)(D:Le σ' σ)(h:A3 P n Q ds X R B Fs k fs σ' H):A3 P n Q ds X R B Fs k fs σ H:=λw f G=>by
 have:=h w f G
 cases k with
 |code c=>exact NT D this
 |ops all l=>exact λa J=>this a (J.le D)
 |out e=>cases F
theorem AN{k:KX}{b:Bool}(t:Nat)(h:xT k=true)(D:σ t=some (.bool b))(F:b=true→A3 P n Q ds X R B Fs k fs (AF σ t (.bool true)) H)(G:b=false→A3 P n Q ds X R B Fs k fs (AF σ t (.bool false)) H):A3 P n Q ds X R B Fs k fs σ H:=by
 cases b with
 |true=>exact A3.le h (A6 (le_refl _) D) (F C)
 |false=>exact A3.le h (A6 (le_refl _) D) (G C)
theorem mkn{k:KX}{b:Bool}(t:Nat)(c:Bool)(h:xT k=true)(D:σ t=some (.bool b))(F:b=c)(G:A3 P n Q ds X R B Fs k fs (AF σ t (.bool c)) H):A3 P n Q ds X R B Fs k fs σ H:=by
 subst F;exact A3.le h (A6 (le_refl _) D) G
theorem KU{k:KX}{α:Type}(p:α→Prop)(B':α→List FB)(F':α→List (wO→Fq→Prop))(D:∀w f,AQ X w f H R B Fs→∃x,p x∧(∀e,e∈B' x→Cs w f e.b e.off e.l)∧∀φ,φ∈F' x→φ w f)(hm:∀x φ,φ∈F' x→FU φ)
   (h:∀x,p x→A3 P n Q ds X R (B' x++B) (F' x++Fs) k fs σ H):A3 P n Q ds X R B Fs k fs σ H:=λw f F=>by
 obtain⟨x,G,J,K⟩:=D w f F;exact h x G w f (F.more J K (hm x))
theorem Jf{k:KX}{p:Prop}(D:∀w f,AQ X w f H R B Fs→p)(h:p→A3 P n Q ds X R B Fs k fs σ H):A3 P n Q ds X R B Fs k fs σ H:=λw f F=>h (D w f F) w f F
theorem MF:∀fs:List Fr,(MK P n Q fs).p=Q.p
 | []=>rfl
 |.sq _::fs=>MF fs
 |.bk _::fs=>MF fs
theorem mc0{all r:List Oper}{op:Op}{α:Type}{val:α→Value}{q:α→Prop}{F':α→List (wO→Fq→Prop)}(F:gd all σ g=some true)(hd:Nat.blt d n=true)(he:∀w,Enters P σ op ty w fid args)
   (G:∀w f,AQ X w f H R B Fs→Bq P fid args w λv w'=>∃x f',v=val x∧q x∧CK (λ_=>False) w f w' f'∧∀φ,φ∈F' x→φ w' f') (hm:∀x φ,φ∈F' x→FU φ)
   (h:∀x,q x→A3 P n Q ds X R B (F' x++Fs) (.ops all r) fs (AF σ d (val x)) H):A3 P n Q ds X R B Fs (.ops all (⟨some d,op,ty,pos,af,g⟩::r)) fs σ H:=λw f D=>by
 refine B2 F (A4 hd (he w) (G w f D) ?_);rintro v w' ⟨x,f',rfl,J,K,L⟩;exact h x J w' f' ((D.call0 K).more (B':=[]) (λ_ h=>by cases h) L (hm x))
theorem mcI{all r:List Oper}{op:Op}{α:Type}{val:α→Value}{q:α→Prop}{I':α→wO→Fq→Prop}{F':α→List (wO→Fq→Prop)}
   (G:gd all σ g=some true) (hd:Nat.blt d n=true) (he:∀w,Enters P σ op ty w fid args)
   (J:∀w f,AQ X w f H R B Fs→BI P fid args w (λv w'=>∃x f',v=val x∧q x∧CK X.MI w f w' f'∧I' x w' f'∧∀φ,φ∈F' x→φ w' f') XX) (D:∀x,FD X.MI (I' x)) (hm:∀x φ,φ∈F' x→FU φ)
   (K:∀w f c w',AQ X w f H R B Fs→XX c w'→Q.p c σ ds w')
   (h:∀x,q x→A3 P n Q ds {X with I:=I' x} R B (F' x++Fs) (.ops all r) fs (AF σ d (val x)) H):A3 P n Q ds X R B Fs (.ops all (⟨some d,op,ty,pos,af,g⟩::r)) fs σ H:=λw f F=>by
 refine B2 G (Cg hd (he w) (J w f F) ?_ ?_)
 · rintro v w' ⟨x,f',rfl,L,O,U,Y⟩
   exact h x L w' f' ((F.callI O U (D x)).more (B':=[]) (λ_ h=>by cases h) Y (hm x))
 · intro c w' Z
   rw[MF];exact K w f c w' F Z
theorem Dn{all r:List Oper}{op:Op}{v:Value}(F:gd all σ g=some true)(hd:Nat.blt d n=true)(G:∀w f,AQ X w f H R B Fs→AK P σ op ty w v w)
   (h:A3 P n Q ds X R B Fs (.ops all r) fs (AF σ d v) H):A3 P n Q ds X R B Fs (.ops all (⟨some d,op,ty,pos,af,g⟩::r)) fs σ H:=λw f D=>B2 F (Ab hd (G w f D) (h w f D))
theorem mpan{all r:List Oper}{op:Op}{v:Value}(D:gd all σ g=some true)(F:∀w,tF P σ op ty w v w)
   (h:∀w f,AQ X w f H R B Fs→Q.p [{v,recovered:=false}] σ ds w):A3 P n Q ds X R B Fs (.ops all (⟨dst,op,ty,pos,af,g⟩::r)) fs σ H:=λw f G=>B2 D (Cl (F w) (by rw[MF];exact h w f G))
def lpq(P:Program)(n:Nat){α:Type}(m:α→Nat)(p:α→Prop)(s:α→Bf)(X:α→Cx)(H:α→List HB)(R:α→List RB)(B:α→List FB)(Fs:α→List (wO→Fq→Prop))(ds:List Deferred)(k:Nat)(Q:AX):AX :=
 {q:=λe σ h w=>match e with
     |.normal=>∃x,m x<k∧p x∧h=ds∧Le (s x) σ∧∃f,AQ (X x) w f (H x) (R x) (B x) (Fs x)
     |e=>Q.q e σ h w,
   p:=Q.p}
theorem FG{c:Code}{α:Type}(m:α→Nat)(p:α→Prop)(s:α→Bf)(F:α→Cx)(H':α→List HB)(R':α→List RB)(B':α→List FB)(F':α→List (wO→Fq→Prop))(h:α)(L:p h)(O:Le (s h) σ)
   (U:∀w f,AQ X w f H R B Fs→AQ (F h) w f (H' h) (R' h) (B' h) (F' h))
   (body:∀x,p x→A3 P n (lpq P n m p s F H' R' B' F' ds (m x) (MK P n Q fs)) ds (F x) (R' x) (B' x) (F' x) (.code c) [] (s x) (H' x)):A3 P n Q ds X R B Fs (.code (.loop c)) fs σ H:=λw f hm=>by
 refine DU (λk σ D w=>∃x,m x=k∧p x∧D=ds∧σ=s x∧∃f,AQ (F x) w f (H' x) (R' x) (B' x) (F' x)) (m h) (s h) O ⟨h,C,L,C,C,f,U w f hm⟩ ?_;rintro k σ D w ⟨x,rfl,Y,rfl,rfl,f,hm⟩;have:=body x Y w f hm;intro a Z;refine wp_mono (this a Z) λe a' w' he=>?_
 cases e with
 |normal =>
   obtain⟨σ',D,hs,y,hy,G,rfl,J,f',K⟩:=he;exact⟨σ',_,hs,m y,s y,hy,J,y,C,G,C,C,f',K⟩
 |panic c=>exact he
 |outgrown=>exact he
 |ret=>exact he
 |exit i=>exact he
 |goto i=>exact he
theorem Df{α:Type}{m:α→Nat}{p:α→Prop}{s:α→Bf}{h:α→Cx}{H':α→List HB}{R':α→List RB}{B':α→List FB}{F':α→List (wO→Fq→Prop)}{k:Nat}(x:α)(D:m x<k)(F:p x)(G:Le (s x) σ)
   (J:∀w f,AQ X w f H R B Fs→∃f,AQ (h x) w f (H' x) (R' x) (B' x) (F' x)):A3 P n (lpq P n m p s h H' R' B' F' ds k Q) ds X R B Fs (.out .normal) [] σ H :=
 λw f hm=>⟨x,D,F,C,G,J w f hm⟩
theorem Fh{α:Type}{m:α→Nat}{p:α→Prop}{s:α→Bf}{D:α→Cx}{H':α→List HB}{R':α→List RB}{B':α→List FB}{F':α→List (wO→Fq→Prop)}{k:Nat}(h:A3 P n Q ds X R B Fs (.out (.exit i)) fs σ H):A3 P n (lpq P n m p s D H' R' B' F' ds k (MK P n Q fs)) ds X R B Fs (.out (.exit i)) [] σ H:=λw f hm=>h w f hm
theorem Z0{α:Type}{m:α→Nat}{p:α→Prop}{s:α→Bf}{D:α→Cx}{H':α→List HB}{R':α→List RB}{B':α→List FB}{F':α→List (wO→Fq→Prop)}{k:Nat}(h:A3 P n Q ds X R B Fs (.out .ret) fs σ H):A3 P n (lpq P n m p s D H' R' B' F' ds k (MK P n Q fs)) ds X R B Fs (.out .ret) [] σ H:=λw f hm=>h w f hm
theorem Pa{fn:Func}{c:Code}{w:wO}{f:Fq}(D:P.funcs[fid]?=some fn)(F:fn.body=some c)(G:fn.ntmps=n)(J:Nat.ble l.length n=true)(K:AQ X w f H R B Fs)
   (h:A3 P n (FR P fn R0 XX) [] X R B Fs (.code c) [] (Il l 0) H):BI P fid l.toArray w R0 XX:=IV D F G J (h w f K)
theorem Cw{fn:Func}{c:Code}{w:wO}{f:Fq}(D:P.funcs[fid]?=some fn)(F:fn.body=some c)(G:fn.ntmps=n)(J:Nat.ble l.length n=true)(K:AQ X w f H R B Fs)
   (h:A3 P n (FR P fn R0 λ_ _=>False) [] X R B Fs (.code c) [] (Il l 0) H):Bq P fid l.toArray w R0:=enter D F G J (h w f K)
theorem AR{fn:Func}{v:Value}(F:∀w f,AQ X w f H R B Fs→UH P fn σ w v)(h:∀w f,AQ X w f H R B Fs→R0 v w):A3 P n (FR P fn R0 XX) [] X R B Fs (.out .ret) [] σ H:=λw f D=>Bp (F w f D) (h w f D)
theorem mJ{fn:Func}{v:Value}(F:∀w f,AQ X w f H R B Fs→UH P fn σ w v)(h:∀w f,AQ X w f H R B Fs→R0 v w):A3 P n (FR P fn R0 XX) [] X R B Fs (.out .normal) [] σ H:=λw f D=>G6 (F w f D) (h w f D)
end
end Go.SW
