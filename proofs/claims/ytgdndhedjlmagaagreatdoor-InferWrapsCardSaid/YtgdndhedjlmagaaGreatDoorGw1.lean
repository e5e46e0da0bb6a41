/- What it rests on, part 1. -/
import Derived.KernelRfl
import Derived.WalkKit
import Derived.OrdersHeld
import Derived.Below
import Derived.Shelf.Small.Strs
import Derived.Shelf.Strings.Search1
import Derived.Shelf.Strings.Search2
import Derived.Shelf.Strings.Search3
import Derived.Shelf.Strings.Cut
import Derived.Shelf.Strings.Prefix
import Derived.Shelf.Strings.SlTrimAscii
import Derived.Shelf.Strconv.ToErrorRange
import Derived.Ground.NamesProg
import Derived.Test.YtgdndhedjlmagaaGreatDoorProg
import Derived.Laws.AppendOwn
import Derived.Lib.IndexMore
import Derived.Deep.Draws
import Derived.Laws.StructEq
import Derived.Defers
import Derived.Recover
import Derived.Laws.IdiomStrings
import Derived.Laws.BytesArg
import Derived.Lib.SlTrimSet
import Derived.Lib.Strings
import GoSem.Core.Float
import GoSem.Op.Unary
import GoSem.Op.Equal
import Derived.Lib.ConvBytes
import Derived.Laws.Externs
import Derived.Scope
import Derived.Laws.FloatArith
set_option linter.unusedVariables false
set_option linter.unusedSimpArgs false
universe u
namespace Go
theorem oM{p:Prop}(h:p:=by omega):p:=h
theorem dC{p:Prop}(h:p:=by decide):p:=h
theorem kR{p:Prop}(h:p:=by kernel_rfl):p:=h
theorem nM{p:Prop}(h:p:=by simp only[List.mem_cons,List.not_mem_nil,or_false];omega):p:=h
theorem lM{p:Prop}(h:p:=by first|omega|(simp only[List.length_cons,List.length_append,List.length_nil];omega)):p:=h
theorem C{α:Sort u}{a:α}:a=a:=rfl
theorem tQ:True:=.intro
abbrev lU:=List UInt8
end Go
namespace Go.SW
open Go.RowKit
abbrev Bp:=Nat→Option Value
def e0:Bp:=λ_=>none
def AH(σ:Bp)(d:Nat)(v:Value):Bp:=λt=>bif Nat.beq t d then some v else σ t
def ev(σ:Bp):Operand→Option Value
 |.tmp t=>σ t
 |.const v=>some v
 |.global g=>some (.pointer (some ⟨g,0,none⟩))
 |.func f=>some (.func (.func f) #[] #[])
def Le(σ' σ:Bp):Prop:=∀t v,σ' t=some v→σ t=some v
theorem KF(σ:Bp):Le e0 σ:=λ_ _ h=>by cases h
theorem le_refl(σ:Bp):Le σ σ:=λ_ _ h=>h
variable {args:Array Value}{want:Bool}{σ':Bp}{l:List Value}{dj i j:Nat}{I:Nat→Bp→List Deferred→World→Prop}{dst:Option Tmp}{r1 r2 r3:ResultVar}{v1 v2 v3:Value}{w':World}
theorem AD{σ:Bp}{d:Nat}{v:Value}(h:Le σ' σ)(hd:σ d=some v):Le (AH σ' d v) σ:=by
 intro t u ht;unfold AH at ht
 cases hb:Nat.beq t d with
 |true=>rw[hb] at ht;have:=Nat.eq_of_beq_eq_true hb;subst this;simpa[← hd] using ht
 |false=>rw[hb] at ht;exact h t u ht
structure St(n:Nat)(σ:Bp)(ds:List Deferred)(a:Act):Prop where
 size:a.tmps.size=n
 defs:a.defers=ds
 val:∀t v,σ t=some v→a.tmps.getD t undef=v
theorem St.le{n:Nat}{σ:Bp}{ds:List Deferred}{a:Act}(h:St n σ ds a)(hl:Le σ' σ):St n σ' ds a:=⟨h.size,h.defs,λt v ht=>h.val t v (hl t v ht)⟩
theorem St.ev{n:Nat}{σ:Bp}{ds:List Deferred}{a:Act}(h:St n σ ds a):∀x v,ev σ x=some v→a.eval x=v:=by
 intro x v hx
 cases x with
 |tmp t=>exact h.val t v hx
 |const u=>exact Option.some.inj hx
 |global g=>exact Option.some.inj hx
 |func f=>exact Option.some.inj hx
theorem St.put{n:Nat}{σ:Bp}{ds:List Deferred}{a:Act}(h:St n σ ds a){d:Nat}(hd:Nat.blt d n=true)(v:Value):St n (AH σ d v) ds (a.put (some d) v):=by
 have hd':d<n:=Nat.le_of_ble_eq_true hd;refine⟨by simp[Act.put,h.size],h.defs,λt u ht=>?_⟩;unfold AH at ht
 cases hb:Nat.beq t d with
 |true =>
   rw[hb] at ht;have:=Nat.eq_of_beq_eq_true hb;subst this;simp at ht;subst ht;simp[Act.put,Array.getD_eq_getD_getElem?,h.size,hd']
 |false =>
   rw[hb] at ht;have hne:d≠t:=λe=>by rw[e,Nat.beq_refl] at hb;cases hb
   have:=h.val t u ht;simpa[Act.put,Array.getD_eq_getD_getElem?,Array.getElem?_setIfInBounds_ne hne] using this
structure Bh where
 q:Exit→Bp→List Deferred→World→Prop
 p:List PanicEntry→Bp→List Deferred→World→Prop
def Bh.up(n:Nat)(Q:Bh):Exit→Act→World→Prop
 |.panic c,a,w=>∃σ ds,St n σ ds a∧Q.p c σ ds w
 |.outgrown,_,_=>False
 |.normal,a,w=>∃σ ds,St n σ ds a∧Q.q .normal σ ds w
 |.ret,a,w=>∃σ ds,St n σ ds a∧Q.q .ret σ ds w
 |.exit i,a,w=>∃σ ds,St n σ ds a∧Q.q (.exit i) σ ds w
 |.goto i,a,w=>∃σ ds,St n σ ds a∧Q.q (.goto i) σ ds w
def HI(P:Program)(n:Nat)(c:Code)(Q:Bh)(σ:Bp)(ds:List Deferred)(w:World):Prop :=
 ∀a,St n σ ds a→c.wp P (Q.up n) a w
def Hd(P:Program)(n:Nat)(ops:Array Oper)(Q:Bh)(l:List Oper)(σ:Bp)(ds:List Deferred)(w:World):Prop :=
 ∀a,St n σ ds a→wpList P ops (Q.up n) l a w
section
variable{P:Program}{n:Nat}{Q:Bh}{σ:Bp}{ds:List Deferred}{w:World}
theorem NU{c:Code}(hl:Le σ' σ)(h:HI P n c Q σ' ds w):HI P n c Q σ ds w:=λa ha=>h a (ha.le hl)
def zV(P:Program)(n:Nat)(y:Code)(Q:Bh):Bh :=
 {q:=λe σ ds w=>match e with|.normal=>HI P n y Q σ ds w|e=>Q.q e σ ds w,p:=Q.p}
theorem Cp{x y:Code}(h:HI P n x (zV P n y Q) σ ds w):HI P n (.seq x y) Q σ ds w:=λa ha =>
 wp_seq (wp_mono (h a ha) λe a' w' he=>by
   cases e with
   |normal=>obtain⟨σ',ds',hs,hq⟩:=he;exact hq a' hs
   |panic c=>exact he
   |outgrown=>exact he
   |ret=>exact he
   |exit i=>exact he
   |goto i=>exact he)
theorem DD{y:Code}(h:HI P n y Q σ ds w):(zV P n y Q).q .normal σ ds w:=h
theorem I7(h:Q.q .normal σ ds w):HI P n .skip Q σ ds w:=λ_ ha=>wp_skip ⟨σ,ds,ha,h⟩
theorem Km(h:Q.q .ret σ ds w):HI P n .ret Q σ ds w:=λ_ ha=>wp_ret ⟨σ,ds,ha,h⟩
theorem L8(h:Q.q (.exit i) σ ds w):HI P n (.exit i) Q σ ds w:=λ_ ha=>wp_exit ⟨σ,ds,ha,h⟩
def blk(i:Nat)(Q:Bh):Bh :=
 {q:=λe σ ds w=>match e with|.exit j=>if j=i then Q.q .normal σ ds w else Q.q (.exit j) σ ds w|e=>Q.q e σ ds w,p:=Q.p}
theorem Ew{c:Code}(h:HI P n c (blk i Q) σ ds w):HI P n (.block i c) Q σ ds w:=λa ha =>
 wp_block (wp_mono (h a ha) λe a' w' he=>by
   cases e with
   |exit j =>
     obtain⟨σ',ds',hs,hq⟩:=he;simp only[Exit.inBlock]
     split
     · rename_i hj;simp only[blk,hj,if_true] at hq;exact⟨σ',ds',hs,hq⟩
     · rename_i hj;simp only[blk,hj,if_false] at hq;exact⟨σ',ds',hs,hq⟩
   |normal=>exact he
   |panic c=>exact he
   |outgrown=>exact he
   |ret=>exact he
   |goto i=>exact he)
theorem Ec(h:Q.q .normal σ ds w):(blk i Q).q .normal σ ds w:=h
theorem WR(h:Q.q .ret σ ds w):(blk i Q).q .ret σ ds w:=h
theorem PE(h:Q.q .normal σ ds w):(blk i Q).q (.exit i) σ ds w:=by simp only[blk,if_true];exact h
theorem pP(hne:Nat.beq j i=false)(h:Q.q (.exit j) σ ds w):(blk i Q).q (.exit j) σ ds w:=by
 have:j≠i:=λe=>by rw[e,Nat.beq_refl] at hne;cases hne
 simp only[blk,this,if_false];exact h
theorem XA{y:Code}(h:Q.q .ret σ ds w):(zV P n y Q).q .ret σ ds w:=h
theorem XM{y:Code}(h:Q.q (.exit j) σ ds w):(zV P n y Q).q (.exit j) σ ds w:=h
theorem Pb{c:Operand}{x y:Code}{b:Bool}(hc:ev σ c=some (.bool b))(ht:b=true→HI P n x Q σ ds w)(hf:b=false→HI P n y Q σ ds w) :
   HI P n (.cond c x y) Q σ ds w:=λa ha =>
 wp_cond_split (t:=b) (ha.ev _ _ hc) (λh=>ht h a ha) (λh=>hf h a ha)
theorem Gb{c:Operand}{x y:Code}{b:Bool}(hc:ev σ c=some (.bool b))(hb:b=true)(ht:HI P n x Q σ ds w):HI P n (.cond c x y) Q σ ds w :=
 Pb hc (λ_=>ht) (λh=>by rw[h] at hb;cases hb)
theorem Ko{c:Operand}{x y:Code}{b:Bool}(hc:ev σ c=some (.bool b))(hb:b=false)(hf:HI P n y Q σ ds w):HI P n (.cond c x y) Q σ ds w :=
 Pb hc (λh=>by rw[h] at hb;cases hb) (λ_=>hf)
def lp(I:Nat→Bp→List Deferred→World→Prop)(k:Nat)(Q:Bh):Bh :=
 {q:=λe σ ds w=>match e with|.normal=>∃k' σ',k'<k∧Le σ' σ∧I k' σ' ds w|e=>Q.q e σ ds w,p:=Q.p}
theorem HH{k:Nat}(k':Nat)(σ':Bp)(hk:k'<k)(hl:Le σ' σ)(h:I k' σ' ds w):(lp I k Q).q .normal σ ds w:=⟨k',σ',hk,hl,h⟩
theorem Z9{k:Nat}(h:Q.q .ret σ ds w):(lp I k Q).q .ret σ ds w:=h
theorem O0{k:Nat}(h:Q.q (.exit j) σ ds w):(lp I k Q).q (.exit j) σ ds w:=h
theorem Em{c:Code}(I:Nat→Bp→List Deferred→World→Prop)(k:Nat)(σ':Bp)(hl:Le σ' σ)(h0:I k σ' ds w)
   (round:∀k σ ds w,I k σ ds w→HI P n c (lp I k Q) σ ds w):HI P n (.loop c) Q σ ds w:=by
 intro a ha b kk cs
 have key:∀k a w σ' ds,St n σ' ds a→I k σ' ds w →
     ∃e a' w',Q.up n e a' w'∧Arrives P (lone (b.at a (.code c::.inLoop c::kk)) cs w) b kk cs e a' w':=by
   intro k
   induction k using Nat.strongRecOn with
   |_ k ih =>
     intro a w σ' ds hs hI;obtain⟨e,a₁,w₁,hq,harr⟩:=round k σ' ds w hI a hs b (.inLoop c::kk) cs
     cases e with
     |normal =>
       obtain⟨σ₁,ds₁,hs₁,k',σ₂,hk,hle,hI₁⟩:=hq;obtain⟨e₂,a₂,w₂,hq₂,harr₂⟩:=ih k' hk a₁ w₁ σ₂ ds₁ (hs₁.le hle) hI₁;exact⟨e₂,a₂,w₂,hq₂,.of_steps (Steps.trans harr (.one step_inLoop)) harr₂⟩
     |exit id=>exact⟨.exit id,a₁,w₁,hq,.pass (x:=.inLoop c) rfl (λ_ _=>.inl (by simp)) harr⟩
     |goto l=>exact⟨.goto l,a₁,w₁,hq,.pass (x:=.inLoop c) rfl (λ_ _=>.inl (by simp)) harr⟩
     |ret=>exact⟨.ret,a₁,w₁,hq,.pass (x:=.inLoop c) rfl (λ_ _=>.inl (by simp)) harr⟩
     |panic ch=>exact⟨.panic ch,a₁,w₁,hq,.pass (x:=.inLoop c) rfl (λ_ _=>.inl (by simp)) harr⟩
     |outgrown=>exact hq.elim
 obtain⟨e,a',w',hq,harr⟩:=key k a w σ' ds (ha.le hl) h0;exact⟨e,a',w',hq,.of_steps (.one step_loop) harr⟩
def AR(P:Program)(σ:Bp)(op:Op)(ty:TypeId)(w:World)(v:Value)(w':World):Prop :=
 ∀(ρ:Operand→Value) d AX af g,(∀x v,ev σ x=some v→ρ x=v)→(execOp ρ ⟨d,op,ty,AX,af,g⟩).run P w=.ok (.value v) w'
def pT(P:Program)(σ:Bp)(op:Op)(ty:TypeId)(w:World)(w':World):Prop :=
 ∀(ρ:Operand→Value) d AX af g,(∀x v,ev σ x=some v→ρ x=v)→(execOp ρ ⟨d,op,ty,AX,af,g⟩).run P w=.ok .skip w'
def Enters(P:Program)(σ:Bp)(op:Op)(ty:TypeId)(w:World)(f:FuncId)(args:Array Value):Prop :=
 ∀(ρ:Operand→Value) d AX af g,(∀x v,ev σ x=some v→ρ x=v)→(execOp ρ ⟨d,op,ty,AX,af,g⟩).run P w=.ok (.enter f args) w
def uT(P:Program)(σ:Bp)(op:Op)(ty:TypeId)(w:World)(v:Value)(w':World):Prop :=
 ∀(ρ:Operand→Value) d AX af g,(∀x v,ev σ x=some v→ρ x=v)→(execOp ρ ⟨d,op,ty,AX,af,g⟩).run P w=.halt (.panic v) w'
theorem CL{l:List Oper}(h:Hd P n l.toArray Q l σ ds w):HI P n (.region i l.toArray false) Q σ ds w:=λa ha=>wp_region_lit (h a ha)
variable{ops:Array Oper}{op:Op}{ty:TypeId}{AX:String}{af:Array Edge}{rest:List Oper}{d:Nat}
theorem Ac(h:Q.q .normal σ ds w):Hd P n ops Q [] σ ds w:=λ_ ha=>wpList_nil ⟨σ,ds,ha,h⟩
theorem Ab{v:Value}(hd:Nat.blt d n=true)(hr:AR P σ op ty w v w')(h:Hd P n ops Q rest (AH σ d v) ds w') :
   Hd P n ops Q (⟨some d,op,ty,AX,af,none⟩::rest) σ ds w:=λa ha =>
 wpList_plain rfl λK hK=>by
   unfold Oper.wp;rw[hr a.eval _ _ _ _ ha.ev];exact hK _ _ (h _ (ha.put hd v))
theorem JD(hr:pT P σ op ty w w')(h:Hd P n ops Q rest σ ds w') :
   Hd P n ops Q (⟨none,op,ty,AX,af,none⟩::rest) σ ds w:=λa ha =>
 wpList_plain rfl λK hK=>by
   unfold Oper.wp;rw[hr a.eval _ _ _ _ ha.ev];exact hK _ _ (h _ ha)
theorem C6{v:Value}(hr:uT P σ op ty w v w')(h:Q.p [{v,recovered:=false}] σ ds w') :
   Hd P n ops Q (⟨dst,op,ty,AX,af,none⟩::rest) σ ds w:=λa ha =>
 wpList_plain rfl λK hK=>by
   unfold Oper.wp;rw[hr a.eval _ _ _ _ ha.ev];exact⟨σ,ds,ha,h⟩
def BF(P:Program)(f:FuncId)(args:Array Value)(w:World)(R:Value→World→Prop):Prop :=
 Calls P f args w λe w'=>∃v,e=.returned v∧R v w'
def BU(P:Program)(f:FuncId)(args:Array Value)(w:World)(R:Value→World→Prop)(X:List PanicEntry→World→Prop):Prop :=
 Calls P f args w λe w'=>(∃v,e=.returned v∧R v w')∨∃c,e=.panicked c∧X c w'
theorem BF.mono{f:FuncId}{R R':Value→World→Prop}(h:BF P f args w R)(hr:∀v w',R v w'→R' v w'):BF P f args w R' :=
 Calls.mono h λ_ _ ⟨v,he,hv⟩=>⟨v,he,hr _ _ hv⟩
theorem BU.mono{f:FuncId}{R R':Value→World→Prop}{X X':List PanicEntry→World→Prop}(h:BU P f args w R X)(hr:∀v w',R v w'→R' v w')
   (hx:∀c w',X c w'→X' c w'):BU P f args w R' X' :=
 Calls.mono h λ_ _ he=>he.imp (λ⟨v,he,hv⟩=>⟨v,he,hr _ _ hv⟩) (λ⟨c,he,hv⟩=>⟨c,he,hx _ _ hv⟩)
theorem BF.retP{f:FuncId}{R:Value→World→Prop}{X:List PanicEntry→World→Prop}(h:BF P f args w R):BU P f args w R X :=
 Calls.mono h λ_ _ he=>.inl he
theorem A5{f:FuncId}{R:Value→World→Prop}(hd:Nat.blt d n=true)(he:Enters P σ op ty w f args)(hc:BF P f args w R)
   (h:∀v w',R v w'→Hd P n ops Q rest (AH σ d v) ds w'):Hd P n ops Q (⟨some d,op,ty,AX,af,none⟩::rest) σ ds w:=λa ha =>
 wpList_plain rfl λK hK=>by
   unfold Oper.wp;rw[he a.eval _ _ _ _ ha.ev];refine Calls.mono hc λe w' hr=>?_;obtain⟨v,rfl,hv⟩:=hr;exact hK _ _ (h v w' hv _ (ha.put hd v))
theorem Cw{f:FuncId}{R:Value→World→Prop}{X:List PanicEntry→World→Prop}(hd:Nat.blt d n=true)(he:Enters P σ op ty w f args)
   (hc:BU P f args w R X) (h:∀v w',R v w'→Hd P n ops Q rest (AH σ d v) ds w') (hx:∀c w',X c w'→Q.p c σ ds w') :
   Hd P n ops Q (⟨some d,op,ty,AX,af,none⟩::rest) σ ds w:=λa ha =>
 wpList_plain rfl λK hK=>by
   unfold Oper.wp;rw[he a.eval _ _ _ _ ha.ev];refine Calls.mono hc λe w' hr=>?_;rcases hr with ⟨v,rfl,hv⟩|⟨c,rfl,hv⟩
   · exact hK _ _ (h v w' hv _ (ha.put hd v))
   · exact⟨σ,ds,ha,hx c w' hv⟩
theorem GQ{a:Act}{b:Bool}(ha:St n σ ds a)(hj:(ops[j]?).bind (·.dst)=some dj)(hv:σ dj=some (.bool b)) :
   Region.wanted ⟨dst,op,ty,AX,af,some (j,want)⟩ (yielded ops a.tmps)=(b==want):=by
 have h1:=ha.val dj _ hv
 have h2:a.tmps[dj]?=some (.bool b):=by
   rw[Array.getD_eq_getD_getElem?] at h1
   cases hx:a.tmps[dj]? with
   |none=>rw[hx] at h1;simp[undef] at h1
   |some u=>rw[hx] at h1;simpa using h1
 simp[Region.wanted,yielded,hj,h2]
theorem BN{b:Bool}(hj:(ops[j]?).bind (·.dst)=some dj)(hv:σ dj=some (.bool b))(hb:b=want)
   (h:Hd P n ops Q (⟨dst,op,ty,AX,af,none⟩::rest) σ ds w):Hd P n ops Q (⟨dst,op,ty,AX,af,some (j,want)⟩::rest) σ ds w:=λa ha=>by
 have h1:=h a ha;unfold wpList at h1 ⊢;rw[if_pos (by simp[Region.wanted])] at h1;rw[if_pos (by rw[GQ ha hj hv,hb];simp)];exact h1
theorem mT{b:Bool}(hd:Nat.blt d n=true)(hj:(ops[j]?).bind (·.dst)=some dj)(hv:σ dj=some (.bool b))(hb:b=!want)
   (h:Hd P n ops Q rest (AH σ d undef) ds w):Hd P n ops Q (⟨some d,op,ty,AX,af,some (j,want)⟩::rest) σ ds w:=λa ha=>by
 unfold wpList;rw[if_neg (by rw[GQ ha hj hv,hb];cases want <;> simp)];exact h _ (ha.put hd undef)
def WW(P:Program)(fn:Func)(σ:Bp)(w:World)(v:Value):Prop :=
 ∀tmps:Array Value,(∀t v,σ t=some v→tmps.getD t undef=v)→(results fn tmps).run P w=.ok v w
def FX(P:Program)(fn:Func)(R:Value→World→Prop)(X:List PanicEntry→World→Prop):Bh :=
 {q:=λe σ ds w=>match e with|.normal|.ret=>ds=[]∧∃v,WW P fn σ w v∧R v w|_=>False,p:=λc _ ds w=>ds=[]∧X c w}
def I8:List Value→Nat→Bp
 | [],_=>e0
 |v::l,k=>AH (I8 l (k+1)) k v
theorem OF:∀(l:List Value)(k t:Nat)(v:Value),I8 l k t=some v→k≤t∧l[t-k]?=some v
 | [],_,_,_,h=>by cases h
 |u::l,k,t,v,h=>by
   unfold I8 AH at h
   cases hb:Nat.beq t k with
   |true=>rw[hb] at h;have:=Nat.eq_of_beq_eq_true hb;subst this;simp at h;simp[h]
   |false =>
     rw[hb] at h;obtain⟨h1,h2⟩:=OF l (k+1) t v h;refine⟨oM,?_⟩;have:t-k=(t-(k+1))+1:=oM;rw[this];simpa using h2
theorem JF(hn:Nat.ble l.length n=true):St n (I8 l 0) [] {tmps:=l.toArray++Array.replicate (n-l.toArray.size) undef,defers:=[]}:=by
 have hn':l.length≤n:=by simpa using hn
 refine⟨by simp;omega,rfl,λt v h=>?_⟩;obtain⟨_,h2⟩:=OF l 0 t v h
 have hlt:t<l.length:=by
   rcases Nat.lt_or_ge t l.length with h|h
   · exact h
   · simp[List.getElem?_eq_none h] at h2
 simp[Array.getElem?_append,hlt] at h2 ⊢;simpa[hlt] using h2
theorem ID{f:FuncId}{fn:Func}{c:Code}{R:Value→World→Prop}{X:List PanicEntry→World→Prop}(hf:P.funcs[f]?=some fn)(hb:fn.body=some c)
   (hn:fn.ntmps=n) (hl:Nat.ble l.length n=true) (h:HI P n c (FX P fn R X) (I8 l 0) [] w):BU P f l.toArray w R X:=by
 refine calls_of_wp hf hb ?_;rw[hn];refine wp_mono (h _ (JF hl)) λe a w' he=>?_
 cases e with
 |normal=>obtain⟨σ,ds,hs,hd,v,hv,hr⟩:=he;exact⟨by rw[hs.defs,hd],v,hv _ hs.val,.inl ⟨v,rfl,hr⟩⟩
 |ret=>obtain⟨σ,ds,hs,hd,v,hv,hr⟩:=he;exact⟨by rw[hs.defs,hd],v,hv _ hs.val,.inl ⟨v,rfl,hr⟩⟩
 |panic c=>obtain⟨σ,ds,hs,hd,hx⟩:=he;exact⟨by rw[hs.defs,hd],.inr ⟨c,rfl,hx⟩⟩
 |outgrown=>exact he.elim
 |exit i=>obtain⟨σ,ds,hs,hq⟩:=he;exact hq.elim
 |goto i=>obtain⟨σ,ds,hs,hq⟩:=he;exact hq.elim
theorem enter{f:FuncId}{fn:Func}{c:Code}{R:Value→World→Prop}(hf:P.funcs[f]?=some fn)(hb:fn.body=some c)
   (hn:fn.ntmps=n) (hl:Nat.ble l.length n=true) (h:HI P n c (FX P fn R λ_ _=>False) (I8 l 0) [] w):BF P f l.toArray w R :=
 Calls.mono (ID hf hb hn hl h) λ_ _ he=>he.elim id λ⟨_,_,h⟩=>h.elim
theorem G6{fn:Func}{R:Value→World→Prop}{X:List PanicEntry→World→Prop}{v:Value}(hv:WW P fn σ w v)(h:R v w):(FX P fn R X).q .normal σ [] w:=⟨rfl,v,hv,h⟩
theorem Bv{fn:Func}{R:Value→World→Prop}{X:List PanicEntry→World→Prop}{v:Value}(hv:WW P fn σ w v)(h:R v w):(FX P fn R X).q .ret σ [] w:=⟨rfl,v,hv,h⟩
def yB(tmps:Array Value):ResultVar→Sem Value
 |.tmp t=>pure (tmps.getD t undef)
 |.cell a t=>do loadVar t (← asAddr (tmps.getD a undef))
theorem IK(fn:Func)(tmps:Array Value):results fn tmps=(do let vs ← fn.results.mapM (yB tmps);pure (if h:vs.size=1 then vs[0] else .tuple vs)):=by
 unfold results
 congr
def Rv(P:Program)(σ:Bp)(w:World)(r:ResultVar)(v:Value):Prop :=
 ∀tmps:Array Value,(∀t v,σ t=some v→tmps.getD t undef=v)→(yB tmps r).run P w=.ok v w
theorem Al{t:Nat}{v:Value}(hv:σ t=some v):Rv P σ w (.tmp t) v:=λtmps ht=>by simp only[yB,ht t v hv];rfl
theorem DZ{fn:Func}(h:fn.results=#[]):WW P fn σ w (.tuple #[]):=λtmps _=>results_none h tmps P w
theorem AG{fn:Func}{r:ResultVar}{v:Value}(h:fn.results=#[r])(hv:Rv P σ w r v):WW P fn σ w v:=λtmps ht=>by
 have h1:=hv tmps ht;rw[IK,h,List.mapM_toArray];simp[h1]
theorem C7{fn:Func}(h:fn.results=#[r1,r2])(h1:Rv P σ w r1 v1)(h2:Rv P σ w r2 v2):WW P fn σ w (.tuple #[v1,v2]):=λtmps ht=>by
 have g1:=h1 tmps ht;have g2:=h2 tmps ht;rw[IK,h,List.mapM_toArray];simp[g1,g2]
theorem EB{fn:Func}(h:fn.results=#[r1,r2,r3])(h1:Rv P σ w r1 v1)(h2:Rv P σ w r2 v2)(h3:Rv P σ w r3 v3):WW P fn σ w (.tuple #[v1,v2,v3]):=λtmps ht=>by
 have g1:=h1 tmps ht;have g2:=h2 tmps ht;have g3:=h3 tmps ht;rw[IK,h,List.mapM_toArray];simp[g1,g2,g3]
end
end Go.SW
namespace Go
open Go.RowKit
theorem aI{a b:Prop}(h:a)(k:b):a∧b:=⟨h,k⟩
@[reducible] def iV(n:Int):Value:=.int .i64 n
@[reducible] def pB(b:Nat):Value:=.pointer (some ⟨b,0,none⟩)
@[reducible] def zT:List Value:=[.int .i64 0,.int .i64 0,.string ⟨#[]⟩,.slice none 0 0]
@[reducible] def zN:List Value:=[.int .i64 0,.int .i64 0,.int .i64 0,.string ⟨#[]⟩,.int .i64 0,.slice none 0 0]
abbrev oA:=Option Addr
abbrev wO:=World
abbrev tI:=TypeId
abbrev lV:=List Value
theorem dT{p:Prop}{i:Decidable p}(h:decide p=true):p:=of_decide_eq_true h
theorem dF{p:Prop}{i:Decidable p}(h:decide p=false):¬p:=of_decide_eq_false h
end Go
namespace Go.Proofs
open Go.Shelf
def Tryz.lays137_ren:Go.Shelf.Ren:=⟨λ|137=>42|217=>66|266=>95|n=>n,λ|9=>9|5=>5|3=>3|n=>n,λ|n=>n⟩
theorem Tryz.lays137:Go.Proofs.Lays.n137 prog Tryz.lays137_ren:={
 mixed:=kR
 f137:=func42.trans (congrArg some kR)
 f217:=func66.trans (congrArg some kR)
 f266:=func95.trans (congrArg some kR)
 t3:=underlying3
 a3:=isAgg3
 z3:=sizeOf3
 v3:=zeroValue3
 t5:=underlying5
 a5:=isAgg5
 z5:=sizeOf5
 v5:=zeroValue5
 t9:=underlying9
 a9:=isAgg9
 z9:=sizeOf9
 v9:=zeroValue9}
def Tryz.lays144_ren:Go.Shelf.Ren:=⟨λ|144=>45|143=>73|219=>103|217=>66|225=>133|224=>134|267=>135|266=>95|314=>152|n=>n,λ|9=>9|4=>4|3=>3|5=>5|46=>156|146=>218|51=>200|n=>n,λ|1=>1|n=>n⟩
theorem Tryz.lays144:Go.Proofs.Lays.n144 prog Tryz.lays144_ren:={
 mixed:=kR
 f143:=func73.trans (congrArg some kR)
 f144:=func45.trans (congrArg some kR)
 f217:=func66.trans (congrArg some kR)
 f219:=func103.trans (congrArg some kR)
 f224:=func134.trans (congrArg some kR)
 f225:=func133.trans (congrArg some kR)
 f266:=func95.trans (congrArg some kR)
 f267:=func135.trans (congrArg some kR)
 f314:=func152.trans (congrArg some kR)
 t3:=underlying3
 a3:=isAgg3
 z3:=sizeOf3
 v3:=zeroValue3
 t4:=underlying4
 a4:=isAgg4
 z4:=sizeOf4
 v4:=zeroValue4
 t5:=underlying5
 a5:=isAgg5
 z5:=sizeOf5
 v5:=zeroValue5
 t9:=underlying9
 a9:=isAgg9
 z9:=sizeOf9
 v9:=zeroValue9
 t46:=underlying156
 a46:=isAgg156
 z46:=sizeOf156
 v46:=zeroValue156
 t51:=underlying200
 a51:=isAgg200
 z51:=sizeOf200
 v51:=zeroValue200
 t146:=underlying218
 a146:=isAgg218
 z146:=sizeOf218
 v146:=zeroValue218
 g1:=by kernel_rfl}
def Tryz.lays145_ren:Go.Shelf.Ren:=⟨λ|145=>98|220=>121|219=>103|217=>66|225=>133|224=>134|267=>135|266=>95|314=>152|n=>n,λ|9=>9|4=>4|59=>161|3=>3|5=>5|46=>156|146=>218|51=>200|n=>n,λ|1=>1|n=>n⟩
theorem Tryz.lays145:Go.Proofs.Lays.n145 prog Tryz.lays145_ren:={
 mixed:=kR
 f145:=func98.trans (congrArg some kR)
 f217:=func66.trans (congrArg some kR)
 f219:=func103.trans (congrArg some kR)
 f220:=func121.trans (congrArg some kR)
 f224:=func134.trans (congrArg some kR)
 f225:=func133.trans (congrArg some kR)
 f266:=func95.trans (congrArg some kR)
 f267:=func135.trans (congrArg some kR)
 f314:=func152.trans (congrArg some kR)
 t3:=underlying3
 a3:=isAgg3
 z3:=sizeOf3
 v3:=zeroValue3
 t4:=underlying4
 a4:=isAgg4
 z4:=sizeOf4
 v4:=zeroValue4
 t5:=underlying5
 a5:=isAgg5
 z5:=sizeOf5
 v5:=zeroValue5
 t9:=underlying9
 a9:=isAgg9
 z9:=sizeOf9
 v9:=zeroValue9
 t46:=underlying156
 a46:=isAgg156
 z46:=sizeOf156
 v46:=zeroValue156
 t51:=underlying200
 a51:=isAgg200
 z51:=sizeOf200
 v51:=zeroValue200
 t59:=underlying161
 a59:=isAgg161
 z59:=sizeOf161
 v59:=zeroValue161
 t146:=underlying218
 a146:=isAgg218
 z146:=sizeOf218
 v146:=zeroValue218
 g1:=by kernel_rfl}
def Tryz.lays101_ren:Go.Shelf.Ren:=⟨λ|101=>71|208=>101|206=>125|n=>n,λ|9=>9|4=>4|3=>3|n=>n,λ|n=>n⟩
theorem Tryz.lays101:Go.Proofs.Lays.n101 prog Tryz.lays101_ren:={
 mixed:=kR
 f101:=func71.trans (congrArg some kR)
 f206:=func125.trans (congrArg some kR)
 f208:=func101.trans (congrArg some kR)
 t3:=underlying3
 a3:=isAgg3
 z3:=sizeOf3
 v3:=zeroValue3
 t4:=underlying4
 a4:=isAgg4
 z4:=sizeOf4
 v4:=zeroValue4
 t9:=underlying9
 a9:=isAgg9
 z9:=sizeOf9
 v9:=zeroValue9}
def Tryz.lays160_ren:Go.Shelf.Ren:=⟨λ|160=>102|232=>127|231=>126|227=>128|234=>130|233=>129|236=>132|235=>131|228=>148|271=>151|151=>150|197=>149|120=>169|152=>168|260=>167|137=>42|119=>188|224=>134|225=>133|217=>66|266=>95|n=>n,λ|9=>9|4=>4|3=>3|5=>5|117=>192|116=>191|0=>0|124=>195|21=>21|105=>215|46=>156|119=>168|139=>285|138=>284|n=>n,λ|3=>10|4=>11|n=>n⟩
theorem Tryz.lays160:Go.Proofs.Lays.n160 prog Tryz.lays160_ren:={
 mixed:=kR
 f119:=func188.trans (congrArg some kR)
 f120:=func169.trans (congrArg some kR)
 f137:=func42.trans (congrArg some kR)
 f151:=func150.trans (congrArg some kR)
 f152:=func168.trans (congrArg some kR)
 f160:=func102.trans (congrArg some kR)
 f197:=func149.trans (congrArg some kR)
 f217:=func66.trans (congrArg some kR)
 f224:=func134.trans (congrArg some kR)
 f225:=func133.trans (congrArg some kR)
 f227:=func128.trans (congrArg some kR)
 f228:=func148.trans (congrArg some kR)
 f231:=func126.trans (congrArg some kR)
 f232:=func127.trans (congrArg some kR)
 f233:=func129.trans (congrArg some kR)
 f234:=func130.trans (congrArg some kR)
 f235:=func131.trans (congrArg some kR)
 f236:=func132.trans (congrArg some kR)
 f260:=func167.trans (congrArg some kR)
 f266:=func95.trans (congrArg some kR)
 f271:=func151.trans (congrArg some kR)
 t0:=underlying0
 a0:=isAgg0
 z0:=sizeOf0
 v0:=zeroValue0
 t3:=underlying3
 a3:=isAgg3
 z3:=sizeOf3
 v3:=zeroValue3
 t4:=underlying4
 a4:=isAgg4
 z4:=sizeOf4
 v4:=zeroValue4
 t5:=underlying5
 a5:=isAgg5
 z5:=sizeOf5
 v5:=zeroValue5
 t9:=underlying9
 a9:=isAgg9
 z9:=sizeOf9
 v9:=zeroValue9
 t21:=underlying21
 a21:=isAgg21
 z21:=sizeOf21
 v21:=zeroValue21
 t46:=underlying156
 a46:=isAgg156
 z46:=sizeOf156
 v46:=zeroValue156
 t105:=underlying215
 a105:=isAgg215
 z105:=sizeOf215
 v105:=zeroValue215
 t116:=underlying191
 a116:=isAgg191
 z116:=sizeOf191
 t117:=underlying192
 a117:=isAgg192
 z117:=sizeOf192
 v117:=zeroValue192
 t119:=underlying168
 a119:=isAgg168
 z119:=sizeOf168
 t124:=underlying195
 a124:=isAgg195
 z124:=sizeOf195
 v124:=zeroValue195
 t138:=underlying284
 a138:=isAgg284
 z138:=sizeOf284
 v138:=zeroValue284
 t139:=underlying285
 a139:=isAgg285
 z139:=sizeOf285
 v139:=zeroValue285
 g3:=kR
 g4:=by kernel_rfl}
def Tryz.lays245_ren:Go.Shelf.Ren:=⟨λ|245=>120|279=>143|280=>144|281=>145|282=>146|316=>163|171=>91|205=>164|243=>113|246=>139|283=>155|284=>156|285=>157|286=>158|129=>171|317=>170|318=>172|319=>173|320=>174|337=>189|338=>190|n=>n,λ|9=>9|3=>3|75=>158|167=>206|4=>4|168=>209|210=>242|37=>127|0=>0|127=>205|145=>258|143=>256|2=>2|171=>231|53=>130|5=>5|173=>234|212=>252|51=>200|20=>20|213=>253|46=>156|232=>302|233=>303|80=>184|n=>n,λ|15=>4|16=>5|17=>6|18=>15|19=>16|n=>n⟩
theorem Tryz.lays245:Go.Proofs.LaysC.n245 prog Tryz.lays245_ren:={
 mixed:=kR
 f129:=func171.trans (congrArg some kR)
 f171:=func91.trans (congrArg some kR)
 f205:=func164.trans (congrArg some kR)
 f243:=func113.trans (congrArg some kR)
 f245:=func120.trans (congrArg some kR)
 f246:=func139.trans (congrArg some kR)
 f279:=func143.trans (congrArg some kR)
 f280:=func144.trans (congrArg some kR)
 f281:=func145.trans (congrArg some kR)
 f282:=func146.trans (congrArg some kR)
 f283:=func155.trans (congrArg some kR)
 f284:=func156.trans (congrArg some kR)
 f285:=func157.trans (congrArg some kR)
 f286:=func158.trans (congrArg some kR)
 f316:=func163.trans (congrArg some kR)
 f317:=func170.trans (congrArg some kR)
 f318:=func172.trans (congrArg some kR)
 f319:=func173.trans (congrArg some kR)
 f320:=func174.trans (congrArg some kR)
 f337:=func189.trans (congrArg some kR)
 f338:=func190.trans (congrArg some kR)
 t0:=underlying0
 a0:=isAgg0
 z0:=sizeOf0
 v0:=zeroValue0
 t2:=underlying2
 a2:=isAgg2
 z2:=sizeOf2
 v2:=zeroValue2
 t3:=underlying3
 a3:=isAgg3
 z3:=sizeOf3
 v3:=zeroValue3
 t4:=underlying4
 a4:=isAgg4
 z4:=sizeOf4
 v4:=zeroValue4
 t5:=underlying5
 a5:=isAgg5
 z5:=sizeOf5
 v5:=zeroValue5
 t9:=underlying9
 a9:=isAgg9
 z9:=sizeOf9
 v9:=zeroValue9
 t20:=underlying20
 a20:=isAgg20
 z20:=sizeOf20
 v20:=zeroValue20
 t37:=underlying127
 a37:=isAgg127
 z37:=sizeOf127
 v37:=zeroValue127
 t46:=underlying156
 a46:=isAgg156
 z46:=sizeOf156
 v46:=zeroValue156
 t51:=underlying200
 a51:=isAgg200
 z51:=sizeOf200
 v51:=zeroValue200
 t53:=underlying130
 a53:=isAgg130
 z53:=sizeOf130
 v53:=zeroValue130
 t75:=underlying158
 a75:=isAgg158
 z75:=sizeOf158
 v75:=zeroValue158
 t127:=underlying205
 a127:=isAgg205
 z127:=sizeOf205
 v127:=zeroValue205
 t143:=underlying256
 a143:=isAgg256
 z143:=sizeOf256
 v143:=zeroValue256
 t145:=underlying258
 a145:=isAgg258
 z145:=sizeOf258
 v145:=zeroValue258
 t167:=underlying206
 a167:=isAgg206
 z167:=sizeOf206
 v167:=zeroValue206
 t168:=underlying209
 a168:=isAgg209
 z168:=sizeOf209
 v168:=zeroValue209
 t171:=underlying231
 a171:=isAgg231
 z171:=sizeOf231
 v171:=zeroValue231
 t173:=underlying234
 a173:=isAgg234
 z173:=sizeOf234
 v173:=zeroValue234
 t210:=underlying242
 a210:=isAgg242
 z210:=sizeOf242
 v210:=zeroValue242
 t212:=underlying252
 a212:=isAgg252
 z212:=sizeOf252
 v212:=zeroValue252
 t213:=underlying253
 a213:=isAgg253
 z213:=sizeOf253
 t232:=underlying302
 a232:=isAgg302
 z232:=sizeOf302
 v232:=zeroValue302
 t233:=underlying303
 a233:=isAgg303
 z233:=sizeOf303
 v233:=zeroValue303
 g15:=kR
 g16:=kR
 g17:=kR
 g18:=kR
 g19:=kR
 t80:=underlying184
 a80:=isAgg184
 z80:=sizeOf184
 v80:=zeroValue184
 i0:=kR
 i2:=kR
 i3:=kR
 i4:=kR
 i5:=kR
 i9:=kR
 i20:=kR
 i37:=kR
 i46:=kR
 i51:=kR
 i53:=kR
 i75:=kR
 i80:=kR
 i127:=kR
 i143:=kR
 i145:=kR
 i167:=kR
 i168:=kR
 i171:=kR
 i173:=kR
 i210:=kR
 i212:=kR
 i232:=kR
 i233:=kR
 m15:=kR
 m16:=kR
 m17:=kR
 m18:=kR
 m19:=kR
 c0:=kR
 c2:=kR
 c3:=kR
 c4:=kR
 c5:=kR
 c9:=kR
 c20:=kR
 c37:=kR
 c46:=kR
 c51:=kR
 c53:=kR
 c75:=kR
 c80:=kR
 c127:=kR
 c143:=kR
 c145:=kR
 c167:=kR
 c168:=kR
 c171:=kR
 c173:=kR
 c210:=kR
 c212:=kR
 c213:=kR
 c232:=kR
 c233:=by kernel_rfl}
end Go.Proofs
namespace Go.SW
open Go.RowKit
abbrev S(l:lU):Value:=.string ⟨l.toArray⟩
theorem Qm(l:lU):(⟨l.toArray⟩:ByteArray).toList=l:=by
 rw[ByteArray.toList_eq]
theorem FM{b:Bool}(h:(!b)=true):b=false:=by simpa using h
theorem Gt{b:Bool}(h:(!b)=false):b=true:=by simpa using h
section
variable{P:Program}{σ:Bp}{w:wO}{ty:tI}{x y c:Operand}
theorem A0{v:Value}(h:ev σ x=some v):AR P σ (.move x) ty w v w:=λF _ _ _ _ D=>by simp[execOp,D _ _ h]
theorem Dp{v:Value}(h:ev σ x=some v):AR P σ (.assign x) ty w v w:=λF _ _ _ _ D=>by simp[execOp,D _ _ h]
theorem Pw{v:Value}{b:Bool}(F:ev σ c=some (.bool b))(G:b=true)(h:ev σ x=some v):AR P σ (.pick c x y) ty w v w:=λJ _ _ _ _ D=>by
 simp[execOp,D _ _ F,D _ _ h,asBool,G]
theorem Ov{v:Value}{b:Bool}(F:ev σ c=some (.bool b))(G:b=false)(h:ev σ y=some v):AR P σ (.pick c x y) ty w v w:=λJ _ _ _ _ D=>by
 simp[execOp,D _ _ F,D _ _ h,asBool,G]
theorem Wy{t:tI}{b:Bool}(h:ev σ x=some (.bool b)):AR P σ (.unOp .not t x) ty w (.bool (!b)) w:=λF _ _ _ _ D=>by
 simp[execOp,D _ _ h,Op.unary]
variable {t':tI}
theorem vE{t:tI}{k:IntKind}{a b:Int}(D:ev σ x=some (.int k a))(F:ev σ y=some (.int k b)):AR P σ (.binOp .eql t x y t') ty w (.bool (a==b)) w :=
 λG _ _ _ _ h=>by simp[execOp,h _ _ D,h _ _ F,eqGuard,binOp,Op.intCmp]
theorem gJ{t:tI}{k:IntKind}{a b:Int}(D:ev σ x=some (.int k a))(F:ev σ y=some (.int k b)):AR P σ (.binOp .neq t x y t') ty w (.bool (a != b)) w :=
 λG _ _ _ _ h=>by simp[execOp,h _ _ D,h _ _ F,eqGuard,binOp,Op.intCmp]
theorem Wa{t:tI}{k:IntKind}{a b:Int}(D:ev σ x=some (.int k a))(F:ev σ y=some (.int k b)):AR P σ (.binOp .lss t x y t') ty w (.bool (decide (a<b))) w :=
 λG _ _ _ _ h=>by simp[execOp,h _ _ D,h _ _ F,eqGuard,binOp,Op.intCmp]
theorem dV{t:tI}{k:IntKind}{a b:Int}(D:ev σ x=some (.int k a))(F:ev σ y=some (.int k b)):AR P σ (.binOp .leq t x y t') ty w (.bool (decide (a≤b))) w :=
 λG _ _ _ _ h=>by simp[execOp,h _ _ D,h _ _ F,eqGuard,binOp,Op.intCmp]
theorem aT{t:tI}{k:IntKind}{a b:Int}(D:ev σ x=some (.int k a))(F:ev σ y=some (.int k b)):AR P σ (.binOp .gtr t x y t') ty w (.bool (decide (b<a))) w :=
 λG _ _ _ _ h=>by simp[execOp,h _ _ D,h _ _ F,eqGuard,binOp,Op.intCmp]
theorem cX{t:tI}{k:IntKind}{a b:Int}(D:ev σ x=some (.int k a))(F:ev σ y=some (.int k b)):AR P σ (.binOp .geq t x y t') ty w (.bool (decide (b≤a))) w :=
 λG _ _ _ _ h=>by simp[execOp,h _ _ D,h _ _ F,eqGuard,binOp,Op.intCmp]
def RT(n:Int):Prop := -9223372036854775808≤n∧n≤9223372036854775807
theorem N8{n:Int}(h:RT n):IntKind.i64.wrap n=n:=IntWalk.i64_in _ ⟨h.1,by have:=h.2;omega⟩
theorem Oi{t:tI}{a b:Int}(F:ev σ x=some (.int .i64 a))(G:ev σ y=some (.int .i64 b))(h:RT (a+b)):AR P σ (.binOp .add t x y t') ty w (.int .i64 (a+b)) w :=
 λJ _ _ _ _ D=>by simp[execOp,D _ _ F,D _ _ G,eqGuard,binOp,Op.intArith,N8 h]
theorem H9{t:tI}{a b:Int}(F:ev σ x=some (.int .i64 a))(G:ev σ y=some (.int .i64 b))(h:RT (a-b)):AR P σ (.binOp .sub t x y t') ty w (.int .i64 (a-b)) w :=
 λJ _ _ _ _ D=>by simp[execOp,D _ _ F,D _ _ G,eqGuard,binOp,Op.intArith,N8 h]
theorem rK{t:tI}{a b:lU}(D:ev σ x=some (S a))(F:ev σ y=some (S b)):AR P σ (.binOp .eql t x y t') ty w (.bool (a==b)) w :=
 λG _ _ _ _ h=>by simp[execOp,h _ _ D,h _ _ F,eqGuard,binOp,Op.stringOp]
theorem tH{t:tI}{a b:lU}(D:ev σ x=some (S a))(F:ev σ y=some (S b)):AR P σ (.binOp .neq t x y t') ty w (.bool (!(a==b))) w :=
 λG _ _ _ _ h=>by simp[execOp,h _ _ D,h _ _ F,eqGuard,binOp,Op.stringOp]
theorem Ky{t:tI}{a b:lU}(F:ev σ x=some (S a))(G:ev σ y=some (S b))(h:a.length+b.length≤9223372036854775807) :
   AR P σ (.binOp .add t x y t') ty w (S (a++b)) w:=λL _ _ _ _ D=>by
 have J:¬(((⟨a.toArray⟩:ByteArray).size+(⟨b.toArray⟩:ByteArray).size:Nat):Int)>IntKind.i64.max:=by
   have hm:IntKind.i64.max=9223372036854775807:=dC;rw[hm];simp[ByteArray.size];omega
 have K:((⟨a.toArray⟩:ByteArray)++⟨b.toArray⟩)=⟨(a++b).toArray⟩:=by
   apply ByteArray.ext;simp
 simp only[execOp,D _ _ F,D _ _ G,eqGuard,binOp,Op.stringOp,J,K];simp
end
def Be(P:Program)(T:tI):Option (Bool×Nat) :=
 match P.underlying T,P.info? T with
 |some d,some i=>some (match d with|.struct _|.array _ _=>true|_=>false,i.size)
 |_,_=>none
def Gv(P:Program)(T:tI)(i:Nat):Option Nat :=
 match P.underlying T with
 |some (.struct fs)=>match fs[i]? with
   |some f=>match P.info? f.type with
     |some j=>if j.size=0 then none else some f.offset
     |none=>none
   |none=>none
 |_=>none
def Kj(P:Program)(T:tI):Option (tI×Nat) :=
 match P.underlying T with
 |some (.slice e)=>(P.info? e).map λj=>(e,j.size)
 |_=>none
def HZ(P:Program)(T:tI):Option lV:=match P.info? T with|some i=>i.zero.map λv=>v.cells.toList|none=>none
def AS(w:wO)(b:Nat)(l:lV)(T:tI):Prop:=w.heap[b]?=some (.cells l.toArray T (0,0))
abbrev AY(w w':wO):Prop:=Below w.heap.size w w'
structure GW(b:Nat)(w w':wO):Prop where
 os:w'.os=w.os
 tape:w'.tape=w.tape
 output:w'.output=w.output
 size:w'.heap.size=w.heap.size
 block:∀k,k≠b→w'.heap[k]?=w.heap[k]?
theorem AY.refl(w:wO):AY w w:=Below.refl _ _
variable {kk:IntKind}{pl:List (Nat×Nat)}{parts:List (Nat×Operand)}{vs z:lV}{cap i n o:Nat}{hi:Operand}{ρ:Operand→Value}{a:oA}{e:tI}{w' w1 w2:wO}
theorem AY.trans{w:wO}(h:AY w w1)(D:AY w1 w2):AY w w2:=Below.trans h (D.mono h.size)
theorem AY.drew{w:wO}:AY w w.drew:=Below.drew (Below.refl _ _)
theorem AS.lt{w:wO}{b:Nat}{l:lV}{T:tI}(h:AS w b l T):b<w.heap.size:=by
 rcases Nat.lt_or_ge b w.heap.size with D | D
 · exact D
 · unfold AS at h;rw[Array.getElem?_eq_none D] at h;cases h
theorem AS.ext{w:wO}{b:Nat}{l:lV}{T:tI}(h:AS w b l T)(he:AY w w'):AS w' b l T:=(he.block b h.lt).trans h
theorem AS.chg{w:wO}{b c:Nat}{l:lV}{T:tI}(h:AS w b l T)(he:GW c w w')(D:b≠c):AS w' b l T:=(he.block b D).trans h
theorem AY.chg{w:wO}{b:Nat}(h:AY w w1)(D:GW b w1 w2)(G:w.heap.size≤b):AY w w2 :=
 ⟨D.os.trans h.os,D.tape.trans h.tape,D.output.trans h.output,by rw[D.size];exact h.size,λk F=>(D.block k oM).trans (h.block k F)⟩
theorem AS.cell{w:wO}{b:Nat}{l:lV}{T:tI}(h:AS w b l T)(o:Nat):w.cell? ⟨b,o,none⟩=l[o]?:=by
 unfold AS at h;simp[World.cell?,h]
section
variable{P:Program}{w:wO}
theorem Fp{T:tI}{a:Bool}(h:Be P T=some (a,n)):(isAgg T).run P w=.ok a w:=by
 unfold Be at h
 cases hu:P.underlying T with
 |none=>rw[hu] at h;cases h
 |some d =>
   cases hi:P.info? T with
   |none=>rw[hu,hi] at h;cases h
   |some i =>
     rw[hu,hi] at h
     cases d <;> simp_all [isAgg,run_underlying hu]
theorem IV{T:tI}{a:Bool}(h:Be P T=some (a,n)):(sizeOf T).run P w=.ok n w:=by
 unfold Be at h
 cases hu:P.underlying T with
 |none=>rw[hu] at h;cases h
 |some d =>
   cases hi:P.info? T with
   |none=>rw[hu,hi] at h;cases h
   |some i =>
     rw[hu,hi] at h;have D:i.size=n:=by injection h with h;exact (Prod.mk.inj h).2
     simp[sizeOf,typeInfo,hi,D]
def T7:Nat→lV→Option lV
 |0,_=>some []
 |_+1,[]=>none
 |k+1,v::l=>match T7 k l with
   |some r=>some (v::r)
   |none=>none
def WH:lV→Nat→Nat→Option lV
 |l,0,k=>T7 k l
 | [],_+1,_=>none
 |_::l,o+1,k=>WH l o k
theorem N9:∀{k:Nat}{l vs:lV},T7 k l=some vs→l.take k=vs∧vs.length=k
 |0,_,_,h=>by injection h with h;subst h;simp
 |_+1,[],_,h=>by cases h
 |k+1,v::l,vs,h=>by
   unfold T7 at h
   cases D:T7 k l with
   |none=>rw[D] at h;cases h
   |some r =>
     rw[D] at h;injection h with h
     subst h;have:=N9 D;simp[this.1,this.2]
theorem Md:∀{l:lV}{o k:Nat}{vs:lV},WH l o k=some vs→(l.drop o).take k=vs∧vs.length=k
 |l,0,k,vs,h=>by unfold WH at h;simpa using N9 h
 | [],_+1,_,_,h=>by cases h
 |_::l,o+1,k,vs,h=>by unfold WH at h;simpa using Md (l:=l) h
def HU:Value→Option lV
 |.agg ⟨l⟩=>some l
 |v=>some [v]
theorem EO(b o k:Nat):(⟨b,o,none⟩:Addr).add k=⟨b,o+k,none⟩:=by unfold Addr.add;split <;> simp_all
variable{σ:Bp}{ty T T':tI}{x y:Operand}{b off k:Nat}{l:lV}
theorem Am{v:Value}(D:ev σ x=some (.pointer (some ⟨b,off,none⟩)))(F:Be P T=some (false,k))(G:AS w b l T')(J:l[off]?=some v) :
   AR P σ (.load T x) ty w v w:=λρ _ _ _ _ h=>by
 have K:w.cell? ⟨b,off,none⟩=some v:=by rw[G.cell,J]
 simp[execOp,h _ _ D,Instr.loadAt,Instr.sureAddr,loadVar,Fp F,run_load,K]
theorem Dr(Q:ev σ x=some (.pointer (some ⟨b,off,none⟩)))(L:Be P T=some (true,k))(U:AS w b l T')(F:WH l off k=some vs) :
   AR P σ (.load T x) ty w (.agg vs.toArray) w:=λρ _ _ _ _ G=>by
 obtain⟨W,J⟩:=Md F
 have O:=run_loadCells_list (P:=P) w ⟨b,off,none⟩ vs (λj v D=>by
   rw[EO,U.cell];rw[← W] at D
   have K:j<k:=by
     rcases Nat.lt_or_ge j k with h|h
     · exact h
     · rw[List.getElem?_take,if_neg (by omega)] at D;cases D
   rwa[List.getElem?_take,if_pos K,List.getElem?_drop] at D)
 rw[J] at O;simp[execOp,G _ _ Q,Instr.loadAt,Instr.sureAddr,loadVar,Fp L,IV L,O]
theorem BQ(G:ev σ x=some (.pointer (some ⟨b,off,none⟩)))(h:Gv P T i=some o):AR P σ (.fieldAddr T x i) ty w (.pointer (some ⟨b,off+o,none⟩)) w:=λρ _ _ _ _ D=>by
 unfold Gv at h
 split at h
 · rename_i fs hu
   split at h
   · rename_i f F
     split at h
     · rename_i j J
       split at h
       · cases h
       · rename_i hz
         injection h with h
         subst h;simp[execOp,D _ _ G,Instr.fieldAt,run_underlying hu,F,Instr.sureAddr,fieldPlace,sizeOf,typeInfo,J,hz,EO]
     · cases h
   · cases h
 · cases h
theorem Hu(h:Kj P T=some (e,k)):∃i,P.underlying T=some (.slice e)∧P.info? e=some i∧i.size=k:=by
 unfold Kj at h
 split at h
 · rename_i F hu
   cases D:P.info? F with
   |none=>rw[D] at h;cases h
   |some j =>
     rw[D] at h;simp at h;obtain⟨rfl,G⟩:=h;exact⟨j,hu,D,G⟩
 · cases h
theorem Oo{i:Int}{len:Nat}(D:ev σ x=some (.slice (some ⟨b,off,none⟩) len cap))(F:ev σ y=some (.int kk i))(G:Kj P T=some (e,k))
   (hi:0≤i∧i<len):AR P σ (.indexAddr T x y) ty w (.pointer (some ⟨b,off+i.toNat*k,none⟩)) w:=λρ _ _ _ _ h=>by
 obtain⟨j,hu,J,rfl⟩:=Hu G;simp[execOp,h _ _ D,h _ _ F,Instr.indexAt,asIntOf,run_underlying hu,hi,sizeOf,typeInfo,J,EO]
theorem Lh{len:Nat}(h:ev σ x=some (.slice (some ⟨b,off,none⟩) len cap))(D:ev σ y=some (.int kk (i:Int)))(F:Kj P T=some (e,k))
   (hi:i<len):AR P σ (.indexAddr T x y) ty w (.pointer (some ⟨b,off+i*k,none⟩)) w:=by
 have:=Oo (w:=w) (ty:=ty) h D F ⟨oM,oM⟩;simpa using this
theorem Vh{v:Value}(D:ev σ x=some (.tuple vs.toArray))(F:vs[i]?=some v):AR P σ (.extract x i) ty w v w:=λρ _ _ _ _ h=>by
 simp[execOp,h _ _ D,Instr.extract,F]
def Jd(σ:Bp):List Operand→Option lV
 | []=>some []
 |x::l=>match ev σ x,Jd σ l with
   |some v,some vs=>some (v::vs)
   |_,_=>none
theorem EZ(D:∀x v,ev σ x=some v→ρ x=v):∀{l:List Operand}{vs:lV},Jd σ l=some vs→l.map ρ=vs
 | [],_,h=>by injection h with h
 |x::l,vs,h=>by
   unfold Jd at h
   cases F:ev σ x with
   |none=>rw[F] at h;cases h
   |some v =>
     cases G:Jd σ l with
     |none=>rw[F,G] at h;cases h
     |some us =>
       rw[F,G] at h;injection h with h
       subst h;simp[D x v F,EZ D G]
theorem MC(D:ev σ x=some (.slice a n cap))(F:Kj P T=some (e,k)) :
   AR P σ (.call {callee:=.builtin .len,args:=#[x],argTypes:=#[T]}) ty w (.int .i64 n) w:=λρ _ _ _ _ h=>by
 obtain⟨j,hu,G,rfl⟩:=Hu F;simp[execOp,resolve,invoke,builtin,h _ _ D,Builtin.len_,run_underlying hu,goInt]
theorem N1{s:lU}(F:ev σ x=some (S s))(G:P.underlying T=some .string) :
   AR P σ (.call {callee:=.builtin .len,args:=#[x],argTypes:=#[T]}) ty w (.int .i64 s.length) w:=λρ _ _ _ _ h=>by
 have D:(⟨s.toArray⟩:ByteArray).size=s.length:=by simp[ByteArray.size]
 simp[execOp,resolve,invoke,builtin,h _ _ F,Builtin.len_,run_underlying G,goInt,D]
theorem DC{s:lU}{i:Int}{c:UInt8}(J:ev σ x=some (S s))(K:ev σ y=some (.int kk i))(L:P.underlying T=some .string)(O:0≤i)
   (G:s[i.toNat]?=some c):AR P σ (.index T x y) ty w (.int .u8 c.toNat) w:=λρ _ _ _ _ D=>by
 have F:i.toNat<s.length:=by
   rcases Nat.lt_or_ge i.toNat s.length with h|h
   · exact h
   · rw[List.getElem?_eq_none h] at G;cases G
 have Q:(⟨s.toArray⟩:ByteArray)[i.toNat]?=some c:=by
   have U:i.toNat<(⟨s.toArray⟩:ByteArray).size:=by simpa[ByteArray.size] using F
   rw[getElem?_pos (⟨s.toArray⟩:ByteArray) i.toNat U];rw[List.getElem?_eq_getElem F] at G;exact G
 simp[execOp,D _ _ J,D _ _ K,Instr.index,asIntOf,run_underlying L,O,Q]
theorem KJ(s:lU)(i j:Nat):(⟨s.toArray⟩:ByteArray).extract i j=⟨((s.take j).drop i).toArray⟩:=by
 apply ByteArray.ext;simp[ByteArray.data_extract,List.extract_eq_take_drop,List.drop_take]
theorem MK{s:lU}{lo:Operand}{k1 k2:IntKind}{i j:Int}(K:ev σ x=some (S s))(F:ev σ lo=some (.int k1 i))(G:ev σ hi=some (.int k2 j))(L:P.underlying T=some .string)
   (h:0≤i∧i≤j∧j≤s.length):AR P σ (.slice T x (some lo) (some hi) none) ty w (S ((s.take j.toNat).drop i.toNat)) w:=λρ _ _ _ _ D=>by
 have J:(⟨s.toArray⟩:ByteArray).size=s.length:=by simp[ByteArray.size]
 have O:0≤j:=oM;simp[execOp,D _ _ K,D _ _ F,D _ _ G,Instr.sliceAt,Instr.slice,Instr.sliceBounds,Instr.sliceBound,asIntOf,run_underlying L,J,h,O,KJ];intro hm;omega
theorem US{s:lU}{lo:Operand}{k1:IntKind}{i:Int}(J:ev σ x=some (S s))(F:ev σ lo=some (.int k1 i))(K:P.underlying T=some .string)
   (h:0≤i∧i≤s.length):AR P σ (.slice T x (some lo) none none) ty w (S (s.drop i.toNat)) w:=λρ _ _ _ _ D=>by
 have G:(⟨s.toArray⟩:ByteArray).size=s.length:=by simp[ByteArray.size]
 simp[execOp,D _ _ J,D _ _ F,Instr.sliceAt,Instr.slice,Instr.sliceBounds,Instr.sliceBound,asIntOf,run_underlying K,G,h,KJ]
theorem I0{s:lU}{k1:IntKind}{j:Int}(J:ev σ x=some (S s))(F:ev σ hi=some (.int k1 j))(K:P.underlying T=some .string)
   (h:0≤j∧j≤s.length):AR P σ (.slice T x none (some hi) none) ty w (S (s.take j.toNat)) w:=λρ _ _ _ _ D=>by
 have G:(⟨s.toArray⟩:ByteArray).size=s.length:=by simp[ByteArray.size]
 simp[execOp,D _ _ J,D _ _ F,Instr.sliceAt,Instr.slice,Instr.sliceBounds,Instr.sliceBound,asIntOf,run_underlying K,G,h,KJ]
theorem Q6{lo:Operand}{k1:IntKind}{len:Nat}(G:ev σ x=some (.slice a len cap))(F:ev σ lo=some (.int k1 (i:Int)))
   (J:Kj P T=some (e,k)) (h:i≤len):AR P σ (.slice T x (some lo) none none) ty w (.slice (if cap=i then a else a.map (·.add (i*k))) (len-i) (cap-i)) w:=λρ _ _ _ _ D=>by
 obtain⟨j,hu,K,rfl⟩:=Hu J;simp[execOp,D _ _ G,D _ _ F,Instr.sliceAt,Instr.slice,Instr.sliceBounds,Instr.sliceBound,asIntOf,run_underlying hu,sizeOf,typeInfo,K];intro hm;omega
theorem XQ{k1:IntKind}{len:Nat}(G:ev σ x=some (.slice a len cap))(F:ev σ hi=some (.int k1 (i:Int)))
   (J:Kj P T=some (e,k)) (h:i≤cap):AR P σ (.slice T x none (some hi) none) ty w (.slice a i cap) w:=λρ _ _ _ _ D=>by
 obtain⟨j,hu,K,rfl⟩:=Hu J;simp[execOp,D _ _ G,D _ _ F,Instr.sliceAt,Instr.slice,Instr.sliceBounds,Instr.sliceBound,asIntOf,run_underlying hu,sizeOf,typeInfo,K]
 cases a <;> (simp[Addr.add];intro hm;omega)
def Pz(P:Program)(T:tI):Option (List (Nat×Nat)) :=
 match P.underlying T with
 |some (.struct fs)=>fs.toList.mapM λf=>(P.info? f.type).map λj=>(f.offset,j.size)
 |_=>none
def GD(σ:Bp):List (Nat×Operand)→Option (List (Nat×Value))
 | []=>some []
 |(i,x)::l=>match ev σ x,GD σ l with
   |some v,some vs=>some ((i,v)::vs)
   |_,_=>none
theorem Jb(D:∀x v,ev σ x=some v→ρ x=v):∀{l:List (Nat×Operand)}{vs:List (Nat×Value)},GD σ l=some vs→(l.map λp=>(p.1,ρ p.2))=vs
 | [],_,h=>by injection h with h
 |(i,x)::l,vs,h=>by
   unfold GD at h
   cases F:ev σ x with
   |none=>rw[F] at h;cases h
   |some v =>
     cases G:GD σ l with
     |none=>rw[F,G] at h;cases h
     |some us =>
       rw[F,G] at h;injection h with h
       subst h;simp[D x v F,Jb D G]
def M9:Value→lV
 |.agg cs=>cs.toList
 |v=>[v]
theorem I1(v:Value):v.cells=(M9 v).toArray:=by cases v <;> simp[Value.cells,M9]
theorem GO{v:Value}{l:lV}(h:HU v=some l):M9 v=l:=by
 cases v with
 |agg cs=>exact Option.some.inj h
 |_=>exact Option.some.inj h
def EF:lV→Nat→lV→lV
 |cs,_,[]=>cs
 |cs,o,c::l=>EF (cs.set o c) (o+1) l
def PK:lV→lV→Option lV
 |cs,[]=>some cs
 | [],_::_=>none
 |_::cs,v::vs=>match PK cs vs with
   |some r=>some (v::r)
   |none=>none
def P2:lV→Nat→lV→Option lV
 |cs,0,vs=>PK cs vs
 | [],_+1,_=>none
 |c::cs,o+1,vs=>match P2 cs o vs with
   |some r=>some (c::r)
   |none=>none
theorem Mr(c:Value):∀(vs cs:lV)(o:Nat),EF (c::cs) (o+1) vs=c::EF cs o vs
 | [],_,_=>rfl
 |v::vs,cs,o=>by rw[EF,EF,List.set_cons_succ,Mr c vs]
theorem U5:∀{cs vs r:lV},PK cs vs=some r→EF cs 0 vs=r∧vs.length≤cs.length
 |cs,[],_,h=>by unfold PK at h;injection h with h;subst h;simp[EF]
 | [],_::_,_,h=>by cases h
 |c::cs,v::vs,_,h=>by
   unfold PK at h
   cases D:PK cs vs with
   |none=>rw[D] at h;cases h
   |some r =>
     rw[D] at h;injection h with h
     subst h;have:=U5 D;rw[EF,List.set_cons_zero,Mr,this.1];exact⟨C,by simpa using this.2⟩
theorem RZ:∀{cs:lV}{o:Nat}{vs r:lV},P2 cs o vs=some r→EF cs o vs=r∧o+vs.length≤cs.length
 |cs,0,vs,r,h=>by unfold P2 at h;simpa using U5 h
 | [],_+1,_,_,h=>by cases h
 |c::cs,o+1,vs,_,h=>by
   unfold P2 at h
   cases D:P2 cs o vs with
   |none=>rw[D] at h;cases h
   |some r =>
     rw[D] at h;injection h with h
     subst h;have:=RZ D;rw[Mr,this.1];refine⟨C,?_⟩;have F:=this.2;simp only[List.length_cons];omega
def KB(pl:List (Nat×Nat)):lV→List (Nat×Value)→Option lV
 |cs,[]=>some cs
 |cs,(i,v)::rest=>match pl[i]?,HU v with
   |some (off,size),some vs=>if Nat.beq vs.length size then (match P2 cs off vs with|some h=>KB pl h rest|none=>none) else none
   |_,_=>none
theorem Gn:∀(vs cs:lV)(o:Nat),(EF cs o vs).length=cs.length
 | [],_,_=>rfl
 |v::vs,cs,o=>by rw[EF,Gn vs];simp
theorem PH:∀(vs:lV)(j o:Nat)(cs:lV),(vs.zipIdx j).foldl (λ(cs:Array Value)(p:Value×Nat)=>cs.setIfInBounds (o+p.2) p.1) cs.toArray=(EF cs (o+j) vs).toArray
 | [],_,_,_=>rfl
 |v::vs,j,o,cs=>by
   rw[List.zipIdx_cons,List.foldl_cons,EF];have:=PH vs (j+1) o (cs.set (o+j) v);simp only[List.setIfInBounds_toArray] at this ⊢;rw[this,Nat.add_assoc]
theorem QH{g:Nat→Option (Nat×Nat)}(U:∀i p,pl[i]?=some p→g i=some p):∀(parts:List (Nat×Value))(cs out:lV),KB pl cs parts=some out→Instr.fill g cs.toArray parts=some out.toArray
 | [],cs,out,h=>by unfold KB at h;injection h with h;subst h;rfl
 |(i,v)::rest,cs,out,h=>by
   unfold KB at h;unfold Instr.fill
   cases K:pl[i]? with
   |none=>rw[K] at h;cases h
   |some p =>
     obtain⟨off,size⟩:=p;rw[U i _ K]
     cases F:HU v with
     |none=>rw[K,F] at h;cases h
     |some vs =>
       rw[K,F] at h;simp only at h;have G:=GO F
       split at h
       · rename_i Y
         have L:=Nat.eq_of_beq_eq_true Y
         cases D:P2 cs off vs with
         |none=>rw[D] at h;cases h
         |some J =>
           rw[D] at h;obtain⟨O,hle⟩:=RZ D;have Q:v.cells.size=size:=by rw[I1,G];simpa using L
           simp only[Q];rw[if_neg (by simp;omega)]
           have hz:v.cells.zipIdx.foldl (λcs (p:Value×Nat)=>cs.setIfInBounds (off+p.2) p.1) cs.toArray=J.toArray:=by
             rw[I1,← Array.foldl_toList,← O,← G];have:=PH (M9 v) 0 off cs;simpa using this
           have W:=QH U rest J out h;rw[← hz] at W;exact W
       · cases h
theorem Uz{fs:List Field}(h:fs.mapM (λf=>(P.info? f.type).map λj=>(f.offset,j.size))=some pl) :
   (fs.mapM λf=>(do pure (f.offset,← sizeOf f.type):Sem (Nat×Nat))).run P w=.ok pl w:=by
 induction fs generalizing pl with
 |nil=>simp at h;subst h;simp
 |cons f fs G =>
   simp only[List.mapM_cons] at h ⊢
   cases hi:P.info? f.type with
   |none=>simp[hi] at h
   |some j =>
     cases F:fs.mapM (λf=>(P.info? f.type).map λj=>(f.offset,j.size)) with
     |none=>simp[hi,F] at h
     |some pr =>
       simp[hi,F] at h;subst h;have:=G F;have D:(do pure (f.offset,← sizeOf f.type):Sem (Nat×Nat)).run P w=.ok (f.offset,j.size) w:=by simp[sizeOf,typeInfo,hi]
       rw[Sem.run_bind,D,Result.andThen_ok,Sem.run_bind,this,Result.andThen_ok];rfl
theorem OI(h:HZ P T=some z):∃v,(zeroValue T).run P w=.ok v w∧v.cells=z.toArray:=by
 unfold HZ at h
 split at h
 · rename_i i hi
   cases hz:i.zero with
   |none=>rw[hz] at h;cases h
   |some v=>rw[hz] at h;simp at h;exact⟨v,by simp[zeroValue,typeInfo,hi,hz],by rw[← h]⟩
 · cases h
theorem DO{pv:List (Nat×Value)}{out:lV}(Q:GD σ parts=some pv)(D:Pz P T=some pl)
   (hz:HZ P T=some z) (U:KB pl z pv=some out):AR P σ (.build T parts.toArray) ty w (.agg out.toArray) w:=λρ _ _ _ _ G=>by
 unfold Pz at D
 split at D
 · rename_i fs hu
   obtain⟨v,W,J⟩:=OI (w:=w) hz;have hm:=Uz (w:=w) D
   have K:(fs.mapM λf=>(do pure (f.offset,← sizeOf f.type):Sem (Nat×Nat))).run P w=.ok pl.toArray w:=by
     rw[← Array.toArray_toList (xs:=fs),List.mapM_toArray];simp at hm;simp[hm]
   have L:=Jb G Q;have O:=QH (g:=λi=>pl[i]?) (λi p h=>h) pv z out U;have F:(parts.toArray.map λp=>(p.1,ρ p.2))=pv.toArray:=by rw[← L];simp
   simp only[execOp]
   have:(Instr.build T (parts.toArray.map λ(i,x)=>(i,ρ x))).run P w=.ok (.agg out.toArray) w:=by
     have e:(parts.toArray.map λ(p:Nat×Operand)=>match p with|(i,x)=>(i,ρ x))=pv.toArray:=F;rw[e];simp only[Instr.build,Sem.run_bind,W,Result.andThen_ok,run_underlying hu,J];simp only[K,Result.andThen_ok];simp[O]
   rw[Sem.run_bind,this];rfl
 · cases D
end
section
variable{P:Program}{n:Nat}{Q:Bh}{σ:Bp}{ds:List Deferred}{w:wO}{ops:Array Oper}{ty T T':tI}{AX:String}{af:Array Edge}{rest:List Oper}{d b off k:Nat}{x y:Operand}{l:lV}
theorem Nv(w:wO)(l:lV)(T:tI):AS (w.alloc (.cells l.toArray T)) w.heap.size l T:=heap_alloc_new w _
theorem Ku(w:wO)(o:Obj):AY w (w.alloc o):=Below.alloc (Below.refl _ _) (Nat.le_refl _) o
theorem Hw(w:wO)(o:Obj):(w.alloc o).heap.size=w.heap.size+1:=by simp
def kX(w:wO)(l:lV)(T:tI)(K:Nat→wO→Prop):Prop :=
 ∀b w',AS w' b l T→AY w w'→w.heap.size=b→w'.heap.size=b+1→K b w'
theorem Lg{K:Nat→wO→Prop}(h:kX w l T K):K w.heap.size (w.alloc (.cells l.toArray T)):=h _ _ (Nv w l T) (Ku w _) C (Hw w _)
theorem dG{v:Value}(D:ev σ x=some v):AR P σ (.box T x) ty w (.pointer (some ⟨w.heap.size,0,none⟩)) (w.alloc (.cells (M9 v).toArray T)):=λF _ _ _ _ h=>by
 simp[execOp,h _ _ D,Instr.box,newVar,newRow,I1]
theorem Ev{v:Value}(hd:Nat.blt d n=true)(F:ev σ x=some v)(D:HU v=some l)
   (h:kX w l T λb w'=>Hd P n ops Q rest (AH σ d (.pointer (some ⟨b,0,none⟩))) ds w'):Hd P n ops Q (⟨some d,.box T x,ty,AX,af,none⟩::rest) σ ds w:=by
 have G:=GO D;subst G;exact Ab hd (dG F) (Lg h)
theorem Sq(hz:HZ P T=some l):AR P σ (.alloc T) ty w (.pointer (some ⟨w.heap.size,0,none⟩)) (w.alloc (.cells l.toArray T)):=λG _ _ _ _ D=>by
 obtain⟨v,F,h⟩:=OI (w:=w) hz;simp[execOp,Instr.alloc,F,newVar,newRow,h]
theorem CP(hd:Nat.blt d n=true)(hz:HZ P T=some l)
   (h:kX w l T λb w'=>Hd P n ops Q rest (AH σ d (.pointer (some ⟨b,0,none⟩))) ds w'):Hd P n ops Q (⟨some d,.alloc T,ty,AX,af,none⟩::rest) σ ds w :=
 Ab hd (Sq hz) (Lg h)
theorem OZ(m k:Nat)(z:lV)(hz:z.length=k)(h:0<k):((Array.range (m*k)).map λi=>z.toArray[i % z.toArray.size]!)=((List.range (m*k)).map λi=>z.getD (i % k) default).toArray:=by
 apply Array.ext';simp only[Array.toList_map,Array.toList_range];apply List.map_congr_left;intro i _;have D:i % k<k:=Nat.mod_lt _ h;simp[hz,D]
def Gs:Nat→lV→lV
 |0,_=>[]
 |m+1,z=>z++Gs m z
theorem RA(k:Nat)(z:lV)(hz:z.length=k)(D:0<k):∀m,((List.range (m*k)).map λi=>z.getD (i % k) default)=Gs m z
 |0=>by simp[Gs]
 |m+1=>by
   have F:=RA k z hz D m;rw[Gs,← F,Nat.add_mul,Nat.one_mul,Nat.add_comm,List.range_add,List.map_append,List.map_map]
   congr 1
   · apply List.ext_getElem?
     intro i
     by_cases h:i<k
     · have:i<z.length:=oM
       simp[h,Nat.mod_eq_of_lt h,this]
     · simp[Nat.le_of_not_lt h,hz]
   · apply List.map_congr_left
     intro i _;simp[Nat.add_mod_left]
def KC(k:Nat):Nat→Nat→List (Nat×Nat)
 |_,0=>[]
 |i,m+1=>(i*k,k)::KC k (i+1) m
theorem PY(k:Nat):∀(m i j:Nat),j<m→(KC k i m)[j]?=some ((i+j)*k,k)
 |0,_,_,h=>by omega
 |m+1,i,0,_=>by simp[KC]
 |m+1,i,j+1,h=>by
   rw[KC,List.getElem?_cons_succ,PY k m (i+1) j (by omega)]
   congr 3
   omega
theorem PS(k:Nat):∀m i,(KC k i m).length=m
 |0,_=>rfl
 |m+1,i=>by simp[KC,PS k m]
variable {l':lV}{m:Nat}
theorem dQ{k:Nat}(parts:List (Nat×Value))(cs out:lV)(h:KB (KC k 0 m) cs parts=some out):Instr.fill (λi=>some (i*k,k)) cs.toArray parts=some out.toArray :=
 QH (λi p D=>by
   have G:i<m:=by
     rcases Nat.lt_or_ge i m with F | F
     · exact F
     · rw[List.getElem?_eq_none (by rw[PS];exact F)] at D;cases D
   rw[PY k m 0 i G] at D;simpa using D) parts cs out h
theorem qG{pv:List (Nat×Value)}{out:lV}(hp:GD σ parts=some pv)(hs:Kj P T=some (e,k))(hz:HZ P e=some z)
   (J:Nat.beq z.length k=true) (hk:Nat.blt 0 k=true) (hm:Nat.blt 0 m=true) (K:Nat.ble (m*k) 16777216=true) (hf:KB (KC k 0 m) (Gs m z) pv=some out) :
   AR P σ (.buildSlice T m parts.toArray) ty w (.slice (some ⟨w.heap.size,0,none⟩) m m) (w.alloc (.cells out.toArray e)):=λρ _ _ _ _ L=>by
 obtain⟨j,hu,hj,rfl⟩:=Hu hs;obtain⟨v,hv,O⟩:=OI (w:=w) hz;have h:=Nat.eq_of_beq_eq_true J;have D:0<j.size:=Nat.le_of_ble_eq_true hk;have U:0<m:=Nat.le_of_ble_eq_true hm;have hmk':m*j.size≤16777216:=Nat.le_of_ble_eq_true K;have W:m*j.size≠0:=Nat.ne_of_gt (Nat.mul_pos U D);have Y:=Jb L hp;have F:(parts.toArray.map λ(p:Nat×Operand)=>match p with|(i,x)=>(i,ρ x))=pv.toArray:=by rw[← Y];simp
 have Z:=dQ pv (Gs m z) out hf;have hsz:(sizeOf e).run P w=.ok j.size w:=by simp[sizeOf,typeInfo,hj]
 have G:((Array.range (m*j.size)).map λi=>z.toArray[i % z.toArray.size]!)=(Gs m z).toArray:=by rw[OZ m j.size z h D,RA j.size z h D m]
 have:(Instr.buildSlice T m (parts.toArray.map λ(p:Nat×Operand)=>match p with|(i,x)=>(i,ρ x))).run P w=.ok (.slice (some ⟨w.heap.size,0,none⟩) m m) (w.alloc (.cells out.toArray e)):=by
   rw[F];simp only[Instr.buildSlice,Sem.run_bind,run_underlying hu,Result.andThen_ok,hsz];rw[if_neg (by omega),if_neg W];simp only[Sem.run_bind,hv,Result.andThen_ok,O,Sem.run_pure];rw[G];simp[Z,newRow]
 simp only[execOp];rw[Sem.run_bind,this];rfl
theorem Cv{pv:List (Nat×Value)}(hd:Nat.blt d n=true)(G:GD σ parts=some pv)(J:Kj P T=some (e,k))(hz:HZ P e=some z)
   (D:Nat.beq z.length k=true) (K:Nat.blt 0 k=true) (hm:Nat.blt 0 m=true) (F:Nat.ble (m*k) 16777216=true) (L:KB (KC k 0 m) (Gs m z) pv=some l)
   (h:kX w l e λb w'=>Hd P n ops Q rest (AH σ d (.slice (some ⟨b,0,none⟩) m m)) ds w'):Hd P n ops Q (⟨some d,.buildSlice T m parts.toArray,ty,AX,af,none⟩::rest) σ ds w :=
 Ab hd (qG G J hz D K hm F L) (Lg h)
def No:lV→Bool
 | []=>true
 |v::l=>v.oneCell'&&No l
theorem Mw:∀{l:lV},No l=true→∀v∈l,v.oneCell'=true
 | [],_,v,D=>by cases D
 |u::l,h,v,D=>by
   simp only[No,Bool.and_eq_true] at h;rcases List.mem_cons.1 D with rfl|D
   · exact h.1
   · exact Mw h.2 v D
theorem N5:∀(vs cs:lV)(o:Nat),o+vs.length≤cs.length→EF cs o vs=cs.take o++vs++cs.drop (o+vs.length)
 | [],cs,o,_=>by simp[EF]
 |v::vs,cs,o,h=>by
   simp only[List.length_cons] at h;rw[EF,N5 vs (cs.set o v) (o+1) (by simp;omega)]
   have D:(cs.set o v).take (o+1)=cs.take o++[v]:=by
     rw[List.take_succ_eq_append_getElem (by simp;omega)];simp[List.take_set_of_le]
   have F:(cs.set o v).drop (o+1+vs.length)=cs.drop (o+(v::vs).length):=by
     rw[List.drop_set_of_lt (by omega)];simp only[List.length_cons]
     congr 1
     omega
   rw[D,F];simp
theorem OB(w:wO)(b:Nat)(cs:Array Value):GW b w (w.setRow b cs):=⟨C,C,C,by simp[World.setRow],λk h=>setRow_other w b k cs h⟩
theorem O6{v:Value}{a:Bool}(O:ev σ x=some (.pointer (some ⟨b,off,none⟩)))(U:ev σ y=some v)(K:M9 v=vs)(W:Be P T=some (a,k))(Y:Nat.beq vs.length k=true)
   (Z:AS w b l T') (h1:No vs=true) (L:off+vs.length≤l.length):pT P σ (.store T x y) ty w (w.setRow b (EF l off vs).toArray):=λρ _ _ _ _ h=>by
 have F:=Nat.eq_of_beq_eq_true Y;have D:=run_storeCells_at P b off T' vs 0 l.toArray w Z (by simpa using L) (Mw h1);have G:v.cells.size=k:=by rw[I1,K];simpa using F
 have J:v.cells.toList=vs:=by rw[I1,K]
 have hp:(List.take (off+0) l.toArray.toList++vs++List.drop (off+0+vs.length) l.toArray.toList).toArray=(EF l off vs).toArray:=by rw[N5 vs l off L];simp
 rw[hp] at D;simp[execOp,h _ _ O,h _ _ U,Instr.storeAt,Instr.sureAddr,storeVar,G,IV W,J,D]
theorem A3{v:Value}{a:Bool}(G:ev σ x=some (.pointer (some ⟨b,off,none⟩)))(J:ev σ y=some v)(K:HU v=some vs)(L:Be P T=some (a,k))(O:Nat.beq vs.length k=true)
   (F:AS w b l T') (U:No vs=true) (W:P2 l off vs=some l')
   (h:∀w',AS w' b l' T'→GW b w w'→Hd P n ops Q rest σ ds w'):Hd P n ops Q (⟨none,.store T x y,ty,AX,af,none⟩::rest) σ ds w:=by
 obtain⟨D,hle⟩:=RZ W;subst D;exact JD (O6 G J (GO K) L O F U hle) (h _ (setRow_heap w b _ _ T' _ F) (OB w b _))
def Ca(P:Program)(f:FuncId):Prop:=∀args w,(callFunc f args).run P w=.ok (.enter f args) w
theorem Ao{f:FuncId}{fn:Func}(h:P.funcs[f]?=some fn)(D:(fn.name == "runtime.NumGoroutine")=false) (F:fn.body.isNone=false):Ca P f:=λargs w=>by
 simp only[callFunc,Sem.run_bind,run_program,Result.andThen_ok,h,D,F];simp
theorem Ay{f:FuncId}{g:Operand}{args:List Operand}{ts:Array tI}(he:Ca P f)(F:ev σ g=some (.func (.func f) #[] #[]))(G:Jd σ args=some vs) :
   Enters P σ (.call {callee:=.value g,args:=args.toArray,argTypes:=ts}) ty w f vs.toArray:=λJ _ _ _ _ D=>by
 have h:=EZ D G;simp[execOp,resolve,D _ _ F,Deferred.ofValue,invoke,h,he vs.toArray w]
theorem BR{v:Value}{t:tI}(D:ev σ x=some (.iface t v)):uT P σ (.panic x) ty w (.iface t v) w:=λF _ _ _ _ h=>by
 simp[execOp,h _ _ D,Instr.panic,goPanic,Sem.run]
def wP(P:Program)(T:tI):Bool:=match P.underlying T with|some (.interface _)=>false|some _=>true|none=>false
theorem Ck{v:Value}(G:ev σ x=some v)(h:wP P T=true):AR P σ (.makeInterface T x) ty w (.iface T v) w:=λJ _ _ _ _ F=>by
 unfold wP at h
 cases hu:P.underlying T with
 |none=>rw[hu] at h;cases h
 |some D =>
   rw[hu] at h
   cases D <;> simp_all [execOp,Instr.makeInterface,run_underlying hu]
theorem Ae{t:Nat}(O:σ t=some (.pointer (some ⟨b,off,none⟩)))(K:Be P T=some (true,k))(U:AS w b l T')(F:WH l off k=some vs) :
   Rv P σ w (.cell t T) (.agg vs.toArray):=λtmps W=>by
 obtain⟨F,G⟩:=Md F
 have L:=run_loadCells_list (P:=P) w ⟨b,off,none⟩ vs (λj v D=>by
   rw[EO,U.cell];rw[← F] at D
   have J:j<k:=by
     rcases Nat.lt_or_ge j k with h|h
     · exact h
     · rw[List.getElem?_take,if_neg (by omega)] at D;cases D
   rwa[List.getElem?_take,if_pos J,List.getElem?_drop] at D)
 rw[G] at L;have Y:(loadVar T ⟨b,off,none⟩).run P w=.ok (.agg vs.toArray) w:=by simp[loadVar,Fp K,IV K,L]
 simp only[yB,W t _ O,asAddr];simp[Y]
theorem B1{t:Nat}{v:Value}(h:σ t=some (.pointer (some ⟨b,off,none⟩)))(D:Be P T=some (false,k))(F:AS w b l T')(G:l[off]?=some v):Rv P σ w (.cell t T) v:=λtmps J=>by
 have K:w.cell? ⟨b,off,none⟩=some v:=by rw[F.cell,G]
 have L:(loadVar T ⟨b,off,none⟩).run P w=.ok v w:=by simp[loadVar,Fp D,run_load,K]
 simp only[yB,J t _ h,asAddr];simp[L]
end
def O2(ops:Array Oper):List (Bool×Nat)→Array Bool→Bool
 | [],listed=>(Region.ready .any ops listed).isEmpty
 |(true,i)::r,listed=>Region.free .any ops listed i&&(Region.ready .any ops listed).contains i&&O2 ops r (listed.setIfInBounds i true)
 |(false,i)::r,listed=>(match Region.ready .any ops listed with | [j]=>Nat.beq j i|_=>false)&&O2 ops r (listed.setIfInBounds i true)
def pick(l:List Oper):List (Bool×Nat)→Option (List (Bool×Oper))
 | []=>some []
 |(f,i)::r=>match l[i]?,pick l r with
   |some o,some ol=>some ((f,o)::ol)
   |_,_=>none
def wU(P:Program)(ops:Array Oper)(Q:Exit→Act→wO→Prop)(S:wO→Prop):List (Bool×Oper)→Act→wO→Prop
 | [],a,w=>Q .normal a w
 |(true,o)::r,a,w=>∃v,YieldsIf P ops S o v a∧wU P ops Q S r (a.put o.dst v) w
 |(false,o)::r,a,w=>wpList P ops (Exit.then (λa' w'=>S w'∧wU P ops Q S r a' w') Q) [o] a w
section
variable{P:Program}{n:Nat}{Q:Bh}{S:wO→Prop}
variable {want:Bool}{bs:List Nat}{l:lV}{b dj j:Nat}{T:tI}
theorem IF{ops:Array Oper}{G:Exit→Act→wO→Prop}{K:Act→wO→Prop}{o:Oper}{a:Act}{w:wO}(O:ops[i]?=some o)
   (D:∀a w,¬G .outgrown a w) (h:wpList P ops (Exit.then K G) [o] a w):wpOp P ops G i K a w:=by
 unfold wpList at h;unfold wpOp;simp only[O]
 split
 · rename_i hw
   rw[if_pos hw] at h;rcases h with h|⟨_,a',w',U⟩
   · refine .inl ?_
     unfold Oper.wp at h ⊢;generalize (execOp a.eval o).run P w=r at h ⊢
     cases r with
     |ok W w' =>
       cases W <;> simp only[Oper.upon,wpList,Exit.then] at h ⊢ <;> first
         |exact h
         |(
           refine Calls.mono h λe Y he=>?_
           cases e with
           |returned v=>exact he
           |panicked c=>exact he
           |outgrown=>obtain⟨J,L,F⟩:=he;exact (D _ _ F).elim)
     |halt Z w'=>cases Z <;> simp only[Oper.upon,Exit.then] at h ⊢ <;> exact h
   · exact (D _ _ U).elim
 · rename_i hw
   rw[if_neg hw] at h;exact h
def PI(Q:Bh):Prop:=∀c σ h ds w,Q.p c σ ds w→Q.p c h ds w
theorem fO{Q:Bh}{n:Nat}(D:PI Q){c:List PanicEntry}{a:Act}{d:Nat}{v:Value}{w:wO}(h:Q.up n (.panic c) (a.put (some d) v) w):Q.up n (.panic c) a w:=by
 obtain⟨σ,ds,F,G⟩:=h;exact⟨e0,ds,⟨by have:=F.size;simpa[Act.put] using this,F.defs,λ_ _ h=>by cases h⟩,D _ _ _ _ _ G⟩
theorem Oj{l:List Oper}(W:Region.noSelect l.toArray=true)(G:PI Q):∀(ord:List (Bool×Nat))(ol:List (Bool×Oper))(listed:Array Bool)(a:Act)(w:wO),pick l ord=some ol →
   O2 l.toArray ord listed=true→S w→wU P l.toArray (Q.up n) S ol a w→wpAnyH P .any l.toArray (Q.up n) S ord.length listed a w
 | [],ol,listed,a,w,D,F,Y,h=>by
   injection D with D
   subst D;exact wpAnyH_done (by simpa[O2] using F) h 0
 |(f,i)::ord,ol,listed,a,w,D,F,Y,h=>by
   unfold pick at D
   cases K:l[i]? with
   |none=>rw[K] at D;cases D
   |some o =>
     cases L:pick l ord with
     |none=>rw[K,L] at D;cases D
     |some r =>
       rw[K,L] at D;injection D with D
       subst D;have J:l.toArray[i]?=some o:=by simpa using K
       cases f with
       |true =>
         simp only[O2,Bool.and_eq_true] at F;obtain⟨v,hy,h'⟩:=h
         exact wpAnyH_take J W F.1.1 F.1.2 (λc a w O=>by
           cases hd:o.dst with
           |none=>rw[hd] at O;exact O
           |some d=>rw[hd] at O;exact fO G O) hy Y (Oj W G ord r _ _ w L F.2 Y h')
       |false =>
         simp only[O2,Bool.and_eq_true] at F
         have Z:Region.ready .any l.toArray listed=[i]:=by
           have h1:=F.1
           split at h1
           · rename_i j U;rw[U,Nat.eq_of_beq_eq_true h1]
           · cases h1
         refine wpAnyH_all Z (by simp) λj U=>?_;rw[List.mem_singleton] at U;subst U;exact wpOp_mono (λa' w' hk=>⟨hk.1,Oj W G ord r _ a' w' L F.2 hk.1 hk.2⟩) (IF J (λ_ _ h=>h) h)
def Yf(P:Program)(n:Nat)(ops:Array Oper)(Q:Bh)(S:wO→Prop)(ol:List (Bool×Oper))(σ:Bp)(ds:List Deferred)(w:wO):Prop :=
 ∀a,St n σ ds a→wU P ops (Q.up n) S ol a w
variable{σ:Bp}{ds:List Deferred}{w:wO}{ops:Array Oper}{op:Op}{ty:tI}{AX:String}{af:Array Edge}{r:List (Bool×Oper)}{d:Nat}
theorem Eg{l:List Oper}(hm:P.follows .mixedOrders=true)(S:wO→Prop)(ord:List (Bool×Nat)){ol:List (Bool×Oper)}(F:O2 l.toArray ord (Array.replicate l.length false)=true)
   (D:Region.noSelect l.toArray=true) (hlen:Nat.beq ord.length l.length=true) (J:pick l ord=some ol)
   (h:∀w',AY w w'→w'.heap.size=w.heap.size→S w'∧Yf P n l.toArray Q S ol σ ds w') (G:PI Q:=by exact λ_ _ _ _ _ h=>h):HI P n (.region i l.toArray true) Q σ ds w:=λa K=>by
 refine wp_region_held (S:=S) hm ?_;obtain⟨L,O⟩:=h w.drew AY.drew C;have:=Oj (P:=P) (n:=n) (Q:=Q) D G ord ol (Array.replicate l.length false) a w.drew J F L (O a K);rw[Nat.eq_of_beq_eq_true hlen] at this;simpa using this
theorem Ex(h:Q.q .normal σ ds w):Yf P n ops Q S [] σ ds w:=λ_ D=>⟨σ,ds,D,h⟩
theorem A1{v:Value}(hd:Nat.blt d n=true)(F:∀w,S w→AR P σ op ty w v w)(h:Yf P n ops Q S r (AH σ d v) ds w) :
   Yf P n ops Q S ((true,⟨some d,op,ty,AX,af,none⟩)::r) σ ds w:=λa D =>
 ⟨v,.inl ⟨by simp[Region.wanted],λw G=>F w G a.eval _ _ _ _ D.ev⟩,h _ (D.put hd v)⟩
theorem CH{v:Value}{b:Bool}(hd:Nat.blt d n=true)(F:(ops[j]?).bind (·.dst)=some dj)(G:σ dj=some (.bool b))(J:b=want)(K:∀w,S w→AR P σ op ty w v w)
   (h:Yf P n ops Q S r (AH σ d v) ds w):Yf P n ops Q S ((true,⟨some d,op,ty,AX,af,some (j,want)⟩)::r) σ ds w:=λa D =>
 ⟨v,.inl ⟨by rw[GQ D F G,J];simp,λw L=>K w L a.eval _ _ _ _ D.ev⟩,h _ (D.put hd v)⟩
theorem CF{b:Bool}(hd:Nat.blt d n=true)(F:(ops[j]?).bind (·.dst)=some dj)(G:σ dj=some (.bool b))(J:b=!want)
   (h:Yf P n ops Q S r (AH σ d undef) ds w):Yf P n ops Q S ((true,⟨some d,op,ty,AX,af,some (j,want)⟩)::r) σ ds w:=λa D =>
 ⟨undef,.inr ⟨by rw[GQ D F G,J];cases want <;> simp,C⟩,h _ (D.put hd undef)⟩
theorem PR(dj:Nat){b:Bool}{l:List (Bool×Oper)}(D:σ dj=some (.bool b))(F:b=true→Yf P n ops Q S l σ ds w)(G:b=false→Yf P n ops Q S l σ ds w):Yf P n ops Q S l σ ds w:=by
 have _:=D
 cases h:b with
 |true=>exact F h
 |false=>exact G h
def A6(w:wO)(bs:List Nat)(w':wO):Prop:=∀b,b∈bs→b<w'.heap.size∧w'.heap[b]?=w.heap[b]?
theorem A6.nil(w w':wO):A6 w [] w':=λ_ h=>by cases h
theorem A6.cons{w:wO}(F:AS w b l T)(G:AY w w')(h:A6 w bs w'):A6 w (b::bs) w':=λc D=>by
 rcases List.mem_cons.1 D with rfl|D
 · exact⟨Nat.lt_of_lt_of_le F.lt G.size,G.block _ F.lt⟩
 · exact h c D
theorem A6.ext{w:wO}(h:A6 w bs w')(F:AY w' w2):A6 w bs w2:=λc D=>⟨Nat.lt_of_lt_of_le (h c D).1 F.size,(F.block c (h c D).1).trans (h c D).2⟩
theorem A6.chg{w:wO}(h:A6 w bs w')(F:GW b w' w2)(G:∀c,c∈bs→c≠b):A6 w bs w2 :=
 λc D=>⟨by rw[F.size];exact (h c D).1,(F.block c (G c D)).trans (h c D).2⟩
theorem AS.keep{w:wO}(D:AS w b l T)(h:A6 w bs w')(hm:b∈bs):AS w' b l T:=(h b hm).2.trans D
def onw(P:Program)(n:Nat)(ops:Array Oper)(Q:Bh)(S:wO→Prop)(r:List (Bool×Oper)):Bh :=
 {q:=λe σ ds w=>match e with|.normal=>S w∧Yf P n ops Q S r σ ds w|e=>Q.q e σ ds w,p:=Q.p}
theorem EV{o:Oper}(h:Hd P n ops (onw P n ops Q S r) [o] σ ds w):Yf P n ops Q S ((false,o)::r) σ ds w:=λa Y=>by
 have D:=h a Y;show wpList P ops (Exit.then (λa' w'=>S w'∧wU P ops (Q.up n) S r a' w') (Q.up n)) [o] a w;unfold wpList at D ⊢
 split
 · rename_i hw
   rw[if_pos hw] at D;rcases D with D|⟨_,a',w',Z⟩
   · refine .inl ?_
     unfold Oper.wp at D ⊢;generalize (execOp a.eval o).run P w=rr at D ⊢
     have key:∀a' w',wpList P ops ((onw P n ops Q S r).up n) [] a' w'→wpList P ops (Exit.then (λa' w'=>S w'∧wU P ops (Q.up n) S r a' w') (Q.up n)) [] a' w':=λa' w' hk=>by
       obtain⟨K,L,F,G⟩:=hk;exact⟨G.1,G.2 a' F⟩
     cases rr with
     |ok nx w' =>
       cases nx <;> simp only[Oper.upon] at D ⊢ <;> first
         |exact key _ _ D
         |(
           refine Calls.mono D λe O he=>?_
           cases e with
           |returned v=>exact key _ _ he
           |panicked c=>exact he
           |outgrown=>obtain⟨U,W,J⟩:=he;exact J.elim)
         |exact Rows.mono D λv O he=>key _ _ he
     |halt hh w'=>cases hh <;> simp only[Oper.upon] at D ⊢ <;> exact D
   · exact Z.elim
 · rename_i hw
   rw[if_neg hw] at D;obtain⟨K,L,F,G⟩:=D;exact⟨G.1,G.2 _ F⟩
theorem H5(D:S w)(h:Yf P n ops Q S r σ ds w):(onw P n ops Q S r).q .normal σ ds w:=⟨D,h⟩
end
inductive OT where
 |fin
 |rd (i:Nat) (k:OT)
 |br (i:Nat) (k o:OT)
def OT.alts:OT→List Nat
 |.br i _ o=>i::o.alts
 |_=>[]
def OT.ok(ops:Array Oper):Bool→OT→Array Bool→Bool
 |top,.fin,listed=>!top||(Region.ready .any ops listed).isEmpty
 |top,.rd i k,listed=>top&&Region.free .any ops listed i&&(Region.ready .any ops listed).contains i&&k.ok ops true (listed.setIfInBounds i true)
 |top,.br i k o,listed=>(!top||Region.ready .any ops listed==i::o.alts)&&k.ok ops true (listed.setIfInBounds i true)&&o.ok ops false listed
def OT.depth:OT→Nat
 |.fin=>0
 |.rd _ k=>k.depth+1
 |.br _ k _=>k.depth+1
def OT.even:Bool→Nat→OT→Bool
 |top,n,.fin=>!top||n==0
 |_,0,_=>false
 |_,n+1,.rd _ k=>k.even true n
 |_,n+1,.br _ k o=>k.even true n&&o.even false (n+1)
def gM(P:Program)(l:List Oper)(Q:Exit→Act→wO→Prop)(S:wO→Prop):Bool→OT→Act→wO→Prop
 |top,.fin,a,w=>top=true→Q .normal a w
 |_,.rd i k,a,w=>∃o v,l[i]?=some o∧YieldsIf P l.toArray S o v a∧gM P l Q S true k (a.put o.dst v) w
 |_,.br i k h,a,w=>(∃o,l[i]?=some o∧wpList P l.toArray (Exit.then (λa' w'=>S w'∧gM P l Q S true k a' w') Q) [o] a w)∧gM P l Q S false h a w
section
variable{P:Program}{n:Nat}{Q:Bh}{S:wO→Prop}{l:List Oper}
theorem OT.alts_mem:∀(t:OT)(ops:Array Oper)(listed:Array Bool)(m:Nat)(j:Nat),t.ok ops false listed=true→t.even false m=true→j∈t.alts→∃k,k.ok ops true (listed.setIfInBounds j true)=true∧(∃K,m=K+1∧k.even true K=true) ∧
   ∀(P:Program)(l:List Oper)(G:Exit→Act→wO→Prop)(S:wO→Prop)(a:Act)(w:wO),gM P l G S false t a w→∃o,l[j]?=some o∧wpList P l.toArray (Exit.then (λa' w'=>S w'∧gM P l G S true k a' w') G) [o] a w
 |.fin,_,_,_,_,_,_,h=>by cases h
 |.rd _ _,_,_,_,_,_,_,h=>by cases h
 |.br i k o,ops,listed,m,j,F,D,J=>by
   simp only[OT.ok,Bool.and_eq_true] at F
   cases m with
   |zero=>simp[OT.even] at D
   |succ m =>
     simp only[OT.even,Bool.and_eq_true] at D;simp only[OT.alts,List.mem_cons] at J;rcases J with rfl|J
     · exact⟨k,F.1.2,⟨m,C,D.1⟩,λP l G S a w h=>h.1⟩
     · obtain⟨L,O,U,W⟩:=OT.alts_mem o ops listed (m+1) j F.2 D.2 J
       exact⟨L,O,U,λP l G S a w h=>W P l G S a w h.2⟩
theorem M0(U:Region.noSelect l.toArray=true)(G:PI Q):∀(m:Nat)(t:OT)(listed:Array Bool)(a:Act)(w:wO),t.even true m=true→t.ok l.toArray true listed=true→S w→gM P l (Q.up n) S true t a w→wpAnyH P .any l.toArray (Q.up n) S m listed a w
 |m,.fin,listed,a,w,D,F,L,h=>by
   simp[OT.even] at D;subst D;exact wpAnyH_done (by simpa[OT.ok] using F) (h C) 0
 |0,.rd _ _,_,_,_,D,_,_,_=>by simp[OT.even] at D
 |0,.br _ _ _,_,_,_,D,_,_,_=>by simp[OT.even] at D
 |m+1,.rd i k,listed,a,w,D,F,L,h=>by
   simp only[OT.ok,Bool.and_eq_true,Bool.true_and] at F;obtain⟨o,v,hi,hy,h'⟩:=h
   exact wpAnyH_take (by simpa using hi) U F.1.1 F.1.2 (λc a w O=>by
     cases hd:o.dst with
     |none=>rw[hd] at O;exact O
     |some d=>rw[hd] at O;exact fO G O) hy L (M0 U G m k _ _ w D F.2 L h')
 |m+1,.br i k o,listed,a,w,D,F,L,h=>by
   have J:(OT.br i k o).ok l.toArray false listed=true:=by
     simp only[OT.ok,Bool.and_eq_true] at F ⊢;exact⟨⟨C,F.1.2⟩,F.2⟩
   have K:(OT.br i k o).even false (m+1)=true:=D
   have W:Region.ready .any l.toArray listed=(OT.br i k o).alts:=by
     simp only[OT.ok,Bool.and_eq_true,Bool.not_true,Bool.false_or,beq_iff_eq] at F;exact F.1.1
   have Y:gM P l (Q.up n) S false (.br i k o) a w:=h;refine wpAnyH_all W (by simp[OT.alts]) λj hj=>?_;obtain⟨k',h1,⟨m',hm,h2⟩,h3⟩:=OT.alts_mem (.br i k o) l.toArray listed (m+1) j J K hj;obtain rfl:m=m':=oM;obtain⟨op,Z,hwl⟩:=h3 P l (Q.up n) S a w Y;exact wpOp_mono (λa' w' hk=>⟨hk.1,M0 U G m k' _ a' w' h2 h1 hk.1 hk.2⟩) (IF (by simpa using Z) (λ_ _ h=>h) hwl)
def XP(P:Program)(n:Nat)(l:List Oper)(Q:Bh)(S:wO→Prop)(top:Bool)(t:OT)(σ:Bp)(ds:List Deferred)(w:wO):Prop :=
 ∀a,St n σ ds a→gM P l (Q.up n) S top t a w
variable{σ:Bp}{ds:List Deferred}{w:wO}{op:Op}{ty:tI}{AX:String}{af:Array Edge}{d i:Nat}{k o:OT}{top:Bool}
variable {id:Nat}
theorem Eu(hm:P.follows .mixedOrders=true)(S:wO→Prop)(t:OT)(F:t.ok l.toArray true (Array.replicate l.length false)=true)(G:t.even true l.length=true)(D:Region.noSelect l.toArray=true)
   (h:∀w',AY w w'→w'.heap.size=w.heap.size→S w'∧XP P n l Q S true t σ ds w') (J:PI Q:=by exact λ_ _ _ _ _ h=>h):HI P n (.region id l.toArray true) Q σ ds w:=λa K=>by
 refine wp_region_held (S:=S) hm ?_;obtain⟨L,O⟩:=h w.drew AY.drew C;have:=M0 (P:=P) (n:=n) (Q:=Q) D J l.length t (Array.replicate l.length false) a w.drew G F L (O a K);simpa using this
theorem BC(h:Q.q .normal σ ds w):XP P n l Q S true .fin σ ds w:=λ_ D _=>⟨σ,ds,D,h⟩
theorem Ag:XP P n l Q S false .fin σ ds w:=λ_ _ h=>by cases h
theorem Ax{v:Value}(F:l[i]?=some ⟨some d,op,ty,AX,af,none⟩)(hd:Nat.blt d n=true)(G:∀w,S w→AR P σ op ty w v w)(h:XP P n l Q S true k (AH σ d v) ds w):XP P n l Q S top (.rd i k) σ ds w:=λa D =>
 ⟨_,v,F,.inl ⟨by simp[Region.wanted],λw J=>G w J a.eval _ _ _ _ D.ev⟩,h _ (D.put hd v)⟩
def Z8(P:Program)(n:Nat)(l:List Oper)(Q:Bh)(S:wO→Prop)(k:OT):Bh :=
 {q:=λe σ ds w=>match e with|.normal=>S w∧XP P n l Q S true k σ ds w|e=>Q.q e σ ds w,p:=Q.p}
theorem Ap(D:S w)(h:XP P n l Q S true k σ ds w):(Z8 P n l Q S k).q .normal σ ds w:=⟨D,h⟩
theorem An{x:Oper}(Z:l[i]?=some x)(h:Hd P n l.toArray (Z8 P n l Q S k) [x] σ ds w)(h2:XP P n l Q S false o σ ds w):XP P n l Q S top (.br i k o) σ ds w:=λa U=>by
 refine⟨⟨x,Z,?_⟩,h2 a U⟩;have D:=h a U;unfold wpList at D ⊢
 split
 · rename_i hw
   rw[if_pos hw] at D;rcases D with D|⟨_,a',w',h'⟩
   · refine .inl ?_
     unfold Oper.wp at D ⊢;generalize (execOp a.eval x).run P w=rr at D ⊢
     have key:∀a' w',wpList P l.toArray ((Z8 P n l Q S k).up n) [] a' w'→wpList P l.toArray (Exit.then (λa' w'=>S w'∧gM P l (Q.up n) S true k a' w') (Q.up n)) [] a' w':=λa' w' hk=>by
       obtain⟨K,L,F,G⟩:=hk;exact⟨G.1,G.2 a' F⟩
     cases rr with
     |ok nx w' =>
       cases nx <;> simp only[Oper.upon] at D ⊢ <;> first
         |exact key _ _ D
         |(
           refine Calls.mono D λe O he=>?_
           cases e with
           |returned v=>exact key _ _ he
           |panicked c=>exact he
           |outgrown=>obtain⟨W,Y,J⟩:=he;exact J.elim)
         |exact Rows.mono D λv O he=>key _ _ he
     |halt hh w'=>cases hh <;> simp only[Oper.upon] at D ⊢ <;> exact D
   · exact h'.elim
 · rename_i hw
   rw[if_neg hw] at D;obtain⟨K,L,F,G⟩:=D;exact⟨G.1,G.2 _ F⟩
end
def C0(w:World)(e:TypeId)(size:Nat)(a:Option Addr)(c n:Nat)(xs:List Value):Prop :=
 xs.length=n*size∧((a=none∧c=0∧n=0)∨∃b l,a=some ⟨b,0,none⟩∧AS w b l e∧n≤c∧c≤maxLen∧l.length=c*size∧l.take (n*size)=xs)
def rb(a:Option Addr):Option Nat:=a.map (·.block)
theorem GC(w:World)(e:TypeId)(size:Nat):C0 w e size none 0 0 []:=⟨by simp,.inl ⟨C,C,C⟩⟩
structure G1(a:Option Addr)(w:World)(a':Option Addr)(w':World):Prop where
 os:w'.os=w.os
 tape:w'.tape=w.tape
 output:w'.output=w.output
 size:w.heap.size≤w'.heap.size
 block:∀k,k<w.heap.size→some k≠rb a→w'.heap[k]?=w.heap[k]?
 own:rb a'=rb a∨rb a'=some w.heap.size
variable {l xs zl:List Value}{b bytes cs m off:Nat}{a' q':Option Addr}{Ts:TypeId}
theorem C0.ext{w:World}{size:Nat}{c n:Nat}(h:C0 w e size a c n xs)(D:AY w w'):C0 w' e size a c n xs :=
 ⟨h.1,h.2.imp id λ⟨b,l,F,G,J⟩=>⟨b,l,F,G.ext D,J⟩⟩
theorem C0.chg{w:World}{size:Nat}{c n:Nat}(h:C0 w e size a c n xs)(G:GW b w w')(D:rb a≠some b):C0 w' e size a c n xs :=
 ⟨h.1,h.2.imp id λ⟨g,l,F,J,K⟩=>⟨g,l,F,J.chg G (λe=>D (by rw[F,← e];rfl)),K⟩⟩
theorem AS.grow{w:World}{T:TypeId}(h:AS w b l T)(F:G1 a w a' w')(D:some b≠rb a):AS w' b l T:=(F.block b h.lt D).trans h
theorem C0.grow{w:World}{size:Nat}{c n:Nat}{q:Option Addr}(h:C0 w e size a c n xs)(J:G1 q w q' w')(F:rb a=none∨rb a≠rb q):C0 w' e size a c n xs :=
 ⟨h.1,h.2.imp id λ⟨g,l,G,K,L⟩=>⟨g,l,G,K.grow J (λe=>by
   rcases F with D|D
   · rw[G] at D;cases D
   · exact D (by rw[G];exact e)),L⟩⟩
theorem AY.grow{w:World}(h:AY w w1)(D:G1 a w1 a' w2)(G:∀b,rb a=some b→w.heap.size≤b):AY w w2 :=
 ⟨D.os.trans h.os,D.tape.trans h.tape,D.output.trans h.output,Nat.le_trans h.size D.size,λk F=>(D.block k (Nat.lt_of_lt_of_le F h.size) (λe=>by have:=G k e.symm;omega)).trans (h.block k F)⟩
theorem C0.lt{w:World}{size:Nat}{c n:Nat}(h:C0 w e size a c n xs)(D:rb a=some b):b<w.heap.size:=by
 rcases h.2 with ⟨F,_⟩|⟨g,l,F,G,_⟩
 · rw[F] at D;cases D
 · rw[F] at D;cases D;exact G.lt
theorem C0.n_le{w:World}{size:Nat}{c n:Nat}(h:C0 w e size a c n xs):n≤c:=by
 rcases h.2 with ⟨_,D,F⟩|⟨g,l,D,F,G,_⟩ <;> omega
section
variable{P:Program}{n:Nat}{Q:Bh}{σ:Bp}{ds:List Deferred}{w:World}{ops:Array Oper}{ty T:TypeId}{AX:String}{af:Array Edge}{rest:List Oper}{d:Nat}{x y:Operand}
def P0(P:Program)(T:TypeId):Option (TypeId×Nat×Nat×List Value) :=
 match P.underlying T with
 |some (.slice e)=>match P.info? e with
   |some i=>match i.zero with
     |some z=>some (e,i.size,i.bytes,z.cells.toList)
     |none=>none
   |none=>none
 |_=>none
theorem XD{size:Nat}(U:P0 P T=some (e,size,bytes,zl))(hzl:Nat.beq zl.length size=true)(hsz:Nat.blt 0 size=true){c k src:Nat}{news:List Value}
   (hs:ev σ x=some (.slice a k c)) (hx:ev σ y=some (.slice (some ⟨src,off,none⟩) m cs)) (G:C0 w e size a c k xs) (D:∀j u,news[j]?=some u→w.cell? ((⟨src,off,none⟩:Addr).add j)=some u) (hl:news.length=m*size)
   (h1:∀v∈news,v.oneCell'=true) (hm:0<m) (h47:(k+m)*bytes≤140737488355328) (h63:k+m≤9223372036854775807) :
   ∃a' c' w',AR P σ (.call {callee:=.builtin .append,args:=#[x,y],argTypes:=#[T,T]}) ty w (.slice a' (k+m) c') w'∧C0 w' e size a' c' (k+m) (xs++news)∧G1 a w a' w':=by
 unfold P0 at U
 split at U
 · rename_i F hu
   split at U
   · rename_i i hi
     split at U
     · rename_i z hz
       injection U with U
       obtain⟨rfl,rfl,rfl,rfl⟩:=by simpa using U
       have hzl':z.cells.size=i.size:=by have:=Nat.eq_of_beq_eq_true hzl;simpa using this
       have hsz':0<i.size:=Nat.le_of_ble_eq_true hsz;have hlen:(xs++news).length=(k+m)*i.size:=by rw[List.length_append,G.1,hl,Nat.add_mul]
       have grown:∀old:Nat,C0 (w.drew.alloc (.cells (xs.toArray++news.toArray++Builtin.zeroCells z.cells (grownCap w (k+m) old F-(k+m))) F)) F i.size (some ⟨w.heap.size,0,none⟩) (grownCap w (k+m) old F) (k+m) (xs++news) ∧
           G1 a w (some ⟨w.heap.size,0,none⟩) (w.drew.alloc (.cells (xs.toArray++news.toArray++Builtin.zeroCells z.cells (grownCap w (k+m) old F-(k+m))) F)):=by
         intro old;have hge:=grownCap_ge w (k+m) old F;have Z:grownCap w (k+m) old F≤maxLen:=grownCap_le_maxLen w (k+m) old F (by unfold maxLen;omega);refine⟨⟨hlen,.inr ⟨w.heap.size,xs++news++(Builtin.zeroCells z.cells (grownCap w (k+m) old F-(k+m))).toList,C,?_,hge,Z,?_,?_⟩⟩,⟨C,C,C,by simp,λj W _=>Below.heap_alloc w.drew _ j W,.inr C⟩⟩
         · have:=heap_alloc_new w.drew (.cells (xs.toArray++news.toArray++Builtin.zeroCells z.cells (grownCap w (k+m) old F-(k+m))) F)
           unfold AS
           have e2:(xs++news++(Builtin.zeroCells z.cells (grownCap w (k+m) old F-(k+m))).toList).toArray=xs.toArray++news.toArray++Builtin.zeroCells z.cells (grownCap w (k+m) old F-(k+m)):=by
             apply Array.ext';simp
           rw[e2];exact this
         · simp only[List.length_append,Array.length_toList,size_zeroCells,hzl',G.1,hl,← Nat.add_mul]
           congr 1
           omega
         · rw[← hlen];exact List.take_left
       have J:∀(v':Value)(w':World),(Builtin.append_ #[T,T] ty #[.slice a k c,.slice (some ⟨src,off,none⟩) m cs]).run P w=.ok v' w' →
           AR P σ (.call {callee:=.builtin .append,args:=#[x,y],argTypes:=#[T,T]}) ty w v' w':=λv' w' hr ρ _ _ _ _ hρ=>by
         simp only[execOp,resolve,invoke,builtin,Sem.run_bind,Sem.run_pure,Result.andThen_ok,List.map_toArray,List.map_cons,List.map_nil,hρ _ _ hs,hρ _ _ hx,hr]
       rcases G.2 with ⟨rfl,rfl,rfl⟩|⟨g,l,rfl,hg,hnc,Z,hcs,O⟩
       · have hxs:xs=[]:=List.eq_nil_of_length_eq_zero (by simpa using G.1)
         subst hxs;have hr:=run_append_nil (P:=P) w T ty F i z hu hi hz ⟨src,off,none⟩ m cs news hl D hm oM (by have hb:=h47;simp only[Nat.zero_add] at hb;omega);have L:=grown 0;simp only[Nat.zero_add,List.nil_append,Array.empty_append] at L ⊢;exact⟨_,_,_,J _ _ hr,L.1,L.2⟩
       · by_cases K:k+m≤c
         · have Y:k*i.size+news.length≤l.toArray.size:=by rw[hl,List.size_toArray,hcs,← Nat.add_mul];exact Nat.mul_le_mul_right _ K
           have hr:=run_append_room (P:=P) w T ty F i hu hi g k c l.toArray hg ⟨src,off,none⟩ m cs news hl D h1 K Y
           refine⟨some ⟨g,0,none⟩,c,_,J _ _ hr,⟨hlen,.inr ⟨g,l.take (k*i.size)++news++l.drop (k*i.size+news.length),C,setRow_heap w g _ _ F _ hg,K,Z,?_,?_⟩⟩,
             ⟨C,C,C,by simp[World.setRow],λj _ W=>setRow_other w g j _ (λe=>W (by rw[e];rfl)),.inl C⟩⟩
           · simp only[List.size_toArray] at Y
             simp only[List.length_append,List.length_take,List.length_drop];omega
           · rw[O,← hlen];exact List.take_left
         · have holds:∀j u,xs[j]?=some u→w.cell? ((⟨g,0,none⟩:Addr).add j)=some u:=λj u W=>by
             rw[EO,hg.cell,Nat.zero_add];rw[← O] at W
             have hlt:j<k*i.size:=by
               rcases Nat.lt_or_ge j (k*i.size) with h|h
               · exact h
               · rw[List.getElem?_take,if_neg (by omega)] at W;cases W
             rwa[List.getElem?_take,if_pos hlt] at W
           have hr:=run_append_grow (P:=P) w T ty F i z hu hi hz ⟨g,0,none⟩ k c xs G.1 holds ⟨src,off,none⟩ m cs news hl D oM oM (growslice_fits oM h47);have L:=grown c;exact⟨_,_,_,J _ _ hr,L.1,L.2⟩
     · cases U
   · cases U
 · cases U
theorem sE{size:Nat}(Y:P0 P T=some (e,size,bytes,zl))(K:Nat.beq zl.length size=true)(L:Nat.blt 0 size=true){c k src:Nat}{sl news:List Value}
   (Z:ev σ x=some (.slice a k c)) (hx:ev σ y=some (.slice (some ⟨src,off,none⟩) m cs)) (F:C0 w e size a c k xs) (G:AS w src sl Ts) (D:(sl.drop off).take (m*size)=news) (hl:news.length=m*size)
   (h1:∀v∈news,v.oneCell'=true) (hm:0<m) (O:(k+m)*bytes≤140737488355328) (U:k+m≤9223372036854775807) :
   ∃a' c' w',AR P σ (.call {callee:=.builtin .append,args:=#[x,y],argTypes:=#[T,T]}) ty w (.slice a' (k+m) c') w'∧C0 w' e size a' c' (k+m) (xs++news)∧G1 a w a' w':=by
 refine XD Y K L Z hx F (λj u J=>?_) hl h1 hm O U;rw[EO,G.cell];rw[← D] at J
 have W:j<m*size:=by
   rcases Nat.lt_or_ge j (m*size) with h|h
   · exact h
   · rw[List.getElem?_take,if_neg (by omega)] at J;cases J
 rwa[List.getElem?_take,if_pos W,List.getElem?_drop] at J
theorem jM{size:Nat}(hd:Nat.blt d n=true)(W:P0 P T=some (e,size,bytes,zl))(J:Nat.beq zl.length size=true)(K:Nat.blt 0 size=true){c k src:Nat}{sl news:List Value}
   (Y:ev σ x=some (.slice a k c)) (Z:ev σ y=some (.slice (some ⟨src,off,none⟩) m cs)) (F:C0 w e size a c k xs) (G:AS w src sl Ts) (D:(sl.drop off).take (m*size)=news) (hl:news.length=m*size)
   (h1:∀v∈news,v.oneCell'=true) (hm:0<m) (L:(k+m)*bytes≤140737488355328)
   (h:∀a' c' w',C0 w' e size a' c' (k+m) (xs++news)→G1 a w a' w'→Hd P n ops Q rest (AH σ d (.slice a' (k+m) c')) ds w') (O:k+m≤9223372036854775807) :
   Hd P n ops Q (⟨some d,.call {callee:=.builtin .append,args:=#[x,y],argTypes:=#[T,T]},ty,AX,af,none⟩::rest) σ ds w:=by
 obtain⟨a',c',w',hr,U,hg⟩:=sE (ty:=ty) W J K Y Z F G D hl h1 hm L O;exact Ab hd hr (h a' c' w' U hg)
theorem Bi{size:Nat}(hd:Nat.blt d n=true)(U:P0 P T=some (e,size,bytes,zl))(J:Nat.beq zl.length size=true)(K:Nat.blt 0 size=true){c k src:Nat}{news:List Value}
   (W:ev σ x=some (.slice a k c)) (Y:ev σ y=some (.slice (some ⟨src,0,none⟩) 1 cs)) (D:C0 w e size a c k xs) (F:AS w src news Ts) (Z:Nat.beq news.length size=true)
   (h1:No news=true) (L:(k+1)*bytes≤140737488355328) (O:k+1≤9223372036854775807)
   (h:∀a' c' w',C0 w' e size a' c' (k+1) (xs++news)→G1 a w a' w'→Hd P n ops Q rest (AH σ d (.slice a' (k+1) c')) ds w') :
   Hd P n ops Q (⟨some d,.call {callee:=.builtin .append,args:=#[x,y],argTypes:=#[T,T]},ty,AX,af,none⟩::rest) σ ds w:=by
 have G:=Nat.eq_of_beq_eq_true Z;exact jM hd U J K W Y D F (by simp[← G]) (by simpa using G) (Mw h1) oM L h O
end
def gC(P:Program)(T:TypeId):Bool:=match P.underlying T with|some (.interface _)=>true|_=>false
def tas(P:Program)(T:TypeId):Bool:=match P.underlying T with|some (.interface _)=>false|some _=>true|none=>false
def jQ(P:Program)(s d:TypeId):Option IntKind:=match P.underlying s,P.underlying d with|some _,some (.int k)=>some k|_,_=>none
def vW(P:Program)(s d:TypeId):Option TypeId:=match P.underlying s with
 |some (.slice e)=>match P.underlying e,P.underlying d with
   |some (.int .u8),some .string=>some e
   |_,_=>none
 |_=>none
end Go.SW
namespace Go.SP
structure A4 where
 k:Int
 ln:Int
 co:Int
 nm:Int
 tx:lU
inductive Fo where
 |nil
 |cons (t:A4) (kids rest:Fo)
def Fo.len:Fo→Nat
 |.nil=>0
 |.cons _ _ r=>r.len+1
def A4.ok(t:A4):Prop:=(t.k=5→t.tx≠[])∧t.tx.length≤100000
def Fo.ok:Fo→Prop
 |.nil=>True
 |.cons t k r=>t.ok∧k.ok∧k.len≤100000∧r.ok
def Fo.all(p:A4→Fo→Prop):Fo→Prop
 |.nil=>True
 |.cons t k r=>p t k∧r.all p
def Fo.snoc:Fo→A4→Fo→Fo
 |.nil,t,k=>.cons t k .nil
 |.cons u l r,t,k=>.cons u l (r.snoc t k)
def Fo.app:Fo→Fo→Fo
 |.nil,y=>y
 |.cons u l r,y=>.cons u l (r.app y)
def Fo.deep:Nat→Fo→Bool
 |_,.nil=>true
 |0,.cons _ _ _=>false
 |n+1,.cons _ l r=>l.deep n&&r.deep (n+1)
def GK(n:Nat)(t:A4)(k:Fo):Prop:=t.ok∧k.ok∧k.len≤100000∧k.deep n=true
theorem OV:∀(n:Nat)(fo:Fo),fo.ok→fo.deep (n+1)=true→fo.all (GK n)
 |_,.nil,_,_=>trivial
 |n,.cons t k r,h,hd=>by
   simp only[Fo.deep,Bool.and_eq_true] at hd;exact⟨⟨h.1,h.2.1,h.2.2.1,hd.1⟩,OV n r h.2.2.2 hd.2⟩
inductive Nd where
 |nil
 |cons (op ln co:Int) (tx:lU) (nm:Int) (kids rest:Nd)
def Nd.len:Nd→Nat
 |.nil=>0
 |.cons _ _ _ _ _ _ r=>r.len+1
def Nd.app:Nd→Nd→Nd
 |.nil,y=>y
 |.cons a b c d e l r,y=>.cons a b c d e l (r.app y)
structure N where
 op:Int
 ln:Int
 co:Int
 tx:lU
 nm:Int
 kids:Nd
def N.cons(a:N)(r:Nd):Nd:=.cons a.op a.ln a.co a.tx a.nm a.kids r
def N.one(a:N):Nd:=a.cons .nil
abbrev R:=Except (Int×Int)
def DH:lU→lU→Bool
 | [],sub=>sub.isEmpty
 |b::l,sub=>sub.isPrefixOf (b::l)||DH l sub
theorem Tf(sub:lU):∀l,-1≤Lib.index l sub
 | []=>by unfold Lib.index;split <;> omega
 |b::l=>by
   have:=Tf sub l;unfold Lib.index
   split
   · omega
   · split <;> omega
theorem Jp(sub:lU):∀l,Lib.contains l sub=DH l sub
 | []=>by unfold Lib.contains Lib.index DH;cases h:sub.isEmpty <;> simp
 |b::l=>by
   have D:=Jp sub l;have G:=Tf sub l;unfold Lib.contains at D ⊢;unfold Lib.index DH
   cases K:sub.isPrefixOf (b::l) with
   |true=>simp
   |false =>
     rw[← D];simp only[Bool.false_eq_true,if_false,Bool.false_or]
     by_cases F:Lib.index l sub = -1
     · simp[F]
     · have J:¬(Lib.index l sub == -1)=true:=by simpa using F
       rw[if_neg J];simp only[decide_eq_decide];omega
def pF:lU:=[32,102,110,32,108,101,116,32,114,101,99,32,105,102,32,115,101,113,32,116,117,112,108,101,32,99,97,115,101,32,116,114,121,32,114,97,105,115,101,32,116,114,97,110,115,97,99,116,32,100,97,116,97,32,114,111,111,116,32,100,101,102,32,100,111,32]
def uF:lU:=[32,45,62,32,116,117,112,108,101,32,114,101,102,32,112,114,101,102,32]
def NJ(tx:lU):Bool:=DH pF ([32]++tx++[32])
def Vf(tx:lU):Bool:=DH uF ([32]++tx++[32])
def iC(tx:lU):UInt8:=tx.headD 0
namespace A4
def isWord(t:A4)(s:lU):Bool:=t.k==5&&t.tx==s
def isVar(t:A4):Bool:=t.k==5&&(!(t.tx==[95])&&(((iC t.tx).toNat:Int) != 39&&!NJ t.tx))
def isHole(t:A4):Bool:=t.isVar||t.isWord [95]
def isTypeName(t:A4):Bool:=t.isVar&&!Vf t.tx
def isTypeVar(t:A4):Bool:=t.k==5&&(((iC t.tx).toNat:Int)==39&&decide (1<(t.tx.length:Int)))
end A4
def within(n lo h:Int):Bool:=decide (lo≤n)&&decide (n≤h)
def QL(t:A4):Fo→Bool
 |.nil=>false
 |.cons h _ _=>t.k==0&&h.isWord [102,110]
def need{α:Type}(t:A4)(b:Bool)(x:R α):R α:=if b then x else .error (t.ln,t.co)
def Av(t:A4)(op:Int)(tx:lU)(kids:Nd):N:=⟨op,t.ln,t.co,tx,0,kids⟩
def AA(f:A4→Fo→R N):Fo→R Nd
 |.nil=>.ok .nil
 |.cons t k r=>match f t k with
   |.error e=>.error e
   |.ok a=>match AA f r with
     |.error e=>.error e
     |.ok b=>.ok (a.cons b)
def H2(t:A4)(_:Fo):R N:=.ok (if t.isWord [95] then Av t 21 [] .nil else Av t 22 t.tx .nil)
def KE:Fo→Bool
 |.nil=>true
 |.cons t _ r=>t.isHole&&KE r
def BS(seen:List lU):Nd→Option (List lU)
 |.nil=>some seen
 |.cons op _ _ tx _ kids rest =>
   match (if op==22 then (if seen.contains tx then none else some (tx::seen)) else some seen) with
   |none=>none
   |some s1=>match BS s1 kids with
     |none=>none
     |some s2=>BS s2 rest
def Dw:Nat→A4→Fo→R N
 |0,t,_=>.error (t.ln,t.co)
 |n+1,t,kids =>
   if t.k==2 then .ok ⟨23,t.ln,t.co,[],t.nm,.nil⟩
   else if t.k==4 then .ok (Av t 24 t.tx .nil)
   else if t.k==6 then .ok (Av t 26 t.tx .nil)
   else if t.k==5 then need t t.isHole (H2 t kids)
   else if t.k==3 then .error (t.ln,t.co)
   else match kids with
     |.nil=>.ok (Av t 25 [] .nil)
     |.cons h _ l =>
       if h.k==6 then need t (within l.len 1 8) (match AA (Dw n) l with|.error e=>.error e|.ok D=>.ok (Av t 26 h.tx D))
       else need t (h.isWord [116,117,112,108,101]&&within l.len 2 8) (match AA (Dw n) l with|.error e=>.error e|.ok D=>.ok (Av t 27 [] D))
def CW(t:A4):Nd→Option N
 |.nil=>none
 |.cons op ln co tx nm kids r=>match r with
   |.nil=>some ⟨op,ln,co,tx,nm,kids⟩
   |_=>match CW t r with
     |none=>none
     |some o=>some (Av t 32 [45,62] (.cons op ln co tx nm kids o.one))
def Dm:Nat→A4→Fo→R N
 |0,t,_=>.error (t.ln,t.co)
 |n+1,t,kids =>
   if t.k==0 then match kids with
     |.nil=>.error (t.ln,t.co)
     |.cons h _ l =>
       if h.isWord [45,62] then need t (decide ((2:Int)≤l.len)) (match AA (Dm n) l with
         |.error e=>.error e
         |.ok D=>match CW t D with
           |some o=>.ok o
           |none=>.error (t.ln,t.co))
       else
         let ok:=if h.isWord [116,117,112,108,101] then within l.len 2 8
           else if h.isWord [114,101,102]||h.isWord [112,114,101,102] then (l.len:Int)==1
           else h.isTypeName&&within l.len 1 8
         need t ok (match AA (Dm n) l with|.error e=>.error e|.ok D=>.ok (Av t 32 h.tx D))
   else if t.isTypeVar then .ok (Av t 31 t.tx .nil)
   else need t t.isTypeName (.ok (Av t 32 t.tx .nil))
def Fb(n:Nat)(ex:A4→Fo→R N)(t:A4)(kids:Fo):R N :=
 match kids with
 |.cons p h (.cons b bk .nil)=>need t (t.k==0) (match Dw n p h with
   |.error e=>.error e
   |.ok q=>need p (BS [] q.one).isSome (match ex b bk with
     |.error e=>.error e
     |.ok x=>.ok (Av t 18 [] (q.cons x.one))))
 |_=>.error (t.ln,t.co)
def Bf(n:Nat)(ex:A4→Fo→R N)(t:A4)(w:lU)(l:Fo):R N :=
 if w==[102,110] then match l with
   |.cons p G (.cons b bk .nil)=>need t (p.k==0&&(within G.len 1 8&&KE G)) (match AA H2 G with
     |.error e=>.error e
     |.ok K=>match ex b bk with
       |.error e=>.error e
       |.ok x=>.ok (Av t 7 [] (K.app x.one)))
   |_=>.error (t.ln,t.co)
 else if w==[108,101,116] then match l with
   |.cons v _ (.cons e h (.cons b bk .nil))=>need t v.isHole (match ex e h with
     |.error e=>.error e
     |.ok x=>match ex b bk with
       |.error e=>.error e
       |.ok y=>.ok (Av t 9 v.tx (x.cons y.one)))
   |_=>.error (t.ln,t.co)
 else if w==[114,101,99] then match l with
   |.cons v _ (.cons e h (.cons b bk .nil))=>need t (v.isVar&&QL e h) (match ex e h with
     |.error e=>.error e
     |.ok x=>match ex b bk with
       |.error e=>.error e
       |.ok y=>.ok (Av t 10 v.tx (x.cons y.one)))
   |_=>.error (t.ln,t.co)
 else if w==[105,102] then need t ((l.len:Int)==3) (match AA ex l with|.error e=>.error e|.ok D=>.ok (Av t 11 [] D))
 else if w==[115,101,113] then need t (decide ((1:Int)≤l.len)) (match AA ex l with|.error e=>.error e|.ok D=>.ok (Av t 12 [] D))
 else if w==[116,117,112,108,101] then need t (within l.len 2 8) (match AA ex l with|.error e=>.error e|.ok D=>.ok (Av t 13 [] D))
 else if w==[99,97,115,101]||w==[116,114,121] then need t (decide ((2:Int)≤l.len)) (match l with
   |.nil=>.error (t.ln,t.co)
   |.cons e h F=>match ex e h with
     |.error e=>.error e
     |.ok x=>match AA (Fb n ex) F with
       |.error e=>.error e
       |.ok J=>.ok (Av t (if w==[116,114,121] then 15 else 14) [] (x.cons J)))
 else if w==[114,97,105,115,101]||w==[116,114,97,110,115,97,99,116] then match l with
   |.cons e h .nil=>match ex e h with
     |.error e=>.error e
     |.ok x=>.ok (Av t (if w==[116,114,97,110,115,97,99,116] then 17 else 16) [] x.one)
   |_=>.error (t.ln,t.co)
 else .error (t.ln,t.co)
def AO:Nat→A4→Fo→R N
 |0,t,_=>.error (t.ln,t.co)
 |n+1,t,kids =>
   if t.k==2 then .ok ⟨1,t.ln,t.co,[],t.nm,.nil⟩
   else if t.k==3 then .ok (Av t 2 t.tx .nil)
   else if t.k==4 then .ok (Av t 3 t.tx .nil)
   else if t.k==6 then .ok (Av t 6 t.tx .nil)
   else if t.k==5 then need t t.isVar (.ok (Av t 5 t.tx .nil))
   else match kids with
     |.nil=>.ok (Av t 4 [] .nil)
     |.cons h _ l =>
       if h.k==6 then need t (within l.len 1 8) (match AA (AO n) l with|.error e=>.error e|.ok D=>.ok (Av t 6 h.tx D))
       else if h.k==5&&NJ h.tx then Bf n (AO n) t h.tx l
       else need t (within l.len 1 8) (match AA (AO n) kids with|.error e=>.error e|.ok D=>.ok (Av t 8 [] D))
def FL(n:Nat)(t:A4)(kids:Fo):R N :=
 match kids with
 |.nil=>.error (t.ln,t.co)
 |.cons h _ l=>need t (t.k==0&&(h.k==6&&decide ((kids.len:Int)≤9))) (match AA (Dm n) l with|.error e=>.error e|.ok D=>.ok (Av t 42 h.tx D))
def BO:Fo→Option Nd
 |.nil=>some .nil
 |.cons v _ r=>if v.isTypeVar then (match BO r with|none=>none|some x=>some ((Av v 31 v.tx .nil).cons x)) else none
def Cj(n:Nat)(t:A4)(kids:Fo):R N :=
 match kids with
 |.nil=>.error (t.ln,t.co)
 |.cons h _ l=>need t (t.k==0&&h.k==5) (
   if h.tx==[100,97,116,97] then match l with
     |.cons a _ (.cons b bk (.cons c D r))=>need t (a.isTypeName&&(b.k==0&&decide ((bk.len:Int)≤8))) (match BO bk with
       |none=>.error (t.ln,t.co)
       |some vs=>match AA (FL n) (.cons c D r) with
         |.error e=>.error e
         |.ok cs=>.ok (Av t 41 a.tx (vs.app cs)))
     |_=>.error (t.ln,t.co)
   else if h.tx==[114,111,111,116] then match l with
     |.cons a _ (.cons b bk (.cons c D .nil))=>need t a.isVar (match Dm n b bk with
       |.error e=>.error e
       |.ok x=>match AO n c D with
         |.error e=>.error e
         |.ok y=>.ok (Av t 43 a.tx (x.cons y.one)))
     |_=>.error (t.ln,t.co)
   else if h.tx==[100,101,102] then match l with
     |.cons a _ (.cons b bk .nil)=>need t a.isVar (match AO n b bk with|.error e=>.error e|.ok x=>.ok (Av t 44 a.tx x.one))
     |_=>.error (t.ln,t.co)
   else if h.tx==[114,101,99] then match l with
     |.cons a _ (.cons b bk .nil)=>need t (a.isVar&&QL b bk) (match AO n b bk with|.error e=>.error e|.ok x=>.ok (Av t 45 a.tx x.one))
     |_=>.error (t.ln,t.co)
   else if h.tx==[100,111] then match l with
     |.cons b bk .nil=>match AO n b bk with|.error e=>.error e|.ok x=>.ok (Av t 46 [] x.one)
     |_=>.error (t.ln,t.co)
   else .error (t.ln,t.co))
def Ar:List A4→List (A4×Fo)→Fo→R Fo
 | [],[],cur=>.ok cur
 | [],(o,p)::s,_=>match ((o,p)::s).getLast? with
   |some (q,_)=>.error (q.ln,q.co)
   |none=>.error (0,0)
 |k::l,st,cur =>
   if k.k==0 then (if st.length==200 then .error (k.ln,k.co) else Ar l ((k,cur)::st) .nil)
   else if k.k==1 then (match st with
     | []=>.error (k.ln,k.co)
     |(o,p)::s=>Ar l s (p.snoc o cur))
   else Ar l st (cur.snoc k .nil)
end Go.SP
namespace Go.SP
def Hp(n:Nat)(D:Except (Int×Int×Int) (List A4)):Nd×Int×Int×Int :=
 match D with
 |.error e=>(.nil,e)
 |.ok h=>match Ar h [] .nil with
   |.error e=>(.nil,e.1,e.2,10)
   |.ok fo=>match AA (Cj n) fo with
     |.error e=>(.nil,e.1,e.2,10)
     |.ok nds=>(nds,0,0,0)
end Go.SP
namespace Go.SP
open Go.SW Go.RowKit
def Jj(t:A4):List Value:=[.int .i64 t.k,.int .i64 t.ln,.int .i64 t.co,.int .i64 t.nm,S t.tx]
def Sl(U:Nat→Prop)(w:World)(a:Option Addr)(n c len:Nat)(C:List Value→Prop):Prop :=
 n=len∧n≤c∧(n=0∨∃b off l T,U b∧a=some ⟨b,off,none⟩∧AS w b l T∧C (l.drop off))
def HF(U:Nat→Prop)(w:World):Fo→List Value→Prop
 |.nil,_=>True
 |.cons t kids rest,l=>∃a n c l',l=.int .i64 t.k::.int .i64 t.ln::.int .i64 t.co::.int .i64 t.nm::S t.tx::.slice a n c::l'∧Sl U w a n c kids.len (HF U w kids)∧HF U w rest l'
abbrev EL(U:Nat→Prop)(w:World)(a:Option Addr)(n c:Nat)(fo:Fo):Prop:=Sl U w a n c fo.len (HF U w fo)
def Gd(U:Nat→Prop)(w:World):Nd→List Value→Prop
 |.nil,_=>True
 |.cons op ln co tx nm kids rest,l=>∃a n c l',l=.int .i64 op::.int .i64 ln::.int .i64 co::S tx::.int .i64 nm::.slice a n c::l'∧Sl U w a n c kids.len (Gd U w kids)∧Gd U w rest l'
abbrev HC(U:Nat→Prop)(w:World)(a:Option Addr)(n c:Nat)(nd:Nd):Prop:=Sl U w a n c nd.len (Gd U w nd)
variable {vs:List Value}{m:Nat}{U':Nat→Prop}{e:TypeId}
theorem Sl.imp{U:Nat→Prop}{w w':World}{a:Option Addr}{n c len:Nat}{C F:List Value→Prop}(h:Sl U w a n c len C)(G:∀b,U b→b<w.heap.size→U' b∧w'.heap[b]?=w.heap[b]?)(J:∀l,C l→F l):Sl U' w' a n c len F :=
 ⟨h.1,h.2.1,h.2.2.imp id λ⟨b,off,l,T,hu,K,D,L⟩=>⟨b,off,l,T,(G b hu D.lt).1,K,(G b hu D.lt).2.trans D,J _ L⟩⟩
theorem HF.imp{U:Nat→Prop}{w w':World}(h:∀b,U b→b<w.heap.size→U' b∧w'.heap[b]?=w.heap[b]?):∀(fo:Fo)(l:List Value),HF U w fo l→HF U' w' fo l
 |.nil,_,_=>trivial
 |.cons _ kids rest,_,⟨a,n,c,l',D,F,G⟩=>⟨a,n,c,l',D,F.imp h (HF.imp h kids),HF.imp h rest l' G⟩
theorem Gd.imp{U:Nat→Prop}{w w':World}(h:∀b,U b→b<w.heap.size→U' b∧w'.heap[b]?=w.heap[b]?):∀(nd:Nd)(l:List Value),Gd U w nd l→Gd U' w' nd l
 |.nil,_,_=>trivial
 |.cons _ _ _ _ _ kids rest,_,⟨a,n,c,l',D,F,G⟩=>⟨a,n,c,l',D,F.imp h (Gd.imp h kids),Gd.imp h rest l' G⟩
theorem EL.imp{U:Nat→Prop}{w w':World}{a:Option Addr}{n c:Nat}{fo:Fo}(h:EL U w a n c fo)(D:∀b,U b→b<w.heap.size→U' b∧w'.heap[b]?=w.heap[b]?):EL U' w' a n c fo:=Sl.imp h D (HF.imp D fo)
theorem HC.imp{U:Nat→Prop}{w w':World}{a:Option Addr}{n c:Nat}{nd:Nd}(h:HC U w a n c nd)(D:∀b,U b→b<w.heap.size→U' b∧w'.heap[b]?=w.heap[b]?):HC U' w' a n c nd:=Sl.imp h D (Gd.imp D nd)
section
variable{U:Nat→Prop}{w w':World}{a:Option Addr}{n c:Nat}{fo:Fo}{nd:Nd}{l:List Value}
theorem EL.ext(h:EL U w a n c fo)(D:AY w w'):EL U w' a n c fo:=EL.imp h λb hu F=>⟨hu,D.block b F⟩
theorem HC.ext(h:HC U w a n c nd)(D:AY w w'):HC U w' a n c nd:=HC.imp h λb hu F=>⟨hu,D.block b F⟩
theorem HF.ext(h:HF U w fo l)(D:AY w w'):HF U w' fo l:=HF.imp (λb hu F=>⟨hu,D.block b F⟩) fo l h
theorem Gd.ext(h:Gd U w nd l)(D:AY w w'):Gd U w' nd l:=Gd.imp (λb hu F=>⟨hu,D.block b F⟩) nd l h
theorem EL.chg{b:Nat}(h:EL U w a n c fo)(D:GW b w w')(F:¬U b):EL U w' a n c fo:=EL.imp h λk hu _=>⟨hu,D.block k (λe=>F (e▸hu))⟩
theorem HC.chg{b:Nat}(h:HC U w a n c nd)(D:GW b w w')(F:¬U b):HC U w' a n c nd:=HC.imp h λk hu _=>⟨hu,D.block k (λe=>F (e▸hu))⟩
theorem Gd.chg{b:Nat}(h:Gd U w nd l)(D:GW b w w')(F:¬U b):Gd U w' nd l:=Gd.imp (λk hu _=>⟨hu,D.block k (λe=>F (e▸hu))⟩) nd l h
theorem EL.mono(h:EL U w a n c fo)(D:∀b,U b→U' b):EL U' w a n c fo:=EL.imp h λb hu _=>⟨D b hu,C⟩
theorem HC.mono(h:HC U w a n c nd)(D:∀b,U b→U' b):HC U' w a n c nd:=HC.imp h λb hu _=>⟨D b hu,C⟩
theorem Gd.mono(h:Gd U w nd l)(D:∀b,U b→U' b):Gd U' w nd l:=Gd.imp (λb hu _=>⟨D b hu,C⟩) nd l h
theorem Gd.more:∀(nd:Nd)(l m:List Value),Gd U w nd l→Gd U w nd (l++m)
 |.nil,_,_,_=>trivial
 |.cons _ _ _ _ _ kids rest,l,m,⟨a,n,c,l',h,D,F⟩=>⟨a,n,c,l'++m,by rw[h];rfl,D,Gd.more rest l' m F⟩
theorem HF.more:∀(fo:Fo)(l m:List Value),HF U w fo l→HF U w fo (l++m)
 |.nil,_,_,_=>trivial
 |.cons _ kids rest,l,m,⟨a,n,c,l',h,D,F⟩=>⟨a,n,c,l'++m,by rw[h];rfl,D,HF.more rest l' m F⟩
theorem EL.nil(U:Nat→Prop)(w:World)(a:Option Addr)(c:Nat):EL U w a 0 c .nil:=⟨C,Nat.zero_le _,.inl C⟩
theorem HC.nil(U:Nat→Prop)(w:World)(a:Option Addr)(c:Nat):HC U w a 0 c .nil:=⟨C,Nat.zero_le _,.inl C⟩
theorem EL.head{t:A4}{kids rest:Fo}(h:EL U w a n c (.cons t kids rest)):∃b off l T ka kn kc l',U b∧a=some ⟨b,off,none⟩∧AS w b l T ∧
   l.drop off=.int .i64 t.k::.int .i64 t.ln::.int .i64 t.co::.int .i64 t.nm::S t.tx::.slice ka kn kc::l'∧EL U w ka kn kc kids∧HF U w rest l':=by
 obtain⟨D,Q,F|⟨b,off,l,T,hu,G,J,ka,kn,kc,l',K,L,O⟩⟩:=h
 · rw[F] at D;cases D
 · exact⟨b,off,l,T,ka,kn,kc,l',hu,G,J,K,L,O⟩
end
def F3(a:Option Addr)(c sz:Nat):Option Addr:=if c=1 then a else a.map (·.add (1*sz))
theorem EL.rest{U:Nat→Prop}{w:World}{a:Option Addr}{n c:Nat}{t:A4}{kids rest:Fo}(h:EL U w a n c (.cons t kids rest)):EL U w (F3 a c 6) rest.len (c-1) rest:=by
 obtain⟨D,Q,F|⟨b,off,l,T,hu,G,J,ka,kn,kc,l',K,W,L⟩⟩:=h
 · rw[F] at D;cases D
 · have Y:n=rest.len+1:=D
   refine⟨C,oM,?_⟩
   by_cases O:c=1
   · left;omega
   · right
     refine⟨b,off+1*6,l,T,hu,by simp[F3,O,G,EO],J,?_⟩
     have:l.drop (off+1*6)=l':=by
       rw[← List.drop_drop,K];rfl
     rw[this];exact L
section
variable{P:Program}{σ:Bp}{w:World}{ty T:TypeId}{x y lo:Operand}{k b p off q:Nat}{l cells:List Value}{T':TypeId}
theorem Xy{a:Option Addr}{c:Nat}(D:ev σ x=some (.slice a (m+1) c))(h:ev σ lo=some (.int .i64 1))(F:Kj P T=some (e,k)):AR P σ (.slice T x (some lo) none none) ty w (.slice (F3 a c k) m (c-1)) w:=by
 have:=Q6 (w:=w) (ty:=ty) (i:=1) D (by simpa using h) F oM;simpa[F3] using this
theorem cU:∀{cells:List Value}{off q k:Nat}{l vs:List Value},cells.drop off=l→WH l q (k+1)=some vs→WH cells (off+q) (k+1)=some vs
 |cells,0,q,k,l,vs,h,D=>by rw[Nat.zero_add];rw[List.drop_zero] at h;rw[h];exact D
 | [],off+1,q,k,l,vs,h,D=>by
   rw[List.drop_nil] at h;subst h
   cases q <;> cases D
 |c::cells,off+1,q,k,l,vs,h,D=>by
   rw[List.drop_succ_cons] at h;have:=cU h D;rw[show off+1+q=(off+q)+1 by omega];exact this
theorem MG(q:Nat)(h:ev σ x=some (.pointer (some ⟨b,p,none⟩)))(D:Be P T=some (true,k+1))(F:AS w b cells T')(hd:cells.drop off=l)(G:p=off+q)(J:WH l q (k+1)=some vs) :
   AR P σ (.load T x) ty w (.agg vs.toArray) w:=by
 refine Dr h D F ?_;rw[G];exact cU hd J
end
end Go.SP
namespace Go.Proofs.YtgdndhedjlmagaaGreatDoor
open Go.SW Go.RowKit Go.Proofs.Tryz
theorem Jg:P0 prog 36=some (52,5,48,[.int .i64 0,.int .i64 0,.int .i64 0,.int .i64 0,.string ⟨#[]⟩]):=kR
theorem Y3:P0 prog 42=some (54,6,72,[.int .i64 0,.int .i64 0,.int .i64 0,.int .i64 0,.string ⟨#[]⟩,.slice none 0 0]):=kR
theorem ap57:P0 prog 57=some (42,1,24,[.slice none 0 0]):=kR
theorem aK:P0 prog 127=some (5,1,1,[.int .u8 0]):=kR
theorem Uu:vW prog 127 9=some 5:=kR
theorem oN:jQ prog 3 5=some .u8:=kR
theorem jG:jQ prog 3 130=some .u64:=kR
theorem Ly:jQ prog 3 156=some .u64:=kR
theorem Rx:jQ prog 5 130=some .u64:=kR
theorem K1:jQ prog 130 2=some .i64:=kR
theorem nP:jQ prog 131 5=some .u8:=kR
theorem pE:Ca prog 13:=Ao func13 kR kR
theorem Uy:Ca prog 14:=Ao func14 kR kR
theorem ent15:Ca prog 15:=Ao func15 kR kR
theorem eD:Ca prog 18:=Ao func18 kR kR
theorem oX:Ca prog 23:=Ao func23 kR kR
theorem xB:Ca prog 27:=Ao func27 kR kR
theorem NY:Ca prog 41:=Ao func41 kR kR
theorem XG:Ca prog 42:=Ao func42 kR kR
theorem oI:Ca prog 43:=Ao func43 kR kR
theorem Nc:Ca prog 44:=Ao func44 kR kR
theorem qH:Ca prog 45:=Ao func45 kR kR
theorem zG:Ca prog 46:=Ao func46 kR kR
theorem xY:Ca prog 67:=Ao func67 kR kR
theorem xC:Ca prog 68:=Ao func68 kR kR
theorem xI:Ca prog 69:=Ao func69 kR kR
theorem yP:Ca prog 70:=Ao func70 kR kR
theorem gY:Ca prog 71:=Ao func71 kR kR
theorem Ih:Ca prog 72:=Ao func72 kR kR
theorem bR:Ca prog 96:=Ao func96 kR kR
theorem ent97:Ca prog 97:=Ao func97 kR kR
theorem ent98:Ca prog 98:=Ao func98 kR kR
theorem xA:Ca prog 99:=Ao func99 kR kR
theorem sQ:Ca prog 100:=Ao func100 kR kR
theorem dX:Ca prog 102:=Ao func102 kR kR
theorem rM:Ca prog 119:=Ao func119 kR kR
theorem rQ:Ca prog 120:=Ao func120 kR kR
theorem rG:Ca prog 122:=Ao func122 kR kR
theorem uG:Ca prog 123:=Ao func123 kR kR
theorem fX:Ca prog 142:=Ao func142 kR kR
theorem qY:Ca prog 147:=Ao func147 kR kR
theorem uA:Ca prog 161:=Ao func161 kR kR
theorem sJ:Ca prog 166:=Ao func166 kR kR
theorem vH:Ca prog 175:=Ao func175 kR kR
theorem tS:Ca prog 176:=Ao func176 kR kR
theorem uP:Ca prog 184:=Ao func184 kR kR
theorem tO:Ca prog 186:=Ao func186 kR kR
theorem tB:Ca prog 191:=Ao func191 kR kR
theorem uM:Gv prog 25 0=some 0:=kR
theorem vZ:Gv prog 25 1=some 1:=kR
theorem wD:Gv prog 47 0=some 0:=kR
theorem JB:Gv prog 50 0=some 0:=kR
theorem Hf:Gv prog 50 1=some 1:=kR
theorem V5:Gv prog 50 2=some 2:=kR
theorem Dl:Gv prog 50 3=some 4:=kR
theorem tJ:Gv prog 52 1=some 1:=kR
theorem mA:Gv prog 266 0=some 0:=kR
theorem oQ:gC prog 20=true:=kR
theorem Gw:gC prog 158=true:=kR
theorem mixed:prog.follows .mixedOrders=true:=kR
theorem lQ:wP prog 40=true:=kR
theorem JO:wP prog 47=true:=kR
theorem L9:wP prog 206=true:=kR
theorem tF:Pz prog 25=some [(0,1),(1,1)]:=kR
theorem pl40:Pz prog 40=some [(0,2)]:=kR
theorem pl47:Pz prog 47=some [(0,2)]:=kR
theorem pl50:Pz prog 50=some [(0,1),(1,1),(2,2),(4,1)]:=kR
theorem aD:Pz prog 52=some [(0,1),(1,2),(3,1),(4,1)]:=kR
theorem zB:Pz prog 54=some [(0,5),(5,1)]:=kR
theorem H4:Kj prog 36=some (52,5):=kR
theorem Lu:Kj prog 42=some (54,6):=kR
theorem KK:Kj prog 57=some (42,1):=kR
theorem UE:Kj prog 127=some (5,1):=kR
theorem pY:Kj prog 300=some (163,1):=kR
theorem tas47:tas prog 47=true:=kR
theorem Va:Be prog 3=some (false,1):=kR
theorem pJ:Be prog 4=some (false,1):=kR
theorem ti5:Be prog 5=some (false,1):=kR
theorem ZF:Be prog 9=some (false,1):=kR
theorem Jh:Be prog 25=some (true,2):=kR
theorem Zk:Be prog 26=some (false,1):=kR
theorem D8:Be prog 36=some (false,1):=kR
theorem K3:Be prog 42=some (false,1):=kR
theorem ti47:Be prog 47=some (true,2):=kR
theorem Ha:Be prog 52=some (true,5):=kR
theorem Rn:Be prog 54=some (true,6):=kR
theorem ti56:Be prog 56=some (true,6):=kR
theorem ti156:Be prog 156=some (false,1):=kR
theorem oR:Be prog 163=some (false,1):=kR
theorem pR:Be prog 300=some (false,1):=kR
theorem un4:prog.underlying 4=some .bool:=kR
theorem Jv:prog.underlying 9=some .string:=kR
theorem zr4:HZ prog 4=some [.bool false]:=kR
theorem zr5:HZ prog 5=some [.int .u8 0]:=kR
theorem Wi:HZ prog 25=some [.int .i64 0,.int .i64 0]:=kR
theorem zr26:HZ prog 26=some [.int .i64 0]:=kR
theorem zr36:HZ prog 36=some [.slice none 0 0]:=kR
theorem zr40:HZ prog 40=some [.int .i64 0,.int .i64 0]:=kR
theorem yV:HZ prog 42=some [.slice none 0 0]:=kR
theorem zr47:HZ prog 47=some [.int .i64 0,.int .i64 0]:=kR
theorem zr50:HZ prog 50=some [.string ⟨#[]⟩,.int .i64 0,.int .i64 0,.int .i64 0,.slice none 0 0]:=kR
theorem Gm:HZ prog 52=some [.int .i64 0,.int .i64 0,.int .i64 0,.int .i64 0,.string ⟨#[]⟩]:=kR
theorem Sj:HZ prog 54=some [.int .i64 0,.int .i64 0,.int .i64 0,.int .i64 0,.string ⟨#[]⟩,.slice none 0 0]:=kR
theorem zr56:HZ prog 56=some [.int .i64 0,.int .i64 0,.int .i64 0,.string ⟨#[]⟩,.int .i64 0,.slice none 0 0]:=kR
end Go.Proofs.YtgdndhedjlmagaaGreatDoor
namespace Go.SP
def G5:List Nat:=[4607182418800017408,4621819117588971520,4636737291354636288,4652007308841189376,4666723172467343360,4681608360884174848,4696837146684686336,4711630319722168320,4726483295884279808,4741671816366391296,4756540486875873280,4771362005757984768,4786511204640096256,4801453603149578240,4816244402031689728]
end Go.SP
namespace Go.Proofs.YtgdndhedjlmagaaGreatDoor
open Go.SW Go.SP Go.RowKit Go.Shelf Go.Lib Go.Proofs.Tryz
structure Gl(w:wO):Prop where
 maxLen:∃m:Int,w.cell? ⟨1,0,none⟩=some (.int .i64 m)
 errRange:∃v:Value,w.cell? ⟨5,0,none⟩=some v∧(v=.nilIface∨∃te pe,v=.iface te pe)
 optimize:w.cell? ⟨8,0,none⟩=some (.bool true)
 finfo:w.cell? ⟨9,0,none⟩=some (.int .u64 52)
 pow10:∃b off n c,w.cell? ⟨14,0,none⟩=some (.slice (some ⟨b,off,none⟩) n c)∧15≤n∧∀j v,G5[j]?=some v→w.cell? ⟨b,off+j,none⟩=some (.float .f64 v)
variable {args:Array Value}{b o:Nat}{P:Program}{w w':wO}
theorem IJ{v:Value}(h:w.cell? ⟨b,o,none⟩=some v):b<w.heap.size:=by
 rcases Nat.lt_or_ge b w.heap.size with D | D
 · exact D
 · simp[World.cell?,Array.getElem?_eq_none D] at h
theorem EM{v:Value}(h:w.cell? ⟨b,o,none⟩=some v)(D:AY w w'):w'.cell? ⟨b,o,none⟩=some v:=(D.cell (p:=⟨b,o,none⟩) (IJ h)).trans h
theorem Gl.ext(h:Gl w)(D:AY w w'):Gl w' :=
 ⟨let ⟨m,hm⟩:=h.maxLen;⟨m,EM hm D⟩,let ⟨v,F,G⟩:=h.errRange;⟨v,EM F D,G⟩,EM h.optimize D,EM h.finfo D,
   let ⟨b,off,n,c,J,G,K⟩:=h.pow10;⟨b,off,n,c,EM J D,G,λj v F=>EM (K j v F) D⟩⟩
theorem F5(l:lU):(⟨l.toArray⟩:ByteArray).data.toList=l:=rfl
theorem KV(l:lU):(⟨l.toArray⟩:ByteArray).size=l.length:=by simp[ByteArray.size]
theorem F7{f:FuncId}{v:Value}{R:wO→Prop}(h:Calls P f args w λe w'=>e=.returned v∧R w')(D:∀w',R w'→AY w w') :
   BF P f args w λu w'=>u=v∧AY w w':=Calls.mono h λ_ _ ⟨he,F⟩=>⟨v,he,C,D _ F⟩
theorem HV(w:wO)(D:Gl w)(a b:lU)(F:a.length<4294967281):BF prog 45 #[S a,S b] w λv w'=>v=.bool (DH a b)∧AY w w':=by
 obtain⟨m,hm⟩:=D.maxLen;have h:=Any.strings_Contains Tryz.lays144 ⟨a.toArray⟩ ⟨b.toArray⟩ m w (by rw[KV];exact F) hm;rw[F5,F5,Jp] at h;exact F7 h (λw' e=>by subst e;exact AY.refl _)
theorem F9(w:wO)(a:lU)(c:UInt8):BF prog 42 #[S a,.int .u8 c.toNat] w λv w'=>v=.int .i64 (Lib.indexByte a c)∧AY w w':=by
 have h:=Any.strings_IndexByte Tryz.lays137 ⟨a.toArray⟩ c.toNat w;rw[F5] at h;have e:((c.toNat:Int).toNat).toUInt8=c:=by simp
 rw[e] at h;exact F7 h (λw' e=>by subst e;exact AY.refl _)
theorem Gx(w:wO)(a b:lU):BF prog 71 #[S a,S b] w λv w'=>v=S (Lib.trimPrefix a b)∧AY w w':=by
 have h:=Any.strings_TrimPrefix Tryz.lays101 ⟨a.toArray⟩ ⟨b.toArray⟩ w;rw[F5,F5] at h;exact F7 h (λw' e=>by subst e;exact AY.refl _)
theorem fI(w:wO)(D:Gl w)(a b:lU)(F:a.length<4294967281) :
   BF prog 98 #[S a,S b] w λv w'=>v=.tuple #[S (Lib.cut a b).1,S (Lib.cut a b).2.1,.bool (Lib.cut a b).2.2]∧AY w w':=by
 obtain⟨m,hm⟩:=D.maxLen;have h:=Any.strings_Cut Tryz.lays145 ⟨a.toArray⟩ ⟨b.toArray⟩ m w (by rw[KV];exact F) hm;rw[F5,F5] at h;exact F7 h (λw' ⟨n,e⟩=>by subst e;exact⟨C,C,C,Nat.le_refl _,λ_ _=>C⟩)
theorem PD(w:wO)(a b:lU)(G:a.length≤9223372036854775807)(J:b.length<4294967281)(D:b.all (λc=>decide (c.toNat<128))=true) :
   BF prog 102 #[S a,S b] w λv w'=>v=S (Lib.trimS a b)∧AY w w':=by
 have h:=Any.strings_Trim_laid Tryz.lays160 kR ⟨a.toArray⟩ ⟨b.toArray⟩ w (by rw[KV];exact G) (by rw[KV];exact J) (λj c F=>by
   rw[F5] at F;have:=List.all_eq_true.1 D c (List.mem_of_getElem? F);simpa using this)
 rw[F5,F5] at h;exact F7 h (λw' h=>h)
theorem RF(w:wO)(F:Gl w)(fn s:lU)(base bits:Int)(K:s.length≤100000):BF prog 120 #[S fn,S s,.int .i64 base,.int .i64 bits,.iface 206 (.int .i64 1)] w λv w'=>(∃T u,v=.iface T u)∧AY w w':=by
 obtain⟨ev,G,D⟩:=F.errRange;have h:=Any.strconv_toError_range Tryz.lays245 ⟨fn.toArray⟩ ⟨s.toArray⟩ base bits ev w (by rw[KV];omega) G D;exact Calls.mono h λe w' ⟨N,he,_,_,J⟩=>⟨_,he,⟨_,_,C⟩,J⟩
end Go.Proofs.YtgdndhedjlmagaaGreatDoor
namespace Go.SP
open Go.SW Go.RowKit
def At(U:Nat→Prop)(w:World)(a:Option Addr)(i:Nat)(r:Fo):Prop :=
 r=.nil∨∃b off l T,U b∧a=some ⟨b,off,none⟩∧AS w b l T∧HF U w r (l.drop (off+i*6))
variable {fo:Fo}{co ln:Int}{xs:List Value}{b c' i kc kn n:Nat}{U:Nat→Prop}{a a' ka:Option Addr}{e:TypeId}{w w' w0 w1:World}
theorem EL.at{c:Nat}(h:EL U w a n c fo):At U w a 0 fo:=by
 obtain⟨D,L,F|⟨b,off,l,T,hu,G,J,K⟩⟩:=h
 · left;cases fo with
   |nil=>rfl
   |cons t k r=>rw[F] at D;cases D
 · exact .inr ⟨b,off,l,T,hu,G,J,by simpa using K⟩
theorem At.ext{r:Fo}(h:At U w a i r)(D:AY w w'):At U w' a i r :=
 h.imp id λ⟨b,off,l,T,hu,F,G,J⟩=>⟨b,off,l,T,hu,F,G.ext D,J.ext D⟩
theorem At.head{t:A4}{k r:Fo}(h:At U w a i (.cons t k r)):∃b off l T ka kn kc l',U b∧a=some ⟨b,off,none⟩∧AS w b l T ∧
   l.drop (off+i*6)=.int .i64 t.k::.int .i64 t.ln::.int .i64 t.co::.int .i64 t.nm::S t.tx::.slice ka kn kc::l'∧EL U w ka kn kc k:=by
 rcases h with h|⟨b,off,l,T,hu,D,F,ka,kn,kc,l',G,J,K⟩
 · cases h
 · exact⟨b,off,l,T,ka,kn,kc,l',hu,D,F,G,J⟩
theorem At.next{t:A4}{k r:Fo}(h:At U w a i (.cons t k r)):At U w a (i+1) r:=by
 rcases h with h|⟨b,off,l,T,hu,D,F,ka,kn,kc,l',G,K,J⟩
 · cases h
 · refine .inr ⟨b,off,l,T,hu,D,F,?_⟩
   have:l.drop (off+(i+1)*6)=l':=by
     rw[show off+(i+1)*6=(off+i*6)+6 by omega,← List.drop_drop,G];rfl
   rw[this];exact J
theorem Nd.len_app:∀(x y:Nd),(x.app y).len=x.len+y.len
 |.nil,y=>by simp[Nd.app,Nd.len]
 |.cons _ _ _ _ _ _ r,y=>by simp[Nd.app,Nd.len,Nd.len_app r y];omega
theorem Nd.app_assoc:∀(x y z:Nd),(x.app y).app z=x.app (y.app z)
 |.nil,_,_=>rfl
 |.cons _ _ _ _ _ _ r,y,z=>by simp[Nd.app,Nd.app_assoc r y z]
theorem Nd.app_nil:∀(x:Nd),x.app .nil=x
 |.nil=>rfl
 |.cons _ _ _ _ _ _ r=>by simp[Nd.app,Nd.app_nil r]
theorem Gd.app:∀(x y:Nd)(l m:List Value),Gd U w x l→l.length=x.len*6→Gd U w y m→Gd U w (x.app y) (l++m)
 |.nil,y,l,m,_,D,h=>by
   have:l=[]:=List.eq_nil_of_length_eq_zero (by simpa[Nd.len] using D);subst this;exact h
 |.cons _ _ _ _ _ kids rest,y,l,m,⟨a,n,c,l',F,G,J⟩,D,h=>by
   refine⟨a,n,c,l'++m,by rw[F];rfl,G,Gd.app rest y l' m J ?_ h⟩;rw[F] at D;simp[Nd.len] at D;omega
structure K5(e:TypeId)(w0 w:World)(a:Option Addr)(n c:Nat)(nds:Nd):Prop where
 ex:∃xs,C0 w e 6 a c n xs∧Gd (λb=>w0.heap.size≤b∧some b≠rb a) w nds xs
 len:n=nds.len
 new:∀b,rb a=some b→w0.heap.size≤b
theorem K5.nil(e:TypeId)(w0 w:World):K5 e w0 w none 0 0 .nil:=⟨⟨[],GC _ _ _,tQ⟩,C,λ_ h=>by cases h⟩
theorem K5.ext{c:Nat}{nds:Nd}(h:K5 e w0 w a n c nds)(D:AY w w'):K5 e w0 w' a n c nds :=
 ⟨let ⟨xs,F,G⟩:=h.ex;⟨xs,F.ext D,G.ext D⟩,h.len,h.new⟩
theorem K5.chg{c:Nat}{nds:Nd}(h:K5 e w0 w a n c nds)(D:GW b w w')(J:b<w0.heap.size):K5 e w0 w' a n c nds :=
 ⟨let ⟨xs,F,G⟩:=h.ex;⟨xs,F.chg D (λe=>by have:=h.new b e;omega),G.chg D (λe=>by omega)⟩,h.len,h.new⟩
theorem K5.nds{c:Nat}{nds:Nd}(h:K5 e w0 w a n c nds):HC (λb=>w0.heap.size≤b) w a n c nds:=by
 obtain⟨xs,F,J⟩:=h.ex;refine⟨h.len,F.n_le,?_⟩;rcases F.2 with ⟨_,_,D⟩|⟨b,l,G,K,Q,_,W,L⟩
 · exact .inl D
 · refine .inr ⟨b,0,l,e,h.new b (by rw[G];rfl),G,K,?_⟩
   have D:=Gd.more nds xs (l.drop (n*6)) (J.mono λ_ O=>O.1);rw[List.drop_zero,← List.take_append_drop (n*6) l,L];exact D
theorem K5.step{c:Nat}{nds:Nd}{op nm:Int}{tx:lU}{kids:Nd}
   (K:C0 w e 6 a c n xs) (Q:Gd (λb=>w0.heap.size≤b∧some b≠rb a) w nds xs) (hlen:n=nds.len) (L:∀b,rb a=some b→w0.heap.size≤b)
   (W:HC (λb=>w1.heap.size≤b) w ka kn kc kids) (Y:w0.heap.size≤w1.heap.size) (Z:w1.heap.size≤w.heap.size) (h1:∀b,rb a=some b→b<w1.heap.size)
   (hr:C0 w' e 6 a' c' (n+1) (xs++[.int .i64 op,.int .i64 ln,.int .i64 co,S tx,.int .i64 nm,.slice ka kn kc])) (O:G1 a w a' w') :
   K5 e w0 w' a' (n+1) c' (nds.app (.cons op ln co tx nm kids .nil)):=by
 have D:∀b,rb a'=some b→w0.heap.size≤b:=λb h=>by
   rcases O.own with F|F
   · exact L b (by rw[← F];exact h)
   · rw[F] at h;cases h;omega
 have hold:∀b,(w0.heap.size≤b∧some b≠rb a)→b<w.heap.size→(w0.heap.size≤b∧some b≠rb a')∧w'.heap[b]?=w.heap[b]?:=λb h G=>by
   refine⟨⟨h.1,?_⟩,O.block b G h.2⟩;rcases O.own with F|F
   · rw[F];exact h.2
   · rw[F];intro e;cases e;omega
 have J:HC (λb=>w0.heap.size≤b∧some b≠rb a') w' ka kn kc kids:=HC.imp W λb h G=>by
   refine hold b ⟨oM,λe=>?_⟩ G;have:=h1 b e.symm;omega
 refine⟨⟨_,hr,Gd.app nds _ xs _ (Gd.imp hold nds xs Q) (by rw[K.1,hlen]) ⟨ka,kn,kc,[],C,J,tQ⟩⟩,by rw[Nd.len_app,hlen];rfl,D⟩
def Sn(T:TypeId)(e:Int×Int):List PanicEntry:=[{v:=.iface T (.agg #[.int .i64 e.1,.int .i64 e.2]),recovered:=false}]
end Go.SP
namespace Go.SP
open Go.SW Go.RowKit
def Nd.drop:Nat→Nd→Nd
 |0,x=>x
 |_+1,.nil=>.nil
 |n+1,.cons _ _ _ _ _ _ r=>Nd.drop n r
theorem Nd.drop_lt:∀(i:Nat)(x:Nd),i<x.len→∃op ln co tx nm kids,x.drop i=.cons op ln co tx nm kids (x.drop (i+1))
 |0,.cons op ln co tx nm kids r,_=>⟨op,ln,co,tx,nm,kids,by simp[Nd.drop]⟩
 |i+1,.cons _ _ _ _ _ _ r,h=>by
   obtain⟨op,ln,co,tx,nm,kids,e⟩:=Nd.drop_lt i r (by simp[Nd.len] at h;omega);exact⟨op,ln,co,tx,nm,kids,by simpa[Nd.drop] using e⟩
theorem Nd.drop_len:∀(x:Nd),x.drop x.len=.nil
 |.nil=>rfl
 |.cons _ _ _ _ _ _ r=>by simp[Nd.len,Nd.drop,Nd.drop_len r]
variable {co ln:Int}{i n:Nat}{U:Nat→Prop}{a:Option Addr}{w:World}
theorem Gd.dropc:∀(i:Nat)(x:Nd)(l:List Value),Gd U w x l→Gd U w (x.drop i) (l.drop (i*6))
 |0,x,l,h=>by simpa[Nd.drop] using h
 |i+1,.nil,l,h=>trivial
 |i+1,.cons _ _ _ _ _ _ r,l,⟨a,n,c,l',D,G,F⟩=>by
   have:=Gd.dropc i r l' F;rw[show (i+1)*6=6+i*6 by omega,← List.drop_drop,D];exact this
theorem HC.get{c:Nat}{nds:Nd}(h:HC U w a n c nds)(i:Nat)(L:i<n):∃b off l T op ln co tx nm kids ka kn kc l',U b∧a=some ⟨b,off,none⟩∧AS w b l T ∧
   nds.drop i=.cons op ln co tx nm kids (nds.drop (i+1)) ∧
   l.drop (off+i*6)=.int .i64 op::.int .i64 ln::.int .i64 co::S tx::.int .i64 nm::.slice ka kn kc::l'∧HC U w ka kn kc kids:=by
 obtain⟨O,Q,W|⟨b,off,l,T,hu,D,F,G⟩⟩:=h
 · omega
 · obtain⟨op,ln,co,tx,nm,kids,e⟩:=Nd.drop_lt i nds oM
   have:=Gd.dropc i nds _ G;rw[e,List.drop_drop] at this;obtain⟨ka,kn,kc,l',J,K,Y⟩:=this;exact⟨b,off,l,T,op,ln,co,tx,nm,kids,ka,kn,kc,l',hu,D,F,e,J,K⟩
theorem SY{t:A4}{x:Nd}{op nm:Int}{tx:lU}{kids:Nd}(e:x.drop i=.cons op ln co tx nm kids (x.drop (i+1)))(h:i+1=x.len):CW t (x.drop i)=some ⟨op,ln,co,tx,nm,kids⟩:=by
 rw[e,h,Nd.drop_len];rfl
theorem Tq{t:A4}{x:Nd}{op nm:Int}{tx:lU}{kids:Nd}{o:N}(e:x.drop i=.cons op ln co tx nm kids (x.drop (i+1)))(h:CW t (x.drop (i+1))=some o) :
   CW t (x.drop i)=some (Av t 32 [45,62] (.cons op ln co tx nm kids o.one)):=by
 rw[e]
 cases D:x.drop (i+1) with
 |nil=>rw[D] at h;cases h
 |cons a b c d f g r=>rw[D] at h;simp only[CW] at h ⊢;rw[h]
end Go.SP
namespace Go.SP
open Go.SW Go.RowKit
theorem Ey{f:A4→Fo→R N}:∀{fo:Fo}{nds:Nd},AA f fo=.ok nds→nds.len=fo.len
 |.nil,nds,h=>by simp[AA] at h;subst h;rfl
 |.cons t k r,nds,h=>by
   unfold AA at h
   cases D:f t k with
   |error e=>rw[D] at h;cases h
   |ok a =>
     cases F:AA f r with
     |error e=>rw[D,F] at h;cases h
     |ok b =>
       rw[D,F] at h;injection h with h
       subst h;simp[N.cons,Nd.len,Fo.len,Ey F]
variable {σ:Bp}{kk:IntKind}{b cap off:Nat}{x:Operand}{P:Program}{T e ty:TypeId}{w:World}
theorem Fa{y:Operand}{k:Nat}{z:Int}(i:Nat){len:Nat}(h:ev σ x=some (.slice (some ⟨b,off,none⟩) len cap))(D:ev σ y=some (.int kk z))(hz:z=(i:Int))(F:Kj P T=some (e,k))
   (G:i<len):AR P σ (.indexAddr T x y) ty w (.pointer (some ⟨b,off+i*k,none⟩)) w:=by
 subst hz;exact Lh h D F G
end Go.SP
namespace Go.SP
open Go.SW Go.RowKit
structure Lk(m:Nat)(w w':wO):Prop where
 os:w'.os=w.os
 tape:w'.tape=w.tape
 output:w'.output=w.output
 size:w.heap.size≤w'.heap.size
 block:∀k,k<w.heap.size→k≠m→w'.heap[k]?=w.heap[k]?
theorem Lk.refl(m:Nat)(w:wO):Lk m w w:=⟨C,C,C,Nat.le_refl _,λ_ _ _=>C⟩
variable {b:Nat}{w1 w2:wO}
theorem Lk.trans{m:Nat}{w:wO}(h:Lk m w w1)(D:AY w1 w2):Lk m w w2 :=
 ⟨D.os.trans h.os,D.tape.trans h.tape,D.output.trans h.output,Nat.le_trans h.size D.size,λk F G=>(D.block k (Nat.lt_of_lt_of_le F h.size)).trans (h.block k F G)⟩
theorem Lk.trans2{m:Nat}{w:wO}(h:Lk m w w1)(D:Lk m w1 w2):Lk m w w2 :=
 ⟨D.os.trans h.os,D.tape.trans h.tape,D.output.trans h.output,Nat.le_trans h.size D.size,λk F G=>(D.block k (Nat.lt_of_lt_of_le F h.size) G).trans (h.block k F G)⟩
theorem Lk.chg{m:Nat}{w:wO}(h:Lk m w w1)(D:GW b w1 w2)(J:w.heap.size≤b∨b=m):Lk m w w2 :=
 ⟨D.os.trans h.os,D.tape.trans h.tape,D.output.trans h.output,by rw[D.size];exact h.size,λk F G=>(D.block k oM).trans (h.block k F G)⟩
end Go.SP
namespace Go.SW
open Go.SP Go.RowKit
variable {l:lV}{b:Nat}{w':wO}
theorem AS.exb{m:Nat}{w:wO}{T:tI}(h:AS w b l T)(F:Lk m w w')(D:b≠m):AS w' b l T:=(F.block b h.lt D).trans h
end Go.SW
namespace Go.SP
open Go.SW Go.RowKit
variable {co ln:Int}{b i:Nat}{U:Nat→Prop}{a:oA}{w' w0:wO}
theorem HC.exb{m:Nat}{w:wO}{n c:Nat}{nd:Nd}(h:HC U w a n c nd)(D:Lk m w w')(hm:¬U m):HC U w' a n c nd:=HC.imp h λk hu F=>⟨hu,D.block k F (λe=>hm (e▸hu))⟩
theorem Lk.ext{m:Nat}{w:wO}(h:Lk m w w')(D:AY w0 w)(hm:w0.heap.size≤m):AY w0 w' :=
 ⟨h.os.trans D.os,h.tape.trans D.tape,h.output.trans D.output,Nat.le_trans D.size h.size,λk F=>(h.block k (Nat.lt_of_lt_of_le F D.size) oM).trans (D.block k F)⟩
def SA(w:wO)(m:Nat)(seen:List lU):Prop :=
 ∃(es:List MapEntry)(clock:Nat),w.heap[m]?=some (.map es.toArray clock)∧es.map (λe=>(e.key,e.val))=seen.reverse.map λs=>(S s,Value.bool true)
theorem SA.lt{w:wO}{m:Nat}{seen:List lU}(h:SA w m seen):m<w.heap.size:=by
 obtain⟨es,c,F,_⟩:=h;rcases Nat.lt_or_ge m w.heap.size with D | D
 · exact D
 · rw[Array.getElem?_eq_none D] at F;cases F
theorem SA.ext{w:wO}{m:Nat}{seen:List lU}(h:SA w m seen)(D:AY w w'):SA w' m seen:=let ⟨es,c,F,G⟩:=h;⟨es,c,(D.block m h.lt).trans F,G⟩
theorem SA.chg{w:wO}{m:Nat}{seen:List lU}(h:SA w m seen)(F:GW b w w')(D:m≠b):SA w' m seen:=let ⟨es,c,G,J⟩:=h;⟨es,c,(F.block m D).trans G,J⟩
section
variable{P:Program}{n:Nat}{Q:Bh}{σ:Bp}{ds:List Deferred}{w:wO}{ops:Array Oper}{ty T:tI}{AX:String}{af:Array Edge}{rest:List Oper}{d m:Nat}{x y z:Operand}{tx:lU}{seen:List lU}
theorem K8{k:tI}{b:Bool}{v:Value}(h:P.underlying k=some .string):(Instr.checkKey b 10000 k v).run P w=.ok () w:=by
 rw[Instr.checkKey];simp[run_underlying h]
end
theorem OW(s:List lU)(op ln co:Int)(tx:lU)(nm:Int)(kids rest:Nd):BS s (.cons op ln co tx nm kids rest)=match BS s (.cons op ln co tx nm kids .nil) with|none=>none|some s2=>BS s2 rest:=by
 simp only[BS]
 cases (if op==22 then (if s.contains tx then none else some (tx::s)) else some s) with
 |none=>rfl
 |some s1 =>
   simp only
   cases BS s1 kids <;> rfl
def Nd.size:Nd→Nat
 |.nil=>0
 |.cons _ _ _ _ _ kids rest=>kids.size+rest.size+1
def Nd.ok:Nd→Prop
 |.nil=>True
 |.cons _ _ _ _ _ kids rest=>kids.len≤100000∧kids.ok∧rest.ok
def N.ok(nd:N):Prop:=nd.kids.len≤100000∧nd.kids.ok
theorem Nd.ok_drop:∀(i:Nat)(x:Nd),x.ok→(x.drop i).ok
 |0,_,h=>h
 |_+1,.nil,h=>h
 |i+1,.cons _ _ _ _ _ _ r,h=>Nd.ok_drop i r h.2.2
theorem Nd.ok.get{x:Nd}(h:x.ok){op nm:Int}{tx:lU}{kids rest:Nd}(e:x.drop i=.cons op ln co tx nm kids rest):N.ok ⟨op,ln,co,tx,nm,kids⟩:=by
 have:=Nd.ok_drop i x h;rw[e] at this;exact⟨this.1,this.2.1⟩
end Go.SP
namespace Go.SW
variable {bs:List Nat}{a a':Option Addr}{w w' w2:World}
theorem A6.grow(h:A6 w bs w')(F:G1 a w' a' w2)(G:∀c,c∈bs→some c≠rb a):A6 w bs w2 :=
 λc D=>⟨Nat.lt_of_lt_of_le (h c D).1 F.size,(F.block c (h c D).1 (G c D)).trans (h c D).2⟩
end Go.SW
namespace Go.SP
open Go.SW Go.RowKit
variable {t0 t1:A4}{co ln:Int}{xs ys:List Value}{c' kc kn n:Nat}{U:Nat→Prop}{a a' ka:Option Addr}{e:TypeId}{w w' w0:World}
theorem EL.two{c:Nat}{k0 k1 r:Fo}(h:EL U w a n c (.cons t0 k0 (.cons t1 k1 r))):∃b off l T a0 D c0 a1 F G l',U b∧a=some ⟨b,off,none⟩∧AS w b l T ∧
   l.drop off=.int .i64 t0.k::.int .i64 t0.ln::.int .i64 t0.co::.int .i64 t0.nm::S t0.tx::.slice a0 D c0::.int .i64 t1.k::.int .i64 t1.ln::.int .i64 t1.co::.int .i64 t1.nm::S t1.tx::.slice a1 F G::l' ∧
   EL U w a0 D c0 k0∧EL U w a1 F G k1∧HF U w r l':=by
 obtain⟨b,off,l,T,a0,D,c0,l0,L,O,Q,hd,J,a1,F,G,W,Y,K,Z⟩:=EL.head h;exact⟨b,off,l,T,a0,D,c0,a1,F,G,W,L,O,Q,by rw[hd,Y],J,K,Z⟩
theorem EL.three{c:Nat}{t2:A4}{k0 k1 k2 r:Fo}(h:EL U w a n c (.cons t0 k0 (.cons t1 k1 (.cons t2 k2 r)))):∃b off l T a0 D c0 a1 F G a2 J c2 l',U b∧a=some ⟨b,off,none⟩∧AS w b l T ∧
   l.drop off=.int .i64 t0.k::.int .i64 t0.ln::.int .i64 t0.co::.int .i64 t0.nm::S t0.tx::.slice a0 D c0::.int .i64 t1.k::.int .i64 t1.ln::.int .i64 t1.co::.int .i64 t1.nm::S t1.tx::.slice a1 F G ::
     .int .i64 t2.k::.int .i64 t2.ln::.int .i64 t2.co::.int .i64 t2.nm::S t2.tx::.slice a2 J c2::l' ∧
   EL U w a0 D c0 k0∧EL U w a1 F G k1∧EL U w a2 J c2 k2∧HF U w r l':=by
 obtain⟨b,off,l,T,a0,D,c0,a1,F,G,l1,Q,W,Y,hd,K,L,a2,J,c2,Z,hl,O,hr⟩:=EL.two h;exact⟨b,off,l,T,a0,D,c0,a1,F,G,a2,J,c2,Z,Q,W,Y,by rw[hd,hl],K,L,O,hr⟩
theorem MP:∀(n:Nat)(fo:Fo),fo.deep n=true→fo.deep (n+1)=true
 |_,.nil,_=>by simp[Fo.deep]
 |0,.cons _ _ _,h=>by simp[Fo.deep] at h
 |n+1,.cons t k r,h=>by
   simp only[Fo.deep,Bool.and_eq_true] at h ⊢;exact⟨MP n k h.1,by have:=MP (n+1) r h.2;exact this⟩
theorem Te{t:A4}{k:Fo}(h:GK n t k):GK (n+1) t k:=⟨h.1,h.2.1,h.2.2.1,MP n k h.2.2.2⟩
theorem D7{t:A4}{k:Fo}(h:GK (n+1) t k):k.all (GK n):=OV n k h.2.1 h.2.2.2
theorem Gd.one:∀(x:Nd)(l:List Value),Gd U w x l→l.length=x.len*6→∀v∈l,v.oneCell'=true
 |.nil,l,_,D,v,h=>by
   have:l=[]:=List.eq_nil_of_length_eq_zero (by simpa[Nd.len] using D);subst this;cases h
 |.cons _ _ _ _ _ kids rest,l,⟨a,n,c,l',F,J,G⟩,D,v,h=>by
   subst F;simp only[List.mem_cons] at h;rcases h with rfl|rfl|rfl|rfl|rfl|rfl|h
   all_goals first|rfl|exact Gd.one rest l' G (by simp[Nd.len] at D;omega) v h
theorem K5.lit{s:Nat}{op nm:Int}{tx:lU}{kids:Nd}(h:AS w s [.int .i64 op,.int .i64 ln,.int .i64 co,S tx,.int .i64 nm,.slice ka kn kc] e)(D:w0.heap.size≤s)
   (F:HC (λb=>w0.heap.size≤b∧b≠s) w ka kn kc kids):K5 e w0 w (some ⟨s,0,none⟩) 1 1 (.cons op ln co tx nm kids .nil) :=
 ⟨⟨_,⟨C,.inr ⟨s,_,C,h,Nat.le_refl _,by unfold maxLen;omega,C,C⟩⟩,ka,kn,kc,[],C,HC.mono F (λb h=>⟨h.1,λe=>h.2 (by cases e;rfl)⟩),tQ⟩,C,λb h=>by cases h;exact D⟩
theorem K5.join{c:Nat}{x y:Nd}{L:Nat→Prop}
   (J:C0 w e 6 a c n xs) (W:Gd (λb=>w0.heap.size≤b∧some b≠rb a) w x xs) (hlen:n=x.len) (K:∀b,rb a=some b→w0.heap.size≤b)
   (Y:Gd L w y ys) (Z:∀b,L b→w0.heap.size≤b∧some b≠rb a)  (h0w:w0.heap.size≤w.heap.size)
   (hr:C0 w' e 6 a' c' (n+y.len) (xs++ys)) (O:G1 a w a' w'):K5 e w0 w' a' (n+y.len) c' (x.app y):=by
 have D:∀b,rb a'=some b→w0.heap.size≤b:=λb h=>by
   rcases O.own with F|F
   · exact K b (by rw[← F];exact h)
   · rw[F] at h;cases h;omega
 have hold:∀b,(w0.heap.size≤b∧some b≠rb a)→b<w.heap.size→(w0.heap.size≤b∧some b≠rb a')∧w'.heap[b]?=w.heap[b]?:=λb h G=>by
   refine⟨⟨h.1,?_⟩,O.block b G h.2⟩;rcases O.own with F|F
   · rw[F];exact h.2
   · rw[F];intro e;cases e;omega
 have Q:=Gd.imp (U':=λb=>w0.heap.size≤b∧some b≠rb a') (w':=w') (λb (h:L b) G=>hold b (Z b h) G) y ys Y;exact⟨⟨_,hr,Gd.app x y xs ys (Gd.imp hold x xs W) (by rw[J.1,hlen]) Q⟩,by rw[Nd.len_app,hlen],D⟩
end Go.SP
namespace Go.SW
open Go.SP
variable {bs:List Nat}{m:Nat}{w w' w2:World}
theorem A6.exb(h:A6 w bs w')(F:Lk m w' w2)(G:∀c,c∈bs→c≠m):A6 w bs w2 :=
 λc D=>⟨Nat.lt_of_lt_of_le (h c D).1 F.size,(F.block c (h c D).1 (G c D)).trans (h c D).2⟩
end Go.SW
namespace Go.SP
theorem Qf{f:A4→Fo→R N}{p:A4→Fo→Prop}(G:∀t k nd,p t k→f t k=.ok nd→nd.ok):∀{fo:Fo}{nds:Nd},fo.all p→AA f fo=.ok nds→nds.ok
 |.nil,nds,_,h=>by simp[AA] at h;subst h;trivial
 |.cons t k r,nds,J,h=>by
   unfold AA at h
   cases D:f t k with
   |error e=>rw[D] at h;cases h
   |ok a =>
     cases F:AA f r with
     |error e=>rw[D,F] at h;cases h
     |ok b =>
       rw[D,F] at h;injection h with h
       subst h;have:=G t k a J.1 D;exact⟨this.1,this.2,Qf G J.2 F⟩
theorem ZS:∀(n:Nat)(t:A4)(k:Fo)(nd:N),GK n t k→Dw (n+1) t k=.ok nd→nd.ok:=by
 intro n
 induction n with
 |zero =>
   intro t k nd D h
   cases k with
   |cons a b c=>exact absurd D.2.2.2 (by simp[Fo.deep])
   |nil =>
     unfold Dw at h;simp only[H2,need] at h
     repeat' split at h
     all_goals first|(injection h with h;subst h;exact⟨by simp[Av,Nd.len],tQ⟩)|(cases h;done)|skip
     all_goals first|contradiction|(injection h with h;subst h;split <;> exact⟨by simp[Av,Nd.len],tQ⟩)
 |succ n J =>
   intro t k nd D h
   have key:∀(l:Fo)(G:Nd)(op:Int)(tx:lU),l.all (GK n)→l.len≤100000→AA (Dw (n+1)) l=.ok G→N.ok (Av t op tx G):=λl G op tx K hlen he =>
     ⟨by have:=Ey he;simp[Av];omega,Qf (p:=GK n) J K he⟩
   unfold Dw at h;simp only[H2,need] at h
   cases k with
   |nil =>
     repeat' split at h
     all_goals first|(injection h with h;subst h;exact⟨by simp[Av,Nd.len],tQ⟩)|(cases h;done)|skip
     all_goals first|contradiction|(injection h with h;subst h;split <;> exact⟨by simp[Av,Nd.len],tQ⟩)
   |cons a b c =>
     have F:=(D7 D).2;have hlen:c.len≤100000:=by have:=D.2.2.1;simp only[Fo.len] at this;omega
     simp only at h
     repeat' split at h
     all_goals first|(injection h with h;subst h;first|exact key _ _ _ _ F hlen (by assumption)|exact⟨by simp[Av,Nd.len],tQ⟩)|(cases h;done)|skip
     all_goals first|contradiction|(injection h with h;subst h;split <;> exact⟨by simp[Av,Nd.len],tQ⟩)
end Go.SP
namespace Go.SP
theorem Fo.ok.all:∀{fo:Fo},fo.ok→fo.all (λt _=>t.ok)
 |.nil,_=>trivial
 |.cons _ _ _,h=>⟨h.1,Fo.ok.all h.2.2.2⟩
theorem Fo.all_true:∀(fo:Fo),fo.all (λ_ _=>True)
 |.nil=>trivial
 |.cons _ _ r=>⟨tQ,Fo.all_true r⟩
end Go.SP
namespace Go.SP
open Go.SW Go.RowKit
end Go.SP
namespace Go.SP
open Go.SW Go.RowKit
variable {σ:Bp}{b m off:Nat}{x:Operand}{P:Program}{T ty:TypeId}{w:World}
theorem aN{lo:Operand}{k e c:Nat}(D:ev σ x=some (.slice (some ⟨b,off,none⟩) (m+2) c))(h:ev σ lo=some (.int .i64 2))(F:Kj P T=some (e,k))(G:c≠2):AR P σ (.slice T x (some lo) none none) ty w (.slice (some ⟨b,off+2*k,none⟩) m (c-2)) w:=by
 have:=Q6 (w:=w) (ty:=ty) (i:=2) D (by simpa using h) F oM;rwa[if_neg G,Option.map_some,EO,Nat.add_sub_cancel] at this
theorem Vs{v:A4}{k r:Fo}(h:v.isTypeVar=false):BO (.cons v k r)=none:=by simp[BO,h]
theorem Vp{v:A4}{k r:Fo}{x:Nd}(h:v.isTypeVar=true)(D:BO r=some x):BO (.cons v k r)=some ((Av v 31 v.tx .nil).cons x):=by simp[BO,h,D]
theorem Ua{v:A4}{k r:Fo}(h:BO r=none):BO (.cons v k r)=none:=by simp[BO,h]
def ZL:List (A4×Fo)→lV
 | []=>[]
 |(o,_)::s=>ZL s++Jj o
theorem KS:∀s,(ZL s).length=s.length*5
 | []=>rfl
 |(o,p)::s=>by simp[ZL,KS s,Jj];omega
def kK(u:Nat→Nat)(w0:wO)(a:oA)(L:Nat):Prop:=∀b,rb a=some b→w0.heap.size≤b∧u b=L
def Fz(u:Nat→Nat)(w0:wO)(b:Nat):Prop:=w0.heap.size≤b∧u b=0
def Lv(eT:tI)(u:Nat→Nat)(w0 w:wO)(j:Nat)(a:oA)(c:Nat)(p:Fo):Prop :=
 ∃xs,C0 w eT 6 a c p.len xs∧HF (Fz u w0) w p xs∧kK u w0 a (3+j)
def wR(eT:tI)(u:Nat→Nat)(w0 w:wO):List (A4×Fo)→lV→Prop
 | [],[]=>True
 |(_,p)::s,v::vs=>(∃a c,v=.slice a p.len c∧Lv eT u w0 w s.length a c p)∧wR eT u w0 w s vs
 |_,_=>False
structure SV(eT eK eS:tI)(u:Nat→Nat)(w0 w:wO)(so sl:List (A4×Fo))(oa:oA)(oc:Nat)(sa:oA)(sc:Nat)(x:Value)(a:oA)(c:Nat)(p:Fo)(vs:lV)(ka:oA)(kn kc:Nat)(kf:Fo):Prop where
 o:C0 w eK 5 oa oc so.length (ZL so)
 ol:kK u w0 oa 1
 s:C0 w eS 1 sa sc (sl.length+1) (vs.reverse++[x])
 sla:kK u w0 sa 2
 top:Lv eT u w0 w sl.length a c p
 lv:wR eT u w0 w sl vs
 kid:EL (Fz u w0) w ka kn kc kf
def Kp(L:Nat)(u u':Nat→Nat)(w0 w w':wO):Prop:=∀b,b<w.heap.size→w0.heap.size≤b→u b≠L→u' b=u b∧w'.heap[b]?=w.heap[b]?
section
variable{eT eK eS:tI}{u u':Nat→Nat}{w0 w w':wO}{L M:Nat}{a:oA}{c n:Nat}{p:Fo}
variable {xs:lV}{j:Nat}{U:Nat→Prop}{a':oA}{e:tI}
theorem C0.kp{k:Nat}(h:C0 w e k a c n xs)(D:kK u w0 a M)(G:Kp L u u' w0 w w')(J:M≠L):C0 w' e k a c n xs∧kK u' w0 a M:=by
 refine⟨⟨h.1,h.2.imp id λ⟨b,l,F,K,Q⟩=>⟨b,l,F,((G b K.lt (D b (by rw[F];rfl)).1 (by rw[(D b (by rw[F];rfl)).2];exact J)).2).trans K,Q⟩⟩,λb O=>?_⟩
 · have:=D b O
   exact⟨this.1,by rw[(G b (h.lt O) this.1 (by rw[this.2];exact J)).1];exact this.2⟩
theorem JT(F:Kp L u u' w0 w w')(G:0≠L):∀b,Fz u w0 b→b<w.heap.size→Fz u' w0 b∧w'.heap[b]?=w.heap[b]?:=λb h D=>by
 have:=F b D h.1 (by rw[h.2];exact G);exact⟨⟨h.1,this.1.trans h.2⟩,this.2⟩
theorem Lv.kp(h:Lv eT u w0 w j a c p)(D:Kp L u u' w0 w w')(F:0≠L)(G:3+j≠L):Lv eT u' w0 w' j a c p:=by
 obtain⟨xs,J,K,O⟩:=h;obtain⟨Q,W⟩:=C0.kp J O D G;exact⟨xs,Q,HF.imp (JT D F) p xs K,W⟩
theorem wR.kp:∀{sl:List (A4×Fo)}{vs:lV},wR eT u w0 w sl vs→Kp L u u' w0 w w'→0≠L→(∀j,j<sl.length→3+j≠L)→wR eT u' w0 w' sl vs
 | [],[],_,_,_,_=>trivial
 |(_,p)::s,v::vs,h,D,F,G=>⟨let ⟨a,c,J,K⟩:=h.1;⟨a,c,J,K.kp D F (G _ (by simp))⟩,wR.kp h.2 D F λj O=>G j (by simp;omega)⟩
 | [],_::_,h,_,_,_=>h.elim
 |_::_,[],h,_,_,_=>h.elim
theorem tD(h:AY w w'):Kp L u u w0 w w':=λb D _ _=>⟨C,h.block b D⟩
theorem eG(h:GW b w w')(D:u b=L):Kp L u u w0 w w':=λk _ _ F=>⟨C,h.block k (λe=>F (e▸D))⟩
def zC(u:Nat→Nat)(w:wO)(L:Nat)(b:Nat):Nat:=if b<w.heap.size then u b else L
theorem Rc(D:G1 a w a' w')(F:kK u w0 a L):Kp L u (zC u w L) w0 w w':=λb h _ G=>by
 refine⟨by simp[zC,h],D.block b h λe=>G (F b e.symm).2⟩
theorem NQ{k:Nat}(F:C0 w e k a c n xs)(G:G1 a w a' w')(J:kK u w0 a L)(K:w0.heap.size≤w.heap.size):kK (zC u w L) w0 a' L:=λb D=>by
 rcases G.own with h|h
 · rw[h] at D
   have:=J b D;exact⟨this.1,by simp[zC,F.lt D,this.2]⟩
 · rw[h] at D;cases D
   exact⟨K,by simp[zC]⟩
theorem C0.take{k:Nat}(h:C0 w e k a c n xs)(hm:m≤n):C0 w e k a c m (xs.take (m*k)):=by
 refine⟨by rw[List.length_take,h.1];exact Nat.min_eq_left (Nat.mul_le_mul_right _ hm),h.2.imp (λh=>⟨h.1,h.2.1,oM⟩) λ⟨b,l,D,F,O,G,J,K⟩=>⟨b,l,D,F,oM,G,J,?_⟩⟩;rw[← K,List.take_take,Nat.min_eq_left (Nat.mul_le_mul_right _ hm)]
theorem HF.snoc{t:A4}{k:Fo}{ka:oA}{kn kc:Nat}(D:EL U w ka kn kc k):∀(p:Fo)(xs:lV),HF U w p xs→xs.length=p.len*6→HF U w (p.snoc t k) (xs++(Jj t++[.slice ka kn kc]))
 |.nil,xs,_,h=>by
   have:xs=[]:=List.eq_nil_of_length_eq_zero (by simpa[Fo.len] using h);subst this;exact⟨ka,kn,kc,[],C,D,tQ⟩
 |.cons t' K r,xs,⟨a,n,c,l',F,G,J⟩,h=>by
   subst F;exact⟨a,n,c,_,C,G,HF.snoc D r l' J (by simp[Fo.len] at h;omega)⟩
theorem HF.init{t:A4}{k:Fo}:∀(p:Fo)(xs:lV),HF U w (p.snoc t k) xs→HF U w p (xs.take (p.len*6))
 |.nil,_,_=>trivial
 |.cons t' G r,xs,⟨a,n,c,l',h,D,F⟩=>by
   subst h;refine⟨a,n,c,l'.take (r.len*6),?_,D,HF.init r l' F⟩;simp only[Fo.len];rw[show (r.len+1)*6=r.len*6+6 by omega];rfl
theorem Fo.len_snoc(t:A4)(k:Fo):∀(p:Fo),(p.snoc t k).len=p.len+1
 |.nil=>rfl
 |.cons _ _ r=>by simp[Fo.snoc,Fo.len,Fo.len_snoc t k r]
end
section
variable{eT eK eS:tI}{u:Nat→Nat}{w0 w w':wO}{so sl:List (A4×Fo)}{oa:oA}{oc:Nat}{sa:oA}{sc:Nat}{x:Value}{a:oA}{c:Nat}{p:Fo}{vs:lV}{ka:oA}{kn kc:Nat}{kf:Fo}
theorem SV.ext(h:SV eT eK eS u w0 w so sl oa oc sa sc x a c p vs ka kn kc kf)(D:AY w w'):SV eT eK eS u w0 w' so sl oa oc sa sc x a c p vs ka kn kc kf:=by
 have F:Kp 2 u u w0 w w':=tD D;exact⟨h.o.ext D,h.ol,h.s.ext D,h.sla,let ⟨xs,G,J,K⟩:=h.top;⟨xs,G.ext D,J.ext D,K⟩,h.lv.kp F dC (λj _=>by omega),EL.ext h.kid D⟩
theorem SV.pushTok(h:SV eT eK eS u w0 w so sl oa oc sa sc x a c p vs ka kn kc kf)(k:A4)(q:Fo){D:oA}{F:Nat}(K:C0 w' eK 5 D F (so.length+1) (ZL so++Jj k))(J:G1 oa w D w')(O:w0.heap.size≤w.heap.size) :
   ∃u',SV eT eK eS u' w0 w' ((k,q)::so) sl D F sa sc x a c p vs ka kn kc kf:=by
 have G:=Rc J h.ol;obtain⟨Q,W⟩:=C0.kp h.s h.sla G dC;exact⟨_,K,NQ h.o J h.ol O,Q,W,h.top.kp G dC oM,h.lv.kp G dC (λj _=>by omega),EL.imp h.kid (JT G dC)⟩
theorem SV.pushLev(h:SV eT eK eS u w0 w so sl oa oc sa sc x a c p vs ka kn kc kf)(K:x=.slice a p.len c)(k:A4){D:oA}{F:Nat}(O:C0 w' eS 1 D F (sl.length+1+1) (vs.reverse++[x]++[.slice none 0 0]))(J:G1 sa w D w')(Q:w0.heap.size≤w.heap.size) :
   ∃u',SV eT eK eS u' w0 w' so ((k,p)::sl) oa oc D F (.slice none 0 0) none 0 .nil (x::vs) ka kn kc kf:=by
 have G:=Rc J h.sla;obtain⟨W,Y⟩:=C0.kp h.o h.ol G dC;refine⟨_,W,Y,by simpa using O,NQ h.s J h.sla Q,⟨[],GC _ _ _,tQ,λb Z=>by cases Z⟩,⟨⟨a,c,K,h.top.kp G dC oM⟩,h.lv.kp G dC (λj _=>by omega)⟩,EL.imp h.kid (JT G dC)⟩
def rT(u:Nat→Nat)(L:Nat)(b:Nat):Nat:=if u b=L then 0 else u b
theorem SV.pop{o:A4}{q:Fo}{so:List (A4×Fo)}{y:Value}(h:SV eT eK eS u w0 w ((o,q)::so) ((o,q)::so) oa oc sa sc x a c p (y::vs) ka kn kc kf) :
   ∃u' a' c',y=.slice a' q.len c'∧SV eT eK eS u' w0 w so so oa oc sa sc y a' c' q vs a p.len c p:=by
 have D:Kp (3+((o,q)::so).length) u (rT u (3+((o,q)::so).length)) w0 w w:=λb _ _ F=>⟨by simp only[rT,if_neg F],C⟩;obtain⟨⟨a',c',W,Y⟩,Z⟩:=h.lv;obtain⟨xs,t1,t2,t3⟩:=h.top;have J:=C0.take (m:=so.length) h.o (by simp);have K:=C0.take (m:=so.length+1) h.s (by simp);have e1:(ZL ((o,q)::so)).take (so.length*5)=ZL so:=by rw[ZL,← KS so];exact List.take_left
 have G:(y::vs).length=so.length+1:=by
   have:=h.s.1;simp at this;simp;omega
 have e2:((y::vs).reverse++[x]).take ((so.length+1)*1)=vs.reverse++[y]:=by
   rw[List.reverse_cons,Nat.mul_one,← G];have:(vs.reverse++[y]).length=(y::vs).length:=by simp
   rw[← this];exact List.take_left
 rw[e1] at J;rw[e2] at K;obtain⟨o1,o2⟩:=C0.kp J h.ol D (by simp only[List.length_cons];omega);obtain⟨s1,s2⟩:=C0.kp K h.sla D (by simp only[List.length_cons];omega);refine⟨_,a',c',W,o1,o2,s1,s2,Y.kp D (by simp only[List.length_cons];omega) (by simp only[List.length_cons];omega),Z.kp D (by simp only[List.length_cons];omega) (λj hj=>by simp only[List.length_cons];omega),⟨C,t1.n_le,?_⟩⟩;rcases t1.2 with ⟨_,_,h0⟩|⟨b,l,O,F,_,_,_,ht⟩
 · exact .inl h0
 · have Q:=t3 b (by rw[O];rfl)
   refine .inr ⟨b,0,l,eT,⟨Q.1,by simp only[rT,Q.2,if_true]⟩,O,F,?_⟩;rw[List.drop_zero,← List.take_append_drop (p.len*6) l,ht];exact HF.more p xs _ (HF.imp (JT D (by simp only[List.length_cons];omega)) p xs t2)
variable {t0:A4}{kf0:Fo}{l xs:lV}{c' n1 o sb:Nat}{a':oA}
theorem SV.app(h:SV eT eK eS u w0 w so sl oa oc sa sc x a c p vs ka kn kc kf)(D:C0 w eT 6 a c p.len xs)(J:HF (Fz u w0) w p xs)(G:kK u w0 a (3+sl.length))(t:A4){k1:oA}{K:Nat}(Q:EL (Fz u w0) w k1 n1 K kf0)
     (W:C0 w' eT 6 a' c' (p.len+1) (xs++(Jj t++[.slice k1 n1 K]))) (O:G1 a w a' w') (Y:w0.heap.size≤w.heap.size) :
   ∃u',SV eT eK eS u' w0 w' so sl oa oc sa sc x a' c' (p.snoc t kf0) vs ka kn kc kf:=by
 have F:=Rc O G;obtain⟨Z,o2⟩:=C0.kp h.o h.ol F oM;obtain⟨s1,s2⟩:=C0.kp h.s h.sla F oM;refine⟨_,Z,o2,s1,s2,⟨_,by rw[Fo.len_snoc];exact W,HF.snoc (EL.imp Q (JT F oM)) p xs (HF.imp (JT F oM) p xs J) D.1,NQ D O G Y⟩,h.lv.kp F oM (λj _=>by omega),EL.imp h.kid (JT F oM)⟩
theorem SV.sblk(h:SV eT eK eS u w0 w so sl oa oc sa sc x a c p vs ka kn kc kf):∃sb l,sa=some ⟨sb,0,none⟩∧AS w sb l eS∧l[sl.length]?=some x∧sl.length+1≤l.length∧w0.heap.size≤sb∧u sb=2:=by
 rcases h.s.2 with ⟨_,_,F⟩|⟨b,l,D,G,O,Q,W,J⟩
 · cases F
 · have K:=h.sla b (by rw[D];rfl)
   have hlen:=h.s.1;refine⟨b,l,D,G,?_,oM,K⟩
   have e:(vs.reverse++[x])[sl.length]?=some x:=by
     have:vs.length=sl.length:=by simp at hlen;omega
     simp[← this]
   rw[← J,List.getElem?_take,if_pos (by omega)] at e;exact e
theorem Qn{vs:lV}(h:o+vs.length≤l.length):(EF l o vs).take (o+vs.length)=l.take o++vs:=by
 rw[N5 vs l o h];have:(l.take o++vs).length=o+vs.length:=by rw[List.length_append,List.length_take];omega
 rw[← this];exact List.take_left
theorem SV.cell(h:SV eT eK eS u w0 w so sl oa oc sa sc x a c p vs ka kn kc kf){y:Value}(D:sa=some ⟨sb,0,none⟩)(Q:AS w sb l eS)(G:AS w' sb (EF l sl.length [y]) eS)(W:GW sb w w') :
   SV eT eK eS u w0 w' so sl oa oc sa sc y a c p vs ka kn kc kf:=by
 have F:Kp 2 u u w0 w w':=eG W (h.sla sb (by rw[D];rfl)).2;obtain⟨Y,Z⟩:=C0.kp h.o h.ol F dC;refine⟨Y,Z,⟨by have:=h.s.1;simpa using this,?_⟩,h.sla,h.top.kp F dC oM,h.lv.kp F dC (λj _=>by omega),EL.imp h.kid (JT F dC)⟩;rcases h.s.2 with ⟨_,_,h0⟩|⟨b,l1,O,J,h1,h2,h3,h4⟩
 · cases h0
 · rw[D] at O;cases O
   have K:l=l1:=by have:=Q.symm.trans J;simpa using this
   subst K;have hle:sl.length+[y].length≤l.length:=by simp only[List.length_singleton];omega
   refine .inr ⟨sb,_,D,G,h1,h2,by rw[Gn];exact h3,?_⟩;have:=Qn hle;rw[Nat.mul_one];rw[List.length_singleton] at this;rw[this]
   have e:(vs.reverse++[x]).take sl.length=vs.reverse:=by
     have hv:vs.reverse.length=sl.length:=by have:=h.s.1;simp at this;simp;omega
     rw[← hv];exact List.take_left
   rw[← e,← h4,List.take_take,Nat.mul_one,Nat.min_eq_left (by omega)]
theorem SV.tblk{t:A4}{k:Fo}(h:SV eT eK eS u w0 w so sl oa oc sa sc x a c (p.snoc t k) vs ka kn kc kf):∃b l,a=some ⟨b,0,none⟩∧AS w b l eT∧(p.len+1)*6≤l.length∧w0.heap.size≤b∧u b=3+sl.length:=by
 obtain⟨xs,D,W,G⟩:=h.top;rw[Fo.len_snoc] at D;rcases D.2 with ⟨_,_,J⟩|⟨b,l,F,K,O,_,Q,_⟩
 · cases J
 · exact⟨b,l,F,K,by rw[Q];exact Nat.mul_le_mul_right _ O,G b (by rw[F];rfl)⟩
theorem SV.last{k0:Fo}(h:SV eT eK eS u w0 w so sl oa oc sa sc x a c (p.snoc t0 k0) vs ka kn kc kf)(K:a=some ⟨b,0,none⟩)(hb:AS w b l eT)(t:A4){k1:oA}{F:Nat}(hk:EL (Fz u w0) w k1 n1 F kf0)
   (O:AS w' b (EF l (p.len*6) (Jj t++[.slice k1 n1 F])) eT) (hC:GW b w w'):SV eT eK eS u w0 w' so sl oa oc sa sc x a c (p.snoc t kf0) vs ka kn kc kf:=by
 obtain⟨xs,J,h2,Z⟩:=h.top;have Q:=(Z b (by rw[K];rfl)).2;have D:Kp (3+sl.length) u u w0 w w':=eG hC Q;obtain⟨o1,o2⟩:=C0.kp h.o h.ol D oM;obtain⟨s1,s2⟩:=C0.kp h.s h.sla D oM;rw[Fo.len_snoc] at J;refine⟨o1,o2,s1,s2,⟨xs.take (p.len*6)++(Jj t++[.slice k1 n1 F]),?_,?_,Z⟩,h.lv.kp D oM (λj _=>by omega),EL.imp h.kid (JT D oM)⟩
 · rw[Fo.len_snoc]
   refine⟨by rw[List.length_append,List.length_take,J.1];simp[Jj];omega,?_⟩;rcases J.2 with ⟨_,_,h0⟩|⟨b1,l1,G,W,h4,h5,h6,h7⟩
   · cases h0
   · rw[K] at G;cases G
     have Y:l=l1:=by have:=hb.symm.trans W;simpa using this
     subst Y;refine .inr ⟨b,_,K,O,h4,h5,by rw[Gn];exact h6,?_⟩;have hle:p.len*6+(Jj t++[Value.slice k1 n1 F]).length≤l.length:=by simp[Jj];omega
     have:=Qn hle;have e:p.len*6+(Jj t++[Value.slice k1 n1 F]).length=(p.len+1)*6:=by simp[Jj];omega
     rw[e] at this;rw[this,← h7,List.take_take,Nat.min_eq_left (by omega)]
 · exact HF.snoc (EL.imp hk (JT D oM)) p _ (HF.imp (JT D oM) p _ (HF.init p xs h2)) (by rw[List.length_take,J.1];omega)
end
end Go.SP
namespace Go.SW
open Go.RowKit
section
variable{P:Program}{n:Nat}{Q:Bh}{σ:Bp}{ds:List Deferred}{w:wO}{ops:Array Oper}{ty T T':tI}{AX:String}{af:Array Edge}{rest:List Oper}{b off k:Nat}{x y:Operand}{l:lV}
theorem Cy{v:Value}{vs:lV}{a:Bool}(F:ev σ x=some (.pointer (some ⟨b,off,none⟩)))(G:ev σ y=some v)(J:HU v=some vs)(K:Be P T=some (a,k))(L:Nat.beq vs.length k=true)
   (D:AS w b l T') (O:No vs=true) (U:off+vs.length≤l.length)
   (h:∀w',AS w' b (EF l off vs) T'→GW b w w'→Hd P n ops Q rest σ ds w'):Hd P n ops Q (⟨none,.store T x y,ty,AX,af,none⟩::rest) σ ds w :=
 JD (O6 F G (GO J) K L D O U) (h _ (setRow_heap w b _ _ T' _ D) (OB w b _))
variable {cap:Nat}{hi:Operand}{e:tI}
theorem WX{k1:IntKind}{z:Int}(i:Nat){a:oA}{len:Nat}(F:ev σ x=some (.slice a len cap))(D:ev σ hi=some (.int k1 z))(hz:z=(i:Int))
   (G:Kj P T=some (e,k)) (h:i≤cap):AR P σ (.slice T x none (some hi) none) ty w (.slice a i cap) w:=by
 subst hz;exact XQ F D G h
end
end Go.SW
namespace Go.SP
open Go.SW Go.RowKit
def F6:List A4→lV
 | []=>[]
 |t::l=>Jj t++F6 l
theorem LK:∀l,(F6 l).length=l.length*5
 | []=>rfl
 |t::l=>by simp[F6,LK l,Jj];omega
theorem BL:∀l m,F6 (l++m)=F6 l++F6 m
 | [],_=>rfl
 |t::l,m=>by simp[F6,BL l m]
variable {t0:A4}{kf0:Fo}{pre:List A4}{xs ys:lV}{i n1 sb:Nat}{e:tI}
theorem IS{l:lV}{n:Nat}(h:l.take n=xs++ys):l.drop xs.length=ys++l.drop n:=by
 have D:=List.take_append_drop n l;rw[h,List.append_assoc] at D;rw[← D];have F:(xs++(ys++l.drop n)).drop xs.length=ys++l.drop n:=List.drop_left;rw[D] at F ⊢;exact F
theorem tK{w:wO}{a:oA}{c:Nat}{rest:List A4}{k:A4}(h:C0 w e 5 a c (pre++k::rest).length (F6 (pre++k::rest)))(hi:pre.length=i) :
   ∃b l l',a=some ⟨b,0,none⟩∧AS w b l e∧l.drop (0+i*5)=.int .i64 k.k::.int .i64 k.ln::.int .i64 k.co::.int .i64 k.nm::S k.tx::l':=by
 rcases h.2 with ⟨_,_,F⟩|⟨b,l,G,J,_,_,_,D⟩
 · simp at F
 · rw[BL,F6] at D
   have:=IS D;rw[LK,hi] at this;exact⟨b,l,_,G,J,by rw[Nat.zero_add,this];rfl⟩
section
variable{eT eK eS:tI}{u:Nat→Nat}{w0 w w':wO}{so sl:List (A4×Fo)}{oa:oA}{oc:Nat}{sa:oA}{sc:Nat}{x:Value}{a:oA}{c:Nat}{p:Fo}{vs:lV}{ka:oA}{kn kc:Nat}{kf:Fo}
theorem SV.oblk{o:A4}{q:Fo}{s:List (A4×Fo)}(h:SV eT eK eS u w0 w ((o,q)::s) sl oa oc sa sc x a c p vs ka kn kc kf):∃b l l',oa=some ⟨b,0,none⟩∧AS w b l eK ∧
   l.drop (0+s.length*5)=.int .i64 o.k::.int .i64 o.ln::.int .i64 o.co::.int .i64 o.nm::S o.tx::l':=by
 rcases h.o.2 with ⟨_,_,F⟩|⟨b,l,G,J,_,_,_,D⟩
 · cases F
 · rw[ZL] at D
   have:=IS D;rw[KS] at this;exact⟨b,l,_,G,J,by rw[Nat.zero_add,this];rfl⟩
theorem Uh:∀(o:A4×Fo)(s:List (A4×Fo)),∃q l',(o::s).getLast?=some q∧ZL (o::s)=Jj q.1++l'
 |o,[]=>⟨o,[],C,by simp[ZL]⟩
 |o,h::s=>by
   obtain⟨q,l',D,F⟩:=Uh h s;refine⟨q,l'++Jj o.1,by rw[List.getLast?_cons_cons];exact D,?_⟩;show ZL (h::s)++Jj o.1=_;rw[F,List.append_assoc]
theorem SV.oblk0{o:A4×Fo}{s:List (A4×Fo)}(h:SV eT eK eS u w0 w (o::s) sl oa oc sa sc x a c p vs ka kn kc kf):∃b l l' t f,oa=some ⟨b,0,none⟩∧AS w b l eK∧(o::s).getLast?=some (t,f) ∧
   l.drop (0+0*5)=.int .i64 t.k::.int .i64 t.ln::.int .i64 t.co::.int .i64 t.nm::S t.tx::l':=by
 obtain⟨⟨t,f⟩,l',F,G⟩:=Uh o s;rcases h.o.2 with ⟨_,_,J⟩|⟨b,l,K,L,_,_,_,D⟩
 · cases J
 · refine⟨b,l,l'++l.drop ((o::s).length*5),t,f,K,L,F,?_⟩
   rw[G] at D;exact IS (xs:=[]) D
theorem SV.knil(h:SV eT eK eS u w0 w so sl oa oc sa sc x a c p vs ka kn kc kf):SV eT eK eS u w0 w so sl oa oc sa sc x a c p vs none 0 0 .nil:={h with kid:=EL.nil _ _ _ _}
theorem SV.olt(h:SV eT eK eS u w0 w so sl oa oc sa sc x a c p vs ka kn kc kf):∀b,rb oa=some b→b<w.heap.size:=λ_ D=>h.o.lt D
theorem SV.slt(h:SV eT eK eS u w0 w so sl oa oc sa sc x a c p vs ka kn kc kf):∀b,rb sa=some b→b<w.heap.size:=λ_ D=>h.s.lt D
theorem SV.tlt(h:SV eT eK eS u w0 w so sl oa oc sa sc x a c p vs ka kn kc kf):∀b,rb a=some b→b<w.heap.size:=λ_ D=>let ⟨_,F,_⟩:=h.top;F.lt D
theorem SV.start{b:Nat}(D:AS w b [.slice none 0 0] eS)(F:w0.heap.size≤b):SV eT eK eS (λ_=>2) w0 w [] [] none 0 (some ⟨b,0,none⟩) 1 (.slice none 0 0) none 0 .nil [] none 0 0 .nil :=
 ⟨GC _ _ _,(λ_ h=>by cases h),⟨C,.inr ⟨b,_,C,D,Nat.le_refl _,by unfold maxLen;omega,C,C⟩⟩,(λc G=>by cases G;exact⟨F,C⟩),⟨[],GC _ _ _,tQ,(λ_ h=>by cases h)⟩,tQ,EL.nil _ _ _ _⟩
theorem SV.out(h:SV eT eK eS u w0 w so sl oa oc sa sc x a c p vs ka kn kc kf):EL (λb=>w0.heap.size≤b) w a p.len c p:=by
 obtain⟨xs,t1,t2,t3⟩:=h.top;refine⟨C,t1.n_le,?_⟩;rcases t1.2 with ⟨_,_,G⟩|⟨b,l,F,D,_,_,_,J⟩
 · exact .inl G
 · have K:=t3 b (by rw[F];rfl)
   refine .inr ⟨b,0,l,eT,K.1,F,D,?_⟩;rw[List.drop_zero,← List.take_append_drop (p.len*6) l,J];exact HF.more p xs _ (HF.imp (λb D _=>⟨D.1,C⟩) p xs t2)
theorem SV.cell'(h:SV eT eK eS u w0 w so sl oa oc sa sc x a c p vs ka kn kc kf){l:lV}{y:Value}(D:sa=some ⟨sb,0,none⟩)(G:AS w sb l eS)(F:AS w' sb (EF l (0+sl.length*1) [y]) eS)(J:GW sb w w') :
   SV eT eK eS u w0 w' so sl oa oc sa sc y a c p vs ka kn kc kf:=h.cell D G (by rwa[Nat.zero_add,Nat.mul_one] at F) J
theorem SV.last'{k0:Fo}(h:SV eT eK eS u w0 w so sl oa oc sa sc x a c (p.snoc t0 k0) vs ka kn kc kf){b:Nat}{l:lV}(G:a=some ⟨b,0,none⟩)(J:AS w b l eT)(t:A4){k1:oA}{F:Nat}(K:EL (Fz u w0) w k1 n1 F kf0)
   (D:AS w' b (EF l (0+p.len*6) (Jj t++[.slice k1 n1 F])) eT) (L:GW b w w'):SV eT eK eS u w0 w' so sl oa oc sa sc x a c (p.snoc t kf0) vs ka kn kc kf:=h.last G J t K (by rwa[Nat.zero_add] at D) L
end
theorem JW{st:List (A4×Fo)}(h:∀z∈st,z.2.len≤i):∀z∈st,z.2.len≤i+1:=λz hz=>Nat.le_succ_of_le (h z hz)
theorem Yt{st:List (A4×Fo)}(k:A4){cur:Fo}(h:∀z∈st,z.2.len≤i)(D:cur.len≤i):∀z∈(k,cur)::st,z.2.len≤i+1:=λz hz=>by
 rcases List.mem_cons.1 hz with rfl|hz
 · exact Nat.le_succ_of_le D
 · exact JW h z hz
theorem Mi{st:List (A4×Fo)}{o:A4×Fo}(h:∀z∈o::st,z.2.len≤i):∀z∈st,z.2.len≤i+1:=λz hz=>JW h z (.tail _ hz)
section
variable{k:A4}{l:List A4}{st:List (A4×Fo)}{cur:Fo}
theorem Um(h:(k.k==0)=true)(D:st.length=200):Ar (k::l) st cur=.error (k.ln,k.co):=by unfold Ar;simp[h,D]
theorem U0(h:(k.k==0)=true)(D:st.length≠200):Ar (k::l) st cur=Ar l ((k,cur)::st) .nil:=by rw[Ar.eq_def];simp[h,D]
theorem V8(h:(k.k==0)=false)(D:(k.k==1)=true):Ar (k::l) [] cur=.error (k.ln,k.co):=by unfold Ar;simp[h,D]
theorem GA{o:A4}{q:Fo}{s:List (A4×Fo)}(h:(k.k==0)=false)(D:(k.k==1)=true):Ar (k::l) ((o,q)::s) cur=Ar l s (q.snoc o cur):=by rw[Ar.eq_def];simp[h,D]
theorem GL(h:(k.k==0)=false)(D:(k.k==1)=false):Ar (k::l) st cur=Ar l st (cur.snoc k .nil):=by rw[Ar.eq_def];simp[h,D]
theorem WC{o:A4×Fo}{s:List (A4×Fo)}{t:A4}{f:Fo}(h:(o::s).getLast?=some (t,f)):Ar [] (o::s) cur=.error (t.ln,t.co):=by
 obtain⟨D,F⟩:=o;unfold Ar;rw[h]
theorem Ud:Ar [] [] cur=.ok cur:=by unfold Ar;rfl
end
end Go.SP
namespace Go.SW
open Go.RowKit
section
variable{P:Program}{n:Nat}{Q:Bh}{σ:Bp}{ds:List Deferred}{w:wO}{ops:Array Oper}{ty T:tI}{AX:String}{af:Array Edge}{rest:List Oper}{x:Operand}
def Xc(P:Program)(fn:Func)(R:Ending→wO→Prop):Bh :=
 {q:=λe σ ds w=>match e with
     |.normal|.ret=>∀tmps:Array Value,(∀t v,σ t=some v→tmps.getD t undef=v)→Leaves P fn tmps R ds .returning w
     |_=>False,
   p:=λc σ ds w=>∀tmps:Array Value,(∀t v,σ t=some v→tmps.getD t undef=v)→Leaves P fn tmps R ds (.panicking c) w}
variable {ts:Array tI}{tmps:Array Value}{u':FrameMode}{caps:List Operand}{cv l:lV}{i:Nat}
theorem wK{f:FuncId}{fn:Func}{c:Code}{R:Ending→wO→Prop}(G:P.funcs[f]?=some fn)(J:fn.body=some c)
   (K:fn.ntmps=n) (L:Nat.ble l.length n=true) (h:HI P n c (Xc P fn R) (I8 l 0) [] w):Calls P f l.toArray w R:=by
 refine calls_of_wp_defers G J ?_;rw[K];refine wp_mono (h _ (JF L)) λe a w' he=>?_
 cases e with
 |normal=>obtain⟨σ,ds,D,F⟩:=he;show Leaves _ _ _ _ a.defers _ _;rw[D.defs];exact F _ D.val
 |ret=>obtain⟨σ,ds,D,F⟩:=he;show Leaves _ _ _ _ a.defers _ _;rw[D.defs];exact F _ D.val
 |panic c=>obtain⟨σ,ds,D,F⟩:=he;show Leaves _ _ _ _ a.defers _ _;rw[D.defs];exact F _ D.val
 |outgrown=>exact he.elim
 |exit i=>obtain⟨σ,ds,D,F⟩:=he;exact F.elim
 |goto i=>obtain⟨σ,ds,D,F⟩:=he;exact F.elim
theorem Vn{f:FuncId}(F:Jd σ caps=some cv):AR P σ (.makeFunc (.func f) #[] caps.toArray) ty w (.func (.func f) #[] cv.toArray) w:=λG _ _ _ _ D=>by
 have h:=EZ D F;simp only[execOp,Instr.makeFunc,List.map_toArray,h,Array.map_empty];rfl
theorem Qq{g:Operand}{f:FuncId}{ts:Array tI}(F:ev σ g=some (.func (.func f) #[] cv.toArray))
   (h:Hd P n ops Q rest σ ({target:=.fn (.func f) cv.toArray,args:=#[]}::ds) w):Hd P n ops Q (⟨none,.defer {callee:=.value g,args:=#[],argTypes:=ts},ty,AX,af,none⟩::rest) σ ds w:=λa D =>
 wpList_plain C λK G=>by
   unfold Oper.wp
   have e:(execOp a.eval ⟨none,.defer {callee:=.value g,args:=#[],argTypes:=ts},ty,AX,af,none⟩).run P w=.ok (.defer {target:=.fn (.func f) cv.toArray,args:=#[]}) w:=by
     simp[execOp,resolve,Deferred.ofValue,D.ev _ _ F]
   rw[e];exact G _ _ (h _ ⟨D.size,by show _::a.defers=_;rw[D.defs],D.val⟩)
theorem D9{f:FuncId}{fn:Func}{d:Nat}{c:Code}{u:FrameMode}{v:Value}{U:tI}{F:String}{W:Array Edge}{R:wO→Prop}{w:wO}
   (hf:P.funcs[f]?=some fn) (hb:fn.body=some (.seq (.region i #[⟨some d,.call {callee:=.builtin .recover,args:=#[],argTypes:=ts},U,F,W,none⟩] false) c)) (hn:fn.ntmps=n) (hl:Nat.ble l.length n=true) (hd:Nat.blt d n=true)
   (Y:∀(D:Frame)(cs:List Frame),D.mode=u→(recoverD (D::cs)=some (v,{D with mode:=u' }::cs)∨(recoverD (D::cs)=none∧v=.nilIface∧u'=u)))
   (h:HI P n c (FX P fn (λ_ w'=>R w') λ_ _=>False) (AH (I8 l 0) d v) [] w):CallsD P f l.toArray u w λe m w'=>∃x,e=.returned x∧m=u'∧R w':=by
 refine callsD_of_wpS hf hb λD cs hu=>wpS_seq (wpS_region ?_)
 have Z:∀ρ,(execOp ρ ⟨some d,.call {callee:=.builtin .recover,args:=#[],argTypes:=ts},U,F,W,none⟩).run P w=.ok .recover w:=λρ=>by
   simp[execOp,resolve,invoke,builtin]
 have hgo:∀G,G={D with mode:=u' }::cs→(c.wpS P (bodyPostS P fn D cs λe m w'=>∃x,e=.returned x∧m=u'∧R w') (Act.put {tmps:=l.toArray++Array.replicate (fn.ntmps-l.toArray.size) undef,defers:=[]} (some d) v) G w):=λG hcs=>by
   subst hcs;refine wpS_of_wp ?_;have hst:=JF (n:=n) hl;rw[hn];refine wp_mono (h _ (hst.put hd v)) λe a w' he=>?_
   cases e with
   |normal=>obtain⟨σ,ds,J,K,x,Z,L⟩:=he;exact⟨by rw[J.defs,K],u',C,x,Z _ J.val,x,C,C,L⟩
   |ret=>obtain⟨σ,ds,J,K,x,Z,L⟩:=he;exact⟨by rw[J.defs,K],u',C,x,Z _ J.val,x,C,C,L⟩
   |panic c=>obtain⟨_,_,_,hq⟩:=he;exact hq.2.elim
   |outgrown=>exact he.elim
   |exit i=>obtain⟨σ,ds,J,hq⟩:=he;exact hq.elim
   |goto i=>obtain⟨σ,ds,J,hq⟩:=he;exact hq.elim
 have O:({D with mode:=u}:Frame)=D:=by subst hu;rfl
 show wpOpsS P _ _ [0] _ _ _;simp only[wpOpsS,List.getElem?_toArray,List.getElem?_cons_zero,Region.wanted,if_true,Z];rcases Y D cs hu with L|⟨L,hv,hu'⟩
 · rw[L];exact hgo _ C
 · rw[L]
   subst hv hu';exact hgo _ (by rw[O])
theorem FR{fn:Func}{R:Ending→wO→Prop}{f:FuncId}{u:FrameMode}{R':wO→Prop}(hu:u≠.run)(he:Ca P f)(h:CallsD P f cv.toArray u w λe m w'=>∃x,e=.returned x∧m=u'∧R' w')
   (D:∀w',R' w'→Leaves P fn tmps R [] (settle u') w'):Leaves P fn tmps R [{target:=.fn (.func f) cv.toArray,args:=#[]}] u w:=by
 refine leaves_cons (f:=f) (args:=cv.toArray) hu (by simp only[invoke,Array.empty_append];exact he _ _) (CallsD.mono h ?_);rintro e m w' ⟨x,rfl,rfl,hw⟩;exact D w' hw
theorem Ch{fn:Func}{R:Ending→wO→Prop}{v:Value}(D:∀t v,σ t=some v→tmps.getD t undef=v)(F:WW P fn σ w v)(h:R (.returned v) w):Leaves P fn tmps R [] .returning w:=⟨v,F _ D,h⟩
theorem UJ{v:Value}{X:tI}(F:ev σ x=some (.iface T v))(h:tas P T=true):AR P σ (.typeAssert x X T true) ty w (.tuple #[v,.bool true]) w:=λG _ _ _ _ D=>by
 unfold tas at h
 cases hu:P.underlying T with
 |none=>rw[hu] at h;cases h
 |some d =>
   rw[hu] at h
   cases d <;> simp_all [execOp,Instr.typeAssert,underlying,D _ _ F,run_underlying hu]
end
section
variable{P:Program}{σ:Bp}{w:wO}{ty T:tI}{x y:Operand}
theorem I3(h:gC P T=true):∃ms,P.underlying T=some (.interface ms):=by
 unfold gC at h
 split at h
 · exact⟨_,by assumption⟩
 · cases h
theorem qD{ms}(d:Nat){t:tI}(hu:P.underlying t=some (.interface ms)):(Op.equalIn (d+1) t .nilIface .nilIface).run P w=.ok true w:=by simp[Op.equalIn,run_underlying hu]
theorem oJ{ms}(d:Nat){t:tI}{v:Value}(hu:P.underlying t=some (.interface ms)):(Op.equalIn (d+1) t (.iface T v) .nilIface).run P w=.ok false w:=by simp[Op.equalIn,run_underlying hu]
variable {t':tI}
theorem QI{t:tI}(D:gC P t=true)(F:ev σ x=some .nilIface):AR P σ (.binOp .eql t x (.const .nilIface) t') ty w (.bool true) w:=by
 obtain⟨ms,hu⟩:=I3 D;have e:(Op.equal t .nilIface .nilIface).run P w=.ok true w:=qD (Op.maxDepth-1) hu
 exact λG _ _ _ _ h=>by
   have J:G (.const .nilIface)=.nilIface:=h _ _ C;simp[execOp,h _ _ F,J,eqGuard,binOp,e]
theorem Ro{t:tI}{v:Value}(D:gC P t=true)(F:ev σ x=some (.iface T v)):AR P σ (.binOp .eql t x (.const .nilIface) t') ty w (.bool false) w:=by
 obtain⟨ms,hu⟩:=I3 D;have e:(Op.equal t (.iface T v) .nilIface).run P w=.ok false w:=oJ (Op.maxDepth-1) hu
 exact λG _ _ _ _ h=>by
   have J:G (.const .nilIface)=.nilIface:=h _ _ C;simp[execOp,h _ _ F,J,eqGuard,binOp,e]
theorem OS:∀(D:Frame)(cs:List Frame),D.mode=.returning→(recoverD (D::cs)=some (Value.nilIface,{D with mode:=.returning}::cs)∨(recoverD (D::cs)=none∧Value.nilIface=Value.nilIface∧FrameMode.returning=.returning)):=λD cs h=>.inr ⟨by simp[recoverD,h],C,C⟩
theorem QV{v:Value}:∀(D:Frame)(cs:List Frame),D.mode=.panicking [{v:=v,recovered:=false}]→(recoverD (D::cs)=some (v,{D with mode:=.panicking [{v:=v,recovered:=true}]}::cs)∨(recoverD (D::cs)=none∧v=Value.nilIface∧FrameMode.panicking [{v:=v,recovered:=true}]=.panicking [{v:=v,recovered:=false}])):=λD cs h=>.inl (by simp[recoverD,h])
theorem KX{v:Value}:settle (.panicking [{v:=v,recovered:=true}])=.returning:=by simp[settle]
end
end Go.SW
namespace Go.SP
open Go.SW Go.RowKit
abbrev Ps:=Int×Int
def adv(c:UInt8)(p:Ps):Ps:=if (c.toNat:Int)==10 then (p.1+1,1) else (p.1,p.2+1)
def Ff:lU:=[48,49,50,51,52,53,54,55,56,57,97,98,99,100,101,102]
def ER:lU:=[32,9,10]
def KA:lU:=[32,9,10,40,41,34,59]
def Fw(p:Ps):lU→Except Ps (UInt8×lU×Ps)
 | []=>.error p
 |c::r =>
   if (c.toNat:Int)==34 then .ok (c,r,adv c p)
   else if (c.toNat:Int)==92 then .ok (c,r,adv c p)
   else if (c.toNat:Int)==110 then .ok (10,r,adv c p)
   else if (c.toNat:Int)==120 then
     match r with
     |a::b::h =>
       if decide ((0:Int)≤Lib.indexByte Ff a)&&decide ((0:Int)≤Lib.indexByte Ff b) then .ok (UInt8.ofNat ((Lib.indexByte Ff a).toNat*16+(Lib.indexByte Ff b).toNat),h,adv b (adv a (adv c p))) else .error p
     |_=>.error p
   else .error p
def DU(start:Ps):Nat→Ps→lU→lU→Except Ps (lU×lU×Ps)
 |0,_,_,_=>.error start
 |_+1,_,_,[]=>.error start
 |n+1,p,acc,c::r =>
   if (c.toNat:Int)==34 then (if decide ((4096:Int)<acc.length) then .error start else .ok (acc,r,adv c p))
   else if decide ((c.toNat:Int)<32) then .error p
   else if (c.toNat:Int) != 92 then DU start n (adv c p) (acc++[c]) r
   else match r with
     | []=>.error start
     |_=>match Fw (adv c p) r with
       |.error e=>.error e
       |.ok (b,h,D)=>DU start n D (acc++[b]) h
def Pk(i:Nat)(p:Ps):Prop:=0≤p.1∧p.1≤i+1∧0≤p.2∧p.2≤i+1
variable {i:Nat}{p:Ps}{src:lU}
theorem Pk.adv{c:UInt8}(h:Pk i p):Pk (i+1) (adv c p):=by
 obtain⟨D,F,G,J⟩:=h;unfold Go.SP.adv
 split <;> (refine⟨?_,?_,?_,?_⟩ <;> simp only <;> omega)
theorem Bj{c:UInt8}(h:src[i]?=some c):src.drop i=c::src.drop (i+1):=by
 obtain⟨D,he⟩:=List.getElem?_eq_some_iff.1 h;rw[List.drop_eq_getElem_cons D,he]
theorem K9(h:i<src.length):∃c,src[i]?=some c:=⟨src[i],List.getElem?_eq_getElem h⟩
theorem C3{c:UInt8}(h:src[i]?=some c):i<src.length:=(List.getElem?_eq_some_iff.1 h).1
theorem bQ(c:UInt8):Lib.indexByte Ff c<16:=by
 have:∀(l:lU),Lib.indexByte l c<l.length∨Lib.indexByte l c = -1:=by
   intro l
   induction l with
   |nil=>right;rfl
   |cons a l D =>
     unfold Lib.indexByte
     split
     · left;simp
     · split
       · right;rfl
       · left;simp only[List.length_cons];rcases D with h|h <;> simp_all
 rcases this Ff with h|h
 · exact h
 · omega
end Go.SP
namespace Go.SW
open Go.RowKit
theorem B8{P:Program}{σ:Bp}{w:wO}{ty:tI}{x:Operand}{a:Addr}(D:ev σ x=some (.pointer (some a))):AR P σ (.nilCheck x) ty w (.pointer (some a)) w:=λF _ _ _ _ h=>by
 simp[execOp,h _ _ D]
section
variable{P:Program}{σ:Bp}{w:wO}{ty T T':tI}{x y:Operand}
variable {a:oA}{e t':tI}
theorem jY{t:tI}{a:Int}(F:ev σ x=some (.int .i64 a))(G:ev σ y=some (.int .u64 4))(h:0≤a∧a<16):AR P σ (.binOp .shl t x y t') ty w (.int .i64 (a*16)) w :=
 λJ _ _ _ _ D=>by
   have e:IntKind.i64.wrap (a*16)=a*16:=N8 ⟨oM,oM⟩;simp[execOp,D _ _ F,D _ _ G,eqGuard,binOp,Op.shift,IntKind.bits,e]
theorem or16:∀a b:Fin 16,((BitVec.ofInt 64 ((a.val:Int)*16)) ||| (BitVec.ofInt 64 (b.val:Int))).toNat=a.val*16+b.val:=dC
theorem jD{t:tI}{a b:Int}(F:ev σ x=some (.int .i64 (a*16)))(G:ev σ y=some (.int .i64 b))(h:0≤a∧a<16)(J:0≤b∧b<16):AR P σ (.binOp .or t x y t') ty w (.int .i64 (a*16+b)) w :=
 λO _ _ _ _ D=>by
   have e:=or16 ⟨a.toNat,oM⟩ ⟨b.toNat,oM⟩;simp only[Int.toNat_of_nonneg h.1,Int.toNat_of_nonneg J.1] at e;have K:IntKind.i64.wrap (a*16+b)=a*16+b:=N8 ⟨oM,oM⟩;have L:((a.toNat*16+b.toNat:Nat):Int)=a*16+b:=oM;simp only[execOp,D _ _ F,D _ _ G,eqGuard,binOp,Op.intBits];show Result.ok (Next.value (.int .i64 (IntKind.i64.wrap ((BitVec.ofInt 64 (a*16) ||| BitVec.ofInt 64 b).toNat:Int)))) w=_;rw[e,L,K]
theorem DL{k k0:IntKind}{n m:Int}(G:ev σ x=some (.int k0 n))(h:jQ P T T'=some k)(hm:k.wrap n=m):AR P σ (.convert T T' x) ty w (.int k m) w:=by
 unfold jQ at h
 cases D:P.underlying T with
 |none=>rw[D] at h;cases h
 |some s =>
   cases hd:P.underlying T' with
   |none=>rw[D,hd] at h;cases h
   |some d =>
     rw[D,hd] at h
     cases d <;> simp at h
     rename_i J;subst h
     exact λK _ _ _ _ F=>by
       simp[execOp,F _ _ G,convert,run_underlying D,run_underlying hd,Conv.intToInt,hm]
theorem Xq{n:Int}(h:0≤n∧n<256):IntKind.u8.wrap n=n:=by
 unfold IntKind.wrap;simp[IntKind.bits,IntKind.signed];omega
def bC(l:lU):lV:=l.map λc=>.int .u8 c.toNat
theorem bC_app(l m:lU):bC (l++m)=bC l++bC m:=List.map_append
theorem fG{c:Nat}{l:lU}(J:ev σ x=some (.slice a l.length c))(h:vW P T T'=some e)(K:C0 w e 1 a c l.length (bC l)):AR P σ (.convert T T' x) ty w (S l) w:=by
 unfold vW at h
 split at h
 · rename_i F G
   split at h
   · rename_i he hd
     injection h with h
     subst h;refine λW _ _ _ _ D=>?_;simp only[execOp,D _ _ J,Sem.run_bind];rcases K.2 with ⟨rfl,_,L⟩|⟨b,cs,rfl,O,_,_,_,Q⟩
     · have:l=[]:=List.eq_nil_of_length_eq_zero L
       subst this;rw[run_convert_bytes_nil w T F G he _ c T' hd];rfl
     · rw[run_convert_bytes_back w T T' F ⟨b,0,none⟩ c l G he hd (λj U=>by
         rw[EO,O.cell,Nat.zero_add];have:(bC l)[j]?=some (.int .u8 (l[j].toNat:Int)):=by simp[bC,List.getElem?_eq_getElem U]
         rw[← Q,List.getElem?_take,if_pos (by omega)] at this;exact this)]
       rfl
   · cases h
 · cases h
end
end Go.SW
namespace Go.SP
open Go.SW Go.RowKit
def Gq:lU:=[48,49,50,51,52,53,54,55,56,57]
def F4:lU:=[65,66,67,68,69,70,71,72,73,74,75,76,77,78,79,80,81,82,83,84,85,86,87,88,89,90]
def EE:lU:=[97,98,99,100,101,102,103,104,105,106,107,108,109,110,111,112,113,114,115,116,117,118,119,120,121,122]
def G7:lU:=[39,43,42,47,60,62,61,33,63,95,46,45]
def HO(s l:lU):Bool:=Lib.trimS s l==[]
def EP(s:lU):Bool:=!(s==[])&&HO s Gq
def Bm(s:lU):lU:=Lib.trimPrefix s [45]
def CT:Nat→lU→Nat
 |n,[]=>n
 |n,c::l=>CT (n*10+(c.toNat-48)) l
def PB(s:lU):Bool:=s.head?==some 45
def Ic(s:lU):Option Int :=
 if EP (Bm s) then
   (if PB s then (if CT 0 (Bm s)≤4611686018427387904 then some (-(CT 0 (Bm s):Int)) else none)
   else if CT 0 (Bm s)<4611686018427387904 then some (CT 0 (Bm s)) else none)
 else none
def HT(s:lU):Option (lU×lU) :=
 let c:=Lib.cut (Bm s) [46]
 if c.2.2&&(EP c.1&&(EP c.2.1&&decide ((c.1.length:Int)+c.2.1.length≤15))) then some (c.1,c.2.1) else none
end Go.SP
namespace Go.SP
open Go.SW Go.RowKit
theorem hexv{a b:Int}(h:0≤a∧a<16)(D:0≤b∧b<16):((UInt8.ofNat (a.toNat*16+b.toNat)).toNat:Int)=a*16+b:=by
 have:a.toNat*16+b.toNat<256:=oM;simp only[UInt8.toNat_ofNat'];rw[Nat.mod_eq_of_lt this];omega
variable {i:Nat}{p:Ps}{src:lU}
theorem iL{a b:UInt8}(h:src[i]?=some a)(D:src[i+1]?=some b):src.drop i=a::b::src.drop (i+2):=by
 rw[Bj h,Bj D]
theorem S7{c a b:UInt8}{r:lU}(G:((c.toNat:Int)==34)=false)(J:((c.toNat:Int)==92)=false)(D:((c.toNat:Int)==110)=false)(F:((c.toNat:Int)==120)=true)
   (h:Lib.indexByte Ff a<0∨Lib.indexByte Ff b<0):Fw p (c::a::b::r)=.error p:=by
 simp only[Fw,G,J,D,F,Bool.false_eq_true,if_false,if_true];rw[if_neg];simp only[Bool.and_eq_true,decide_eq_true_eq];omega
theorem cE{c:UInt8}{r:lU}(F:((c.toNat:Int)==34)=false)(G:((c.toNat:Int)==92)=false)(D:((c.toNat:Int)==110)=false)(h:r.length<2):Fw p (c::r)=.error p:=by
 unfold Fw;rcases r with _|⟨a,_|⟨b,r⟩⟩
 · simp[F,G,D]
 · simp[F,G,D]
 · simp at h;omega
end Go.SP
namespace Go.SP
open Go.SW Go.RowKit
def Nb(neg:Bool)(a b:lU):Nat :=
 let m:=CT 0 (a++b)
 let x:=FloatKind.f64.nearest m
 let x:=if neg then Op.negFloat .f64 x else x
 if m=0 then (if neg then 9223372036854775808 else 0) else (FloatKind.f64.format.div x (G5.getD b.length 0)).getD 0
def IB(s:lU):Option Nat:=match HT s with
 |none=>none
 |some (a,b)=>let f:=Nb (PB s) a b
   some (if Op.floatEq .f64 f f then f else 9221120237041090560)
def QA(x:Nat):Nat→lU
 |0=>[]
 |j+1=>UInt8.ofNat (x / 2 ^ (8*j))::QA x j
def Po(x:Nat):lU:=QA x 8
def Gj(w:lU):Option (Int×Int×lU) :=
 match Ic w with
 |some n=>some (2,n,[])
 |none=>match IB w with
   |some x=>some (3,0,Po x)
   |none =>
     if decide ((40:Int)<w.length)||(!(Bm w==[])&&HO (Bm w) Gq) then none
     else if HO (w.take 1) F4&&HO w (F4++EE++Gq) then some (6,0,w)
     else if HO (w.take 1) (EE++G7)&&HO w (F4++EE++Gq++G7) then some (5,0,w)
     else none
def GJ(p:Ps):lU→lU×Ps
 | []=>([],p)
 |c::r=>if (c.toNat:Int) != 10 then GJ (adv c p) r else (c::r,p)
def Cr(p:Ps):lU→lU×lU×Ps
 | []=>([],[],p)
 |c::r=>if decide (Lib.indexByte KA c<0) then (c::(Cr (adv c p) r).1,(Cr (adv c p) r).2) else ([],c::r,p)
def CN(F:Nat)(p:Ps):lU→Except Ps (List A4×lU×Ps)
 | []=>.error p
 |c::r =>
   if decide ((0:Int)≤Lib.indexByte ER c) then .ok ([],r,adv c p)
   else if (c.toNat:Int)==59 then .ok ([],GJ (adv c p) r)
   else if (c.toNat:Int)==40 then .ok ([⟨0,p.1,p.2,0,[]⟩],r,adv c p)
   else if (c.toNat:Int)==41 then .ok ([⟨1,p.1,p.2,0,[]⟩],r,adv c p)
   else if (c.toNat:Int)==34 then (match DU p F (adv c p) [] r with
     |.error e=>.error e
     |.ok (tx,h,D)=>.ok ([⟨4,p.1,p.2,0,tx⟩],h,D))
   else (match Gj (c::(Cr (adv c p) r).1) with
     |none=>.error p
     |some (k,nm,tx)=>.ok ([⟨k,p.1,p.2,nm,tx⟩],(Cr (adv c p) r).2))
def Ee(F:Nat):Nat→Ps→lU→Except Ps (List A4)
 |_,_,[]=>.ok []
 |0,p,_::_=>.error p
 |n+1,p,c::r=>match CN F p (c::r) with
   |.error e=>.error e
   |.ok (t,h,D)=>match Ee F n D h with
     |.error e=>.error e
     |.ok l=>.ok (t++l)
def IH(src:lU):Except (Int×Int×Int) (List A4) :=
 if decide ((65536:Int)<src.length) then .error (0,0,4)
 else match Ee (src.length+1) src.length (1,1) src with
   |.error e=>.error (e.1,e.2,10)
   |.ok l=>.ok l
variable {m:Nat}{a a':oA}{w w1 w2:wO}
theorem Lk.grow(h:Lk m w w1)(D:G1 a w1 a' w2)(K:∀x,rb a=some x→w.heap.size≤x):Lk m w w2 :=
 ⟨D.os.trans h.os,D.tape.trans h.tape,D.output.trans h.output,Nat.le_trans h.size D.size,λk J G=>(D.block k (Nat.lt_of_lt_of_le J h.size) (λe=>by have:=K k e.symm;omega)).trans (h.block k J G)⟩
end Go.SP
namespace Go.SW
open Go.SP Go.RowKit
variable {xs:lV}{m n:Nat}{a:oA}{e:tI}{w w':wO}
theorem C0.exb{size:Nat}{c:Nat}(h:C0 w e size a c n xs)(J:Lk m w w')(D:rb a≠some m):C0 w' e size a c n xs :=
 ⟨h.1,h.2.imp id λ⟨b,l,G,K,L⟩=>⟨b,l,G,K.exb J (λe=>D (by rw[G,e];rfl)),L⟩⟩
end Go.SW
namespace Go.SP
open Go.SW Go.RowKit
variable {a a':oA}{w1 w2:wO}
theorem Co{p:Nat→Prop}(G:G1 a w1 a' w2)(h:∀x,rb a=some x→p x)(J:p w1.heap.size):∀x,rb a'=some x→p x:=λx D=>by
 rcases G.own with e|e
 · exact h x (e▸D)
 · have:=Option.some.inj (e.symm.trans D)
   exact this▸J
theorem JJ{src:lU}{i:Nat}(h:¬i<src.length):src.drop i=[]:=List.drop_eq_nil_of_le oM
theorem CI(start p:Ps)(n:Nat)(acc r:lU)(c:UInt8):DU start (n+1) p acc (c::r) =
   (if (c.toNat:Int)==34 then (if decide ((4096:Int)<acc.length) then .error start else .ok (acc,r,adv c p))
   else if decide ((c.toNat:Int)<32) then .error p
   else if (c.toNat:Int) != 92 then DU start n (adv c p) (acc++[c]) r
   else match r with
     | []=>.error start
     |_=>match Fw (adv c p) r with
       |.error e=>.error e
       |.ok (b,h,D)=>DU start n D (acc++[b]) h):=rfl
section
variable{start p:Ps}{F i:Nat}{acc src:lU}{c:UInt8}
theorem Tv(D:0<F)(h:¬i<src.length):DU start F p acc (src.drop i)=.error start:=by
 rw[JJ h]
 cases F with
 |zero=>omega
 |succ n=>rfl
theorem iK(h:src[i]?=some c)(D:((c.toNat:Int)==34)=true)(G:decide ((4096:Int)<acc.length)=true):DU start (F+1) p acc (src.drop i)=.error start:=by rw[Bj h];rw[CI,if_pos D,if_pos G]
theorem gV(h:src[i]?=some c)(D:((c.toNat:Int)==34)=true)(G:decide ((4096:Int)<acc.length)=false):DU start (F+1) p acc (src.drop i)=.ok (acc,src.drop (i+1),adv c p):=by rw[Bj h];rw[CI,if_pos D,if_neg (by rw[G];decide)]
theorem fD(h:src[i]?=some c)(D:((c.toNat:Int)==34)=false)(G:decide ((c.toNat:Int)<32)=true):DU start (F+1) p acc (src.drop i)=.error p:=by rw[Bj h];rw[CI,if_neg (by rw[D];decide),if_pos G]
theorem Yx(h:src[i]?=some c)(D:((c.toNat:Int)==34)=false)(G:decide ((c.toNat:Int)<32)=false)(J:((c.toNat:Int) != 92)=true) :
   DU start (F+1) p acc (src.drop i)=DU start F (adv c p) (acc++[c]) (src.drop (i+1)):=by rw[Bj h];rw[CI,if_neg (by rw[D];decide),if_neg (by rw[G];decide),if_pos J]
theorem Z1(D:src[i]?=some c)(G:((c.toNat:Int)==34)=false)(J:decide ((c.toNat:Int)<32)=false)(K:((c.toNat:Int) != 92)=false)(h:¬i+1<src.length) :
   DU start (F+1) p acc (src.drop i)=.error start:=by rw[Bj D,JJ h];rw[CI,if_neg (by rw[G];decide),if_neg (by rw[J];decide),if_neg (by rw[K];decide)]
theorem Zg{e:Ps}(G:src[i]?=some c)(J:((c.toNat:Int)==34)=false)(K:decide ((c.toNat:Int)<32)=false)(L:((c.toNat:Int) != 92)=false)(h:i+1<src.length)
   (D:Fw (adv c p) (src.drop (i+1))=.error e):DU start (F+1) p acc (src.drop i)=.error e:=by
 obtain⟨d,hd⟩:=K9 h;rw[Bj G,CI,if_neg (by rw[J];decide),if_neg (by rw[K];decide),if_neg (by rw[L];decide)];rw[Bj hd] at D ⊢;simp only[D]
theorem Yv{b:UInt8}{D:lU}{G:Ps}(K:src[i]?=some c)(L:((c.toNat:Int)==34)=false)(O:decide ((c.toNat:Int)<32)=false)(Q:((c.toNat:Int) != 92)=false)(h:i+1<src.length)
   (J:Fw (adv c p) (src.drop (i+1))=.ok (b,D,G)):DU start (F+1) p acc (src.drop i)=DU start F G (acc++[b]) D:=by
 obtain⟨d,hd⟩:=K9 h;rw[Bj K,CI,if_neg (by rw[L];decide),if_neg (by rw[O];decide),if_neg (by rw[Q];decide)];rw[Bj hd] at J ⊢;simp only[J]
end
end Go.SP
namespace Go.SW
open Go.RowKit
section
variable{P:Program}{n:Nat}{Q:Bh}{σ:Bp}{ds:List Deferred}{w:wO}{ops:Array Oper}{ty T T':tI}{AX:String}{af:Array Edge}{rest:List Oper}{d b off k:Nat}{x y:Operand}
variable {l:lV}{e t':tI}{w':wO}
theorem Nx{t:tI}{k:IntKind}{a b:Int}(m:Int)(F:ev σ x=some (.int k a))(G:ev σ y=some (.int k b))(h:k.wrap (a+b)=m):AR P σ (.binOp .add t x y t') ty w (.int k m) w :=
 λJ _ _ _ _ D=>by simp[execOp,D _ _ F,D _ _ G,eqGuard,binOp,Op.intArith,h]
theorem FZ{t:tI}{k:IntKind}{a b:Int}(m:Int)(F:ev σ x=some (.int k a))(G:ev σ y=some (.int k b))(h:k.wrap (a-b)=m):AR P σ (.binOp .sub t x y t') ty w (.int k m) w :=
 λJ _ _ _ _ D=>by simp[execOp,D _ _ F,D _ _ G,eqGuard,binOp,Op.intArith,h]
theorem QU{t:tI}{k:IntKind}{a b:Int}(m:Int)(F:ev σ x=some (.int k a))(G:ev σ y=some (.int k b))(h:k.wrap (a*b)=m):AR P σ (.binOp .mul t x y t') ty w (.int k m) w :=
 λJ _ _ _ _ D=>by simp[execOp,D _ _ F,D _ _ G,eqGuard,binOp,Op.intArith,h]
theorem JZ{t:tI}{k k2:IntKind}{a b:Int}(m:Int)(F:ev σ x=some (.int k a))(G:ev σ y=some (.int k2 b))(J:¬b<0)(h:k.wrap (a*2 ^ (min b.toNat k.bits))=m):AR P σ (.binOp .shl t x y t') ty w (.int k m) w :=
 λK _ _ _ _ D=>by simp only[execOp,D _ _ F,D _ _ G,eqGuard,binOp,Op.shift,if_neg J,h];rfl
theorem XV{t:tI}{k k2:IntKind}{a b:Int}(m:Int)(F:ev σ x=some (.int k a))(G:ev σ y=some (.int k2 b))(J:¬b<0)(h:a.fdiv (2 ^ (min b.toNat k.bits))=m):AR P σ (.binOp .shr t x y t') ty w (.int k m) w :=
 λK _ _ _ _ D=>by simp only[execOp,D _ _ F,D _ _ G,eqGuard,binOp,Op.shift,if_neg J,h];rfl
theorem LV{t:tI}{k:IntKind}{a:Int}(m:Int)(F:ev σ x=some (.int k a))(h:k.wrap (0-a)=m):AR P σ (.unOp .neg t x) ty w (.int k m) w:=λJ _ _ _ _ D=>by
 have G:k.wrap (-a)=m:=by rw[← h];congr 1;omega
 simp[execOp,D _ _ F,Op.unary,Op.intArith,G]
theorem Ik{t:tI}(D:gC P t=true)(F:ev σ x=some .nilIface):AR P σ (.binOp .neq t x (.const .nilIface) t') ty w (.bool false) w:=by
 obtain⟨ms,hu⟩:=I3 D;have e:(Op.equal t .nilIface .nilIface).run P w=.ok true w:=qD (Op.maxDepth-1) hu
 exact λG _ _ _ _ h=>by
   have J:G (.const .nilIface)=.nilIface:=h _ _ C;simp[execOp,h _ _ F,J,eqGuard,binOp,e]
theorem Lt{t:tI}{v:Value}(D:gC P t=true)(F:ev σ x=some (.iface T v)):AR P σ (.binOp .neq t x (.const .nilIface) t') ty w (.bool true) w:=by
 obtain⟨ms,hu⟩:=I3 D;have e:(Op.equal t (.iface T v) .nilIface).run P w=.ok false w:=oJ (Op.maxDepth-1) hu
 exact λG _ _ _ _ h=>by
   have J:G (.const .nilIface)=.nilIface:=h _ _ C;simp[execOp,h _ _ F,J,eqGuard,binOp,e]
def jI(P:Program)(T:tI):Bool:=match P.info? T,P.underlying T with|some i,some (.int _)=>i.comparable|_,_=>false
theorem eqI{ms}(dd:Nat){t:tI}{k:IntKind}{a b:Int}(hu:P.underlying t=some (.interface ms))(h:jI P T=true):(Op.equalIn (dd+2) t (.iface T (.int k a)) (.iface T (.int k b))).run P w=.ok (a==b) w:=by
 unfold jI at h
 split at h
 · rename_i i J D F
   have G:(Op.equalIn (dd+1) T (.int k a) (.int k b)).run P w=.ok (a==b) w:=by simp[Op.equalIn,run_underlying F]
   rw[Op.equalIn];simp[run_underlying hu,typeInfo,D,h,G]
 · cases h
theorem eF{t:tI}{k:IntKind}{a b:Int}(D:gC P t=true)(F:jI P T=true)(G:ev σ x=some (.iface T (.int k a)))(J:ev σ y=some (.iface T (.int k b))):AR P σ (.binOp .neq t x y t') ty w (.bool (!(a==b))) w:=by
 obtain⟨ms,hu⟩:=I3 D;have e:(Op.equal t (.iface T (.int k a)) (.iface T (.int k b))).run P w=.ok (a==b) w:=eqI (Op.maxDepth-2) hu F;exact λK _ _ _ _ h=>by simp[execOp,h _ _ G,h _ _ J,eqGuard,binOp,e]
structure wT(w:wO)(b:Nat)(l:lV):Prop where
 lt:b<w.heap.size
 at':∀j v,l[j]?=some v→w.cell? ⟨b,j,none⟩=some v
theorem wT.ext{w:wO}{b:Nat}(h:wT w b l)(D:AY w w'):wT w' b l :=
 ⟨Nat.lt_of_lt_of_le h.lt D.size,λj v F=>(D.cell (p:=⟨b,j,none⟩) h.lt).trans (h.at' j v F)⟩
theorem fZ{v:Value}(D:ev σ x=some (.pointer (some ⟨b,off,none⟩)))(F:Be P T=some (false,k))(G:wT w b l)(J:l[off]?=some v):AR P σ (.load T x) ty w v w:=λL _ _ _ _ h=>by
 have K:=G.at' off v J;simp[execOp,h _ _ D,Instr.loadAt,Instr.sureAddr,loadVar,Fp F,run_load,K]
def sY(P:Program)(s d:tI):Option tI:=match P.underlying s with
 |some .string=>match P.underlying d with|some (.slice e)=>(match P.underlying e with|some (.int .u8)=>some e|_=>none)|_=>none
 |_=>none
theorem kN{l:lU}(hd:Nat.blt d n=true)(O:ev σ x=some (S l))(D:sY P T T'=some e)
   (h:∀b c w',wT w' b (bC l)→AY w w'→Hd P n ops Q rest (AH σ d (.slice (some ⟨b,0,none⟩) l.length c)) ds w'):Hd P n ops Q (⟨some d,.convert T T' x,ty,AX,af,none⟩::rest) σ ds w:=by
 unfold sY at D
 split at D
 · rename_i W
   split at D
   · rename_i F J
     split at D
     · rename_i he
       injection D with D
       subst D
       have Y:AR P σ (.convert T T' x) ty w (.slice (some ⟨w.heap.size,0,none⟩) l.length (grownCap w l.length 0 F)) (Lib.bytesWorld w F ⟨l.toArray⟩):=λρ _ _ _ _ K=>by
         have:=Lib.run_convert_string_bytes (P:=P) w T T' F ⟨l.toArray⟩ W J he;have Z:(⟨l.toArray⟩:ByteArray).size=l.length:=by simp[ByteArray.size]
         rw[Z] at this;simp only[execOp,K _ _ O,Sem.run_bind,this];rfl
       refine Ab hd Y (h _ _ _ ⟨by rw[Lib.bytesWorld_size];omega,λj v L=>?_⟩ ⟨C,C,C,by rw[Lib.bytesWorld_size];omega,λj G=>Lib.bytesWorld_at_old w F _ j G⟩)
       have G:j<l.length:=by
         rcases Nat.lt_or_ge j l.length with h|h
         · exact h
         · rw[List.getElem?_eq_none (by simpa[bC] using h)] at L;cases L
       have:=Lib.bytesWorld_cell w F ⟨l.toArray⟩ j (by simpa[ByteArray.size] using G);rw[this,← L];simp[bC,G]
     · cases D
   · cases D
 · cases D
end
theorem HR{n:Int}(h:0≤n∧n≤18446744073709551615):IntKind.u64.wrap n=n:=IntWalk.u64_in _ h
theorem Ks{n:Int}(h : -9223372036854775808≤n∧n≤9223372036854775807):IntKind.i64.wrap n=n:=IntWalk.i64_in _ h
end Go.SW
namespace Go.SW
open Go.RowKit
theorem Nf{P:Program}{σ:Bp}{w:wO}{ty T:tI}{x lo:Operand}{c:UInt8}{s:lU}{k1:IntKind}(D:ev σ x=some (S (c::s)))(h:ev σ lo=some (.int k1 1))(F:P.underlying T=some .string) :
   AR P σ (.slice T x (some lo) none none) ty w (S s) w:=by
 have:=US (ty:=ty) (w:=w) D h F ⟨oM,by simp only[List.length_cons];omega⟩;simpa using this
end Go.SW
namespace Go.SW
open Go.RowKit
section
variable{P:Program}{σ:Bp}{w:wO}{ty T T':tI}{x y:Operand}
variable {vs:lV}{t':tI}
theorem dW{f:FuncId}{fn:Func}{e:Array Value→Sem Value}{g:Operand}{args:List Operand}{ts:Array tI}{v:Value}(F:P.funcs[f]?=some fn)(G:(fn.name == "runtime.NumGoroutine")=false) (J:fn.body.isNone=true)
   (K:Extern.findNext fn=none) (L:Extern.find fn=some e) (O:ev σ g=some (.func (.func f) #[] #[])) (W:Jd σ args=some vs) (Y:(e vs.toArray).run P w=.ok v w) :
   AR P σ (.call {callee:=.value g,args:=args.toArray,argTypes:=ts}) ty w v w:=λρ _ _ _ _ D=>by
 have h:=EZ D W;have Z:=run_callFunc_extern F G J K L vs.toArray w;simp[execOp,resolve,D _ _ O,Deferred.ofValue,invoke,h,Z,Y]
theorem vR{t:tI}{k:FloatKind}{a b:Nat}(D:ev σ x=some (.float k a))(F:ev σ y=some (.float k b)):AR P σ (.binOp .neq t x y t') ty w (.bool (!(Op.floatEq k a b))) w :=
 λG _ _ _ _ h=>by simp[execOp,h _ _ D,h _ _ F,eqGuard,binOp,Op.floatCmp,Op.floatEq];rfl
theorem Xp{t:tI}{k:FloatKind}{a b r:Nat}(F:ev σ x=some (.float k a))(G:ev σ y=some (.float k b))(h:k.format.div a b=some r):AR P σ (.binOp .quo t x y t') ty w (.float k r) w :=
 λJ _ _ _ _ D=>by simp[execOp,D _ _ F,D _ _ G,eqGuard,binOp,Op.floatArith,h]
theorem nT{t:tI}{k:FloatKind}{a:Nat}(D:ev σ x=some (.float k a)):AR P σ (.unOp .neg t x) ty w (.float k (Op.negFloat k a)) w:=λF _ _ _ _ h=>by
 simp[execOp,h _ _ D,Op.unary]
def cvF(P:Program)(s d:tI):Option FloatKind:=match P.underlying s,P.underlying d with|some _,some (.float k)=>some k|_,_=>none
theorem rA{k:FloatKind}{k0:IntKind}{n:Int}(G:ev σ x=some (.int k0 n))(h:cvF P T T'=some k):AR P σ (.convert T T' x) ty w (.float k (k.nearest n)) w:=by
 unfold cvF at h
 cases D:P.underlying T with
 |none=>rw[D] at h;cases h
 |some s =>
   cases hd:P.underlying T' with
   |none=>rw[D,hd] at h;cases h
   |some d =>
     rw[D,hd] at h
     cases d <;> simp at h
     rename_i J;subst h
     exact λK _ _ _ _ F=>by
       simp[execOp,F _ _ G,convert,run_underlying D,run_underlying hd,Conv.intToFloat]
end
theorem SC(x k:Nat):(x:Int).fdiv (2 ^ k)=((x / 2 ^ k:Nat):Int):=by
 rw[Int.fdiv_eq_ediv_of_nonneg _ (Int.le_of_lt (Int.pow_pos (by decide)))];simp
theorem sC(n:Nat):IntKind.u8.wrap (n:Int)=((UInt8.ofNat n).toNat:Int):=by
 unfold IntKind.wrap;simp[IntKind.bits,IntKind.signed]
end Go.SW
namespace Go.SW
open Go.RowKit
section
variable{P:Program}{n:Nat}{Q:Bh}{S:wO→Prop}{σ:Bp}{ds:List Deferred}{w:wO}{ops:Array Oper}{op:Op}{ty:tI}{AX:String}{af:Array Edge}{rest:List Oper}{r:List (Bool×Oper)}{d:Nat}
variable {want:Bool}{dj j:Nat}{dst:Option Tmp}
theorem YW{a:Act}(G:St n σ ds a)(F:(ops[j]?).bind (·.dst)=some dj)(J:σ dj=some undef) :
   Region.wanted ⟨dst,op,ty,AX,af,some (j,want)⟩ (yielded ops a.tmps)=false:=by
 have h:=G.val dj _ J
 cases D:a.tmps[dj]? with
 |none=>simp[Region.wanted,yielded,F,D]
 |some u =>
   rw[Array.getD_eq_getD_getElem?,D] at h;simp at h;subst h;simp[Region.wanted,yielded,F,D,undef]
end
end Go.SW
namespace Go.SW
open Go.RowKit
section
variable{P:Program}{n:Nat}{Q:Bh}{σ:Bp}{ds:List Deferred}{w:wO}
def ngt(Q:Bh):Bh:={q:=λe σ ds w=>match e with|.goto _=>False|e=>Q.q e σ ds w,p:=Q.p}
theorem YV{c:Code}(h:HI P n c (ngt Q) σ ds w):HI P n (.scope c) Q σ ds w:=λa D =>
 wp_scope_straight (wp_mono (h a D) λe a' w' he=>by
   cases e with
   |goto l=>obtain⟨_,_,_,F⟩:=he;exact F.elim
   |normal=>exact he
   |panic c=>exact he
   |outgrown=>exact he
   |ret=>exact he
   |exit i=>exact he)
theorem oG(h:Q.q .ret σ ds w):(ngt Q).q .ret σ ds w:=h
theorem Y6{l:Nat}(h:Q.q .normal σ ds w):HI P n (.label l) Q σ ds w:=λ_ D=>wp_label ⟨σ,ds,D,h⟩
end
section
variable{P:Program}{σ:Bp}{w:wO}{ty T T':tI}{x y:Operand}
variable {kk:IntKind}{t':tI}
theorem rY{t:tI}{a b:Bool}(D:P.underlying t=some .bool)(F:ev σ x=some (.bool a))(G:ev σ y=some (.bool b)):AR P σ (.binOp .eql t x y t') ty w (.bool (a==b)) w:=by
 have e:(Op.equal t (.bool a) (.bool b)).run P w=.ok (a==b) w:=by
   show (Op.equalIn (Op.maxDepth-1+1) t _ _).run P w=_;simp[Op.equalIn,run_underlying D]
 exact λJ _ _ _ _ h=>by simp[execOp,h _ _ F,h _ _ G,eqGuard,binOp,e]
theorem RU{t:tI}{b:Bool}(h:P.underlying t=some .bool)(D:ev σ x=some (.bool true))(F:ev σ y=some (.bool b)):AR P σ (.binOp .eql t x y t') ty w (.bool b) w:=by
 have:=rY (ty:=ty) (w:=w) (t':=t') h D F;rwa[show (true==b)=b by cases b <;> rfl] at this
theorem aC{t:tI}{k:IntKind}{a b:Int}(m:Int)(F:ev σ x=some (.int k a))(G:ev σ y=some (.int k b))(h:k.wrap (BitVec.ofInt k.bits a ||| BitVec.ofInt k.bits b).toNat=m):AR P σ (.binOp .or t x y t') ty w (.int k m) w :=
 λJ _ _ _ _ D=>by
   simp only[execOp,D _ _ F,D _ _ G,eqGuard,binOp,Op.intBits,h,ne_eq,not_true_eq_false,if_false];rfl
theorem lG{a b:Int}{ts:Array tI}(D:ev σ x=some (.int kk a))(F:ev σ y=some (.int kk b)):AR P σ (.call {callee:=.builtin .min,args:=#[x,y],argTypes:=ts}) ty w (.int kk (if b<a then b else a)) w:=λG _ _ _ _ h=>by
 simp[execOp,resolve,invoke,builtin,h _ _ D,h _ _ F,Builtin.min_,Builtin.min2]
end
end Go.SW
namespace Go.SW
open Go.RowKit
variable {r1 r2 r3:ResultVar}{v1 v2 v3 v4:Value}
theorem pV{P:Program}{σ:Bp}{w:wO}{fn:Func}{F G J K:ResultVar}{v5 v6 L:Value}(h:fn.results=#[r1,r2,r3,F,G,J,K])(O:Rv P σ w r1 v1)(W:Rv P σ w r2 v2)(Y:Rv P σ w r3 v3)(Z:Rv P σ w F v4)(h5:Rv P σ w G v5)(h6:Rv P σ w J v6)(h7:Rv P σ w K L) :
   WW P fn σ w (.tuple #[v1,v2,v3,v4,v5,v6,L]):=λtmps D=>by
 have g1:=O tmps D;have g2:=W tmps D;have g3:=Y tmps D;have g4:=Z tmps D;have g5:=h5 tmps D;have g6:=h6 tmps D;have g7:=h7 tmps D;rw[IK,h,List.mapM_toArray];simp[g1,g2,g3,g4,g5,g6,g7]
end Go.SW
namespace Go.SW
open Go.RowKit
theorem Iu{P:Program}{σ:Bp}{w:wO}{ty T:tI}{x:Operand}{b off k:Nat}{v:Value}(D:ev σ x=some (.pointer (some ⟨b,off,none⟩)))(F:Be P T=some (false,k))(G:w.cell? ⟨b,off,none⟩=some v):AR P σ (.load T x) ty w v w:=λJ _ _ _ _ h=>by
 simp[execOp,h _ _ D,Instr.loadAt,Instr.sureAddr,loadVar,Fp F,run_load,G]
end Go.SW
namespace Go.SW
open Go.RowKit
section
variable{P:Program}{n:Nat}{Q:Bh}{σ:Bp}{ds:List Deferred}{w:wO}{ty T T':tI}{x y:Operand}
end
end Go.SW
namespace Go.SP
open Go.SW
variable {co ln:Int}{U:Nat→Prop}{a:oA}
theorem HC.head{w:wO}{n c:Nat}{op nm:Int}{tx:lU}{kids rest:Nd}(h:HC U w a n c (.cons op ln co tx nm kids rest)):∃b off l T ka kn kc l',U b∧a=some ⟨b,off,none⟩∧AS w b l T ∧
   l.drop off=.int .i64 op::.int .i64 ln::.int .i64 co::S tx::.int .i64 nm::.slice ka kn kc::l'∧HC U w ka kn kc kids∧Gd U w rest l'∧n=rest.len+1:=by
 obtain⟨D,W,F|⟨b,off,l,T,hu,G,J,ka,kn,kc,l',K,L,O⟩⟩:=h
 · rw[F] at D;cases D
 · exact⟨b,off,l,T,ka,kn,kc,l',hu,G,J,K,L,O,D⟩
end Go.SP
namespace Go.SW
open Go.RowKit
def bP(P:Program)(t:tI):Bool:=match P.underlying t with
 |some (.struct fs)=>(match fs.toList with
   | [f,g]=>(f.name != "_" && g.name != "_")&&(f.offset==0&&g.offset==1)&&(match P.underlying f.type,P.underlying g.type with|some (.int .i64),some (.int .i64)=>true|_,_=>false)
   |_=>false)&&(!P.stoodInHeld t&&!P.eqGuardType P.depth t)
 |_=>false
variable {e t':tI}
theorem GB{P:Program}{w:wO}{k:IntKind}{cs:Array Value}{off:Nat}{v:Value}(he:P.underlying e=some (.int k))(h:cs[off]?=some v):(part e cs off).run P w=.ok v w:=by
 simp[part,isAgg,run_underlying he,h]
theorem Zd{P:Program}{w:wO}{t:tI}{a1 a2 b1 b2:Int}(h:bP P t=true)(d:Nat) :
   (Op.equalIn (d+2) t (.agg #[.int .i64 a1,.int .i64 a2]) (.agg #[.int .i64 b1,.int .i64 b2])).run P w=.ok (a1==b1&&a2==b2) w:=by
 unfold bP at h
 split at h
 · rename_i fs hu
   rw[Bool.and_eq_true] at h;obtain⟨D,G⟩:=h
   split at D
   · rename_i f g F
     simp only[Bool.and_eq_true] at D G;obtain⟨⟨⟨J,K⟩,L,O⟩,h3⟩:=D
     split at h3
     · rename_i W Y
       have e1:f.offset=0:=by simpa using L
       have e2:g.offset=1:=by simpa using O
       have n1:f.name ≠ "_" := by simpa using J
       have n2:g.name ≠ "_" := by simpa using K
       have Z:P.stoodInHeld t=false:=by simpa using G.1
       have q1:(Op.equalIn (d+1) f.type (.int .i64 a1) (.int .i64 b1)).run P w=.ok (a1==b1) w:=by simp[Op.equalIn,run_underlying W]
       have q2:(Op.equalIn (d+1) g.type (.int .i64 a2) (.int .i64 b2)).run P w=.ok (a2==b2) w:=by simp[Op.equalIn,run_underlying Y]
       have p1:(part f.type #[Value.int .i64 a1,.int .i64 a2] 0).run P w=.ok (.int .i64 a1) w:=GB W C;have p2:(part f.type #[Value.int .i64 b1,.int .i64 b2] 0).run P w=.ok (.int .i64 b1) w:=GB W C;have p3:(part g.type #[Value.int .i64 a1,.int .i64 a2] 1).run P w=.ok (.int .i64 a2) w:=GB Y C;have p4:(part g.type #[Value.int .i64 b1,.int .i64 b2] 1).run P w=.ok (.int .i64 b2) w:=GB Y C;obtain⟨fl⟩:=fs;simp only at F;subst F;rw[Op.equalIn];simp only[Sem.run_bind,run_underlying hu,Result.andThen_ok,run_program,Z,Bool.false_eq_true,if_false]
       cases D:a1==b1 <;> cases G:a2==b2 <;> simp[n1,n2,e1,e2,p1,p2,p3,p4,q1,q2,D,G]
     · cases h3
   · cases D
 · cases h
theorem eM{P:Program}{σ:Bp}{w:wO}{ty t:tI}{x y:Operand}{a1 a2 b1 b2:Int}(h:bP P t=true)(F:ev σ x=some (.agg #[.int .i64 a1,.int .i64 a2]))(G:ev σ y=some (.agg #[.int .i64 b1,.int .i64 b2])) :
   AR P σ (.binOp .eql t x y t') ty w (.bool (a1==b1&&a2==b2)) w:=λK _ _ _ _ D=>by
 have J:P.eqGuardType P.depth t=false:=by
   unfold bP at h
   split at h
   · simp only[Bool.and_eq_true] at h;simpa using h.2.2
   · cases h
 have e:=Zd (w:=w) (a1:=a1) (a2:=a2) (b1:=b1) (b2:=b2) h 9998;simp[execOp,D _ _ F,D _ _ G,run_eqGuard_agg w _ _ _ _ _ _ J,run_eql_struct,e]
abbrev Fq:=Nat→Nat
structure HB where
 b:Nat
 l:lV
 T:tI
 nw:Bool
structure RB where
 e:tI
 size:Nat
 a:oA
 c:Nat
 n:Nat
 xs:lV
structure FB where
 b:Nat
 off:Nat
 l:lV
structure Ni(M:Nat→Prop)(w w':wO):Prop where
 os:w'.os=w.os
 tape:w'.tape=w.tape
 output:w'.output=w.output
 size:w.heap.size≤w'.heap.size
 block:∀k,k<w.heap.size→¬M k→w'.heap[k]?=w.heap[k]?
theorem Ni.refl(M:Nat→Prop)(w:wO):Ni M w w:=⟨C,C,C,Nat.le_refl _,λ_ _ _=>C⟩
variable {nw:Bool}{f':Fq}{H':List HB}{l l':lV}{b i off:Nat}{M M':Nat→Prop}{T:tI}{w' w1 w2:wO}
theorem Ni.trans{w:wO}(h:Ni M w w1)(k:Ni M w1 w2):Ni M w w2 :=
 ⟨k.os.trans h.os,k.tape.trans h.tape,k.output.trans h.output,Nat.le_trans h.size k.size,λi D hm=>(k.block i (Nat.lt_of_lt_of_le D h.size) hm).trans (h.block i D hm)⟩
theorem Ni.mono{w:wO}(h:Ni M w w1)(hm:∀b,M b→M' b):Ni M' w w1:=⟨h.os,h.tape,h.output,h.size,λi D F=>h.block i D λG=>F (hm i G)⟩
theorem Ni.of_ext{w:wO}(h:AY w w'):Ni M w w':=⟨h.os,h.tape,h.output,h.size,λk D _=>h.block k D⟩
theorem Ni.ext{w:wO}(h:Ni (λ_=>False) w w'):AY w w':=⟨h.os,h.tape,h.output,h.size,λk D=>h.block k D (λh=>h)⟩
theorem Es{w:wO}(h:w'.heap[b]?=w.heap[b]?)(o:Nat):w'.cell? ⟨b,o,none⟩=w.cell? ⟨b,o,none⟩:=by simp[World.cell?,h]
def Ji(w:wO)(f:Fq)(w':wO)(f':Fq):Prop:=∀b,f b≤f' b∧∀o,o<f b→w'.cell? ⟨b,o,none⟩=w.cell? ⟨b,o,none⟩
theorem Ji.refl(w:wO)(f:Fq):Ji w f w f:=λ_=>⟨Nat.le_refl _,λ_ _=>C⟩
theorem Ji.trans{w:wO}{f f1 f2:Fq}(h:Ji w f w1 f1)(k:Ji w1 f1 w2 f2):Ji w f w2 f2:=λb =>
 ⟨Nat.le_trans (h b).1 (k b).1,λo D=>((k b).2 o (Nat.lt_of_lt_of_le D (h b).1)).trans ((h b).2 o D)⟩
def Cs(w:wO)(f:Fq)(b off:Nat)(l:lV):Prop:=∀j v,l[j]?=some v→off+j<f b∧w.cell? ⟨b,off+j,none⟩=some v
abbrev G0(φ:wO→Fq→Prop):Prop:=∀w f w' f',φ w f→Ji w f w' f'→φ w' f'
theorem Cs.mono{w:wO}{f:Fq}(h:Cs w f b off l)(D:Ji w f w' f'):Cs w' f' b off l:=λj v G=>by
 obtain⟨F,J⟩:=h j v G;exact⟨Nat.lt_of_lt_of_le F (D b).1,((D b).2 _ F).trans J⟩
abbrev G4(MI:Nat→Prop)(I:wO→Fq→Prop):Prop:=∀w f w' f',I w f→Ji w f w' f'→(∀b,MI b→w'.heap[b]?=w.heap[b]?)→I w' f'
structure Cx where
 M:Nat→Prop
 MI:Nat→Prop
 I:wO→Fq→Prop
 w0:wO
 f0:Fq
def CX(H:List HB)(R:List RB):List Nat:=H.map (·.b)++R.filterMap λr=>rb r.a
structure AU(X:Cx)(w:wO)(f:Fq)(H:List HB)(R:List RB)(B:List FB)(Fs:List (wO→Fq→Prop)):Prop where
 stp:Ni X.M X.w0 w
 old:∀b,b<X.w0.heap.size→f b=X.f0 b
 val:∀b,w.heap.size≤b→f b=0
 ent:Ji X.w0 X.f0 w f
 res:X.I w f
 stab:G4 X.MI X.I
 mi:∀b,X.MI b→b<w.heap.size∧f b=0∧(X.w0.heap.size≤b∨X.M b)
 blk:∀e,e∈H→AS w e.b e.l e.T
 row:∀r,r∈R→C0 w r.e r.size r.a r.c r.n r.xs
 nd:(CX H R).Nodup
 own:∀b,b∈CX H R→f b=0∧(X.w0.heap.size≤b∨X.M b)∧¬X.MI b
 hnw:∀e,e∈H→e.nw=true→X.w0.heap.size≤e.b
 rnw:∀r,r∈R→∀b,rb r.a=some b→X.w0.heap.size≤b
 fro:∀e,e∈B→Cs w f e.b e.off e.l
 fac:∀φ,φ∈Fs→φ w f
 mono:∀φ,φ∈Fs→G0 φ
section
variable{X:Cx}{w:wO}{f:Fq}{H:List HB}{R:List RB}{B:List FB}{Fs:List (wO→Fq→Prop)}
theorem AU.lt(h:AU X w f H R B Fs)(D:b∈CX H R):b<w.heap.size:=by
 rcases List.mem_append.1 D with D|D
 · obtain⟨e,he,rfl⟩:=List.mem_map.1 D
   exact (h.blk e he).lt
 · obtain⟨r,F,D⟩:=List.mem_filterMap.1 D
   exact (h.row r F).lt D
theorem AU.step(h:AU X w f H R B Fs)(Q:Ni X.M w w')(K:Ji w f w' f')(hold:∀b,b<w.heap.size→f' b=f b)(G:∀b,w'.heap.size≤b→f' b=0)
   (F:∀b,b∈CX H R→w'.heap[b]?=w.heap[b]?) (L:∀b,X.MI b→w'.heap[b]?=w.heap[b]?):AU X w' f' H R B Fs where
 stp:=h.stp.trans Q
 old b D:=(hold b (Nat.lt_of_lt_of_le D h.stp.size)).trans (h.old b D)
 val:=G
 ent:=h.ent.trans K
 res:=h.stab _ _ _ _ h.res K L
 stab:=h.stab
 mi b D:=⟨Nat.lt_of_lt_of_le (h.mi b D).1 Q.size,(hold b (h.mi b D).1).trans (h.mi b D).2.1,(h.mi b D).2.2⟩
 blk e he:=(F e.b (List.mem_append.2 (.inl (List.mem_map.2 ⟨e,he,C⟩)))).trans (h.blk e he)
 row r O:=by
   refine⟨(h.row r O).1,(h.row r O).2.imp id ?_⟩;rintro⟨b,l,U,W,Y⟩;exact⟨b,l,U,(F b (List.mem_append.2 (.inr (List.mem_filterMap.2 ⟨r,O,by rw[U];rfl⟩)))).trans W,Y⟩
 nd:=h.nd
 own b D:=⟨(hold b (h.lt D)).trans (h.own b D).1,(h.own b D).2⟩
 hnw:=h.hnw
 rnw:=h.rnw
 fro e he:=(h.fro e he).mono K
 fac φ J:=h.mono φ J _ _ _ _ (h.fac φ J) K
 mono:=h.mono
theorem JC(w:wO)(o:Obj)(k:Nat)(h:k<w.heap.size):(w.alloc o).heap[k]?=w.heap[k]?:=(Ku w o).block k h
theorem YK(h:∀b,w.heap.size≤b→f b=0)(o:Obj):Ji w f (w.alloc o) f:=λb=>⟨Nat.le_refl _,λk G=>by
 have F:b<w.heap.size:=by
   rcases Nat.lt_or_ge b w.heap.size with D|D
   · exact D
   · have:=h b D;omega
 exact Es (JC w o b F) k⟩
theorem AU.alloc(h:AU X w f H R B Fs):AU X (w.alloc (.cells l.toArray T)) f (⟨w.heap.size,l,T,true⟩::H) R B Fs:=by
 have G:AU X (w.alloc (.cells l.toArray T)) f H R B Fs:=h.step (Ni.of_ext (Ku w _)) (YK h.val _) (λ_ _=>C) (λb D=>h.val b (by rw[Hw] at D;omega))
   (λb D=>JC w _ b (h.lt D)) (λb D=>JC w _ b (h.mi b D).1)
 refine {G with blk:=?_,nd:=?_,own:=?_,hnw:=?_}
 · intro e he
   rcases List.mem_cons.1 he with rfl|he
   · exact Nv w l T
   · exact G.blk e he
 · show (w.heap.size::CX H R).Nodup
   exact List.nodup_cons.2 ⟨λJ=>Nat.lt_irrefl _ (h.lt J),h.nd⟩
 · intro b D
   have F:b∈w.heap.size::CX H R:=D;rcases List.mem_cons.1 F with rfl|F
   · exact⟨h.val _ (Nat.le_refl _),.inl h.stp.size,λhm=>Nat.lt_irrefl _ (h.mi _ hm).1⟩
   · exact G.own b F
 · intro e he K
   rcases List.mem_cons.1 he with rfl|he
   · exact h.stp.size
   · exact h.hnw e he K
def Rg:List HB→Nat→HB→Option (List HB)
 | [],_,_=>none
 |_::H,0,e=>some (e::H)
 |x::H,i+1,e=>match Rg H i e with
   |some r=>some (x::r)
   |none=>none
def HY:List HB→Nat→Option HB
 | [],_=>none
 |x::_,0=>some x
 |_::H,i+1=>HY H i
theorem ZX:∀{H H':List HB}{i:Nat}{e F:HB},HY H i=some e→Rg H i F=some H'→F.b=e.b→H'.map (·.b)=H.map (·.b)∧(∀x,x∈H'→x=F∨x∈H)∧e∈H
 | [],_,_,_,_,h,_,_=>by cases h
 |x::H,H',0,e,F,G,D,J=>by
   cases G;cases D
   exact⟨by simp[J],λx O=>by rcases List.mem_cons.1 O with h|h;exact .inl h;exact .inr (.tail _ h),.head _⟩
 |x::H,H',i+1,e,F,G,D,J=>by
   unfold Rg at D
   cases K:Rg H i F with
   |none=>rw[K] at D;cases D
   |some r =>
     rw[K] at D;cases D;obtain⟨Q,U,W⟩:=ZX (H:=H) G K J
     exact⟨by simp[Q],λy L=>by
       rcases List.mem_cons.1 L with rfl|L
       · exact .inr (.head _)
       · rcases U y L with h|h
         · exact .inl h
         · exact .inr (.tail _ h),.tail _ W⟩
theorem QG:∀{H H':List HB}{i:Nat}{e F:HB},HY H i=some e→Rg H i F=some H'→(H.map (·.b)).Nodup→∀x,x∈H'→x=F∨(x∈H∧x.b≠e.b)
 | [],_,_,_,_,h,_,_=>by cases h
 |x::H,H',0,e,F,K,D,L=>by
   cases K;cases D
   intro y G;rcases List.mem_cons.1 G with h|h
   · exact .inl h
   · refine .inr ⟨.tail _ h,λe=>?_⟩
     have:=(List.nodup_cons.1 L).1;exact this (List.mem_map.2 ⟨y,h,e⟩)
 |x::H,H',i+1,e,F,K,D,L=>by
   unfold Rg at D
   cases O:Rg H i F with
   |none=>rw[O] at D;cases D
   |some r =>
     rw[O] at D;cases D;have J:=List.nodup_cons.1 L;have Q:=QG (H:=H) K O J.2;intro y G;rcases List.mem_cons.1 G with rfl|G
     · refine .inr ⟨.head _,λh=>J.1 ?_⟩
       have he:e∈H:=by
         have:∀(H:List HB)(i:Nat)(e:HB),HY H i=some e→e∈H:=by
           intro H
           induction H with
           |nil=>intro i e h;cases h
           |cons a H Q=>intro i e h;cases i with|zero=>cases h;exact .head _|succ i=>exact .tail _ (Q i e h)
         exact this H i e K
       exact List.mem_map.2 ⟨e,he,h.symm⟩
     · rcases Q y G with h|h
       · exact .inl h
       · exact .inr ⟨.tail _ h.1,h.2⟩
theorem Cm:∀{H:List HB}{i:Nat}{e:HB},HY H i=some e→e∈H
 | [],_,_,h=>by cases h
 |_::_,0,_,h=>by cases h;exact .head _
 |_::H,i+1,e,h=>.tail _ (Cm (H:=H) h)
theorem AU.chg(h:AU X w f H R B Fs)(J:HY H i=some ⟨b,l,T,nw⟩)(Y:Rg H i ⟨b,l',T,nw⟩=some H')(hb:AS w' b l' T)(D:GW b w w'):AU X w' f H' R B Fs:=by
 have K:b∈CX H R:=List.mem_append.2 (.inl (List.mem_map.2 ⟨_,Cm J,C⟩));obtain⟨h1,Q,h3⟩:=h.own b K
 have U:Ji w f w' f:=λk=>⟨Nat.le_refl _,λo ho=>by
   have:k≠b:=λe=>by rw[e,h1] at ho;omega
   exact Es (D.block k this) o⟩
 obtain⟨e1,_,_⟩:=ZX J Y C;have L:(H.map (·.b)).Nodup:=(List.nodup_append.1 h.nd).1
 have Z:∀r,r∈R→rb r.a≠some b:=λr W e=>by
   have:=(List.nodup_append.1 h.nd).2.2 b (List.mem_map.2 ⟨_,Cm J,C⟩) b (List.mem_filterMap.2 ⟨r,W,e⟩);exact this C
 have hmi:∀k,X.MI k→w'.heap[k]?=w.heap[k]?:=λk F=>D.block k (λe=>h3 (e▸F))
 exact {stp:=⟨D.os.trans h.stp.os,D.tape.trans h.stp.tape,D.output.trans h.stp.output,by rw[D.size];exact h.stp.size,λk F hm=>(D.block k (λe=>by
           subst e;rcases Q with Q|Q
           · omega
           · exact hm Q)).trans (h.stp.block k F hm)⟩,
         old:=h.old,val:=λk F=>h.val k (by rw[D.size] at F;exact F),ent:=h.ent.trans U,res:=h.stab _ _ _ _ h.res U hmi,stab:=h.stab,
         mi:=λk F=>by rw[D.size];exact h.mi k F,
         blk:=λx G=>by
           rcases QG J Y L x G with rfl|⟨G,hne⟩
           · exact hb
           · exact (h.blk x G).chg D hne,
         row:=λr W=>(h.row r W).chg D (Z r W),
         nd:=by unfold CX;rw[e1];exact h.nd,
         own:=λk F=>h.own k (by unfold CX at F ⊢;rwa[e1] at F),
         hnw:=λx G hn=>by
           rcases QG J Y L x G with rfl|⟨G,_⟩
           · exact h.hnw ⟨b,l,T,nw⟩ (Cm J) hn
           · exact h.hnw x G hn,
         rnw:=h.rnw,
         fro:=λx G=>(h.fro x G).mono U,fac:=λφ O=>h.mono φ O _ _ _ _ (h.fac φ O) U,mono:=h.mono}
end
structure Y9 where
 fl:List (Nat×Nat×Nat)
 sl:List (Nat×Nat×Nat)
 st:List Nat
 bo:List Nat
 ti:List (Nat×Bool×Nat)
 zr:List (Nat×lV)
 pl:List (Nat×List (Nat×Nat))
 pt:List (Nat×Nat)
def vQ(P:Program):List (Nat×Nat×Nat)→Prop
 | []=>True
 |(T,i,o)::l=>Gv P T i=some o∧vQ P l
def uD(P:Program):List (Nat×Nat×Nat)→Prop
 | []=>True
 |(T,e,k)::l=>Kj P T=some (e,k)∧uD P l
def oD(P:Program)(d:TypeDesc):List Nat→Prop
 | []=>True
 |T::l=>P.underlying T=some d∧oD P d l
def tY(P:Program):List (Nat×Bool×Nat)→Prop
 | []=>True
 |(T,a,k)::l=>Be P T=some (a,k)∧tY P l
def tX(P:Program):List (Nat×lV)→Prop
 | []=>True
 |(T,z)::l=>HZ P T=some z∧tX P l
def rS(P:Program):List (Nat×List (Nat×Nat))→Prop
 | []=>True
 |(T,z)::l=>Pz P T=some z∧rS P l
def uY(P:Program):List (Nat×Nat)→Prop
 | []=>True
 |(T,e)::l=>P.underlying T=some (.pointer e)∧uY P l
structure Y9.Ok(P:Program)(t:Y9):Prop where
 fl:vQ P t.fl
 sl:uD P t.sl
 st:oD P .string t.st
 bo:oD P .bool t.bo
 ti:tY P t.ti
 zr:tX P t.zr
 pl:rS P t.pl
 pt:uY P t.pt
def lkF:List (Nat×Nat×Nat)→Nat→Nat→Option Nat
 | [],_,_=>none
 |(T,i,o)::l,h,D=>bif Nat.beq T h&&Nat.beq i D then some o else lkF l h D
def XW:List (Nat×Nat×Nat)→Nat→Option (Nat×Nat)
 | [],_=>none
 |(T,e,k)::l,h=>bif Nat.beq T h then some (e,k) else XW l h
def wV:List Nat→Nat→Bool
 | [],_=>false
 |T::l,h=>bif Nat.beq T h then true else wV l h
def wA:List (Nat×Bool×Nat)→Nat→Option (Bool×Nat)
 | [],_=>none
 |(T,a,k)::l,h=>bif Nat.beq T h then some (a,k) else wA l h
def ZO{α:Type}:List (Nat×α)→Nat→Option α
 | [],_=>none
 |(T,z)::l,h=>bif Nat.beq T h then some z else ZO l h
theorem hO{P:Program}:∀{l:List (Nat×Nat×Nat)}{T i o:Nat},vQ P l→lkF l T i=some o→Gv P T i=some o
 | [],_,_,_,_,h=>by cases h
 |(T,i,o)::l,G,J,O,F,h=>by
   unfold lkF at h
   cases D:(Nat.beq T G&&Nat.beq i J) with
   |true =>
     rw[D] at h;simp only[Bool.and_eq_true] at D;have K:=Nat.eq_of_beq_eq_true D.1;have L:=Nat.eq_of_beq_eq_true D.2;subst K L
     cases h
     exact F.1
   |false=>rw[D] at h;exact hO F.2 h
theorem La{P:Program}:∀{l:List (Nat×Nat×Nat)}{T e k:Nat},uD P l→XW l T=some (e,k)→Kj P T=some (e,k)
 | [],_,_,_,_,h=>by cases h
 |(T,e,k)::l,G,K,L,F,h=>by
   unfold XW at h
   cases D:Nat.beq T G with
   |true=>rw[D] at h;have J:=Nat.eq_of_beq_eq_true D;subst J;cases h;exact F.1
   |false=>rw[D] at h;exact La F.2 h
theorem Sf{P:Program}{d:TypeDesc}:∀{l:List Nat}{T:Nat},oD P d l→wV l T=true→P.underlying T=some d
 | [],_,_,h=>by cases h
 |T::l,G,D,h=>by
   unfold wV at h
   cases F:Nat.beq T G with
   |true=>have J:=Nat.eq_of_beq_eq_true F;subst J;exact D.1
   |false=>rw[F] at h;exact Sf D.2 h
theorem Gy{P:Program}:∀{l:List (Nat×Bool×Nat)}{T k:Nat}{a:Bool},tY P l→wA l T=some (a,k)→Be P T=some (a,k)
 | [],_,_,_,_,h=>by cases h
 |(T,a,k)::l,G,K,a',F,h=>by
   unfold wA at h
   cases D:Nat.beq T G with
   |true=>rw[D] at h;have J:=Nat.eq_of_beq_eq_true D;subst J;cases h;exact F.1
   |false=>rw[D] at h;exact Gy F.2 h
theorem R6{P:Program}:∀{l:List (Nat×lV)}{T:Nat}{z:lV},tX P l→ZO l T=some z→HZ P T=some z
 | [],_,_,_,h=>by cases h
 |(T,z)::l,G,K,F,h=>by
   unfold ZO at h
   cases D:Nat.beq T G with
   |true=>rw[D] at h;have J:=Nat.eq_of_beq_eq_true D;subst J;cases h;exact F.1
   |false=>rw[D] at h;exact R6 F.2 h
theorem eI{P:Program}:∀{l:List (Nat×List (Nat×Nat))}{T:Nat}{z:List (Nat×Nat)},rS P l→ZO l T=some z→Pz P T=some z
 | [],_,_,_,h=>by cases h
 |(T,z)::l,G,K,F,h=>by
   unfold ZO at h
   cases D:Nat.beq T G with
   |true=>rw[D] at h;have J:=Nat.eq_of_beq_eq_true D;subst J;cases h;exact F.1
   |false=>rw[D] at h;exact eI F.2 h
theorem gU{P:Program}:∀{l:List (Nat×Nat)}{T e:Nat},uY P l→ZO l T=some e→P.underlying T=some (.pointer e)
 | [],_,_,_,h=>by cases h
 |(T,e)::l,G,K,F,h=>by
   unfold ZO at h
   cases D:Nat.beq T G with
   |true=>rw[D] at h;have J:=Nat.eq_of_beq_eq_true D;subst J;cases h;exact F.1
   |false=>rw[D] at h;exact gU F.2 h
def tA:BinOp→oA→Option Value
 |.eql,some _=>some (.bool false)
 |.eql,none=>some (.bool true)
 |.neq,some _=>some (.bool true)
 |.neq,none=>some (.bool false)
 |_,_=>none
def sS:BinOp→Value→Value→Option Value
 |.eql,.int k a,.int h b=>bif k==h then some (.bool (a==b)) else none
 |.neq,.int k a,.int h b=>bif k==h then some (.bool (a != b)) else none
 |.lss,.int k a,.int h b=>bif k==h then some (.bool (decide (a<b))) else none
 |.leq,.int k a,.int h b=>bif k==h then some (.bool (decide (a≤b))) else none
 |.gtr,.int k a,.int h b=>bif k==h then some (.bool (decide (b<a))) else none
 |.geq,.int k a,.int h b=>bif k==h then some (.bool (decide (b≤a))) else none
 |.eql,.string ⟨⟨a⟩⟩,.string ⟨⟨b⟩⟩=>some (.bool (a==b))
 |.neq,.string ⟨⟨a⟩⟩,.string ⟨⟨b⟩⟩=>some (.bool (!(a==b)))
 |_,_,_=>none
def pv(tb:Y9)(σ:Bp):Op→Option Value
 |.move x=>ev σ x
 |.assign x=>ev σ x
 |.pick c x y=>match ev σ c with
   |some (.bool true)=>ev σ x
   |some (.bool false)=>ev σ y
   |_=>none
 |.unOp .not _ x=>match ev σ x with
   |some (.bool b)=>some (.bool (!b))
   |_=>none
 |.binOp o T x y _=>match ev σ x,ev σ y with
   |some (.pointer a),some (.pointer none)=>match ZO tb.pt T with
     |some _=>tA o a
     |none=>none
   |some (.slice a _ _),some (.slice none _ _)=>match XW tb.sl T,o with
     |some _,.eql=>some (.bool a.isNone)
     |_,_=>none
   |some a,some b=>sS o a b
   |_,_=>none
 |.fieldAddr T x i=>match ev σ x,lkF tb.fl T i with
   |some (.pointer (some ⟨b,o,none⟩)),some d=>some (.pointer (some ⟨b,o+d,none⟩))
   |_,_=>none
 |.nilCheck x=>match ev σ x with
   |some (.pointer (some a))=>some (.pointer (some a))
   |_=>none
 |.extract x i=>match ev σ x with
   |some (.tuple ⟨vs⟩)=>vs[i]?
   |_=>none
 |.build T ⟨parts⟩=>match GD σ parts,ZO tb.pl T,ZO tb.zr T with
   |some pv,some pl,some z=>match KB pl z pv with
     |some out=>some (.agg ⟨out⟩)
     |none=>none
   |_,_,_=>none
 |.call ⟨.builtin .len,⟨[x]⟩,⟨[T]⟩⟩=>match ev σ x with
   |some (.slice _ n _)=>match XW tb.sl T with
     |some _=>some (.int .i64 n)
     |none=>none
   |some (.string ⟨⟨s⟩⟩)=>match wV tb.st T with
     |true=>some (.int .i64 s.length)
     |false=>none
   |_=>none
 |_=>none
section
variable{P:Program}{σ:Bp}{w:wO}{ty:tI}
variable {c' n':Nat}{x:Operand}{a:oA}{e t':tI}
theorem uC{o:BinOp}{t:tI}{y:Operand}{a b v:Value}(D:ev σ x=some a)(F:ev σ y=some b)(h:sS o a b=some v):AR P σ (.binOp o t x y t') ty w v w:=by
 unfold sS at h
 split at h
 all_goals first
   |(
     rename_i k a J b
     cases G:(k==J) with
     |false=>rw[G] at h;cases h
     |true =>
       rw[G] at h;have e:k=J:=by simpa using G
       subst e
       cases h
       first|exact vE D F|exact gJ D F|exact Wa D F|exact dV D F|exact aT D F|exact cX D F)
   |(cases h;first|exact rK D F|exact tH D F)
   |cases h
theorem vL{o:BinOp}{t:tI}{y:Operand}{v:Value}(F:P.underlying t=some (.pointer e))(G:ev σ x=some (.pointer a))(J:ev σ y=some (.pointer none))(h:tA o a=some v):AR P σ (.binOp o t x y t') ty w v w:=by
 have K:(Op.equal t (.pointer a) (.pointer none)).run P w=.ok a.isNone w:=by
   show (Op.equalIn (Op.maxDepth-1+1) t _ _).run P w=_
   cases a <;> simp[Op.equalIn,run_underlying F]
 unfold tA at h
 split at h
 all_goals first
   |(cases h;exact λL _ _ _ _ D=>by simp[execOp,D _ _ G,D _ _ J,eqGuard,binOp,K])
   |cases h
theorem mV{t:tI}{y:Operand}{n c k:Nat}(D:Kj P t=some (e,k))(F:ev σ x=some (.slice a n c))(G:ev σ y=some (.slice none n' c')):AR P σ (.binOp .eql t x y t') ty w (.bool a.isNone) w:=by
 obtain⟨i,hu,_,_⟩:=Hu D
 have J:(Op.equal t (.slice a n c) (.slice none n' c')).run P w=.ok a.isNone w:=by
   show (Op.equalIn (Op.maxDepth-1+1) t _ _).run P w=_
   cases a <;> simp[Op.equalIn,run_underlying hu]
 exact λK _ _ _ _ h=>by simp[execOp,h _ _ F,h _ _ G,eqGuard,binOp,J]
theorem RO{tb:Y9}(F:tb.Ok P):∀{op:Op}{v:Value},pv tb σ op=some v→AR P σ op ty w v w:=by
 intro op v h;unfold pv at h
 split at h
 · exact A0 h
 · exact Dp h
 · split at h
   · rename_i K;exact Pw K C h
   · rename_i K;exact Ov K C h
   · cases h
 · split at h
   · rename_i D;cases h;exact Wy D
   · cases h
 · split at h
   · rename_i D G
     split at h
     · rename_i J;exact vL (gU F.pt J) D G h
     · cases h
   · rename_i D G
     split at h
     · rename_i q J;cases h;exact mV (La (e:=q.1) (k:=q.2) F.sl J) D G
     · cases h
   · rename_i D G;exact uC D G h
   · cases h
 · split at h
   · rename_i D L;cases h;exact BQ D (hO F.fl L)
   · cases h
 · split at h
   · rename_i D;cases h;exact B8 D
   · cases h
 · split at h
   · rename_i D;exact Vh D h
   · cases h
 · split at h
   · rename_i J U hz
     split at h
     · rename_i L;cases h;exact DO J (eI F.pl U) (R6 F.zr hz) L
     · cases h
   · cases h
 · split at h
   · rename_i D
     split at h
     · rename_i e O;cases h;exact MC D (La (e:=e.1) (k:=e.2) F.sl O)
     · cases h
   · rename_i D
     split at h <;> rename_i O
     · cases h;exact N1 D (Sf F.st O)
     · cases h
   · cases h
 · cases h
end
end Go.SW
namespace Go.SW
open Go.RowKit
inductive Fr where
 |sq (y:Code)
 |bk (i:Nat)
inductive Mj where
 |code (c:Code)
 |ops (all l:List Oper)
 |out (e:Exit)
def nth{α:Type}:List α→Nat→Option α
 | [],_=>none
 |x::_,0=>some x
 |_::l,i+1=>nth l i
theorem Fc{α:Type}:∀(l:List α)(i:Nat),nth l i=l[i]?
 | [],_=>by simp[nth]
 |x::_,0=>by simp[nth]
 |_::l,i+1=>by simp[nth,Fc l i]
def gd(all:List Oper)(σ:Bp)(g:Option (Nat×Bool)):Option Bool:=match g with
 |none=>some true
 |some (j,want)=>match nth all j with
   |some q=>match q.dst with
     |some h=>match σ h with
       |some (.bool true)=>some want
       |some (.bool false)=>some (!want)
       |some (.tuple ⟨[]⟩)=>some false
       |_=>none
     |none=>none
   |none=>none
section
variable(P:Program)(n:Nat)(Q:Bh)(ds:List Deferred)(X:Cx)(R:List RB)(B:List FB)(Fs:List (wO→Fq→Prop))(tb:Y9)
def MU:List Fr→Bh
 | []=>Q
 |.sq y::fs=>zV P n y (MU fs)
 |.bk i::fs=>blk i (MU fs)
def A7(k:Mj)(fs:List Fr)(σ:Bp)(H:List HB):Prop:=∀w f,AU X w f H R B Fs→match k with
 |.code c=>HI P n c (MU P n Q fs) σ ds w
 |.ops all l=>Hd P n all.toArray (MU P n Q fs) l σ ds w
 |.out e=>(MU P n Q fs).q e σ ds w
def ex:Nat→List Nat→Mj→List Fr→Bp→List HB→Prop
 |0,_,k,fs,σ,H=>True→A7 P n Q ds X R B Fs k fs σ H
 |m+1,D,.code c,fs,σ,H=>(match c with
   |.skip=>ex m D (.out .normal) fs σ H
   |.ret=>ex m D (.out .ret) fs σ H
   |.exit i=>ex m D (.out (.exit i)) fs σ H
   |.seq a b=>ex m D (.code a) (.sq b::fs) σ H
   |.block i a=>ex m D (.code a) (.bk i::fs) σ H
   |.region _ ⟨l⟩ false=>ex m D (.ops l l) fs σ H
   |.cond x a b=>(match ev σ x with
     |some (.bool true)=>ex m D (.code a) fs σ H
     |some (.bool false)=>ex m D (.code b) fs σ H
     |_=>False)
   |_=>False)
 |m+1,D,.out e,fs,σ,H=>(match fs with
   | []=>False
   |.sq y::fs=>(match e with
     |.normal=>ex m D (.code y) fs σ H
     |.ret=>ex m D (.out .ret) fs σ H
     |.exit i=>ex m D (.out (.exit i)) fs σ H
     |_=>False)
   |.bk i::fs=>(match e with
     |.normal=>ex m D (.out .normal) fs σ H
     |.ret=>ex m D (.out .ret) fs σ H
     |.exit j=>(match Nat.beq j i with
       |true=>ex m D (.out .normal) fs σ H
       |false=>ex m D (.out (.exit j)) fs σ H)
     |_=>False))
 |m+1,D,.ops all [],fs,σ,H=>ex m D (.out .normal) fs σ H
 |m+1,D,.ops all (⟨dst,op,ty,AX,af,g⟩::r),fs,σ,H=>(match gd all σ g with
   |none=>False
   |some false=>(match dst with
     |some d=>(match Nat.blt d n with
       |true=>ex m D (.ops all r) fs (AH σ d undef) H
       |false=>False)
     |none=>False)
   |some true=>(match dst with
     |none=>(match op with
       |.store T x y=>(match D with
         | []=>False
         |h::D=>(match ev σ x,ev σ y,HY H h,wA tb.ti T with
           |some (.pointer (some ⟨b,o,none⟩)),some v,some ⟨b',l,F,nw⟩,some (a,k)=>(match HU v with
             |some vs=>(match Nat.beq vs.length k&&No vs,P2 l o vs with
               |true,some l'=>(match Rg H h ⟨b',l',F,nw⟩ with
                 |some H'=>b'=b∧ex m D (.ops all r) fs σ H'
                 |none=>False)
               |_,_=>False)
             |none=>False)
           |_,_,_,_=>False))
       |_=>False)
     |some d=>(match Nat.blt d n with|false=>False|true=>(match op with
       |.alloc T=>(match ZO tb.zr T with
         |some z=>∀b,ex m D (.ops all r) fs (AH σ d (.pointer (some ⟨b,0,none⟩))) (⟨b,z,T,true⟩::H)
         |none=>False)
       |.box T x=>(match ev σ x with
         |some v=>(match HU v with
           |some l=>∀b,ex m D (.ops all r) fs (AH σ d (.pointer (some ⟨b,0,none⟩))) (⟨b,l,T,true⟩::H)
           |none=>False)
         |none=>False)
       |.buildSlice T len ⟨parts⟩=>(match XW tb.sl T,GD σ parts with
         |some (e,k),some pv=>(match ZO tb.zr e with
           |some z=>(match (Nat.beq z.length k&&Nat.blt 0 k)&&(Nat.blt 0 len&&Nat.ble (len*k) 16777216),KB (KC k 0 len) (Gs len z) pv with
             |true,some l=>∀b,ex m D (.ops all r) fs (AH σ d (.slice (some ⟨b,0,none⟩) len len)) (⟨b,l,e,true⟩::H)
             |_,_=>False)
           |none=>False)
         |_,_=>False)
       |.load T x=>(match D with
         | []=>False
         |h::D=>(match ev σ x,wA tb.ti T with
           |some (.pointer (some ⟨b,o,none⟩)),some (a,k)=>(match Nat.blt h 100 with
             |true=>(match HY H h with
               |some ⟨b',l,_,_⟩=>(match a with
                 |false=>(match nth l o with
                   |some v=>b'=b∧ex m D (.ops all r) fs (AH σ d v) H
                   |none=>False)
                 |true=>(match WH l o k with
                   |some vs=>b'=b∧ex m D (.ops all r) fs (AH σ d (.agg ⟨vs⟩)) H
                   |none=>False))
               |none=>False)
             |false=>(match D with
               | []=>False
               |q::D=>(match nth B (h-100) with
                 |some ⟨b',off,l⟩=>(match a with
                   |false=>(match nth l q with
                     |some v=>(b'=b∧off+q=o)∧ex m D (.ops all r) fs (AH σ d v) H
                     |none=>False)
                   |true=>(match WH l q k with
                     |some vs=>(b'=b∧off+q=o)∧ex m D (.ops all r) fs (AH σ d (.agg ⟨vs⟩)) H
                     |none=>False))
                 |none=>False)))
           |_,_=>False))
       |.indexAddr T x y=>(match ev σ x,ev σ y,XW tb.sl T with
         |some (.slice (some ⟨b,o,none⟩) len _),some (.int _ i),some (_,k)=>(0≤i∧i<len)∧ex m D (.ops all r) fs (AH σ d (.pointer (some ⟨b,o+i.toNat*k,none⟩))) H
         |_,_,_=>False)
       |.index T x y=>(match ev σ x,ev σ y,wV tb.st T with
         |some (.string ⟨⟨s⟩⟩),some (.int _ i),true=>(0≤i∧i<s.length)∧∀c,s[i.toNat]?=some c→ex m D (.ops all r) fs (AH σ d (.int .u8 c.toNat)) H
         |_,_,_=>False)
       |.binOp .add T x y F=>(match ev σ x,ev σ y with
         |some (.int .i64 a),some (.int .i64 b)=>RT (a+b)∧ex m D (.ops all r) fs (AH σ d (.int .i64 (a+b))) H
         |some (.string ⟨⟨a⟩⟩),some (.string ⟨⟨b⟩⟩)=>a.length+b.length≤9223372036854775807∧ex m D (.ops all r) fs (AH σ d (S (a++b))) H
         |_,_=>False)
       |.binOp .sub T x y F=>(match ev σ x,ev σ y with
         |some (.int .i64 a),some (.int .i64 b)=>RT (a-b)∧ex m D (.ops all r) fs (AH σ d (.int .i64 (a-b))) H
         |_,_=>False)
       |op=>(match pv tb σ op with
         |some v=>ex m D (.ops all r) fs (AH σ d v) H
         |none=>False)))))
end
variable {af:Array Edge}{f:Fq}{H:List HB}{l vs:lV}{b i o off:Nat}{x:Operand}{g:Option (Nat×Bool)}{dst:Option Tmp}{T:tI}
theorem Kl{n:Nat}{σ:Bp}{ds:List Deferred}{all:List Oper}{a:Act}{op:Op}{ty:tI}{AX:String}{b:Bool}(F:St n σ ds a)(h:gd all σ g=some b) :
   Region.wanted ⟨dst,op,ty,AX,af,g⟩ (yielded all.toArray a.tmps)=b:=by
 unfold gd at h
 split at h
 · cases h;rfl
 · rename_i j want
   split at h
   · rename_i q J
     rw[Fc] at J
     split at h
     · rename_i K hd
       have G:(all.toArray[j]?).bind (·.dst)=some K:=by simp[J,hd]
       split at h
       · rename_i D;cases h;rw[GQ F G D];cases b <;> rfl
       · rename_i D;cases h;rw[GQ F G D];cases want <;> rfl
       · rename_i D;cases h;exact YW F G D
       · cases h
     · cases h
   · cases h
section
variable{P:Program}{n:Nat}{Q:Bh}{ds:List Deferred}{X:Cx}{R:List RB}{B:List FB}{Fs:List (wO→Fq→Prop)}{tb:Y9}
theorem BE{Q:Bh}{σ:Bp}{w:wO}{all r:List Oper}{op:Op}{ty:tI}{AX:String}(G:gd all σ g=some true)
   (h:Hd P n all.toArray Q (⟨dst,op,ty,AX,af,none⟩::r) σ ds w):Hd P n all.toArray Q (⟨dst,op,ty,AX,af,g⟩::r) σ ds w:=λa F=>by
 have D:=h a F;unfold wpList at D ⊢;rw[if_pos (by simp[Region.wanted])] at D;rw[if_pos (Kl F G)];exact D
theorem Pc{Q:Bh}{σ:Bp}{w:wO}{all r:List Oper}{d:Nat}{op:Op}{ty:tI}{AX:String}(F:gd all σ g=some false)(hd:Nat.blt d n=true)
   (h:Hd P n all.toArray Q r (AH σ d undef) ds w):Hd P n all.toArray Q (⟨some d,op,ty,AX,af,g⟩::r) σ ds w:=λa D=>by
 unfold wpList;rw[if_neg (by rw[Kl D F];simp)];exact h _ (D.put hd undef)
theorem AU.getB{w:wO}(h:AU X w f H R B Fs)(D:nth B i=some ⟨b,off,l⟩):Cs w f b off l:=by
 rw[Fc] at D;exact h.fro _ (List.mem_of_getElem? D)
theorem Rb:∀{l:lV}{q k:Nat}{vs:lV},WH l q k=some vs→vs.length=k∧∀j v,vs[j]?=some v→l[q+j]?=some v:=by
 intro l q k vs h;obtain⟨G,J⟩:=Md h;refine⟨J,λj v D=>?_⟩;rw[← G] at D
 have F:j<k:=by
   rcases Nat.lt_or_ge j k with h|h
   · exact h
   · rw[List.getElem?_take,if_neg (by omega)] at D;cases D
 rwa[List.getElem?_take,if_pos F,List.getElem?_drop] at D
theorem JR{σ:Bp}{w:wO}{ty:tI}{k:Nat}{v:Value}(D:ev σ x=some (.pointer (some ⟨b,o,none⟩)))(F:Be P T=some (false,k))(G:w.cell? ⟨b,o,none⟩=some v):AR P σ (.load T x) ty w v w:=λJ _ _ _ _ h=>by
 simp[execOp,h _ _ D,Instr.loadAt,Instr.sureAddr,loadVar,Fp F,run_load,G]
theorem LQ{σ:Bp}{w:wO}{ty:tI}{k:Nat}(G:ev σ x=some (.pointer (some ⟨b,o,none⟩)))(D:Be P T=some (true,k))(J:vs.length=k)(K:∀j v,vs[j]?=some v→w.cell? ⟨b,o+j,none⟩=some v) :
   AR P σ (.load T x) ty w (.agg vs.toArray) w:=λO _ _ _ _ h=>by
 have F:=run_loadCells_list (P:=P) w ⟨b,o,none⟩ vs (λj v L=>by rw[EO];exact K j v L);rw[J] at F;simp[execOp,h _ _ G,Instr.loadAt,Instr.sureAddr,loadVar,Fp D,IV D,F]
theorem JE(J:tb.Ok P):∀(m:Nat)(Y:List Nat)(k:Mj)(fs:List Fr)(σ:Bp)(H:List HB),ex P n Q ds X R B Fs tb m Y k fs σ H→A7 P n Q ds X R B Fs k fs σ H
 |0,_,_,_,_,_,h=>h tQ
 |m+1,Y,.code c,fs,σ,H,h=>by
   have F:=JE J m;intro w f D;unfold ex at h
   split at h
   · exact I7 (F _ _ _ _ _ h w f D)
   · exact Km (F _ _ _ _ _ h w f D)
   · exact L8 (F _ _ _ _ _ h w f D)
   · exact Cp (F _ _ _ _ _ h w f D)
   · exact Ew (F _ _ _ _ _ h w f D)
   · exact CL (F _ _ _ _ _ h w f D)
   · split at h
     · rename_i G;exact Gb G C (F _ _ _ _ _ h w f D)
     · rename_i G;exact Ko G C (F _ _ _ _ _ h w f D)
     · exact h.elim
   · exact h.elim
 |m+1,Y,.out e,fs,σ,H,h=>by
   have F:=JE J m;intro w f D;unfold ex at h
   split at h
   · exact h.elim
   · split at h
     · exact DD (F _ _ _ _ _ h w f D)
     · exact XA (F _ _ _ _ _ h w f D)
     · exact XM (F _ _ _ _ _ h w f D)
     · exact h.elim
   · split at h
     · exact Ec (F _ _ _ _ _ h w f D)
     · exact WR (F _ _ _ _ _ h w f D)
     · split at h
       · rename_i Z
         have e:=Nat.eq_of_beq_eq_true Z;subst e;exact PE (F _ _ _ _ _ h w f D)
       · rename_i Z;exact pP Z (F _ _ _ _ _ h w f D)
     · exact h.elim
 |m+1,Y,.ops all [],fs,σ,H,h=>by
   intro w f D;unfold ex at h;exact Ac (JE J m _ _ _ _ _ h w f D)
 |m+1,Y,.ops all (⟨dst,op,ty,AX,af,g⟩::r),fs,σ,H,h=>by
   have F:=JE J m;intro w f D;unfold ex at h
   split at h
   · exact h.elim
   · rename_i hg
     split at h
     · split at h
       · rename_i hd;exact Pc hg hd (F _ _ _ _ _ h w f D)
       · exact h.elim
     · exact h.elim
   · rename_i hg
     refine BE hg ?_
     split at h
     · split at h
       · split at h
         · exact h.elim
         · split at h
           · rename_i G L hH O
             split at h
             · rename_i vs K
               split at h
               · rename_i hk hp
                 split at h
                 · rename_i H' W
                   obtain⟨rfl,h⟩:=h;simp only[Bool.and_eq_true] at hk;exact A3 G L K (Gy J.ti O) hk.1 (D.blk _ (Cm hH)) hk.2 hp λw' Z hC=>F _ _ _ _ _ h w' f (D.chg hH W Z hC)
                 · exact h.elim
               · exact h.elim
             · exact h.elim
           · exact h.elim
       · exact h.elim
     · split at h
       · exact h.elim
       rename_i hd
       split at h
       · split at h
         · rename_i z hz
           exact Ab hd (Sq (R6 J.zr hz)) (F _ _ _ _ _ (h _) _ f D.alloc)
         · exact h.elim
       · split at h
         · rename_i v G
           split at h
           · rename_i l hl
             have e:=GO hl;subst e;exact Ab hd (dG G) (F _ _ _ _ _ (h _) _ f D.alloc)
           · exact h.elim
         · exact h.elim
       · split at h
         · rename_i W hp
           split at h
           · rename_i z hz
             split at h
             · rename_i U hf
               simp only[Bool.and_eq_true] at U;exact Ab hd (qG hp (La J.sl W) (R6 J.zr hz) U.1.1 U.1.2 U.2.1 U.2.2 hf) (F _ _ _ _ _ (h _) _ f D.alloc)
             · exact h.elim
           · exact h.elim
         · exact h.elim
       · split at h
         · exact h.elim
         · split at h
           · rename_i G O
             split at h
             · split at h
               · rename_i hH
                 split at h
                 · split at h
                   · rename_i v K
                     obtain⟨rfl,h⟩:=h;rw[Fc] at K;exact Ab hd (Am G (Gy J.ti O) (D.blk _ (Cm hH)) K) (F _ _ _ _ _ h w f D)
                   · exact h.elim
                 · split at h
                   · rename_i vs K
                     obtain⟨rfl,h⟩:=h;exact Ab hd (Dr G (Gy J.ti O) (D.blk _ (Cm hH)) K) (F _ _ _ _ _ h w f D)
                   · exact h.elim
               · exact h.elim
             · split at h
               · exact h.elim
               · split at h
                 · rename_i hB
                   have U:=D.getB hB
                   split at h
                   · split at h
                     · rename_i v K
                       obtain⟨⟨rfl,rfl⟩,h⟩:=h;rw[Fc] at K;exact Ab hd (JR G (Gy J.ti O) (U _ v K).2) (F _ _ _ _ _ h w f D)
                     · exact h.elim
                   · split at h
                     · rename_i vs K
                       obtain⟨⟨rfl,rfl⟩,h⟩:=h;obtain⟨hk,hg2⟩:=Rb K;exact Ab hd (LQ G (Gy J.ti O) hk (λj v hj=>by have:=(U _ v (hg2 j v hj)).2;rwa[← Nat.add_assoc] at this)) (F _ _ _ _ _ h w f D)
                     · exact h.elim
                 · exact h.elim
           · exact h.elim
       · split at h
         · rename_i G L O
           exact Ab hd (Oo G L (La J.sl O) h.1) (F _ _ _ _ _ h.2 w f D)
         · exact h.elim
       · split at h
         · rename_i s _ i G L O
           obtain⟨h1,h⟩:=h;have hlt:i.toNat<s.length:=oM;exact Ab hd (DC G L (Sf J.st O) h1.1 (List.getElem?_eq_getElem hlt)) (F _ _ _ _ _ (h _ (List.getElem?_eq_getElem hlt)) w f D)
         · exact h.elim
       · split at h
         · rename_i G L
           exact Ab hd (Oi G L h.1) (F _ _ _ _ _ h.2 w f D)
         · rename_i G L
           exact Ab hd (Ky G L h.1) (F _ _ _ _ _ h.2 w f D)
         · exact h.elim
       · split at h
         · rename_i G L
           exact Ab hd (H9 G L h.1) (F _ _ _ _ _ h.2 w f D)
         · exact h.elim
       · split at h
         · rename_i v K
           exact Ab hd (RO J K) (F _ _ _ _ _ h w f D)
         · exact h.elim
end
end Go.SW
namespace Go.SW
open Go.RowKit
structure CQ(M:Nat→Prop)(w:wO)(f:Fq)(w':wO)(f':Fq):Prop where
 stp:Ni M w w'
 old:∀b,b<w.heap.size→f' b=f b
 val:∀b,w'.heap.size≤b→f' b=0
variable {af:Array Edge}{args:Array Value}{σ':Bp}{fid:FuncId}{H':List HB}{XX:List PanicEntry→wO→Prop}{l:lV}{i:Nat}{M M':Nat→Prop}{g:Option (Nat×Bool)}{dst:Option Tmp}{ty:tI}{R0:Value→wO→Prop}{I' φ:wO→Fq→Prop}
theorem CQ.fle{w w':wO}{f f':Fq}(h:CQ M w f w' f')(G:∀b,w.heap.size≤b→f b=0)(hm:∀b,M b→f b=0):Ji w f w' f':=λb=>by
 rcases Nat.lt_or_ge b w.heap.size with D|D
 · refine⟨by rw[h.old b D];exact Nat.le_refl _,λo F=>Es (h.stp.block b D λJ=>?_) o⟩
   rw[hm b J] at F;omega
 · refine⟨by rw[G b D];exact Nat.zero_le _,λo F=>?_⟩
   rw[G b D] at F;omega
theorem CQ.refl(M:Nat→Prop){w:wO}{f:Fq}(h:∀b,w.heap.size≤b→f b=0):CQ M w f w f:=⟨Ni.refl _ _,λ_ _=>C,h⟩
theorem CQ.mono{w w':wO}{f f':Fq}(h:CQ M w f w' f')(hm:∀b,M b→M' b):CQ M' w f w' f':=⟨h.stp.mono hm,h.old,h.val⟩
theorem CQ.of_ext{w w':wO}{f:Fq}(h:AY w w')(D:∀b,w.heap.size≤b→f b=0):CQ (λ_=>False) w f w' f:=⟨Ni.of_ext h,λ_ _=>C,λb F=>D b (Nat.le_trans h.size F)⟩
theorem AU.exm{X:Cx}{w:wO}{f:Fq}{H:List HB}{R:List RB}{B:List FB}{Fs:List (wO→Fq→Prop)}(h:AU X w f H R B Fs):CQ X.M X.w0 X.f0 w f:=⟨h.stp,h.old,h.val⟩
section
variable{X:Cx}{w w':wO}{f f':Fq}{H:List HB}{R:List RB}{B:List FB}{Fs:List (wO→Fq→Prop)}
theorem AU.call0(h:AU X w f H R B Fs)(he:CQ (λ_=>False) w f w' f'):AU X w' f' H R B Fs :=
 have F:=he.fle h.val (λ_ h=>h.elim)
 h.step (he.stp.mono λ_ h=>h.elim) F he.old he.val (λb D=>he.stp.block b (h.lt D) λh=>h) (λb D=>he.stp.block b (h.mi b D).1 λh=>h)
theorem AU.callI(h:AU X w f H R B Fs)(he:CQ X.MI w f w' f')(Y:I' w' f')(L:G4 X.MI I'):AU {X with I:=I' } w' f' H R B Fs :=
 have O:=he.fle h.val (λb D=>(h.mi b D).2.1);have F:∀b,b∈CX H R→w'.heap[b]?=w.heap[b]?:=λb D=>he.stp.block b (h.lt D) (h.own b D).2.2
 {stp:=⟨he.stp.os.trans h.stp.os,he.stp.tape.trans h.stp.tape,he.stp.output.trans h.stp.output,Nat.le_trans h.stp.size he.stp.size,λk U hm=>(he.stp.block k (Nat.lt_of_lt_of_le U h.stp.size) λG=>by
       rcases (h.mi k G).2.2 with J|J
       · exact absurd U (Nat.not_lt.2 J)
       · exact hm J).trans (h.stp.block k U hm)⟩,
   old:=λb D=>(he.old b (Nat.lt_of_lt_of_le D h.stp.size)).trans (h.old b D),val:=he.val,ent:=h.ent.trans O,res:=Y,stab:=L,
   mi:=λb D=>⟨Nat.lt_of_lt_of_le (h.mi b D).1 he.stp.size,(he.old b (h.mi b D).1).trans (h.mi b D).2.1,(h.mi b D).2.2⟩,
   blk:=λe G=>(F e.b (List.mem_append.2 (.inl (List.mem_map.2 ⟨e,G,C⟩)))).trans (h.blk e G),
   row:=λr W=>by
     refine⟨(h.row r W).1,(h.row r W).2.imp id ?_⟩;rintro⟨b,l,J,Z,h3⟩;exact⟨b,l,J,(F b (List.mem_append.2 (.inr (List.mem_filterMap.2 ⟨r,W,by rw[J];rfl⟩)))).trans Z,h3⟩,
   nd:=h.nd,
   own:=λb D=>⟨(he.old b (h.lt D)).trans (h.own b D).1,(h.own b D).2⟩,hnw:=h.hnw,rnw:=h.rnw,
   fro:=λe G=>(h.fro e G).mono O,fac:=λφ K=>h.mono φ K _ _ _ _ (h.fac φ K) O,mono:=h.mono}
theorem AU.more{B':List FB}{F':List (wO→Fq→Prop)}(h:AU X w f H R B Fs)(F:∀e,e∈B'→Cs w f e.b e.off e.l)(G:∀φ,φ∈F'→φ w f)(hm:∀φ,φ∈F'→G0 φ):AU X w f H R (B'++B) (F'++Fs) :=
 {h with
   fro:=λe he=>(List.mem_append.1 he).elim (F e) (h.fro e),
   fac:=λφ D=>(List.mem_append.1 D).elim (G φ) (h.fac φ),
   mono:=λφ D=>(List.mem_append.1 D).elim (hm φ) (h.mono φ)}
theorem AU.less{R':List RB}{B':List FB}{F':List (wO→Fq→Prop)}(h:AU X w f H R B Fs)(F:H'.Sublist H)(G:R'.Sublist R)(O:∀e,e∈B'→e∈B)(K:∀φ,φ∈F'→φ∈Fs):AU X w f H' R' B' F' :=
 have L:(CX H' R').Sublist (CX H R):=List.Sublist.append (F.map _) (G.filterMap _)
 {h with
   blk:=λe he=>h.blk e (F.subset he),row:=λr J=>h.row r (G.subset J),nd:=L.nodup h.nd,own:=λb U=>h.own b (L.subset U),hnw:=λe he=>h.hnw e (F.subset he),rnw:=λr J=>h.rnw r (G.subset J),
   fro:=λe he=>h.fro e (O e he),fac:=λφ D=>h.fac φ (K φ D),mono:=λφ D=>h.mono φ (K φ D)}
theorem AU.fact(h:AU X w f H R B Fs)(D:nth Fs i=some φ):φ w f:=by
 rw[Fc] at D;exact h.fac _ (List.mem_of_getElem? D)
end
section
variable{P:Program}{n:Nat}{Q:Bh}{ds:List Deferred}{X:Cx}{R:List RB}{B:List FB}{Fs:List (wO→Fq→Prop)}{tb:Y9}{fs:List Fr}{σ:Bp}{H:List HB}
theorem go{k:Mj}(F:tb.Ok P)(m:Nat)(D:List Nat)(h:ex P n Q ds X R B Fs tb m D k fs σ H):A7 P n Q ds X R B Fs k fs σ H:=JE F m D k fs σ H h
theorem y{α:Type}{a:α}{p:Prop}(h:p):a=a∧p:=⟨C,h⟩
theorem y2{α β:Type}{a:α}{b:β}{p:Prop}(h:p):(a=a∧b=b)∧p:=⟨⟨C,C⟩,h⟩
def rL:Mj→Bool
 |.out _=>false
 |_=>true
theorem A7.le{k:Mj}(F:rL k=true)(D:Le σ' σ)(h:A7 P n Q ds X R B Fs k fs σ' H):A7 P n Q ds X R B Fs k fs σ H:=λw f G=>by
 have:=h w f G
 cases k with
 |code c=>exact NU D this
 |ops all l=>exact λa J=>this a (J.le D)
 |out e=>cases F
theorem Bb{k:Mj}{b:Bool}(t:Nat)(h:rL k=true)(D:σ t=some (.bool b))(F:b=true→A7 P n Q ds X R B Fs k fs (AH σ t (.bool true)) H)(G:b=false→A7 P n Q ds X R B Fs k fs (AH σ t (.bool false)) H):A7 P n Q ds X R B Fs k fs σ H:=by
 cases b with
 |true=>exact A7.le h (AD (le_refl _) D) (F C)
 |false=>exact A7.le h (AD (le_refl _) D) (G C)
theorem mkn{k:Mj}{b:Bool}(t:Nat)(c:Bool)(h:rL k=true)(D:σ t=some (.bool b))(F:b=c)(G:A7 P n Q ds X R B Fs k fs (AH σ t (.bool c)) H):A7 P n Q ds X R B Fs k fs σ H:=by
 subst F;exact A7.le h (AD (le_refl _) D) G
theorem Nq{k:Mj}{α:Type}(p:α→Prop)(B':α→List FB)(F':α→List (wO→Fq→Prop))(D:∀w f,AU X w f H R B Fs→∃x,p x∧(∀e,e∈B' x→Cs w f e.b e.off e.l)∧∀φ,φ∈F' x→φ w f)(hm:∀x φ,φ∈F' x→G0 φ)
   (h:∀x,p x→A7 P n Q ds X R (B' x++B) (F' x++Fs) k fs σ H):A7 P n Q ds X R B Fs k fs σ H:=λw f F=>by
 obtain⟨x,G,J,K⟩:=D w f F;exact h x G w f (F.more J K (hm x))
theorem KH{k:Mj}{p:Prop}(D:∀w f,AU X w f H R B Fs→p)(h:p→A7 P n Q ds X R B Fs k fs σ H):A7 P n Q ds X R B Fs k fs σ H:=λw f F=>h (D w f F) w f F
theorem Na:∀fs:List Fr,(MU P n Q fs).p=Q.p
 | []=>rfl
 |.sq _::fs=>Na fs
 |.bk _::fs=>Na fs
theorem mc0{all r:List Oper}{op:Op}{AX:String}{d:Nat}{α:Type}{val:α→Value}{q:α→Prop}{F':α→List (wO→Fq→Prop)}(F:gd all σ g=some true)(hd:Nat.blt d n=true)(he:∀w,Enters P σ op ty w fid args)
   (G:∀w f,AU X w f H R B Fs→BF P fid args w λv w'=>∃x f',v=val x∧q x∧CQ (λ_=>False) w f w' f'∧∀φ,φ∈F' x→φ w' f') (hm:∀x φ,φ∈F' x→G0 φ)
   (h:∀x,q x→A7 P n Q ds X R B (F' x++Fs) (.ops all r) fs (AH σ d (val x)) H):A7 P n Q ds X R B Fs (.ops all (⟨some d,op,ty,AX,af,g⟩::r)) fs σ H:=λw f D=>by
 refine BE F (A5 hd (he w) (G w f D) ?_);rintro v w' ⟨x,f',rfl,J,K,L⟩;exact h x J w' f' ((D.call0 K).more (B':=[]) (λ_ h=>by cases h) L (hm x))
theorem mcI{all r:List Oper}{op:Op}{AX:String}{d:Nat}{α:Type}{val:α→Value}{q:α→Prop}{I':α→wO→Fq→Prop}{F':α→List (wO→Fq→Prop)}
   (G:gd all σ g=some true) (hd:Nat.blt d n=true) (he:∀w,Enters P σ op ty w fid args)
   (J:∀w f,AU X w f H R B Fs→BU P fid args w (λv w'=>∃x f',v=val x∧q x∧CQ X.MI w f w' f'∧I' x w' f'∧∀φ,φ∈F' x→φ w' f') XX) (D:∀x,G4 X.MI (I' x)) (hm:∀x φ,φ∈F' x→G0 φ)
   (K:∀w f c w',AU X w f H R B Fs→XX c w'→Q.p c σ ds w')
   (h:∀x,q x→A7 P n Q ds {X with I:=I' x} R B (F' x++Fs) (.ops all r) fs (AH σ d (val x)) H):A7 P n Q ds X R B Fs (.ops all (⟨some d,op,ty,AX,af,g⟩::r)) fs σ H:=λw f F=>by
 refine BE G (Cw hd (he w) (J w f F) ?_ ?_)
 · rintro v w' ⟨x,f',rfl,L,O,U,W⟩
   exact h x L w' f' ((F.callI O U (D x)).more (B':=[]) (λ_ h=>by cases h) W (hm x))
 · intro c w' Y
   rw[Na];exact K w f c w' F Y
theorem FJ{all r:List Oper}{op:Op}{AX:String}{d:Nat}{v:Value}(F:gd all σ g=some true)(hd:Nat.blt d n=true)(G:∀w f,AU X w f H R B Fs→AR P σ op ty w v w)
   (h:A7 P n Q ds X R B Fs (.ops all r) fs (AH σ d v) H):A7 P n Q ds X R B Fs (.ops all (⟨some d,op,ty,AX,af,g⟩::r)) fs σ H:=λw f D=>BE F (Ab hd (G w f D) (h w f D))
theorem mpan{all r:List Oper}{op:Op}{AX:String}{v:Value}(D:gd all σ g=some true)(F:∀w,uT P σ op ty w v w)
   (h:∀w f,AU X w f H R B Fs→Q.p [{v,recovered:=false}] σ ds w):A7 P n Q ds X R B Fs (.ops all (⟨dst,op,ty,AX,af,g⟩::r)) fs σ H:=λw f G=>BE D (C6 (F w) (by rw[Na];exact h w f G))
def lpq(P:Program)(n:Nat){α:Type}(m:α→Nat)(p:α→Prop)(s:α→Bp)(X:α→Cx)(H:α→List HB)(R:α→List RB)(B:α→List FB)(Fs:α→List (wO→Fq→Prop))(ds:List Deferred)(k:Nat)(Q:Bh):Bh :=
 {q:=λe σ h w=>match e with
     |.normal=>∃x,m x<k∧p x∧h=ds∧Le (s x) σ∧∃f,AU (X x) w f (H x) (R x) (B x) (Fs x)
     |e=>Q.q e σ h w,
   p:=Q.p}
theorem HE{c:Code}{α:Type}(m:α→Nat)(p:α→Prop)(s:α→Bp)(F:α→Cx)(H':α→List HB)(R':α→List RB)(B':α→List FB)(F':α→List (wO→Fq→Prop))(h:α)(L:p h)(O:Le (s h) σ)
   (U:∀w f,AU X w f H R B Fs→AU (F h) w f (H' h) (R' h) (B' h) (F' h))
   (body:∀x,p x→A7 P n (lpq P n m p s F H' R' B' F' ds (m x) (MU P n Q fs)) ds (F x) (R' x) (B' x) (F' x) (.code c) [] (s x) (H' x)):A7 P n Q ds X R B Fs (.code (.loop c)) fs σ H:=λw f hm=>by
 refine Em (λk σ D w=>∃x,m x=k∧p x∧D=ds∧σ=s x∧∃f,AU (F x) w f (H' x) (R' x) (B' x) (F' x)) (m h) (s h) O ⟨h,C,L,C,C,f,U w f hm⟩ ?_;rintro k σ D w ⟨x,rfl,W,rfl,rfl,f,hm⟩;have:=body x W w f hm;intro a Y;refine wp_mono (this a Y) λe a' w' he=>?_
 cases e with
 |normal =>
   obtain⟨σ',D,Z,y,hy,G,rfl,J,f',K⟩:=he;exact⟨σ',_,Z,m y,s y,hy,J,y,C,G,C,C,f',K⟩
 |panic c=>exact he
 |outgrown=>exact he
 |ret=>exact he
 |exit i=>exact he
 |goto i=>exact he
theorem DW{α:Type}{m:α→Nat}{p:α→Prop}{s:α→Bp}{h:α→Cx}{H':α→List HB}{R':α→List RB}{B':α→List FB}{F':α→List (wO→Fq→Prop)}{k:Nat}(x:α)(D:m x<k)(F:p x)(G:Le (s x) σ)
   (J:∀w f,AU X w f H R B Fs→∃f,AU (h x) w f (H' x) (R' x) (B' x) (F' x)):A7 P n (lpq P n m p s h H' R' B' F' ds k Q) ds X R B Fs (.out .normal) [] σ H :=
 λw f hm=>⟨x,D,F,C,G,J w f hm⟩
theorem GP{α:Type}{m:α→Nat}{p:α→Prop}{s:α→Bp}{D:α→Cx}{H':α→List HB}{R':α→List RB}{B':α→List FB}{F':α→List (wO→Fq→Prop)}{k:Nat}(h:A7 P n Q ds X R B Fs (.out (.exit i)) fs σ H):A7 P n (lpq P n m p s D H' R' B' F' ds k (MU P n Q fs)) ds X R B Fs (.out (.exit i)) [] σ H:=λw f hm=>h w f hm
theorem pM{α:Type}{m:α→Nat}{p:α→Prop}{s:α→Bp}{D:α→Cx}{H':α→List HB}{R':α→List RB}{B':α→List FB}{F':α→List (wO→Fq→Prop)}{k:Nat}(h:A7 P n Q ds X R B Fs (.out .ret) fs σ H):A7 P n (lpq P n m p s D H' R' B' F' ds k (MU P n Q fs)) ds X R B Fs (.out .ret) [] σ H:=λw f hm=>h w f hm
theorem Oe{fn:Func}{c:Code}{w:wO}{f:Fq}(D:P.funcs[fid]?=some fn)(F:fn.body=some c)(G:fn.ntmps=n)(J:Nat.ble l.length n=true)(K:AU X w f H R B Fs)
   (h:A7 P n (FX P fn R0 XX) [] X R B Fs (.code c) [] (I8 l 0) H):BU P fid l.toArray w R0 XX:=ID D F G J (h w f K)
theorem Df{fn:Func}{c:Code}{w:wO}{f:Fq}(D:P.funcs[fid]?=some fn)(F:fn.body=some c)(G:fn.ntmps=n)(J:Nat.ble l.length n=true)(K:AU X w f H R B Fs)
   (h:A7 P n (FX P fn R0 λ_ _=>False) [] X R B Fs (.code c) [] (I8 l 0) H):BF P fid l.toArray w R0:=enter D F G J (h w f K)
theorem Bc{fn:Func}{v:Value}(F:∀w f,AU X w f H R B Fs→WW P fn σ w v)(h:∀w f,AU X w f H R B Fs→R0 v w):A7 P n (FX P fn R0 XX) [] X R B Fs (.out .ret) [] σ H:=λw f D=>Bv (F w f D) (h w f D)
theorem kQ{fn:Func}{v:Value}(F:∀w f,AU X w f H R B Fs→WW P fn σ w v)(h:∀w f,AU X w f H R B Fs→R0 v w):A7 P n (FX P fn R0 XX) [] X R B Fs (.out .normal) [] σ H:=λw f D=>G6 (F w f D) (h w f D)
end
end Go.SW
