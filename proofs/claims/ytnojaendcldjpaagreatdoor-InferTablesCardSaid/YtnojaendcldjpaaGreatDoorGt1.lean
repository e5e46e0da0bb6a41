/- What it rests on, part 1. -/
import Derived.KernelRfl
import Derived.WalkKit
import Derived.OrdersHeld
import Derived.Below
import Derived.Shelf.Small.Strs
import Derived.Shelf.Strings.Search1
import Derived.Shelf.Strings.Search2
import Derived.Shelf.Strings.Search3
import Derived.Shelf.Strings.Cut
import Derived.Shelf.Strings.Prefix
import Derived.Shelf.Strings.SlTrimAscii
import Derived.Shelf.Strconv.ToErrorRange
import Derived.Ground.NamesProg
import Derived.Test.YtnojaendcldjpaaGreatDoorProg
import Derived.Laws.AppendOwn
import Derived.Lib.IndexMore
import Derived.Deep.Draws
import Derived.Laws.StructEq
import Derived.Defers
import Derived.Recover
import Derived.Laws.IdiomStrings
import Derived.Laws.BytesArg
import Derived.Lib.SlTrimSet
import Derived.Lib.Strings
import GoSem.Core.Float
import GoSem.Op.Unary
import GoSem.Op.Equal
import Derived.Lib.ConvBytes
import Derived.Laws.Externs
import Derived.Scope
import Derived.Laws.FloatArith
set_option linter.unusedVariables false
set_option linter.unusedSimpArgs false
universe u
namespace Go
variable {p:Prop}
theorem oM(h:p:=by omega):p:=h
theorem dC(h:p:=by decide):p:=h
theorem kR(h:p:=by kernel_rfl):p:=h
theorem nM(h:p:=by simp only[List.mem_cons,List.not_mem_nil,or_false];omega):p:=h
theorem lM(h:p:=by first|omega|(simp only[List.length_cons,List.length_append,List.length_nil];omega)):p:=h
theorem C{α:Sort u}{a:α}:a=a:=rfl
theorem tQ:True:=.intro
abbrev lU:=List UInt8
end Go
namespace Go.SW
open Go.RowKit
abbrev Ba:=Nat→Option Value
def e0:Ba:=λ_=>none
def AI(σ:Ba)(d:Nat)(v:Value):Ba:=λt=>bif Nat.beq t d then some v else σ t
def ev(σ:Ba):Operand→Option Value
 |.tmp t=>σ t
 |.const v=>some v
 |.global g=>some (.pointer (some ⟨g,0,none⟩))
 |.func f=>some (.func (.func f) #[] #[])
def Le(σ' σ:Ba):Prop:=∀t v,σ' t=some v→σ t=some v
theorem JM(σ:Ba):Le e0 σ:=λ_ _ h=>by cases h
theorem le_refl(σ:Ba):Le σ σ:=λ_ _ h=>h
variable {args:Array Value}{σ':Ba}{want:Bool}{l:List Value}{dj i j k:Nat}{I:Nat→Ba→List Deferred→World→Prop}{dst:Option Tmp}{r1 r2 r3:ResultVar}{v1 v2 v3:Value}{w':World}
theorem Av{σ:Ba}{d:Nat}{v:Value}(h:Le σ' σ)(hd:σ d=some v):Le (AI σ' d v) σ:=by
 intro t u ht;unfold AI at ht
 cases hb:Nat.beq t d with
 |true=>rw[hb] at ht;have:=Nat.eq_of_beq_eq_true hb;subst this;simpa[← hd] using ht
 |false=>rw[hb] at ht;exact h t u ht
structure St(n:Nat)(σ:Ba)(ds:List Deferred)(a:Act):Prop where
 size:a.tmps.size=n
 defs:a.defers=ds
 val:∀t v,σ t=some v→a.tmps.getD t undef=v
theorem St.le{n:Nat}{σ:Ba}{ds:List Deferred}{a:Act}(h:St n σ ds a)(hl:Le σ' σ):St n σ' ds a:=⟨h.size,h.defs,λt v ht=>h.val t v (hl t v ht)⟩
theorem St.ev{n:Nat}{σ:Ba}{ds:List Deferred}{a:Act}(h:St n σ ds a):∀x v,ev σ x=some v→a.eval x=v:=by
 intro x v hx
 cases x with
 |tmp t=>exact h.val t v hx
 |const u=>exact Option.some.inj hx
 |global g=>exact Option.some.inj hx
 |func f=>exact Option.some.inj hx
theorem St.put{n:Nat}{σ:Ba}{ds:List Deferred}{a:Act}(h:St n σ ds a){d:Nat}(hd:Nat.blt d n=true)(v:Value):St n (AI σ d v) ds (a.put (some d) v):=by
 have hd':d<n:=Nat.le_of_ble_eq_true hd;refine⟨by simp[Act.put,h.size],h.defs,λt u ht=>?_⟩;unfold AI at ht
 cases hb:Nat.beq t d with
 |true =>
   rw[hb] at ht;have:=Nat.eq_of_beq_eq_true hb;subst this;simp at ht;subst ht;simp[Act.put,Array.getD_eq_getD_getElem?,h.size,hd']
 |false =>
   rw[hb] at ht;have hne:d≠t:=λe=>by rw[e,Nat.beq_refl] at hb;cases hb
   have:=h.val t u ht;simpa[Act.put,Array.getD_eq_getD_getElem?,Array.getElem?_setIfInBounds_ne hne] using this
structure AV where
 q:Exit→Ba→List Deferred→World→Prop
 p:List PanicEntry→Ba→List Deferred→World→Prop
def AV.up(n:Nat)(Q:AV):Exit→Act→World→Prop
 |.panic c,a,w=>∃σ ds,St n σ ds a∧Q.p c σ ds w
 |.outgrown,_,_=>False
 |.normal,a,w=>∃σ ds,St n σ ds a∧Q.q .normal σ ds w
 |.ret,a,w=>∃σ ds,St n σ ds a∧Q.q .ret σ ds w
 |.exit i,a,w=>∃σ ds,St n σ ds a∧Q.q (.exit i) σ ds w
 |.goto i,a,w=>∃σ ds,St n σ ds a∧Q.q (.goto i) σ ds w
def GP(P:Program)(n:Nat)(c:Code)(Q:AV)(σ:Ba)(ds:List Deferred)(w:World):Prop :=
 ∀a,St n σ ds a→c.wp P (Q.up n) a w
def Gd(P:Program)(n:Nat)(ops:Array Oper)(Q:AV)(l:List Oper)(σ:Ba)(ds:List Deferred)(w:World):Prop :=
 ∀a,St n σ ds a→wpList P ops (Q.up n) l a w
section
variable{P:Program}{n:Nat}{Q:AV}{σ:Ba}{ds:List Deferred}{w:World}
theorem N8{c:Code}(hl:Le σ' σ)(h:GP P n c Q σ' ds w):GP P n c Q σ ds w:=λa ha=>h a (ha.le hl)
def thn(P:Program)(n:Nat)(y:Code)(Q:AV):AV :=
 {q:=λe σ ds w=>match e with|.normal=>GP P n y Q σ ds w|e=>Q.q e σ ds w,p:=Q.p}
theorem BF{x y:Code}(h:GP P n x (thn P n y Q) σ ds w):GP P n (.seq x y) Q σ ds w:=λa ha =>
 wp_seq (wp_mono (h a ha) λe a' w' he=>by
   cases e with
   |normal=>obtain⟨σ',ds',hs,hq⟩:=he;exact hq a' hs
   |panic c=>exact he
   |outgrown=>exact he
   |ret=>exact he
   |exit i=>exact he
   |goto i=>exact he)
theorem Dr{y:Code}(h:GP P n y Q σ ds w):(thn P n y Q).q .normal σ ds w:=h
theorem HD(h:Q.q .normal σ ds w):GP P n .skip Q σ ds w:=λ_ ha=>wp_skip ⟨σ,ds,ha,h⟩
theorem J6(h:Q.q .ret σ ds w):GP P n .ret Q σ ds w:=λ_ ha=>wp_ret ⟨σ,ds,ha,h⟩
theorem KP(h:Q.q (.exit i) σ ds w):GP P n (.exit i) Q σ ds w:=λ_ ha=>wp_exit ⟨σ,ds,ha,h⟩
def blk(i:Nat)(Q:AV):AV :=
 {q:=λe σ ds w=>match e with|.exit j=>if j=i then Q.q .normal σ ds w else Q.q (.exit j) σ ds w|e=>Q.q e σ ds w,p:=Q.p}
theorem DU{c:Code}(h:GP P n c (blk i Q) σ ds w):GP P n (.block i c) Q σ ds w:=λa ha =>
 wp_block (wp_mono (h a ha) λe a' w' he=>by
   cases e with
   |exit j =>
     obtain⟨σ',ds',hs,hq⟩:=he;simp only[Exit.inBlock]
     split
     · rename_i hj;simp only[blk,hj,if_true] at hq;exact⟨σ',ds',hs,hq⟩
     · rename_i hj;simp only[blk,hj,if_false] at hq;exact⟨σ',ds',hs,hq⟩
   |normal=>exact he
   |panic c=>exact he
   |outgrown=>exact he
   |ret=>exact he
   |goto i=>exact he)
theorem IA(h:Q.q .normal σ ds w):(blk i Q).q .normal σ ds w:=h
theorem WL(h:Q.q .ret σ ds w):(blk i Q).q .ret σ ds w:=h
theorem PE(h:Q.q .normal σ ds w):(blk i Q).q (.exit i) σ ds w:=by simp only[blk,if_true];exact h
theorem pZ(hne:Nat.beq j i=false)(h:Q.q (.exit j) σ ds w):(blk i Q).q (.exit j) σ ds w:=by
 have:j≠i:=λe=>by rw[e,Nat.beq_refl] at hne;cases hne
 simp only[blk,this,if_false];exact h
theorem VQ{y:Code}(h:Q.q .ret σ ds w):(thn P n y Q).q .ret σ ds w:=h
theorem WE{y:Code}(h:Q.q (.exit j) σ ds w):(thn P n y Q).q (.exit j) σ ds w:=h
theorem Nq{c:Operand}{x y:Code}{b:Bool}(hc:ev σ c=some (.bool b))(ht:b=true→GP P n x Q σ ds w)(hf:b=false→GP P n y Q σ ds w) :
   GP P n (.cond c x y) Q σ ds w:=λa ha =>
 wp_cond_split (t:=b) (ha.ev _ _ hc) (λh=>ht h a ha) (λh=>hf h a ha)
theorem F2{c:Operand}{x y:Code}{b:Bool}(hc:ev σ c=some (.bool b))(hb:b=true)(ht:GP P n x Q σ ds w):GP P n (.cond c x y) Q σ ds w :=
 Nq hc (λ_=>ht) (λh=>by rw[h] at hb;cases hb)
theorem J4{c:Operand}{x y:Code}{b:Bool}(hc:ev σ c=some (.bool b))(hb:b=false)(hf:GP P n y Q σ ds w):GP P n (.cond c x y) Q σ ds w :=
 Nq hc (λh=>by rw[h] at hb;cases hb) (λ_=>hf)
def lp(I:Nat→Ba→List Deferred→World→Prop)(k:Nat)(Q:AV):AV :=
 {q:=λe σ ds w=>match e with|.normal=>∃k' σ',k'<k∧Le σ' σ∧I k' σ' ds w|e=>Q.q e σ ds w,p:=Q.p}
theorem GS(k':Nat)(σ':Ba)(hk:k'<k)(hl:Le σ' σ)(h:I k' σ' ds w):(lp I k Q).q .normal σ ds w:=⟨k',σ',hk,hl,h⟩
theorem X8(h:Q.q .ret σ ds w):(lp I k Q).q .ret σ ds w:=h
theorem Ox(h:Q.q (.exit j) σ ds w):(lp I k Q).q (.exit j) σ ds w:=h
theorem DM{c:Code}(I:Nat→Ba→List Deferred→World→Prop)(k:Nat)(σ':Ba)(hl:Le σ' σ)(h0:I k σ' ds w)
   (round:∀k σ ds w,I k σ ds w→GP P n c (lp I k Q) σ ds w):GP P n (.loop c) Q σ ds w:=by
 intro a ha b kk cs
 have key:∀k a w σ' ds,St n σ' ds a→I k σ' ds w →
     ∃e a' w',Q.up n e a' w'∧Arrives P (lone (b.at a (.code c::.inLoop c::kk)) cs w) b kk cs e a' w':=by
   intro k
   induction k using Nat.strongRecOn with
   |_ k ih =>
     intro a w σ' ds hs hI;obtain⟨e,a₁,w₁,hq,harr⟩:=round k σ' ds w hI a hs b (.inLoop c::kk) cs
     cases e with
     |normal =>
       obtain⟨σ₁,ds₁,hs₁,k',σ₂,hk,hle,hI₁⟩:=hq;obtain⟨e₂,a₂,w₂,hq₂,harr₂⟩:=ih k' hk a₁ w₁ σ₂ ds₁ (hs₁.le hle) hI₁;exact⟨e₂,a₂,w₂,hq₂,.of_steps (Steps.trans harr (.one step_inLoop)) harr₂⟩
     |exit id=>exact⟨.exit id,a₁,w₁,hq,.pass (x:=.inLoop c) rfl (λ_ _=>.inl (by simp)) harr⟩
     |goto l=>exact⟨.goto l,a₁,w₁,hq,.pass (x:=.inLoop c) rfl (λ_ _=>.inl (by simp)) harr⟩
     |ret=>exact⟨.ret,a₁,w₁,hq,.pass (x:=.inLoop c) rfl (λ_ _=>.inl (by simp)) harr⟩
     |panic ch=>exact⟨.panic ch,a₁,w₁,hq,.pass (x:=.inLoop c) rfl (λ_ _=>.inl (by simp)) harr⟩
     |outgrown=>exact hq.elim
 obtain⟨e,a',w',hq,harr⟩:=key k a w σ' ds (ha.le hl) h0;exact⟨e,a',w',hq,.of_steps (.one step_loop) harr⟩
def AK(P:Program)(σ:Ba)(op:Op)(ty:TypeId)(w:World)(v:Value)(w':World):Prop :=
 ∀(ρ:Operand→Value) d pos af g,(∀x v,ev σ x=some v→ρ x=v)→(execOp ρ ⟨d,op,ty,pos,af,g⟩).run P w=.ok (.value v) w'
def nX(P:Program)(σ:Ba)(op:Op)(ty:TypeId)(w:World)(w':World):Prop :=
 ∀(ρ:Operand→Value) d pos af g,(∀x v,ev σ x=some v→ρ x=v)→(execOp ρ ⟨d,op,ty,pos,af,g⟩).run P w=.ok .skip w'
def Enters(P:Program)(σ:Ba)(op:Op)(ty:TypeId)(w:World)(f:FuncId)(args:Array Value):Prop :=
 ∀(ρ:Operand→Value) d pos af g,(∀x v,ev σ x=some v→ρ x=v)→(execOp ρ ⟨d,op,ty,pos,af,g⟩).run P w=.ok (.enter f args) w
def tG(P:Program)(σ:Ba)(op:Op)(ty:TypeId)(w:World)(v:Value)(w':World):Prop :=
 ∀(ρ:Operand→Value) d pos af g,(∀x v,ev σ x=some v→ρ x=v)→(execOp ρ ⟨d,op,ty,pos,af,g⟩).run P w=.halt (.panic v) w'
theorem C6{l:List Oper}(h:Gd P n l.toArray Q l σ ds w):GP P n (.region i l.toArray false) Q σ ds w:=λa ha=>wp_region_lit (h a ha)
variable{ops:Array Oper}{op:Op}{ty:TypeId}{pos:String}{af:Array Edge}{rest:List Oper}{d:Nat}
theorem Ah(h:Q.q .normal σ ds w):Gd P n ops Q [] σ ds w:=λ_ ha=>wpList_nil ⟨σ,ds,ha,h⟩
theorem Ac{v:Value}(hd:Nat.blt d n=true)(hr:AK P σ op ty w v w')(h:Gd P n ops Q rest (AI σ d v) ds w') :
   Gd P n ops Q (⟨some d,op,ty,pos,af,none⟩::rest) σ ds w:=λa ha =>
 wpList_plain rfl λK hK=>by
   unfold Oper.wp;rw[hr a.eval _ _ _ _ ha.ev];exact hK _ _ (h _ (ha.put hd v))
theorem IP(hr:nX P σ op ty w w')(h:Gd P n ops Q rest σ ds w') :
   Gd P n ops Q (⟨none,op,ty,pos,af,none⟩::rest) σ ds w:=λa ha =>
 wpList_plain rfl λK hK=>by
   unfold Oper.wp;rw[hr a.eval _ _ _ _ ha.ev];exact hK _ _ (h _ ha)
theorem BX{v:Value}(hr:tG P σ op ty w v w')(h:Q.p [{v,recovered:=false}] σ ds w') :
   Gd P n ops Q (⟨dst,op,ty,pos,af,none⟩::rest) σ ds w:=λa ha =>
 wpList_plain rfl λK hK=>by
   unfold Oper.wp;rw[hr a.eval _ _ _ _ ha.ev];exact⟨σ,ds,ha,h⟩
def AX(P:Program)(f:FuncId)(args:Array Value)(w:World)(R:Value→World→Prop):Prop :=
 Calls P f args w λe w'=>∃v,e=.returned v∧R v w'
def BV(P:Program)(f:FuncId)(args:Array Value)(w:World)(R:Value→World→Prop)(X:List PanicEntry→World→Prop):Prop :=
 Calls P f args w λe w'=>(∃v,e=.returned v∧R v w')∨∃c,e=.panicked c∧X c w'
theorem AX.mono{f:FuncId}{R R':Value→World→Prop}(h:AX P f args w R)(hr:∀v w',R v w'→R' v w'):AX P f args w R' :=
 Calls.mono h λ_ _ ⟨v,he,hv⟩=>⟨v,he,hr _ _ hv⟩
theorem BV.mono{f:FuncId}{R R':Value→World→Prop}{X X':List PanicEntry→World→Prop}(h:BV P f args w R X)(hr:∀v w',R v w'→R' v w')
   (hx:∀c w',X c w'→X' c w'):BV P f args w R' X' :=
 Calls.mono h λ_ _ he=>he.imp (λ⟨v,he,hv⟩=>⟨v,he,hr _ _ hv⟩) (λ⟨c,he,hv⟩=>⟨c,he,hx _ _ hv⟩)
theorem AX.retP{f:FuncId}{R:Value→World→Prop}{X:List PanicEntry→World→Prop}(h:AX P f args w R):BV P f args w R X :=
 Calls.mono h λ_ _ he=>.inl he
theorem A0{f:FuncId}{R:Value→World→Prop}(hd:Nat.blt d n=true)(he:Enters P σ op ty w f args)(hc:AX P f args w R)
   (h:∀v w',R v w'→Gd P n ops Q rest (AI σ d v) ds w'):Gd P n ops Q (⟨some d,op,ty,pos,af,none⟩::rest) σ ds w:=λa ha =>
 wpList_plain rfl λK hK=>by
   unfold Oper.wp;rw[he a.eval _ _ _ _ ha.ev];refine Calls.mono hc λe w' hr=>?_;obtain⟨v,rfl,hv⟩:=hr;exact hK _ _ (h v w' hv _ (ha.put hd v))
theorem Cc{f:FuncId}{R:Value→World→Prop}{X:List PanicEntry→World→Prop}(hd:Nat.blt d n=true)(he:Enters P σ op ty w f args)
   (hc:BV P f args w R X) (h:∀v w',R v w'→Gd P n ops Q rest (AI σ d v) ds w') (hx:∀c w',X c w'→Q.p c σ ds w') :
   Gd P n ops Q (⟨some d,op,ty,pos,af,none⟩::rest) σ ds w:=λa ha =>
 wpList_plain rfl λK hK=>by
   unfold Oper.wp;rw[he a.eval _ _ _ _ ha.ev];refine Calls.mono hc λe w' hr=>?_;rcases hr with ⟨v,rfl,hv⟩|⟨c,rfl,hv⟩
   · exact hK _ _ (h v w' hv _ (ha.put hd v))
   · exact⟨σ,ds,ha,hx c w' hv⟩
theorem Gp{a:Act}{b:Bool}(ha:St n σ ds a)(hj:(ops[j]?).bind (·.dst)=some dj)(hv:σ dj=some (.bool b)) :
   Region.wanted ⟨dst,op,ty,pos,af,some (j,want)⟩ (yielded ops a.tmps)=(b==want):=by
 have h1:=ha.val dj _ hv
 have h2:a.tmps[dj]?=some (.bool b):=by
   rw[Array.getD_eq_getD_getElem?] at h1
   cases hx:a.tmps[dj]? with
   |none=>rw[hx] at h1;simp[undef] at h1
   |some u=>rw[hx] at h1;simpa using h1
 simp[Region.wanted,yielded,hj,h2]
theorem Bw{b:Bool}(hj:(ops[j]?).bind (·.dst)=some dj)(hv:σ dj=some (.bool b))(hb:b=want)
   (h:Gd P n ops Q (⟨dst,op,ty,pos,af,none⟩::rest) σ ds w):Gd P n ops Q (⟨dst,op,ty,pos,af,some (j,want)⟩::rest) σ ds w:=λa ha=>by
 have h1:=h a ha;unfold wpList at h1 ⊢;rw[if_pos (by simp[Region.wanted])] at h1;rw[if_pos (by rw[Gp ha hj hv,hb];simp)];exact h1
theorem kD{b:Bool}(hd:Nat.blt d n=true)(hj:(ops[j]?).bind (·.dst)=some dj)(hv:σ dj=some (.bool b))(hb:b=!want)
   (h:Gd P n ops Q rest (AI σ d undef) ds w):Gd P n ops Q (⟨some d,op,ty,pos,af,some (j,want)⟩::rest) σ ds w:=λa ha=>by
 unfold wpList;rw[if_neg (by rw[Gp ha hj hv,hb];cases want <;> simp)];exact h _ (ha.put hd undef)
def Um(P:Program)(fn:Func)(σ:Ba)(w:World)(v:Value):Prop :=
 ∀tmps:Array Value,(∀t v,σ t=some v→tmps.getD t undef=v)→(results fn tmps).run P w=.ok v w
def Ek(P:Program)(fn:Func)(R:Value→World→Prop)(X:List PanicEntry→World→Prop):AV :=
 {q:=λe σ ds w=>match e with|.normal|.ret=>ds=[]∧∃v,Um P fn σ w v∧R v w|_=>False,p:=λc _ ds w=>ds=[]∧X c w}
def GU:List Value→Nat→Ba
 | [],_=>e0
 |v::l,k=>AI (GU l (k+1)) k v
theorem OL:∀(l:List Value)(k t:Nat)(v:Value),GU l k t=some v→k≤t∧l[t-k]?=some v
 | [],_,_,_,h=>by cases h
 |u::l,k,t,v,h=>by
   unfold GU AI at h
   cases hb:Nat.beq t k with
   |true=>rw[hb] at h;have:=Nat.eq_of_beq_eq_true hb;subst this;simp at h;simp[h]
   |false =>
     rw[hb] at h;obtain⟨h1,h2⟩:=OL l (k+1) t v h;refine⟨oM,?_⟩;have:t-k=(t-(k+1))+1:=oM;rw[this];simpa using h2
theorem IN(hn:Nat.ble l.length n=true):St n (GU l 0) [] {tmps:=l.toArray++Array.replicate (n-l.toArray.size) undef,defers:=[]}:=by
 have hn':l.length≤n:=by simpa using hn
 refine⟨by simp;omega,rfl,λt v h=>?_⟩;obtain⟨_,h2⟩:=OL l 0 t v h
 have hlt:t<l.length:=by
   rcases Nat.lt_or_ge t l.length with h|h
   · exact h
   · simp[List.getElem?_eq_none h] at h2
 simp[Array.getElem?_append,hlt] at h2 ⊢;simpa[hlt] using h2
theorem HZ{f:FuncId}{fn:Func}{c:Code}{R:Value→World→Prop}{X:List PanicEntry→World→Prop}(hf:P.funcs[f]?=some fn)(hb:fn.body=some c)
   (hn:fn.ntmps=n) (hl:Nat.ble l.length n=true) (h:GP P n c (Ek P fn R X) (GU l 0) [] w):BV P f l.toArray w R X:=by
 refine calls_of_wp hf hb ?_;rw[hn];refine wp_mono (h _ (IN hl)) λe a w' he=>?_
 cases e with
 |normal=>obtain⟨σ,ds,hs,hd,v,hv,hr⟩:=he;exact⟨by rw[hs.defs,hd],v,hv _ hs.val,.inl ⟨v,rfl,hr⟩⟩
 |ret=>obtain⟨σ,ds,hs,hd,v,hv,hr⟩:=he;exact⟨by rw[hs.defs,hd],v,hv _ hs.val,.inl ⟨v,rfl,hr⟩⟩
 |panic c=>obtain⟨σ,ds,hs,hd,hx⟩:=he;exact⟨by rw[hs.defs,hd],.inr ⟨c,rfl,hx⟩⟩
 |outgrown=>exact he.elim
 |exit i=>obtain⟨σ,ds,hs,hq⟩:=he;exact hq.elim
 |goto i=>obtain⟨σ,ds,hs,hq⟩:=he;exact hq.elim
theorem enter{f:FuncId}{fn:Func}{c:Code}{R:Value→World→Prop}(hf:P.funcs[f]?=some fn)(hb:fn.body=some c)
   (hn:fn.ntmps=n) (hl:Nat.ble l.length n=true) (h:GP P n c (Ek P fn R λ_ _=>False) (GU l 0) [] w):AX P f l.toArray w R :=
 Calls.mono (HZ hf hb hn hl h) λ_ _ he=>he.elim id λ⟨_,_,h⟩=>h.elim
theorem MA{fn:Func}{R:Value→World→Prop}{X:List PanicEntry→World→Prop}{v:Value}(hv:Um P fn σ w v)(h:R v w):(Ek P fn R X).q .normal σ [] w:=⟨rfl,v,hv,h⟩
theorem Bp{fn:Func}{R:Value→World→Prop}{X:List PanicEntry→World→Prop}{v:Value}(hv:Um P fn σ w v)(h:R v w):(Ek P fn R X).q .ret σ [] w:=⟨rfl,v,hv,h⟩
def rvS(tmps:Array Value):ResultVar→Sem Value
 |.tmp t=>pure (tmps.getD t undef)
 |.cell a t=>do loadVar t (← asAddr (tmps.getD a undef))
theorem HY(fn:Func)(tmps:Array Value):results fn tmps=(do let vs ← fn.results.mapM (rvS tmps);pure (if h:vs.size=1 then vs[0] else .tuple vs)):=by
 unfold results
 congr
def Rv(P:Program)(σ:Ba)(w:World)(r:ResultVar)(v:Value):Prop :=
 ∀tmps:Array Value,(∀t v,σ t=some v→tmps.getD t undef=v)→(rvS tmps r).run P w=.ok v w
theorem Af{t:Nat}{v:Value}(hv:σ t=some v):Rv P σ w (.tmp t) v:=λtmps ht=>by simp only[rvS,ht t v hv];rfl
theorem Gz{fn:Func}(h:fn.results=#[]):Um P fn σ w (.tuple #[]):=λtmps _=>results_none h tmps P w
theorem Ao{fn:Func}{r:ResultVar}{v:Value}(h:fn.results=#[r])(hv:Rv P σ w r v):Um P fn σ w v:=λtmps ht=>by
 have h1:=hv tmps ht;rw[HY,h,List.mapM_toArray];simp[h1]
theorem Bl{fn:Func}(h:fn.results=#[r1,r2])(h1:Rv P σ w r1 v1)(h2:Rv P σ w r2 v2):Um P fn σ w (.tuple #[v1,v2]):=λtmps ht=>by
 have g1:=h1 tmps ht;have g2:=h2 tmps ht;rw[HY,h,List.mapM_toArray];simp[g1,g2]
theorem Dy{fn:Func}(h:fn.results=#[r1,r2,r3])(h1:Rv P σ w r1 v1)(h2:Rv P σ w r2 v2)(h3:Rv P σ w r3 v3):Um P fn σ w (.tuple #[v1,v2,v3]):=λtmps ht=>by
 have g1:=h1 tmps ht;have g2:=h2 tmps ht;have g3:=h3 tmps ht;rw[HY,h,List.mapM_toArray];simp[g1,g2,g3]
end
end Go.SW
namespace Go
open Go.RowKit
theorem aI{a b:Prop}(h:a)(k:b):a∧b:=⟨h,k⟩
@[reducible] def iV(n:Int):Value:=.int .i64 n
@[reducible] def pB(b:Nat):Value:=.pointer (some ⟨b,0,none⟩)
@[reducible] def zT:List Value:=[.int .i64 0,.int .i64 0,.string ⟨#[]⟩,.slice none 0 0]
@[reducible] def zN:List Value:=[.int .i64 0,.int .i64 0,.int .i64 0,.string ⟨#[]⟩,.int .i64 0,.slice none 0 0]
abbrev oA:=Option Addr
abbrev wO:=World
abbrev tI:=TypeId
abbrev lV:=List Value
variable {p:Prop}
theorem dT{i:Decidable p}(h:decide p=true):p:=of_decide_eq_true h
theorem dF{i:Decidable p}(h:decide p=false):¬p:=of_decide_eq_false h
end Go
namespace Go.Proofs
open Go.Shelf
def Tryz.lays137_ren:Go.Shelf.Ren:=⟨λ|137=>81|217=>113|266=>143|n=>n,λ|9=>9|5=>5|3=>3|n=>n,λ|n=>n⟩
theorem Tryz.lays137:Go.Proofs.Lays.n137 prog Tryz.lays137_ren:={
 mixed:=kR
 f137:=func81.trans (congrArg some kR)
 f217:=func113.trans (congrArg some kR)
 f266:=func143.trans (congrArg some kR)
 t3:=underlying3
 a3:=isAgg3
 z3:=sizeOf3
 v3:=zeroValue3
 t5:=underlying5
 a5:=isAgg5
 z5:=sizeOf5
 v5:=zeroValue5
 t9:=underlying9
 a9:=isAgg9
 z9:=sizeOf9
 v9:=zeroValue9}
def Tryz.lays144_ren:Go.Shelf.Ren:=⟨λ|144=>84|143=>120|219=>151|217=>113|225=>180|224=>181|267=>182|266=>143|314=>197|n=>n,λ|9=>9|4=>4|3=>3|5=>5|46=>238|146=>286|51=>157|n=>n,λ|1=>2|n=>n⟩
theorem Tryz.lays144:Go.Proofs.Lays.n144 prog Tryz.lays144_ren:={
 mixed:=kR
 f143:=func120.trans (congrArg some kR)
 f144:=func84.trans (congrArg some kR)
 f217:=func113.trans (congrArg some kR)
 f219:=func151.trans (congrArg some kR)
 f224:=func181.trans (congrArg some kR)
 f225:=func180.trans (congrArg some kR)
 f266:=func143.trans (congrArg some kR)
 f267:=func182.trans (congrArg some kR)
 f314:=func197.trans (congrArg some kR)
 t3:=underlying3
 a3:=isAgg3
 z3:=sizeOf3
 v3:=zeroValue3
 t4:=underlying4
 a4:=isAgg4
 z4:=sizeOf4
 v4:=zeroValue4
 t5:=underlying5
 a5:=isAgg5
 z5:=sizeOf5
 v5:=zeroValue5
 t9:=underlying9
 a9:=isAgg9
 z9:=sizeOf9
 v9:=zeroValue9
 t46:=underlying238
 a46:=isAgg238
 z46:=sizeOf238
 v46:=zeroValue238
 t51:=underlying157
 a51:=isAgg157
 z51:=sizeOf157
 v51:=zeroValue157
 t146:=underlying286
 a146:=isAgg286
 z146:=sizeOf286
 v146:=zeroValue286
 g1:=by kernel_rfl}
def Tryz.lays145_ren:Go.Shelf.Ren:=⟨λ|145=>146|220=>169|219=>151|217=>113|225=>180|224=>181|267=>182|266=>143|314=>197|n=>n,λ|9=>9|4=>4|59=>244|3=>3|5=>5|46=>238|146=>286|51=>157|n=>n,λ|1=>2|n=>n⟩
theorem Tryz.lays145:Go.Proofs.Lays.n145 prog Tryz.lays145_ren:={
 mixed:=kR
 f145:=func146.trans (congrArg some kR)
 f217:=func113.trans (congrArg some kR)
 f219:=func151.trans (congrArg some kR)
 f220:=func169.trans (congrArg some kR)
 f224:=func181.trans (congrArg some kR)
 f225:=func180.trans (congrArg some kR)
 f266:=func143.trans (congrArg some kR)
 f267:=func182.trans (congrArg some kR)
 f314:=func197.trans (congrArg some kR)
 t3:=underlying3
 a3:=isAgg3
 z3:=sizeOf3
 v3:=zeroValue3
 t4:=underlying4
 a4:=isAgg4
 z4:=sizeOf4
 v4:=zeroValue4
 t5:=underlying5
 a5:=isAgg5
 z5:=sizeOf5
 v5:=zeroValue5
 t9:=underlying9
 a9:=isAgg9
 z9:=sizeOf9
 v9:=zeroValue9
 t46:=underlying238
 a46:=isAgg238
 z46:=sizeOf238
 v46:=zeroValue238
 t51:=underlying157
 a51:=isAgg157
 z51:=sizeOf157
 v51:=zeroValue157
 t59:=underlying244
 a59:=isAgg244
 z59:=sizeOf244
 v59:=zeroValue244
 t146:=underlying286
 a146:=isAgg286
 z146:=sizeOf286
 v146:=zeroValue286
 g1:=by kernel_rfl}
def Tryz.lays101_ren:Go.Shelf.Ren:=⟨λ|101=>118|208=>149|206=>172|n=>n,λ|9=>9|4=>4|3=>3|n=>n,λ|n=>n⟩
theorem Tryz.lays101:Go.Proofs.Lays.n101 prog Tryz.lays101_ren:={
 mixed:=kR
 f101:=func118.trans (congrArg some kR)
 f206:=func172.trans (congrArg some kR)
 f208:=func149.trans (congrArg some kR)
 t3:=underlying3
 a3:=isAgg3
 z3:=sizeOf3
 v3:=zeroValue3
 t4:=underlying4
 a4:=isAgg4
 z4:=sizeOf4
 v4:=zeroValue4
 t9:=underlying9
 a9:=isAgg9
 z9:=sizeOf9
 v9:=zeroValue9}
def Tryz.lays160_ren:Go.Shelf.Ren:=⟨λ|160=>150|232=>174|231=>173|227=>175|234=>177|233=>176|236=>179|235=>178|228=>193|271=>196|151=>195|197=>194|120=>212|152=>211|260=>210|137=>81|119=>231|224=>181|225=>180|217=>113|266=>143|n=>n,λ|9=>9|4=>4|3=>3|5=>5|117=>268|116=>267|0=>0|124=>271|21=>21|105=>283|46=>238|119=>104|139=>340|138=>339|n=>n,λ|3=>10|4=>11|n=>n⟩
theorem Tryz.lays160:Go.Proofs.Lays.n160 prog Tryz.lays160_ren:={
 mixed:=kR
 f119:=func231.trans (congrArg some kR)
 f120:=func212.trans (congrArg some kR)
 f137:=func81.trans (congrArg some kR)
 f151:=func195.trans (congrArg some kR)
 f152:=func211.trans (congrArg some kR)
 f160:=func150.trans (congrArg some kR)
 f197:=func194.trans (congrArg some kR)
 f217:=func113.trans (congrArg some kR)
 f224:=func181.trans (congrArg some kR)
 f225:=func180.trans (congrArg some kR)
 f227:=func175.trans (congrArg some kR)
 f228:=func193.trans (congrArg some kR)
 f231:=func173.trans (congrArg some kR)
 f232:=func174.trans (congrArg some kR)
 f233:=func176.trans (congrArg some kR)
 f234:=func177.trans (congrArg some kR)
 f235:=func178.trans (congrArg some kR)
 f236:=func179.trans (congrArg some kR)
 f260:=func210.trans (congrArg some kR)
 f266:=func143.trans (congrArg some kR)
 f271:=func196.trans (congrArg some kR)
 t0:=underlying0
 a0:=isAgg0
 z0:=sizeOf0
 v0:=zeroValue0
 t3:=underlying3
 a3:=isAgg3
 z3:=sizeOf3
 v3:=zeroValue3
 t4:=underlying4
 a4:=isAgg4
 z4:=sizeOf4
 v4:=zeroValue4
 t5:=underlying5
 a5:=isAgg5
 z5:=sizeOf5
 v5:=zeroValue5
 t9:=underlying9
 a9:=isAgg9
 z9:=sizeOf9
 v9:=zeroValue9
 t21:=underlying21
 a21:=isAgg21
 z21:=sizeOf21
 v21:=zeroValue21
 t46:=underlying238
 a46:=isAgg238
 z46:=sizeOf238
 v46:=zeroValue238
 t105:=underlying283
 a105:=isAgg283
 z105:=sizeOf283
 v105:=zeroValue283
 t116:=underlying267
 a116:=isAgg267
 z116:=sizeOf267
 t117:=underlying268
 a117:=isAgg268
 z117:=sizeOf268
 v117:=zeroValue268
 t119:=underlying104
 a119:=isAgg104
 z119:=sizeOf104
 t124:=underlying271
 a124:=isAgg271
 z124:=sizeOf271
 v124:=zeroValue271
 t138:=underlying339
 a138:=isAgg339
 z138:=sizeOf339
 v138:=zeroValue339
 t139:=underlying340
 a139:=isAgg340
 z139:=sizeOf340
 v139:=zeroValue340
 g3:=kR
 g4:=by kernel_rfl}
def Tryz.lays245_ren:Go.Shelf.Ren:=⟨λ|245=>168|279=>188|280=>189|281=>190|282=>191|316=>206|171=>139|205=>207|243=>161|246=>184|283=>198|284=>199|285=>200|286=>201|129=>214|317=>213|318=>215|319=>216|320=>217|337=>232|338=>233|n=>n,λ|9=>9|3=>3|75=>241|167=>275|4=>4|168=>278|210=>299|37=>127|0=>0|127=>274|145=>313|143=>311|2=>2|171=>288|53=>170|5=>5|173=>291|212=>307|51=>157|20=>20|213=>308|46=>238|232=>357|233=>358|80=>261|n=>n,λ|15=>4|16=>5|17=>6|18=>15|19=>16|n=>n⟩
theorem Tryz.lays245:Go.Proofs.LaysC.n245 prog Tryz.lays245_ren:={
 mixed:=kR
 f129:=func214.trans (congrArg some kR)
 f171:=func139.trans (congrArg some kR)
 f205:=func207.trans (congrArg some kR)
 f243:=func161.trans (congrArg some kR)
 f245:=func168.trans (congrArg some kR)
 f246:=func184.trans (congrArg some kR)
 f279:=func188.trans (congrArg some kR)
 f280:=func189.trans (congrArg some kR)
 f281:=func190.trans (congrArg some kR)
 f282:=func191.trans (congrArg some kR)
 f283:=func198.trans (congrArg some kR)
 f284:=func199.trans (congrArg some kR)
 f285:=func200.trans (congrArg some kR)
 f286:=func201.trans (congrArg some kR)
 f316:=func206.trans (congrArg some kR)
 f317:=func213.trans (congrArg some kR)
 f318:=func215.trans (congrArg some kR)
 f319:=func216.trans (congrArg some kR)
 f320:=func217.trans (congrArg some kR)
 f337:=func232.trans (congrArg some kR)
 f338:=func233.trans (congrArg some kR)
 t0:=underlying0
 a0:=isAgg0
 z0:=sizeOf0
 v0:=zeroValue0
 t2:=underlying2
 a2:=isAgg2
 z2:=sizeOf2
 v2:=zeroValue2
 t3:=underlying3
 a3:=isAgg3
 z3:=sizeOf3
 v3:=zeroValue3
 t4:=underlying4
 a4:=isAgg4
 z4:=sizeOf4
 v4:=zeroValue4
 t5:=underlying5
 a5:=isAgg5
 z5:=sizeOf5
 v5:=zeroValue5
 t9:=underlying9
 a9:=isAgg9
 z9:=sizeOf9
 v9:=zeroValue9
 t20:=underlying20
 a20:=isAgg20
 z20:=sizeOf20
 v20:=zeroValue20
 t37:=underlying127
 a37:=isAgg127
 z37:=sizeOf127
 v37:=zeroValue127
 t46:=underlying238
 a46:=isAgg238
 z46:=sizeOf238
 v46:=zeroValue238
 t51:=underlying157
 a51:=isAgg157
 z51:=sizeOf157
 v51:=zeroValue157
 t53:=underlying170
 a53:=isAgg170
 z53:=sizeOf170
 v53:=zeroValue170
 t75:=underlying241
 a75:=isAgg241
 z75:=sizeOf241
 v75:=zeroValue241
 t127:=underlying274
 a127:=isAgg274
 z127:=sizeOf274
 v127:=zeroValue274
 t143:=underlying311
 a143:=isAgg311
 z143:=sizeOf311
 v143:=zeroValue311
 t145:=underlying313
 a145:=isAgg313
 z145:=sizeOf313
 v145:=zeroValue313
 t167:=underlying275
 a167:=isAgg275
 z167:=sizeOf275
 v167:=zeroValue275
 t168:=underlying278
 a168:=isAgg278
 z168:=sizeOf278
 v168:=zeroValue278
 t171:=underlying288
 a171:=isAgg288
 z171:=sizeOf288
 v171:=zeroValue288
 t173:=underlying291
 a173:=isAgg291
 z173:=sizeOf291
 v173:=zeroValue291
 t210:=underlying299
 a210:=isAgg299
 z210:=sizeOf299
 v210:=zeroValue299
 t212:=underlying307
 a212:=isAgg307
 z212:=sizeOf307
 v212:=zeroValue307
 t213:=underlying308
 a213:=isAgg308
 z213:=sizeOf308
 t232:=underlying357
 a232:=isAgg357
 z232:=sizeOf357
 v232:=zeroValue357
 t233:=underlying358
 a233:=isAgg358
 z233:=sizeOf358
 v233:=zeroValue358
 g15:=kR
 g16:=kR
 g17:=kR
 g18:=kR
 g19:=kR
 t80:=underlying261
 a80:=isAgg261
 z80:=sizeOf261
 v80:=zeroValue261
 i0:=kR
 i2:=kR
 i3:=kR
 i4:=kR
 i5:=kR
 i9:=kR
 i20:=kR
 i37:=kR
 i46:=kR
 i51:=kR
 i53:=kR
 i75:=kR
 i80:=kR
 i127:=kR
 i143:=kR
 i145:=kR
 i167:=kR
 i168:=kR
 i171:=kR
 i173:=kR
 i210:=kR
 i212:=kR
 i232:=kR
 i233:=kR
 m15:=kR
 m16:=kR
 m17:=kR
 m18:=kR
 m19:=kR
 c0:=kR
 c2:=kR
 c3:=kR
 c4:=kR
 c5:=kR
 c9:=kR
 c20:=kR
 c37:=kR
 c46:=kR
 c51:=kR
 c53:=kR
 c75:=kR
 c80:=kR
 c127:=kR
 c143:=kR
 c145:=kR
 c167:=kR
 c168:=kR
 c171:=kR
 c173:=kR
 c210:=kR
 c212:=kR
 c213:=kR
 c232:=kR
 c233:=by kernel_rfl}
end Go.Proofs
namespace Go.SW
open Go.RowKit
abbrev S(l:lU):Value:=.string ⟨l.toArray⟩
theorem Ph(l:lU):(⟨l.toArray⟩:ByteArray).toList=l:=by
 rw[ByteArray.toList_eq]
theorem B5{b:Bool}(h:(!b)=true):b=false:=by simpa using h
theorem B3{b:Bool}(h:(!b)=false):b=true:=by simpa using h
section
variable{P:Program}{σ:Ba}{w:wO}{ty:tI}{x y c:Operand}
theorem Aw{v:Value}(h:ev σ x=some v):AK P σ (.move x) ty w v w:=λD _ _ _ _ d=>by simp[execOp,d _ _ h]
theorem CV{v:Value}(h:ev σ x=some v):AK P σ (.assign x) ty w v w:=λD _ _ _ _ d=>by simp[execOp,d _ _ h]
theorem O2{v:Value}{b:Bool}(D:ev σ c=some (.bool b))(F:b=true)(h:ev σ x=some v):AK P σ (.pick c x y) ty w v w:=λG _ _ _ _ d=>by
 simp[execOp,d _ _ D,d _ _ h,asBool,F]
theorem Nr{v:Value}{b:Bool}(D:ev σ c=some (.bool b))(F:b=false)(h:ev σ y=some v):AK P σ (.pick c x y) ty w v w:=λG _ _ _ _ d=>by
 simp[execOp,d _ _ D,d _ _ h,asBool,F]
variable {t t':tI}
theorem Up{b:Bool}(h:ev σ x=some (.bool b)):AK P σ (.unOp .not t x) ty w (.bool (!b)) w:=λD _ _ _ _ d=>by
 simp[execOp,d _ _ h,Op.unary]
theorem rL{k:IntKind}{a b:Int}(h:ev σ x=some (.int k a))(D:ev σ y=some (.int k b)):AK P σ (.binOp .eql t x y t') ty w (.bool (a==b)) w :=
 λF _ _ _ _ d=>by simp[execOp,d _ _ h,d _ _ D,eqGuard,binOp,Op.intCmp]
theorem cL{k:IntKind}{a b:Int}(h:ev σ x=some (.int k a))(D:ev σ y=some (.int k b)):AK P σ (.binOp .neq t x y t') ty w (.bool (a != b)) w :=
 λF _ _ _ _ d=>by simp[execOp,d _ _ h,d _ _ D,eqGuard,binOp,Op.intCmp]
theorem UP{k:IntKind}{a b:Int}(h:ev σ x=some (.int k a))(D:ev σ y=some (.int k b)):AK P σ (.binOp .lss t x y t') ty w (.bool (decide (a<b))) w :=
 λF _ _ _ _ d=>by simp[execOp,d _ _ h,d _ _ D,eqGuard,binOp,Op.intCmp]
theorem Zq{k:IntKind}{a b:Int}(h:ev σ x=some (.int k a))(D:ev σ y=some (.int k b)):AK P σ (.binOp .leq t x y t') ty w (.bool (decide (a≤b))) w :=
 λF _ _ _ _ d=>by simp[execOp,d _ _ h,d _ _ D,eqGuard,binOp,Op.intCmp]
theorem YY{k:IntKind}{a b:Int}(h:ev σ x=some (.int k a))(D:ev σ y=some (.int k b)):AK P σ (.binOp .gtr t x y t') ty w (.bool (decide (b<a))) w :=
 λF _ _ _ _ d=>by simp[execOp,d _ _ h,d _ _ D,eqGuard,binOp,Op.intCmp]
theorem dV{k:IntKind}{a b:Int}(h:ev σ x=some (.int k a))(D:ev σ y=some (.int k b)):AK P σ (.binOp .geq t x y t') ty w (.bool (decide (b≤a))) w :=
 λF _ _ _ _ d=>by simp[execOp,d _ _ h,d _ _ D,eqGuard,binOp,Op.intCmp]
def Qj(n:Int):Prop := -9223372036854775808≤n∧n≤9223372036854775807
theorem MM{n:Int}(h:Qj n):IntKind.i64.wrap n=n:=IntWalk.i64_in _ ⟨h.1,by have:=h.2;omega⟩
theorem NQ{a b:Int}(D:ev σ x=some (.int .i64 a))(F:ev σ y=some (.int .i64 b))(h:Qj (a+b)):AK P σ (.binOp .add t x y t') ty w (.int .i64 (a+b)) w :=
 λG _ _ _ _ d=>by simp[execOp,d _ _ D,d _ _ F,eqGuard,binOp,Op.intArith,MM h]
theorem G0{a b:Int}(D:ev σ x=some (.int .i64 a))(F:ev σ y=some (.int .i64 b))(h:Qj (a-b)):AK P σ (.binOp .sub t x y t') ty w (.int .i64 (a-b)) w :=
 λG _ _ _ _ d=>by simp[execOp,d _ _ D,d _ _ F,eqGuard,binOp,Op.intArith,MM h]
theorem rM{a b:lU}(h:ev σ x=some (S a))(D:ev σ y=some (S b)):AK P σ (.binOp .eql t x y t') ty w (.bool (a==b)) w :=
 λF _ _ _ _ d=>by simp[execOp,d _ _ h,d _ _ D,eqGuard,binOp,Op.stringOp]
theorem uD{a b:lU}(h:ev σ x=some (S a))(D:ev σ y=some (S b)):AK P σ (.binOp .neq t x y t') ty w (.bool (!(a==b))) w :=
 λF _ _ _ _ d=>by simp[execOp,d _ _ h,d _ _ D,eqGuard,binOp,Op.stringOp]
theorem Jk{a b:lU}(D:ev σ x=some (S a))(F:ev σ y=some (S b))(h:a.length+b.length≤9223372036854775807) :
   AK P σ (.binOp .add t x y t') ty w (S (a++b)) w:=λK _ _ _ _ d=>by
 have G:¬(((⟨a.toArray⟩:ByteArray).size+(⟨b.toArray⟩:ByteArray).size:Nat):Int)>IntKind.i64.max:=by
   have hm:IntKind.i64.max=9223372036854775807:=dC;rw[hm];simp[ByteArray.size];omega
 have J:((⟨a.toArray⟩:ByteArray)++⟨b.toArray⟩)=⟨(a++b).toArray⟩:=by
   apply ByteArray.ext;simp
 simp only[execOp,d _ _ D,d _ _ F,eqGuard,binOp,Op.stringOp,G,J];simp
end
def AT(P:Program)(T:tI):Option (Bool×Nat) :=
 match P.underlying T,P.info? T with
 |some d,some i=>some (match d with|.struct _|.array _ _=>true|_=>false,i.size)
 |_,_=>none
def DD(P:Program)(T:tI)(i:Nat):Option Nat :=
 match P.underlying T with
 |some (.struct fs)=>match fs[i]? with
   |some f=>match P.info? f.type with
     |some j=>if j.size=0 then none else some f.offset
     |none=>none
   |none=>none
 |_=>none
def Hj(P:Program)(T:tI):Option (tI×Nat) :=
 match P.underlying T with
 |some (.slice e)=>(P.info? e).map λj=>(e,j.size)
 |_=>none
def FK(P:Program)(T:tI):Option lV:=match P.info? T with|some i=>i.zero.map λv=>v.cells.toList|none=>none
def AS(w:wO)(b:Nat)(l:lV)(T:tI):Prop:=w.heap[b]?=some (.cells l.toArray T (0,0))
abbrev AW(w w':wO):Prop:=Below w.heap.size w w'
structure Hc(b:Nat)(w w':wO):Prop where
 os:w'.os=w.os
 tape:w'.tape=w.tape
 output:w'.output=w.output
 size:w'.heap.size=w.heap.size
 block:∀k,k≠b→w'.heap[k]?=w.heap[k]?
theorem AW.refl(w:wO):AW w w:=Below.refl _ _
variable {kk:IntKind}{pl:List (Nat×Nat)}{parts:List (Nat×Operand)}{vs z:lV}{i n o:Nat}{hi lo:Operand}{ρ:Operand→Value}{a:oA}{e:tI}{w' w1 w2:wO}
theorem AW.trans{w:wO}(h:AW w w1)(d:AW w1 w2):AW w w2:=Below.trans h (d.mono h.size)
theorem AW.drew{w:wO}:AW w w.drew:=Below.drew (Below.refl _ _)
theorem AS.lt{w:wO}{b:Nat}{l:lV}{T:tI}(h:AS w b l T):b<w.heap.size:=by
 rcases Nat.lt_or_ge b w.heap.size with d | d
 · exact d
 · unfold AS at h;rw[Array.getElem?_eq_none d] at h;cases h
theorem AS.ext{w:wO}{b:Nat}{l:lV}{T:tI}(h:AS w b l T)(he:AW w w'):AS w' b l T:=(he.block b h.lt).trans h
theorem AS.chg{w:wO}{b c:Nat}{l:lV}{T:tI}(h:AS w b l T)(he:Hc c w w')(d:b≠c):AS w' b l T:=(he.block b d).trans h
theorem AW.chg{w:wO}{b:Nat}(h:AW w w1)(d:Hc b w1 w2)(F:w.heap.size≤b):AW w w2 :=
 ⟨d.os.trans h.os,d.tape.trans h.tape,d.output.trans h.output,by rw[d.size];exact h.size,λk D=>(d.block k oM).trans (h.block k D)⟩
theorem AS.cell{w:wO}{b:Nat}{l:lV}{T:tI}(h:AS w b l T)(o:Nat):w.cell? ⟨b,o,none⟩=l[o]?:=by
 unfold AS at h;simp[World.cell?,h]
section
variable{P:Program}{w:wO}
theorem Ew{T:tI}{a:Bool}(h:AT P T=some (a,n)):(isAgg T).run P w=.ok a w:=by
 unfold AT at h
 cases hu:P.underlying T with
 |none=>rw[hu] at h;cases h
 |some d =>
   cases hi:P.info? T with
   |none=>rw[hu,hi] at h;cases h
   |some i =>
     rw[hu,hi] at h
     cases d <;> simp_all [isAgg,run_underlying hu]
theorem HT{T:tI}{a:Bool}(h:AT P T=some (a,n)):(sizeOf T).run P w=.ok n w:=by
 unfold AT at h
 cases hu:P.underlying T with
 |none=>rw[hu] at h;cases h
 |some d =>
   cases hi:P.info? T with
   |none=>rw[hu,hi] at h;cases h
   |some i =>
     rw[hu,hi] at h;have D:i.size=n:=by injection h with h;exact (Prod.mk.inj h).2
     simp[sizeOf,typeInfo,hi,D]
def Sp:Nat→lV→Option lV
 |0,_=>some []
 |_+1,[]=>none
 |k+1,v::l=>match Sp k l with
   |some r=>some (v::r)
   |none=>none
def UH:lV→Nat→Nat→Option lV
 |l,0,k=>Sp k l
 | [],_+1,_=>none
 |_::l,o+1,k=>UH l o k
theorem N2:∀{k:Nat}{l vs:lV},Sp k l=some vs→l.take k=vs∧vs.length=k
 |0,_,_,h=>by injection h with h;subst h;simp
 |_+1,[],_,h=>by cases h
 |k+1,v::l,vs,h=>by
   unfold Sp at h
   cases d:Sp k l with
   |none=>rw[d] at h;cases h
   |some r =>
     rw[d] at h;injection h with h
     subst h;have:=N2 d;simp[this.1,this.2]
theorem Ld:∀{l:lV}{o k:Nat}{vs:lV},UH l o k=some vs→(l.drop o).take k=vs∧vs.length=k
 |l,0,k,vs,h=>by unfold UH at h;simpa using N2 h
 | [],_+1,_,_,h=>by cases h
 |_::l,o+1,k,vs,h=>by unfold UH at h;simpa using Ld (l:=l) h
def Hm:Value→Option lV
 |.agg ⟨l⟩=>some l
 |v=>some [v]
theorem Ea(b o k:Nat):(⟨b,o,none⟩:Addr).add k=⟨b,o+k,none⟩:=by unfold Addr.add;split <;> simp_all
variable{σ:Ba}{ty T T':tI}{x y:Operand}{b off k:Nat}{l:lV}
theorem Ai{v:Value}(h:ev σ x=some (.pointer (some ⟨b,off,none⟩)))(D:AT P T=some (false,k))(F:AS w b l T')(G:l[off]?=some v) :
   AK P σ (.load T x) ty w v w:=λρ _ _ _ _ d=>by
 have J:w.cell? ⟨b,off,none⟩=some v:=by rw[F.cell,G]
 simp[execOp,d _ _ h,Instr.loadAt,Instr.sureAddr,loadVar,Ew D,run_load,J]
theorem C4(O:ev σ x=some (.pointer (some ⟨b,off,none⟩)))(K:AT P T=some (true,k))(Q:AS w b l T')(D:UH l off k=some vs) :
   AK P σ (.load T x) ty w (.agg vs.toArray) w:=λρ _ _ _ _ F=>by
 obtain⟨U,G⟩:=Ld D
 have L:=run_loadCells_list (P:=P) w ⟨b,off,none⟩ vs (λj v d=>by
   rw[Ea,Q.cell];rw[← U] at d
   have J:j<k:=by
     rcases Nat.lt_or_ge j k with h|h
     · exact h
     · rw[List.getElem?_take,if_neg (by omega)] at d;cases d
   rwa[List.getElem?_take,if_pos J,List.getElem?_drop] at d)
 rw[G] at L;simp[execOp,F _ _ O,Instr.loadAt,Instr.sureAddr,loadVar,Ew K,HT K,L]
theorem CB(F:ev σ x=some (.pointer (some ⟨b,off,none⟩)))(d:DD P T i=some o):AK P σ (.fieldAddr T x i) ty w (.pointer (some ⟨b,off+o,none⟩)) w:=λρ _ _ _ _ h=>by
 unfold DD at d
 split at d
 · rename_i fs hu
   split at d
   · rename_i f D
     split at d
     · rename_i j G
       split at d
       · cases d
       · rename_i hz
         injection d with d
         subst d;simp[execOp,h _ _ F,Instr.fieldAt,run_underlying hu,D,Instr.sureAddr,fieldPlace,sizeOf,typeInfo,G,hz,Ea]
     · cases d
   · cases d
 · cases d
theorem FH(h:Hj P T=some (e,k)):∃i,P.underlying T=some (.slice e)∧P.info? e=some i∧i.size=k:=by
 unfold Hj at h
 split at h
 · rename_i D hu
   cases d:P.info? D with
   |none=>rw[d] at h;cases h
   |some j =>
     rw[d] at h;simp at h;obtain⟨rfl,F⟩:=h;exact⟨j,hu,d,F⟩
 · cases h
theorem Oo{i:Int}{len cap:Nat}(h:ev σ x=some (.slice (some ⟨b,off,none⟩) len cap))(D:ev σ y=some (.int kk i))(F:Hj P T=some (e,k))
   (hi:0≤i∧i<len):AK P σ (.indexAddr T x y) ty w (.pointer (some ⟨b,off+i.toNat*k,none⟩)) w:=λρ _ _ _ _ d=>by
 obtain⟨j,hu,G,rfl⟩:=FH F;simp[execOp,d _ _ h,d _ _ D,Instr.indexAt,asIntOf,run_underlying hu,hi,sizeOf,typeInfo,G,Ea]
theorem Me{len cap:Nat}(d:ev σ x=some (.slice (some ⟨b,off,none⟩) len cap))(h:ev σ y=some (.int kk (i:Int)))(D:Hj P T=some (e,k))
   (hi:i<len):AK P σ (.indexAddr T x y) ty w (.pointer (some ⟨b,off+i*k,none⟩)) w:=by
 have:=Oo (w:=w) (ty:=ty) d h D ⟨oM,oM⟩;simpa using this
theorem U5{v:Value}(h:ev σ x=some (.tuple vs.toArray))(D:vs[i]?=some v):AK P σ (.extract x i) ty w v w:=λρ _ _ _ _ d=>by
 simp[execOp,d _ _ h,Instr.extract,D]
def Ii(σ:Ba):List Operand→Option lV
 | []=>some []
 |x::l=>match ev σ x,Ii σ l with
   |some v,some vs=>some (v::vs)
   |_,_=>none
theorem Em(d:∀x v,ev σ x=some v→ρ x=v):∀{l:List Operand}{vs:lV},Ii σ l=some vs→l.map ρ=vs
 | [],_,h=>by injection h with h
 |x::l,vs,h=>by
   unfold Ii at h
   cases D:ev σ x with
   |none=>rw[D] at h;cases h
   |some v =>
     cases F:Ii σ l with
     |none=>rw[D,F] at h;cases h
     |some us =>
       rw[D,F] at h;injection h with h
       subst h;simp[d x v D,Em d F]
theorem Mb{cap:Nat}(h:ev σ x=some (.slice a n cap))(D:Hj P T=some (e,k)) :
   AK P σ (.call {callee:=.builtin .len,args:=#[x],argTypes:=#[T]}) ty w (.int .i64 n) w:=λρ _ _ _ _ d=>by
 obtain⟨j,hu,F,rfl⟩:=FH D;simp[execOp,resolve,invoke,builtin,d _ _ h,Builtin.len_,run_underlying hu,goInt]
theorem MS{s:lU}(D:ev σ x=some (S s))(F:P.underlying T=some .string) :
   AK P σ (.call {callee:=.builtin .len,args:=#[x],argTypes:=#[T]}) ty w (.int .i64 s.length) w:=λρ _ _ _ _ d=>by
 have h:(⟨s.toArray⟩:ByteArray).size=s.length:=by simp[ByteArray.size]
 simp[execOp,resolve,invoke,builtin,d _ _ D,Builtin.len_,run_underlying F,goInt,h]
theorem C1{s:lU}{i:Int}{c:UInt8}(G:ev σ x=some (S s))(J:ev σ y=some (.int kk i))(K:P.underlying T=some .string)(L:0≤i)
   (F:s[i.toNat]?=some c):AK P σ (.index T x y) ty w (.int .u8 c.toNat) w:=λρ _ _ _ _ d=>by
 have D:i.toNat<s.length:=by
   rcases Nat.lt_or_ge i.toNat s.length with h|h
   · exact h
   · rw[List.getElem?_eq_none h] at F;cases F
 have O:(⟨s.toArray⟩:ByteArray)[i.toNat]?=some c:=by
   have Q:i.toNat<(⟨s.toArray⟩:ByteArray).size:=by simpa[ByteArray.size] using D
   rw[getElem?_pos (⟨s.toArray⟩:ByteArray) i.toNat Q];rw[List.getElem?_eq_getElem D] at F;exact F
 simp[execOp,d _ _ G,d _ _ J,Instr.index,asIntOf,run_underlying K,L,O]
theorem Ki(s:lU)(i j:Nat):(⟨s.toArray⟩:ByteArray).extract i j=⟨((s.take j).drop i).toArray⟩:=by
 apply ByteArray.ext;simp[ByteArray.data_extract,List.extract_eq_take_drop,List.drop_take]
theorem Mj{s:lU}{k1 k2:IntKind}{i j:Int}(J:ev σ x=some (S s))(D:ev σ lo=some (.int k1 i))(F:ev σ hi=some (.int k2 j))(K:P.underlying T=some .string)
   (h:0≤i∧i≤j∧j≤s.length):AK P σ (.slice T x (some lo) (some hi) none) ty w (S ((s.take j.toNat).drop i.toNat)) w:=λρ _ _ _ _ d=>by
 have G:(⟨s.toArray⟩:ByteArray).size=s.length:=by simp[ByteArray.size]
 have L:0≤j:=oM;simp[execOp,d _ _ J,d _ _ D,d _ _ F,Instr.sliceAt,Instr.slice,Instr.sliceBounds,Instr.sliceBound,asIntOf,run_underlying K,G,h,L,Ki];intro hm;omega
theorem TY{s:lU}{k1:IntKind}{i:Int}(G:ev σ x=some (S s))(D:ev σ lo=some (.int k1 i))(J:P.underlying T=some .string)
   (h:0≤i∧i≤s.length):AK P σ (.slice T x (some lo) none none) ty w (S (s.drop i.toNat)) w:=λρ _ _ _ _ d=>by
 have F:(⟨s.toArray⟩:ByteArray).size=s.length:=by simp[ByteArray.size]
 simp[execOp,d _ _ G,d _ _ D,Instr.sliceAt,Instr.slice,Instr.sliceBounds,Instr.sliceBound,asIntOf,run_underlying J,F,h,Ki]
theorem F9{s:lU}{k1:IntKind}{j:Int}(G:ev σ x=some (S s))(D:ev σ hi=some (.int k1 j))(J:P.underlying T=some .string)
   (h:0≤j∧j≤s.length):AK P σ (.slice T x none (some hi) none) ty w (S (s.take j.toNat)) w:=λρ _ _ _ _ d=>by
 have F:(⟨s.toArray⟩:ByteArray).size=s.length:=by simp[ByteArray.size]
 simp[execOp,d _ _ G,d _ _ D,Instr.sliceAt,Instr.slice,Instr.sliceBounds,Instr.sliceBound,asIntOf,run_underlying J,F,h,Ki]
theorem LH{k1:IntKind}{len cap:Nat}(F:ev σ x=some (.slice a len cap))(D:ev σ lo=some (.int k1 (i:Int)))
   (G:Hj P T=some (e,k)) (h:i≤len):AK P σ (.slice T x (some lo) none none) ty w (.slice (if cap=i then a else a.map (·.add (i*k))) (len-i) (cap-i)) w:=λρ _ _ _ _ d=>by
 obtain⟨j,hu,J,rfl⟩:=FH G;simp[execOp,d _ _ F,d _ _ D,Instr.sliceAt,Instr.slice,Instr.sliceBounds,Instr.sliceBound,asIntOf,run_underlying hu,sizeOf,typeInfo,J];intro hm;omega
theorem Wf{k1:IntKind}{len cap:Nat}(F:ev σ x=some (.slice a len cap))(D:ev σ hi=some (.int k1 (i:Int)))
   (G:Hj P T=some (e,k)) (h:i≤cap):AK P σ (.slice T x none (some hi) none) ty w (.slice a i cap) w:=λρ _ _ _ _ d=>by
 obtain⟨j,hu,J,rfl⟩:=FH G;simp[execOp,d _ _ F,d _ _ D,Instr.sliceAt,Instr.slice,Instr.sliceBounds,Instr.sliceBound,asIntOf,run_underlying hu,sizeOf,typeInfo,J]
 cases a <;> (simp[Addr.add];intro hm;omega)
def K2(P:Program)(T:tI):Option (List (Nat×Nat)) :=
 match P.underlying T with
 |some (.struct fs)=>fs.toList.mapM λf=>(P.info? f.type).map λj=>(f.offset,j.size)
 |_=>none
def Gj(σ:Ba):List (Nat×Operand)→Option (List (Nat×Value))
 | []=>some []
 |(i,x)::l=>match ev σ x,Gj σ l with
   |some v,some vs=>some ((i,v)::vs)
   |_,_=>none
theorem Ih(d:∀x v,ev σ x=some v→ρ x=v):∀{l:List (Nat×Operand)}{vs:List (Nat×Value)},Gj σ l=some vs→(l.map λp=>(p.1,ρ p.2))=vs
 | [],_,h=>by injection h with h
 |(i,x)::l,vs,h=>by
   unfold Gj at h
   cases D:ev σ x with
   |none=>rw[D] at h;cases h
   |some v =>
     cases F:Gj σ l with
     |none=>rw[D,F] at h;cases h
     |some us =>
       rw[D,F] at h;injection h with h
       subst h;simp[d x v D,Ih d F]
def LZ:Value→lV
 |.agg cs=>cs.toList
 |v=>[v]
theorem Ht(v:Value):v.cells=(LZ v).toArray:=by cases v <;> simp[Value.cells,LZ]
theorem Gk{v:Value}{l:lV}(h:Hm v=some l):LZ v=l:=by
 cases v with
 |agg cs=>exact Option.some.inj h
 |_=>exact Option.some.inj h
def DT:lV→Nat→lV→lV
 |cs,_,[]=>cs
 |cs,o,c::l=>DT (cs.set o c) (o+1) l
def P8:lV→lV→Option lV
 |cs,[]=>some cs
 | [],_::_=>none
 |_::cs,v::vs=>match P8 cs vs with
   |some r=>some (v::r)
   |none=>none
def OR:lV→Nat→lV→Option lV
 |cs,0,vs=>P8 cs vs
 | [],_+1,_=>none
 |c::cs,o+1,vs=>match OR cs o vs with
   |some r=>some (c::r)
   |none=>none
theorem Mi(c:Value):∀(vs cs:lV)(o:Nat),DT (c::cs) (o+1) vs=c::DT cs o vs
 | [],_,_=>rfl
 |v::vs,cs,o=>by rw[DT,DT,List.set_cons_succ,Mi c vs]
theorem Sb:∀{cs vs r:lV},P8 cs vs=some r→DT cs 0 vs=r∧vs.length≤cs.length
 |cs,[],_,h=>by unfold P8 at h;injection h with h;subst h;simp[DT]
 | [],_::_,_,h=>by cases h
 |c::cs,v::vs,_,h=>by
   unfold P8 at h
   cases d:P8 cs vs with
   |none=>rw[d] at h;cases h
   |some r =>
     rw[d] at h;injection h with h
     subst h;have:=Sb d;rw[DT,List.set_cons_zero,Mi,this.1];exact⟨C,by simpa using this.2⟩
theorem R8:∀{cs:lV}{o:Nat}{vs r:lV},OR cs o vs=some r→DT cs o vs=r∧o+vs.length≤cs.length
 |cs,0,vs,r,h=>by unfold OR at h;simpa using Sb h
 | [],_+1,_,_,h=>by cases h
 |c::cs,o+1,vs,_,h=>by
   unfold OR at h
   cases d:OR cs o vs with
   |none=>rw[d] at h;cases h
   |some r =>
     rw[d] at h;injection h with h
     subst h;have:=R8 d;rw[Mi,this.1];refine⟨C,?_⟩;have D:=this.2;simp only[List.length_cons];omega
def JK(pl:List (Nat×Nat)):lV→List (Nat×Value)→Option lV
 |cs,[]=>some cs
 |cs,(i,v)::rest=>match pl[i]?,Hm v with
   |some (off,size),some vs=>if Nat.beq vs.length size then (match OR cs off vs with|some d=>JK pl d rest|none=>none) else none
   |_,_=>none
theorem FF:∀(vs cs:lV)(o:Nat),(DT cs o vs).length=cs.length
 | [],_,_=>rfl
 |v::vs,cs,o=>by rw[DT,FF vs];simp
theorem Po:∀(vs:lV)(j o:Nat)(cs:lV),(vs.zipIdx j).foldl (λ(cs:Array Value)(p:Value×Nat)=>cs.setIfInBounds (o+p.2) p.1) cs.toArray=(DT cs (o+j) vs).toArray
 | [],_,_,_=>rfl
 |v::vs,j,o,cs=>by
   rw[List.zipIdx_cons,List.foldl_cons,DT];have:=Po vs (j+1) o (cs.set (o+j) v);simp only[List.setIfInBounds_toArray] at this ⊢;rw[this,Nat.add_assoc]
theorem Q7{g:Nat→Option (Nat×Nat)}(Q:∀i p,pl[i]?=some p→g i=some p):∀(parts:List (Nat×Value))(cs out:lV),JK pl cs parts=some out→Instr.fill g cs.toArray parts=some out.toArray
 | [],cs,out,h=>by unfold JK at h;injection h with h;subst h;rfl
 |(i,v)::rest,cs,out,h=>by
   unfold JK at h;unfold Instr.fill
   cases J:pl[i]? with
   |none=>rw[J] at h;cases h
   |some p =>
     obtain⟨off,size⟩:=p;rw[Q i _ J]
     cases D:Hm v with
     |none=>rw[J,D] at h;cases h
     |some vs =>
       rw[J,D] at h;simp only at h;have F:=Gk D
       split at h
       · rename_i W
         have K:=Nat.eq_of_beq_eq_true W
         cases d:OR cs off vs with
         |none=>rw[d] at h;cases h
         |some G =>
           rw[d] at h;obtain⟨L,hle⟩:=R8 d;have O:v.cells.size=size:=by rw[Ht,F];simpa using K
           simp only[O];rw[if_neg (by simp;omega)]
           have hz:v.cells.zipIdx.foldl (λcs (p:Value×Nat)=>cs.setIfInBounds (off+p.2) p.1) cs.toArray=G.toArray:=by
             rw[Ht,← Array.foldl_toList,← L,← F];have:=Po (LZ v) 0 off cs;simpa using this
           have U:=Q7 Q rest G out h;rw[← hz] at U;exact U
       · cases h
theorem Tg{fs:List Field}(h:fs.mapM (λf=>(P.info? f.type).map λj=>(f.offset,j.size))=some pl) :
   (fs.mapM λf=>(do pure (f.offset,← sizeOf f.type):Sem (Nat×Nat))).run P w=.ok pl w:=by
 induction fs generalizing pl with
 |nil=>simp at h;subst h;simp
 |cons f fs F =>
   simp only[List.mapM_cons] at h ⊢
   cases hi:P.info? f.type with
   |none=>simp[hi] at h
   |some j =>
     cases D:fs.mapM (λf=>(P.info? f.type).map λj=>(f.offset,j.size)) with
     |none=>simp[hi,D] at h
     |some pr =>
       simp[hi,D] at h;subst h;have:=F D;have d:(do pure (f.offset,← sizeOf f.type):Sem (Nat×Nat)).run P w=.ok (f.offset,j.size) w:=by simp[sizeOf,typeInfo,hi]
       rw[Sem.run_bind,d,Result.andThen_ok,Sem.run_bind,this,Result.andThen_ok];rfl
theorem OG(h:FK P T=some z):∃v,(zeroValue T).run P w=.ok v w∧v.cells=z.toArray:=by
 unfold FK at h
 split at h
 · rename_i i hi
   cases hz:i.zero with
   |none=>rw[hz] at h;cases h
   |some v=>rw[hz] at h;simp at h;exact⟨v,by simp[zeroValue,typeInfo,hi,hz],by rw[← h]⟩
 · cases h
theorem D5{pv:List (Nat×Value)}{out:lV}(O:Gj σ parts=some pv)(d:K2 P T=some pl)
   (hz:FK P T=some z) (Q:JK pl z pv=some out):AK P σ (.build T parts.toArray) ty w (.agg out.toArray) w:=λρ _ _ _ _ F=>by
 unfold K2 at d
 split at d
 · rename_i fs hu
   obtain⟨v,U,G⟩:=OG (w:=w) hz;have hm:=Tg (w:=w) d
   have J:(fs.mapM λf=>(do pure (f.offset,← sizeOf f.type):Sem (Nat×Nat))).run P w=.ok pl.toArray w:=by
     rw[← Array.toArray_toList (xs:=fs),List.mapM_toArray];simp at hm;simp[hm]
   have K:=Ih F O;have L:=Q7 (g:=λi=>pl[i]?) (λi p h=>h) pv z out Q;have D:(parts.toArray.map λp=>(p.1,ρ p.2))=pv.toArray:=by rw[← K];simp
   simp only[execOp]
   have:(Instr.build T (parts.toArray.map λ(i,x)=>(i,ρ x))).run P w=.ok (.agg out.toArray) w:=by
     have e:(parts.toArray.map λ(p:Nat×Operand)=>match p with|(i,x)=>(i,ρ x))=pv.toArray:=D;rw[e];simp only[Instr.build,Sem.run_bind,U,Result.andThen_ok,run_underlying hu,G];simp only[J,Result.andThen_ok];simp[L]
   rw[Sem.run_bind,this];rfl
 · cases d
end
section
variable{P:Program}{n:Nat}{Q:AV}{σ:Ba}{ds:List Deferred}{w:wO}{ops:Array Oper}{ty T T':tI}{pos:String}{af:Array Edge}{rest:List Oper}{d b off k:Nat}{x y:Operand}{l:lV}
theorem Nb(w:wO)(l:lV)(T:tI):AS (w.alloc (.cells l.toArray T)) w.heap.size l T:=heap_alloc_new w _
theorem J5(w:wO)(o:Obj):AW w (w.alloc o):=Below.alloc (Below.refl _ _) (Nat.le_refl _) o
theorem GH(w:wO)(o:Obj):(w.alloc o).heap.size=w.heap.size+1:=by simp
def lK(w:wO)(l:lV)(T:tI)(K:Nat→wO→Prop):Prop :=
 ∀b w',AS w' b l T→AW w w'→w.heap.size=b→w'.heap.size=b+1→K b w'
theorem Kq{K:Nat→wO→Prop}(h:lK w l T K):K w.heap.size (w.alloc (.cells l.toArray T)):=h _ _ (Nb w l T) (J5 w _) C (GH w _)
theorem Y2{v:Value}(D:ev σ x=some v):AK P σ (.box T x) ty w (.pointer (some ⟨w.heap.size,0,none⟩)) (w.alloc (.cells (LZ v).toArray T)):=λF _ _ _ _ h=>by
 simp[execOp,h _ _ D,Instr.box,newVar,newRow,Ht]
theorem DV{v:Value}(hd:Nat.blt d n=true)(F:ev σ x=some v)(D:Hm v=some l)
   (h:lK w l T λb w'=>Gd P n ops Q rest (AI σ d (.pointer (some ⟨b,0,none⟩))) ds w'):Gd P n ops Q (⟨some d,.box T x,ty,pos,af,none⟩::rest) σ ds w:=by
 have G:=Gk D;subst G;exact Ac hd (Y2 F) (Kq h)
theorem Tl(hz:FK P T=some l):AK P σ (.alloc T) ty w (.pointer (some ⟨w.heap.size,0,none⟩)) (w.alloc (.cells l.toArray T)):=λG _ _ _ _ D=>by
 obtain⟨v,F,h⟩:=OG (w:=w) hz;simp[execOp,Instr.alloc,F,newVar,newRow,h]
theorem CF(hd:Nat.blt d n=true)(hz:FK P T=some l)
   (h:lK w l T λb w'=>Gd P n ops Q rest (AI σ d (.pointer (some ⟨b,0,none⟩))) ds w'):Gd P n ops Q (⟨some d,.alloc T,ty,pos,af,none⟩::rest) σ ds w :=
 Ac hd (Tl hz) (Kq h)
theorem O8(m k:Nat)(z:lV)(hz:z.length=k)(h:0<k):((Array.range (m*k)).map λi=>z.toArray[i % z.toArray.size]!)=((List.range (m*k)).map λi=>z.getD (i % k) default).toArray:=by
 apply Array.ext';simp only[Array.toList_map,Array.toList_range];apply List.map_congr_left;intro i _;have D:i % k<k:=Nat.mod_lt _ h;simp[hz,D]
def EV:Nat→lV→lV
 |0,_=>[]
 |m+1,z=>z++EV m z
theorem Qv(k:Nat)(z:lV)(hz:z.length=k)(D:0<k):∀m,((List.range (m*k)).map λi=>z.getD (i % k) default)=EV m z
 |0=>by simp[EV]
 |m+1=>by
   have F:=Qv k z hz D m;rw[EV,← F,Nat.add_mul,Nat.one_mul,Nat.add_comm,List.range_add,List.map_append,List.map_map]
   congr 1
   · apply List.ext_getElem?
     intro i
     by_cases h:i<k
     · have:i<z.length:=oM
       simp[h,Nat.mod_eq_of_lt h,this]
     · simp[Nat.le_of_not_lt h,hz]
   · apply List.map_congr_left
     intro i _;simp[Nat.add_mod_left]
def JP(k:Nat):Nat→Nat→List (Nat×Nat)
 |_,0=>[]
 |i,m+1=>(i*k,k)::JP k (i+1) m
theorem Qc(k:Nat):∀(m i j:Nat),j<m→(JP k i m)[j]?=some ((i+j)*k,k)
 |0,_,_,h=>by omega
 |m+1,i,0,_=>by simp[JP]
 |m+1,i,j+1,h=>by
   rw[JP,List.getElem?_cons_succ,Qc k m (i+1) j (by omega)]
   congr 3
   omega
theorem P5(k:Nat):∀m i,(JP k i m).length=m
 |0,_=>rfl
 |m+1,i=>by simp[JP,P5 k m]
variable {l':lV}{m:Nat}{t:tI}
theorem bT{k:Nat}(parts:List (Nat×Value))(cs out:lV)(h:JK (JP k 0 m) cs parts=some out):Instr.fill (λi=>some (i*k,k)) cs.toArray parts=some out.toArray :=
 Q7 (λi p D=>by
   have G:i<m:=by
     rcases Nat.lt_or_ge i m with F | F
     · exact F
     · rw[List.getElem?_eq_none (by rw[P5];exact F)] at D;cases D
   rw[Qc k m 0 i G] at D;simpa using D) parts cs out h
theorem oG{pv:List (Nat×Value)}{out:lV}(hp:Gj σ parts=some pv)(hs:Hj P T=some (e,k))(hz:FK P e=some z)
   (J:Nat.beq z.length k=true) (hk:Nat.blt 0 k=true) (hm:Nat.blt 0 m=true) (K:Nat.ble (m*k) 16777216=true) (hf:JK (JP k 0 m) (EV m z) pv=some out) :
   AK P σ (.buildSlice T m parts.toArray) ty w (.slice (some ⟨w.heap.size,0,none⟩) m m) (w.alloc (.cells out.toArray e)):=λρ _ _ _ _ L=>by
 obtain⟨j,hu,hj,rfl⟩:=FH hs;obtain⟨v,hv,O⟩:=OG (w:=w) hz;have h:=Nat.eq_of_beq_eq_true J;have D:0<j.size:=Nat.le_of_ble_eq_true hk;have U:0<m:=Nat.le_of_ble_eq_true hm;have hmk':m*j.size≤16777216:=Nat.le_of_ble_eq_true K;have W:m*j.size≠0:=Nat.ne_of_gt (Nat.mul_pos U D);have Y:=Ih L hp;have F:(parts.toArray.map λ(p:Nat×Operand)=>match p with|(i,x)=>(i,ρ x))=pv.toArray:=by rw[← Y];simp
 have Z:=bT pv (EV m z) out hf;have hsz:(sizeOf e).run P w=.ok j.size w:=by simp[sizeOf,typeInfo,hj]
 have G:((Array.range (m*j.size)).map λi=>z.toArray[i % z.toArray.size]!)=(EV m z).toArray:=by rw[O8 m j.size z h D,Qv j.size z h D m]
 have:(Instr.buildSlice T m (parts.toArray.map λ(p:Nat×Operand)=>match p with|(i,x)=>(i,ρ x))).run P w=.ok (.slice (some ⟨w.heap.size,0,none⟩) m m) (w.alloc (.cells out.toArray e)):=by
   rw[F];simp only[Instr.buildSlice,Sem.run_bind,run_underlying hu,Result.andThen_ok,hsz];rw[if_neg (by omega),if_neg W];simp only[Sem.run_bind,hv,Result.andThen_ok,O,Sem.run_pure];rw[G];simp[Z,newRow]
 simp only[execOp];rw[Sem.run_bind,this];rfl
theorem BU{pv:List (Nat×Value)}(hd:Nat.blt d n=true)(G:Gj σ parts=some pv)(J:Hj P T=some (e,k))(hz:FK P e=some z)
   (D:Nat.beq z.length k=true) (K:Nat.blt 0 k=true) (hm:Nat.blt 0 m=true) (F:Nat.ble (m*k) 16777216=true) (L:JK (JP k 0 m) (EV m z) pv=some l)
   (h:lK w l e λb w'=>Gd P n ops Q rest (AI σ d (.slice (some ⟨b,0,none⟩) m m)) ds w'):Gd P n ops Q (⟨some d,.buildSlice T m parts.toArray,ty,pos,af,none⟩::rest) σ ds w :=
 Ac hd (oG G J hz D K hm F L) (Kq h)
def MB:lV→Bool
 | []=>true
 |v::l=>v.oneCell'&&MB l
theorem LX:∀{l:lV},MB l=true→∀v∈l,v.oneCell'=true
 | [],_,v,D=>by cases D
 |u::l,h,v,D=>by
   simp only[MB,Bool.and_eq_true] at h;rcases List.mem_cons.1 D with rfl|D
   · exact h.1
   · exact LX h.2 v D
theorem MT:∀(vs cs:lV)(o:Nat),o+vs.length≤cs.length→DT cs o vs=cs.take o++vs++cs.drop (o+vs.length)
 | [],cs,o,_=>by simp[DT]
 |v::vs,cs,o,h=>by
   simp only[List.length_cons] at h;rw[DT,MT vs (cs.set o v) (o+1) (by simp;omega)]
   have D:(cs.set o v).take (o+1)=cs.take o++[v]:=by
     rw[List.take_succ_eq_append_getElem (by simp;omega)];simp[List.take_set_of_le]
   have F:(cs.set o v).drop (o+1+vs.length)=cs.drop (o+(v::vs).length):=by
     rw[List.drop_set_of_lt (by omega)];simp only[List.length_cons]
     congr 1
     omega
   rw[D,F];simp
theorem OC(w:wO)(b:Nat)(cs:Array Value):Hc b w (w.setRow b cs):=⟨C,C,C,by simp[World.setRow],λk h=>setRow_other w b k cs h⟩
theorem O6{v:Value}{a:Bool}(O:ev σ x=some (.pointer (some ⟨b,off,none⟩)))(U:ev σ y=some v)(K:LZ v=vs)(W:AT P T=some (a,k))(Y:Nat.beq vs.length k=true)
   (Z:AS w b l T') (h1:MB vs=true) (L:off+vs.length≤l.length):nX P σ (.store T x y) ty w (w.setRow b (DT l off vs).toArray):=λρ _ _ _ _ h=>by
 have F:=Nat.eq_of_beq_eq_true Y;have D:=run_storeCells_at P b off T' vs 0 l.toArray w Z (by simpa using L) (LX h1);have G:v.cells.size=k:=by rw[Ht,K];simpa using F
 have J:v.cells.toList=vs:=by rw[Ht,K]
 have hp:(List.take (off+0) l.toArray.toList++vs++List.drop (off+0+vs.length) l.toArray.toList).toArray=(DT l off vs).toArray:=by rw[MT vs l off L];simp
 rw[hp] at D;simp[execOp,h _ _ O,h _ _ U,Instr.storeAt,Instr.sureAddr,storeVar,G,HT W,J,D]
theorem AA{v:Value}{a:Bool}(G:ev σ x=some (.pointer (some ⟨b,off,none⟩)))(J:ev σ y=some v)(K:Hm v=some vs)(L:AT P T=some (a,k))(O:Nat.beq vs.length k=true)
   (F:AS w b l T') (U:MB vs=true) (W:OR l off vs=some l')
   (h:∀w',AS w' b l' T'→Hc b w w'→Gd P n ops Q rest σ ds w'):Gd P n ops Q (⟨none,.store T x y,ty,pos,af,none⟩::rest) σ ds w:=by
 obtain⟨D,hle⟩:=R8 W;subst D;exact IP (O6 G J (Gk K) L O F U hle) (h _ (setRow_heap w b _ _ T' _ F) (OC w b _))
def Bi(P:Program)(f:FuncId):Prop:=∀args w,(callFunc f args).run P w=.ok (.enter f args) w
theorem Ag{f:FuncId}{fn:Func}(h:P.funcs[f]?=some fn)(D:(fn.name == "runtime.NumGoroutine")=false) (F:fn.body.isNone=false):Bi P f:=λargs w=>by
 simp only[callFunc,Sem.run_bind,run_program,Result.andThen_ok,h,D,F];simp
theorem As{f:FuncId}{g:Operand}{args:List Operand}{F:Array tI}(he:Bi P f)(G:ev σ g=some (.func (.func f) #[] #[]))(J:Ii σ args=some vs) :
   Enters P σ (.call {callee:=.value g,args:=args.toArray,argTypes:=F}) ty w f vs.toArray:=λK _ _ _ _ D=>by
 have h:=Em D J;simp[execOp,resolve,D _ _ G,Deferred.ofValue,invoke,h,he vs.toArray w]
theorem B2{v:Value}(D:ev σ x=some (.iface t v)):tG P σ (.panic x) ty w (.iface t v) w:=λF _ _ _ _ h=>by
 simp[execOp,h _ _ D,Instr.panic,goPanic,Sem.run]
def yE(P:Program)(T:tI):Bool:=match P.underlying T with|some (.interface _)=>false|some _=>true|none=>false
theorem B7{v:Value}(G:ev σ x=some v)(h:yE P T=true):AK P σ (.makeInterface T x) ty w (.iface T v) w:=λJ _ _ _ _ F=>by
 unfold yE at h
 cases hu:P.underlying T with
 |none=>rw[hu] at h;cases h
 |some D =>
   rw[hu] at h
   cases D <;> simp_all [execOp,Instr.makeInterface,run_underlying hu]
theorem Ab{t:Nat}(O:σ t=some (.pointer (some ⟨b,off,none⟩)))(K:AT P T=some (true,k))(U:AS w b l T')(F:UH l off k=some vs) :
   Rv P σ w (.cell t T) (.agg vs.toArray):=λtmps W=>by
 obtain⟨F,G⟩:=Ld F
 have L:=run_loadCells_list (P:=P) w ⟨b,off,none⟩ vs (λj v D=>by
   rw[Ea,U.cell];rw[← F] at D
   have J:j<k:=by
     rcases Nat.lt_or_ge j k with h|h
     · exact h
     · rw[List.getElem?_take,if_neg (by omega)] at D;cases D
   rwa[List.getElem?_take,if_pos J,List.getElem?_drop] at D)
 rw[G] at L;have Y:(loadVar T ⟨b,off,none⟩).run P w=.ok (.agg vs.toArray) w:=by simp[loadVar,Ew K,HT K,L]
 simp only[rvS,W t _ O,asAddr];simp[Y]
theorem Dl{t:Nat}{v:Value}(h:σ t=some (.pointer (some ⟨b,off,none⟩)))(D:AT P T=some (false,k))(F:AS w b l T')(G:l[off]?=some v):Rv P σ w (.cell t T) v:=λtmps J=>by
 have K:w.cell? ⟨b,off,none⟩=some v:=by rw[F.cell,G]
 have L:(loadVar T ⟨b,off,none⟩).run P w=.ok v w:=by simp[loadVar,Ew D,run_load,K]
 simp only[rvS,J t _ h,asAddr];simp[L]
end
def OD(ops:Array Oper):List (Bool×Nat)→Array Bool→Bool
 | [],listed=>(Region.ready .any ops listed).isEmpty
 |(true,i)::r,listed=>Region.free .any ops listed i&&(Region.ready .any ops listed).contains i&&OD ops r (listed.setIfInBounds i true)
 |(false,i)::r,listed=>(match Region.ready .any ops listed with | [j]=>Nat.beq j i|_=>false)&&OD ops r (listed.setIfInBounds i true)
def pick(l:List Oper):List (Bool×Nat)→Option (List (Bool×Oper))
 | []=>some []
 |(f,i)::r=>match l[i]?,pick l r with
   |some o,some ol=>some ((f,o)::ol)
   |_,_=>none
def yB(P:Program)(ops:Array Oper)(Q:Exit→Act→wO→Prop)(S:wO→Prop):List (Bool×Oper)→Act→wO→Prop
 | [],a,w=>Q .normal a w
 |(true,o)::r,a,w=>∃v,YieldsIf P ops S o v a∧yB P ops Q S r (a.put o.dst v) w
 |(false,o)::r,a,w=>wpList P ops (Exit.then (λa' w'=>S w'∧yB P ops Q S r a' w') Q) [o] a w
section
variable{P:Program}{n:Nat}{Q:AV}{S:wO→Prop}
variable {want:Bool}{bs:List Nat}{l:lV}{b dj j:Nat}{T:tI}
theorem HG{ops:Array Oper}{G:Exit→Act→wO→Prop}{K:Act→wO→Prop}{o:Oper}{a:Act}{w:wO}(O:ops[i]?=some o)
   (D:∀a w,¬G .outgrown a w) (h:wpList P ops (Exit.then K G) [o] a w):wpOp P ops G i K a w:=by
 unfold wpList at h;unfold wpOp;simp only[O]
 split
 · rename_i hw
   rw[if_pos hw] at h;rcases h with h|⟨_,a',w',U⟩
   · refine .inl ?_
     unfold Oper.wp at h ⊢;generalize (execOp a.eval o).run P w=r at h ⊢
     cases r with
     |ok W w' =>
       cases W <;> simp only[Oper.upon,wpList,Exit.then] at h ⊢ <;> first
         |exact h
         |(
           refine Calls.mono h λe Y he=>?_
           cases e with
           |returned v=>exact he
           |panicked c=>exact he
           |outgrown=>obtain⟨J,L,F⟩:=he;exact (D _ _ F).elim)
     |halt Z w'=>cases Z <;> simp only[Oper.upon,Exit.then] at h ⊢ <;> exact h
   · exact (D _ _ U).elim
 · rename_i hw
   rw[if_neg hw] at h;exact h
def PI(Q:AV):Prop:=∀c σ h ds w,Q.p c σ ds w→Q.p c h ds w
theorem ZP{Q:AV}{n:Nat}(D:PI Q){c:List PanicEntry}{a:Act}{d:Nat}{v:Value}{w:wO}(h:Q.up n (.panic c) (a.put (some d) v) w):Q.up n (.panic c) a w:=by
 obtain⟨σ,ds,F,G⟩:=h;exact⟨e0,ds,⟨by have:=F.size;simpa[Act.put] using this,F.defs,λ_ _ h=>by cases h⟩,D _ _ _ _ _ G⟩
theorem NH{l:List Oper}(W:Region.noSelect l.toArray=true)(G:PI Q):∀(ord:List (Bool×Nat))(ol:List (Bool×Oper))(listed:Array Bool)(a:Act)(w:wO),pick l ord=some ol →
   OD l.toArray ord listed=true→S w→yB P l.toArray (Q.up n) S ol a w→wpAnyH P .any l.toArray (Q.up n) S ord.length listed a w
 | [],ol,listed,a,w,D,F,Y,h=>by
   injection D with D
   subst D;exact wpAnyH_done (by simpa[OD] using F) h 0
 |(f,i)::ord,ol,listed,a,w,D,F,Y,h=>by
   unfold pick at D
   cases K:l[i]? with
   |none=>rw[K] at D;cases D
   |some o =>
     cases L:pick l ord with
     |none=>rw[K,L] at D;cases D
     |some r =>
       rw[K,L] at D;injection D with D
       subst D;have J:l.toArray[i]?=some o:=by simpa using K
       cases f with
       |true =>
         simp only[OD,Bool.and_eq_true] at F;obtain⟨v,hy,h'⟩:=h
         exact wpAnyH_take J W F.1.1 F.1.2 (λc a w O=>by
           cases hd:o.dst with
           |none=>rw[hd] at O;exact O
           |some d=>rw[hd] at O;exact ZP G O) hy Y (NH W G ord r _ _ w L F.2 Y h')
       |false =>
         simp only[OD,Bool.and_eq_true] at F
         have Z:Region.ready .any l.toArray listed=[i]:=by
           have h1:=F.1
           split at h1
           · rename_i j U;rw[U,Nat.eq_of_beq_eq_true h1]
           · cases h1
         refine wpAnyH_all Z (by simp) λj U=>?_;rw[List.mem_singleton] at U;subst U;exact wpOp_mono (λa' w' hk=>⟨hk.1,NH W G ord r _ a' w' L F.2 hk.1 hk.2⟩) (HG J (λ_ _ h=>h) h)
def VK(P:Program)(n:Nat)(ops:Array Oper)(Q:AV)(S:wO→Prop)(ol:List (Bool×Oper))(σ:Ba)(ds:List Deferred)(w:wO):Prop :=
 ∀a,St n σ ds a→yB P ops (Q.up n) S ol a w
variable{σ:Ba}{ds:List Deferred}{w:wO}{ops:Array Oper}{op:Op}{ty:tI}{pos:String}{af:Array Edge}{r:List (Bool×Oper)}{d:Nat}
theorem DN{l:List Oper}(hm:P.follows .mixedOrders=true)(S:wO→Prop)(ord:List (Bool×Nat)){ol:List (Bool×Oper)}(F:OD l.toArray ord (Array.replicate l.length false)=true)
   (D:Region.noSelect l.toArray=true) (hlen:Nat.beq ord.length l.length=true) (J:pick l ord=some ol)
   (h:∀w',AW w w'→w'.heap.size=w.heap.size→S w'∧VK P n l.toArray Q S ol σ ds w') (G:PI Q:=by exact λ_ _ _ _ _ h=>h):GP P n (.region i l.toArray true) Q σ ds w:=λa K=>by
 refine wp_region_held (S:=S) hm ?_;obtain⟨L,O⟩:=h w.drew AW.drew C;have:=NH (P:=P) (n:=n) (Q:=Q) D G ord ol (Array.replicate l.length false) a w.drew J F L (O a K);rw[Nat.eq_of_beq_eq_true hlen] at this;simpa using this
theorem DY(h:Q.q .normal σ ds w):VK P n ops Q S [] σ ds w:=λ_ D=>⟨σ,ds,D,h⟩
theorem Ax{v:Value}(hd:Nat.blt d n=true)(F:∀w,S w→AK P σ op ty w v w)(h:VK P n ops Q S r (AI σ d v) ds w) :
   VK P n ops Q S ((true,⟨some d,op,ty,pos,af,none⟩)::r) σ ds w:=λa D =>
 ⟨v,.inl ⟨by simp[Region.wanted],λw G=>F w G a.eval _ _ _ _ D.ev⟩,h _ (D.put hd v)⟩
theorem C0{v:Value}{b:Bool}(hd:Nat.blt d n=true)(F:(ops[j]?).bind (·.dst)=some dj)(G:σ dj=some (.bool b))(J:b=want)(K:∀w,S w→AK P σ op ty w v w)
   (h:VK P n ops Q S r (AI σ d v) ds w):VK P n ops Q S ((true,⟨some d,op,ty,pos,af,some (j,want)⟩)::r) σ ds w:=λa D =>
 ⟨v,.inl ⟨by rw[Gp D F G,J];simp,λw L=>K w L a.eval _ _ _ _ D.ev⟩,h _ (D.put hd v)⟩
theorem Cz{b:Bool}(hd:Nat.blt d n=true)(F:(ops[j]?).bind (·.dst)=some dj)(G:σ dj=some (.bool b))(J:b=!want)
   (h:VK P n ops Q S r (AI σ d undef) ds w):VK P n ops Q S ((true,⟨some d,op,ty,pos,af,some (j,want)⟩)::r) σ ds w:=λa D =>
 ⟨undef,.inr ⟨by rw[Gp D F G,J];cases want <;> simp,C⟩,h _ (D.put hd undef)⟩
theorem Pu(dj:Nat){b:Bool}{l:List (Bool×Oper)}(D:σ dj=some (.bool b))(F:b=true→VK P n ops Q S l σ ds w)(G:b=false→VK P n ops Q S l σ ds w):VK P n ops Q S l σ ds w:=by
 have _:=D
 cases h:b with
 |true=>exact F h
 |false=>exact G h
def A4(w:wO)(bs:List Nat)(w':wO):Prop:=∀b,b∈bs→b<w'.heap.size∧w'.heap[b]?=w.heap[b]?
theorem A4.nil(w w':wO):A4 w [] w':=λ_ h=>by cases h
theorem A4.cons{w:wO}(F:AS w b l T)(G:AW w w')(h:A4 w bs w'):A4 w (b::bs) w':=λc D=>by
 rcases List.mem_cons.1 D with rfl|D
 · exact⟨Nat.lt_of_lt_of_le F.lt G.size,G.block _ F.lt⟩
 · exact h c D
theorem A4.ext{w:wO}(h:A4 w bs w')(F:AW w' w2):A4 w bs w2:=λc D=>⟨Nat.lt_of_lt_of_le (h c D).1 F.size,(F.block c (h c D).1).trans (h c D).2⟩
theorem A4.chg{w:wO}(h:A4 w bs w')(F:Hc b w' w2)(G:∀c,c∈bs→c≠b):A4 w bs w2 :=
 λc D=>⟨by rw[F.size];exact (h c D).1,(F.block c (G c D)).trans (h c D).2⟩
theorem AS.keep{w:wO}(D:AS w b l T)(h:A4 w bs w')(hm:b∈bs):AS w' b l T:=(h b hm).2.trans D
def onw(P:Program)(n:Nat)(ops:Array Oper)(Q:AV)(S:wO→Prop)(r:List (Bool×Oper)):AV :=
 {q:=λe σ ds w=>match e with|.normal=>S w∧VK P n ops Q S r σ ds w|e=>Q.q e σ ds w,p:=Q.p}
theorem Eh{o:Oper}(h:Gd P n ops (onw P n ops Q S r) [o] σ ds w):VK P n ops Q S ((false,o)::r) σ ds w:=λa Y=>by
 have D:=h a Y;show wpList P ops (Exit.then (λa' w'=>S w'∧yB P ops (Q.up n) S r a' w') (Q.up n)) [o] a w;unfold wpList at D ⊢
 split
 · rename_i hw
   rw[if_pos hw] at D;rcases D with D|⟨_,a',w',Z⟩
   · refine .inl ?_
     unfold Oper.wp at D ⊢;generalize (execOp a.eval o).run P w=rr at D ⊢
     have key:∀a' w',wpList P ops ((onw P n ops Q S r).up n) [] a' w'→wpList P ops (Exit.then (λa' w'=>S w'∧yB P ops (Q.up n) S r a' w') (Q.up n)) [] a' w':=λa' w' hk=>by
       obtain⟨K,L,F,G⟩:=hk;exact⟨G.1,G.2 a' F⟩
     cases rr with
     |ok nx w' =>
       cases nx <;> simp only[Oper.upon] at D ⊢ <;> first
         |exact key _ _ D
         |(
           refine Calls.mono D λe O he=>?_
           cases e with
           |returned v=>exact key _ _ he
           |panicked c=>exact he
           |outgrown=>obtain⟨U,W,J⟩:=he;exact J.elim)
         |exact Rows.mono D λv O he=>key _ _ he
     |halt hh w'=>cases hh <;> simp only[Oper.upon] at D ⊢ <;> exact D
   · exact Z.elim
 · rename_i hw
   rw[if_neg hw] at D;obtain⟨K,L,F,G⟩:=D;exact⟨G.1,G.2 _ F⟩
theorem Gx(D:S w)(h:VK P n ops Q S r σ ds w):(onw P n ops Q S r).q .normal σ ds w:=⟨D,h⟩
end
inductive OT where
 |fin
 |rd (i:Nat) (k:OT)
 |br (i:Nat) (k o:OT)
def OT.alts:OT→List Nat
 |.br i _ o=>i::o.alts
 |_=>[]
def OT.ok(ops:Array Oper):Bool→OT→Array Bool→Bool
 |top,.fin,listed=>!top||(Region.ready .any ops listed).isEmpty
 |top,.rd i k,listed=>top&&Region.free .any ops listed i&&(Region.ready .any ops listed).contains i&&k.ok ops true (listed.setIfInBounds i true)
 |top,.br i k o,listed=>(!top||Region.ready .any ops listed==i::o.alts)&&k.ok ops true (listed.setIfInBounds i true)&&o.ok ops false listed
def OT.depth:OT→Nat
 |.fin=>0
 |.rd _ k=>k.depth+1
 |.br _ k _=>k.depth+1
def OT.even:Bool→Nat→OT→Bool
 |top,n,.fin=>!top||n==0
 |_,0,_=>false
 |_,n+1,.rd _ k=>k.even true n
 |_,n+1,.br _ k o=>k.even true n&&o.even false (n+1)
def eN(P:Program)(l:List Oper)(Q:Exit→Act→wO→Prop)(S:wO→Prop):Bool→OT→Act→wO→Prop
 |top,.fin,a,w=>top=true→Q .normal a w
 |_,.rd i k,a,w=>∃o v,l[i]?=some o∧YieldsIf P l.toArray S o v a∧eN P l Q S true k (a.put o.dst v) w
 |_,.br i k h,a,w=>(∃o,l[i]?=some o∧wpList P l.toArray (Exit.then (λa' w'=>S w'∧eN P l Q S true k a' w') Q) [o] a w)∧eN P l Q S false h a w
section
variable{P:Program}{n:Nat}{Q:AV}{S:wO→Prop}{l:List Oper}
theorem OT.alts_mem:∀(t:OT)(ops:Array Oper)(listed:Array Bool)(m:Nat)(j:Nat),t.ok ops false listed=true→t.even false m=true→j∈t.alts→∃k,k.ok ops true (listed.setIfInBounds j true)=true∧(∃K,m=K+1∧k.even true K=true) ∧
   ∀(P:Program)(l:List Oper)(G:Exit→Act→wO→Prop)(S:wO→Prop)(a:Act)(w:wO),eN P l G S false t a w→∃o,l[j]?=some o∧wpList P l.toArray (Exit.then (λa' w'=>S w'∧eN P l G S true k a' w') G) [o] a w
 |.fin,_,_,_,_,_,_,h=>by cases h
 |.rd _ _,_,_,_,_,_,_,h=>by cases h
 |.br i k o,ops,listed,m,j,F,D,J=>by
   simp only[OT.ok,Bool.and_eq_true] at F
   cases m with
   |zero=>simp[OT.even] at D
   |succ m =>
     simp only[OT.even,Bool.and_eq_true] at D;simp only[OT.alts,List.mem_cons] at J;rcases J with rfl|J
     · exact⟨k,F.1.2,⟨m,C,D.1⟩,λP l G S a w h=>h.1⟩
     · obtain⟨L,O,U,W⟩:=OT.alts_mem o ops listed (m+1) j F.2 D.2 J
       exact⟨L,O,U,λP l G S a w h=>W P l G S a w h.2⟩
theorem L9(U:Region.noSelect l.toArray=true)(G:PI Q):∀(m:Nat)(t:OT)(listed:Array Bool)(a:Act)(w:wO),t.even true m=true→t.ok l.toArray true listed=true→S w→eN P l (Q.up n) S true t a w→wpAnyH P .any l.toArray (Q.up n) S m listed a w
 |m,.fin,listed,a,w,D,F,L,h=>by
   simp[OT.even] at D;subst D;exact wpAnyH_done (by simpa[OT.ok] using F) (h C) 0
 |0,.rd _ _,_,_,_,D,_,_,_=>by simp[OT.even] at D
 |0,.br _ _ _,_,_,_,D,_,_,_=>by simp[OT.even] at D
 |m+1,.rd i k,listed,a,w,D,F,L,h=>by
   simp only[OT.ok,Bool.and_eq_true,Bool.true_and] at F;obtain⟨o,v,hi,hy,h'⟩:=h
   exact wpAnyH_take (by simpa using hi) U F.1.1 F.1.2 (λc a w O=>by
     cases hd:o.dst with
     |none=>rw[hd] at O;exact O
     |some d=>rw[hd] at O;exact ZP G O) hy L (L9 U G m k _ _ w D F.2 L h')
 |m+1,.br i k o,listed,a,w,D,F,L,h=>by
   have J:(OT.br i k o).ok l.toArray false listed=true:=by
     simp only[OT.ok,Bool.and_eq_true] at F ⊢;exact⟨⟨C,F.1.2⟩,F.2⟩
   have K:(OT.br i k o).even false (m+1)=true:=D
   have W:Region.ready .any l.toArray listed=(OT.br i k o).alts:=by
     simp only[OT.ok,Bool.and_eq_true,Bool.not_true,Bool.false_or,beq_iff_eq] at F;exact F.1.1
   have Y:eN P l (Q.up n) S false (.br i k o) a w:=h;refine wpAnyH_all W (by simp[OT.alts]) λj hj=>?_;obtain⟨k',h1,⟨m',hm,h2⟩,h3⟩:=OT.alts_mem (.br i k o) l.toArray listed (m+1) j J K hj;obtain rfl:m=m':=oM;obtain⟨op,Z,hwl⟩:=h3 P l (Q.up n) S a w Y;exact wpOp_mono (λa' w' hk=>⟨hk.1,L9 U G m k' _ a' w' h2 h1 hk.1 hk.2⟩) (HG (by simpa using Z) (λ_ _ h=>h) hwl)
def Ut(P:Program)(n:Nat)(l:List Oper)(Q:AV)(S:wO→Prop)(top:Bool)(t:OT)(σ:Ba)(ds:List Deferred)(w:wO):Prop :=
 ∀a,St n σ ds a→eN P l (Q.up n) S top t a w
variable{σ:Ba}{ds:List Deferred}{w:wO}{op:Op}{ty:tI}{pos:String}{af:Array Edge}{d i:Nat}{k o:OT}{top:Bool}
variable {id:Nat}
theorem DZ(hm:P.follows .mixedOrders=true)(S:wO→Prop)(t:OT)(F:t.ok l.toArray true (Array.replicate l.length false)=true)(G:t.even true l.length=true)(D:Region.noSelect l.toArray=true)
   (h:∀w',AW w w'→w'.heap.size=w.heap.size→S w'∧Ut P n l Q S true t σ ds w') (J:PI Q:=by exact λ_ _ _ _ _ h=>h):GP P n (.region id l.toArray true) Q σ ds w:=λa K=>by
 refine wp_region_held (S:=S) hm ?_;obtain⟨L,O⟩:=h w.drew AW.drew C;have:=L9 (P:=P) (n:=n) (Q:=Q) D J l.length t (Array.replicate l.length false) a w.drew G F L (O a K);simpa using this
theorem D1(h:Q.q .normal σ ds w):Ut P n l Q S true .fin σ ds w:=λ_ D _=>⟨σ,ds,D,h⟩
theorem BE:Ut P n l Q S false .fin σ ds w:=λ_ _ h=>by cases h
theorem A8{v:Value}(F:l[i]?=some ⟨some d,op,ty,pos,af,none⟩)(hd:Nat.blt d n=true)(G:∀w,S w→AK P σ op ty w v w)(h:Ut P n l Q S true k (AI σ d v) ds w):Ut P n l Q S top (.rd i k) σ ds w:=λa D =>
 ⟨_,v,F,.inl ⟨by simp[Region.wanted],λw J=>G w J a.eval _ _ _ _ D.ev⟩,h _ (D.put hd v)⟩
def TI(P:Program)(n:Nat)(l:List Oper)(Q:AV)(S:wO→Prop)(k:OT):AV :=
 {q:=λe σ ds w=>match e with|.normal=>S w∧Ut P n l Q S true k σ ds w|e=>Q.q e σ ds w,p:=Q.p}
theorem A6(D:S w)(h:Ut P n l Q S true k σ ds w):(TI P n l Q S k).q .normal σ ds w:=⟨D,h⟩
theorem Bn{x:Oper}(Z:l[i]?=some x)(h:Gd P n l.toArray (TI P n l Q S k) [x] σ ds w)(h2:Ut P n l Q S false o σ ds w):Ut P n l Q S top (.br i k o) σ ds w:=λa U=>by
 refine⟨⟨x,Z,?_⟩,h2 a U⟩;have D:=h a U;unfold wpList at D ⊢
 split
 · rename_i hw
   rw[if_pos hw] at D;rcases D with D|⟨_,a',w',h'⟩
   · refine .inl ?_
     unfold Oper.wp at D ⊢;generalize (execOp a.eval x).run P w=rr at D ⊢
     have key:∀a' w',wpList P l.toArray ((TI P n l Q S k).up n) [] a' w'→wpList P l.toArray (Exit.then (λa' w'=>S w'∧eN P l (Q.up n) S true k a' w') (Q.up n)) [] a' w':=λa' w' hk=>by
       obtain⟨K,L,F,G⟩:=hk;exact⟨G.1,G.2 a' F⟩
     cases rr with
     |ok nx w' =>
       cases nx <;> simp only[Oper.upon] at D ⊢ <;> first
         |exact key _ _ D
         |(
           refine Calls.mono D λe O he=>?_
           cases e with
           |returned v=>exact key _ _ he
           |panicked c=>exact he
           |outgrown=>obtain⟨W,Y,J⟩:=he;exact J.elim)
         |exact Rows.mono D λv O he=>key _ _ he
     |halt hh w'=>cases hh <;> simp only[Oper.upon] at D ⊢ <;> exact D
   · exact h'.elim
 · rename_i hw
   rw[if_neg hw] at D;obtain⟨K,L,F,G⟩:=D;exact⟨G.1,G.2 _ F⟩
theorem AH{x:Oper}(D:l[i]?=some x)(h:Gd P n l.toArray (TI P n l Q S k) [x] σ ds w):Ut P n l Q S top (.br i k .fin) σ ds w:=Bn D h BE
end
def BQ(w:World)(e:TypeId)(size:Nat)(a:Option Addr)(c n:Nat)(xs:List Value):Prop :=
 xs.length=n*size∧((a=none∧c=0∧n=0)∨∃b l,a=some ⟨b,0,none⟩∧AS w b l e∧n≤c∧c≤maxLen∧l.length=c*size∧l.take (n*size)=xs)
def rb(a:Option Addr):Option Nat:=a.map (·.block)
theorem Fx(w:World)(e:TypeId)(size:Nat):BQ w e size none 0 0 []:=⟨by simp,.inl ⟨C,C,C⟩⟩
structure FE(a:Option Addr)(w:World)(a':Option Addr)(w':World):Prop where
 os:w'.os=w.os
 tape:w'.tape=w.tape
 output:w'.output=w.output
 size:w.heap.size≤w'.heap.size
 block:∀k,k<w.heap.size→some k≠rb a→w'.heap[k]?=w.heap[k]?
 own:rb a'=rb a∨rb a'=some w.heap.size
variable {l news xs zl:List Value}{b bytes cs k m off:Nat}{a' q':Option Addr}{Ts:TypeId}
theorem BQ.ext{w:World}{size:Nat}{c n:Nat}(h:BQ w e size a c n xs)(D:AW w w'):BQ w' e size a c n xs :=
 ⟨h.1,h.2.imp id λ⟨b,l,F,G,J⟩=>⟨b,l,F,G.ext D,J⟩⟩
theorem BQ.chg{w:World}{size:Nat}{c n:Nat}(h:BQ w e size a c n xs)(G:Hc b w w')(D:rb a≠some b):BQ w' e size a c n xs :=
 ⟨h.1,h.2.imp id λ⟨g,l,F,J,K⟩=>⟨g,l,F,J.chg G (λe=>D (by rw[F,← e];rfl)),K⟩⟩
theorem AS.grow{w:World}{T:TypeId}(h:AS w b l T)(F:FE a w a' w')(D:some b≠rb a):AS w' b l T:=(F.block b h.lt D).trans h
theorem BQ.grow{w:World}{size:Nat}{c n:Nat}{q:Option Addr}(h:BQ w e size a c n xs)(J:FE q w q' w')(F:rb a=none∨rb a≠rb q):BQ w' e size a c n xs :=
 ⟨h.1,h.2.imp id λ⟨g,l,G,K,L⟩=>⟨g,l,G,K.grow J (λe=>by
   rcases F with D|D
   · rw[G] at D;cases D
   · exact D (by rw[G];exact e)),L⟩⟩
theorem AW.grow{w:World}(h:AW w w1)(D:FE a w1 a' w2)(G:∀b,rb a=some b→w.heap.size≤b):AW w w2 :=
 ⟨D.os.trans h.os,D.tape.trans h.tape,D.output.trans h.output,Nat.le_trans h.size D.size,λk F=>(D.block k (Nat.lt_of_lt_of_le F h.size) (λe=>by have:=G k e.symm;omega)).trans (h.block k F)⟩
theorem BQ.lt{w:World}{size:Nat}{c n:Nat}(h:BQ w e size a c n xs)(D:rb a=some b):b<w.heap.size:=by
 rcases h.2 with ⟨F,_⟩|⟨g,l,F,G,_⟩
 · rw[F] at D;cases D
 · rw[F] at D;cases D;exact G.lt
theorem BQ.n_le{w:World}{size:Nat}{c n:Nat}(h:BQ w e size a c n xs):n≤c:=by
 rcases h.2 with ⟨_,D,F⟩|⟨g,l,D,F,G,_⟩ <;> omega
section
variable{P:Program}{n:Nat}{Q:AV}{σ:Ba}{ds:List Deferred}{w:World}{ops:Array Oper}{ty T:TypeId}{pos:String}{af:Array Edge}{rest:List Oper}{d:Nat}{x y:Operand}
def Jy(P:Program)(T:TypeId):Option (TypeId×Nat×Nat×List Value) :=
 match P.underlying T with
 |some (.slice e)=>match P.info? e with
   |some i=>match i.zero with
     |some z=>some (e,i.size,i.bytes,z.cells.toList)
     |none=>none
   |none=>none
 |_=>none
theorem R5{size:Nat}(U:Jy P T=some (e,size,bytes,zl))(hzl:Nat.beq zl.length size=true)(hsz:Nat.blt 0 size=true){c src:Nat}
   (hs:ev σ x=some (.slice a k c)) (hx:ev σ y=some (.slice (some ⟨src,off,none⟩) m cs)) (G:BQ w e size a c k xs) (D:∀j u,news[j]?=some u→w.cell? ((⟨src,off,none⟩:Addr).add j)=some u) (hl:news.length=m*size)
   (h1:∀v∈news,v.oneCell'=true) (hm:0<m) (h47:(k+m)*bytes≤140737488355328) (h63:k+m≤9223372036854775807) :
   ∃a' c' w',AK P σ (.call {callee:=.builtin .append,args:=#[x,y],argTypes:=#[T,T]}) ty w (.slice a' (k+m) c') w'∧BQ w' e size a' c' (k+m) (xs++news)∧FE a w a' w':=by
 unfold Jy at U
 split at U
 · rename_i F hu
   split at U
   · rename_i i hi
     split at U
     · rename_i z hz
       injection U with U
       obtain⟨rfl,rfl,rfl,rfl⟩:=by simpa using U
       have hzl':z.cells.size=i.size:=by have:=Nat.eq_of_beq_eq_true hzl;simpa using this
       have hsz':0<i.size:=Nat.le_of_ble_eq_true hsz;have hlen:(xs++news).length=(k+m)*i.size:=by rw[List.length_append,G.1,hl,Nat.add_mul]
       have grown:∀old:Nat,BQ (w.drew.alloc (.cells (xs.toArray++news.toArray++Builtin.zeroCells z.cells (grownCap w (k+m) old F-(k+m))) F)) F i.size (some ⟨w.heap.size,0,none⟩) (grownCap w (k+m) old F) (k+m) (xs++news) ∧
           FE a w (some ⟨w.heap.size,0,none⟩) (w.drew.alloc (.cells (xs.toArray++news.toArray++Builtin.zeroCells z.cells (grownCap w (k+m) old F-(k+m))) F)):=by
         intro old;have hge:=grownCap_ge w (k+m) old F;have Z:grownCap w (k+m) old F≤maxLen:=grownCap_le_maxLen w (k+m) old F (by unfold maxLen;omega);refine⟨⟨hlen,.inr ⟨w.heap.size,xs++news++(Builtin.zeroCells z.cells (grownCap w (k+m) old F-(k+m))).toList,C,?_,hge,Z,?_,?_⟩⟩,⟨C,C,C,by simp,λj W _=>Below.heap_alloc w.drew _ j W,.inr C⟩⟩
         · have:=heap_alloc_new w.drew (.cells (xs.toArray++news.toArray++Builtin.zeroCells z.cells (grownCap w (k+m) old F-(k+m))) F)
           unfold AS
           have e2:(xs++news++(Builtin.zeroCells z.cells (grownCap w (k+m) old F-(k+m))).toList).toArray=xs.toArray++news.toArray++Builtin.zeroCells z.cells (grownCap w (k+m) old F-(k+m)):=by
             apply Array.ext';simp
           rw[e2];exact this
         · simp only[List.length_append,Array.length_toList,size_zeroCells,hzl',G.1,hl,← Nat.add_mul]
           congr 1
           omega
         · rw[← hlen];exact List.take_left
       have J:∀(v':Value)(w':World),(Builtin.append_ #[T,T] ty #[.slice a k c,.slice (some ⟨src,off,none⟩) m cs]).run P w=.ok v' w' →
           AK P σ (.call {callee:=.builtin .append,args:=#[x,y],argTypes:=#[T,T]}) ty w v' w':=λv' w' hr ρ _ _ _ _ hρ=>by
         simp only[execOp,resolve,invoke,builtin,Sem.run_bind,Sem.run_pure,Result.andThen_ok,List.map_toArray,List.map_cons,List.map_nil,hρ _ _ hs,hρ _ _ hx,hr]
       rcases G.2 with ⟨rfl,rfl,rfl⟩|⟨g,l,rfl,hg,hnc,Z,hcs,O⟩
       · have hxs:xs=[]:=List.eq_nil_of_length_eq_zero (by simpa using G.1)
         subst hxs;have hr:=run_append_nil (P:=P) w T ty F i z hu hi hz ⟨src,off,none⟩ m cs news hl D hm oM (by have hb:=h47;simp only[Nat.zero_add] at hb;omega);have L:=grown 0;simp only[Nat.zero_add,List.nil_append,Array.empty_append] at L ⊢;exact⟨_,_,_,J _ _ hr,L.1,L.2⟩
       · by_cases K:k+m≤c
         · have Y:k*i.size+news.length≤l.toArray.size:=by rw[hl,List.size_toArray,hcs,← Nat.add_mul];exact Nat.mul_le_mul_right _ K
           have hr:=run_append_room (P:=P) w T ty F i hu hi g k c l.toArray hg ⟨src,off,none⟩ m cs news hl D h1 K Y
           refine⟨some ⟨g,0,none⟩,c,_,J _ _ hr,⟨hlen,.inr ⟨g,l.take (k*i.size)++news++l.drop (k*i.size+news.length),C,setRow_heap w g _ _ F _ hg,K,Z,?_,?_⟩⟩,
             ⟨C,C,C,by simp[World.setRow],λj _ W=>setRow_other w g j _ (λe=>W (by rw[e];rfl)),.inl C⟩⟩
           · simp only[List.size_toArray] at Y
             simp only[List.length_append,List.length_take,List.length_drop];omega
           · rw[O,← hlen];exact List.take_left
         · have holds:∀j u,xs[j]?=some u→w.cell? ((⟨g,0,none⟩:Addr).add j)=some u:=λj u W=>by
             rw[Ea,hg.cell,Nat.zero_add];rw[← O] at W
             have hlt:j<k*i.size:=by
               rcases Nat.lt_or_ge j (k*i.size) with h|h
               · exact h
               · rw[List.getElem?_take,if_neg (by omega)] at W;cases W
             rwa[List.getElem?_take,if_pos hlt] at W
           have hr:=run_append_grow (P:=P) w T ty F i z hu hi hz ⟨g,0,none⟩ k c xs G.1 holds ⟨src,off,none⟩ m cs news hl D oM oM (growslice_fits oM h47);have L:=grown c;exact⟨_,_,_,J _ _ hr,L.1,L.2⟩
     · cases U
   · cases U
 · cases U
theorem wL{size:Nat}(Y:Jy P T=some (e,size,bytes,zl))(K:Nat.beq zl.length size=true)(L:Nat.blt 0 size=true){c src:Nat}{sl:List Value}
   (Z:ev σ x=some (.slice a k c)) (hx:ev σ y=some (.slice (some ⟨src,off,none⟩) m cs)) (F:BQ w e size a c k xs) (G:AS w src sl Ts) (D:(sl.drop off).take (m*size)=news) (hl:news.length=m*size)
   (h1:∀v∈news,v.oneCell'=true) (hm:0<m) (O:(k+m)*bytes≤140737488355328) (U:k+m≤9223372036854775807) :
   ∃a' c' w',AK P σ (.call {callee:=.builtin .append,args:=#[x,y],argTypes:=#[T,T]}) ty w (.slice a' (k+m) c') w'∧BQ w' e size a' c' (k+m) (xs++news)∧FE a w a' w':=by
 refine R5 Y K L Z hx F (λj u J=>?_) hl h1 hm O U;rw[Ea,G.cell];rw[← D] at J
 have W:j<m*size:=by
   rcases Nat.lt_or_ge j (m*size) with h|h
   · exact h
   · rw[List.getElem?_take,if_neg (by omega)] at J;cases J
 rwa[List.getElem?_take,if_pos W,List.getElem?_drop] at J
theorem iN{size:Nat}(hd:Nat.blt d n=true)(W:Jy P T=some (e,size,bytes,zl))(J:Nat.beq zl.length size=true)(K:Nat.blt 0 size=true){c src:Nat}{sl:List Value}
   (Y:ev σ x=some (.slice a k c)) (Z:ev σ y=some (.slice (some ⟨src,off,none⟩) m cs)) (F:BQ w e size a c k xs) (G:AS w src sl Ts) (D:(sl.drop off).take (m*size)=news) (hl:news.length=m*size)
   (h1:∀v∈news,v.oneCell'=true) (hm:0<m) (L:(k+m)*bytes≤140737488355328)
   (h:∀a' c' w',BQ w' e size a' c' (k+m) (xs++news)→FE a w a' w'→Gd P n ops Q rest (AI σ d (.slice a' (k+m) c')) ds w') (O:k+m≤9223372036854775807) :
   Gd P n ops Q (⟨some d,.call {callee:=.builtin .append,args:=#[x,y],argTypes:=#[T,T]},ty,pos,af,none⟩::rest) σ ds w:=by
 obtain⟨a',c',w',hr,U,hg⟩:=wL (ty:=ty) W J K Y Z F G D hl h1 hm L O;exact Ac hd hr (h a' c' w' U hg)
theorem Cm{size:Nat}(hd:Nat.blt d n=true)(U:Jy P T=some (e,size,bytes,zl))(J:Nat.beq zl.length size=true)(K:Nat.blt 0 size=true){c src:Nat}
   (W:ev σ x=some (.slice a k c)) (Y:ev σ y=some (.slice (some ⟨src,0,none⟩) 1 cs)) (D:BQ w e size a c k xs) (F:AS w src news Ts) (Z:Nat.beq news.length size=true)
   (h1:MB news=true) (L:(k+1)*bytes≤140737488355328) (O:k+1≤9223372036854775807)
   (h:∀a' c' w',BQ w' e size a' c' (k+1) (xs++news)→FE a w a' w'→Gd P n ops Q rest (AI σ d (.slice a' (k+1) c')) ds w') :
   Gd P n ops Q (⟨some d,.call {callee:=.builtin .append,args:=#[x,y],argTypes:=#[T,T]},ty,pos,af,none⟩::rest) σ ds w:=by
 have G:=Nat.eq_of_beq_eq_true Z;exact iN hd U J K W Y D F (by simp[← G]) (by simpa using G) (LX h1) oM L h O
end
def Y3(P:Program)(T:TypeId):Bool:=match P.underlying T with|some (.interface _)=>true|_=>false
def zG(P:Program)(T:TypeId):Bool:=match P.underlying T with|some (.interface _)=>false|some _=>true|none=>false
def Wc(P:Program)(s d:TypeId):Option IntKind:=match P.underlying s,P.underlying d with|some _,some (.int k)=>some k|_,_=>none
def kJ(P:Program)(s d:TypeId):Option TypeId:=match P.underlying s with
 |some (.slice e)=>match P.underlying e,P.underlying d with
   |some (.int .u8),some .string=>some e
   |_,_=>none
 |_=>none
end Go.SW
namespace Go.SP
structure Aq where
 k:Int
 ln:Int
 co:Int
 nm:Int
 tx:lU
inductive Fo where
 |nil
 |cons (t:Aq) (kids rest:Fo)
def Fo.len:Fo→Nat
 |.nil=>0
 |.cons _ _ r=>r.len+1
def Aq.ok(t:Aq):Prop:=(t.k=5→t.tx≠[])∧t.tx.length≤100000
def Fo.ok:Fo→Prop
 |.nil=>True
 |.cons t k r=>t.ok∧k.ok∧k.len≤100000∧r.ok
def Fo.all(p:Aq→Fo→Prop):Fo→Prop
 |.nil=>True
 |.cons t k r=>p t k∧r.all p
def Fo.snoc:Fo→Aq→Fo→Fo
 |.nil,t,k=>.cons t k .nil
 |.cons u l r,t,k=>.cons u l (r.snoc t k)
def Fo.app:Fo→Fo→Fo
 |.nil,y=>y
 |.cons u l r,y=>.cons u l (r.app y)
def Fo.deep:Nat→Fo→Bool
 |_,.nil=>true
 |0,.cons _ _ _=>false
 |n+1,.cons _ l r=>l.deep n&&r.deep (n+1)
def DP(n:Nat)(t:Aq)(k:Fo):Prop:=t.ok∧k.ok∧k.len≤100000∧k.deep n=true
theorem HJ:∀(n:Nat)(d:Fo),d.ok→d.deep (n+1)=true→d.all (DP n)
 |_,.nil,_,_=>trivial
 |n,.cons t k r,h,hd=>by
   simp only[Fo.deep,Bool.and_eq_true] at hd;exact⟨⟨h.1,h.2.1,h.2.2.1,hd.1⟩,HJ n r h.2.2.2 hd.2⟩
inductive Nd where
 |nil
 |cons (op ln co:Int) (tx:lU) (nm:Int) (kids rest:Nd)
def Nd.len:Nd→Nat
 |.nil=>0
 |.cons _ _ _ _ _ _ r=>r.len+1
def Nd.app:Nd→Nd→Nd
 |.nil,y=>y
 |.cons a b c d e l r,y=>.cons a b c d e l (r.app y)
structure N where
 op:Int
 ln:Int
 co:Int
 tx:lU
 nm:Int
 kids:Nd
def N.cons(a:N)(r:Nd):Nd:=.cons a.op a.ln a.co a.tx a.nm a.kids r
def N.one(a:N):Nd:=a.cons .nil
abbrev R:=Except (Int×Int)
def DE:lU→lU→Bool
 | [],sub=>sub.isEmpty
 |b::l,sub=>sub.isPrefixOf (b::l)||DE l sub
theorem Tx(sub:lU):∀l,-1≤Lib.index l sub
 | []=>by unfold Lib.index;split <;> omega
 |b::l=>by
   have:=Tx sub l;unfold Lib.index
   split
   · omega
   · split <;> omega
theorem M7(sub:lU):∀l,Lib.contains l sub=DE l sub
 | []=>by unfold Lib.contains Lib.index DE;cases h:sub.isEmpty <;> simp
 |b::l=>by
   have d:=M7 sub l;have F:=Tx sub l;unfold Lib.contains at d ⊢;unfold Lib.index DE
   cases J:sub.isPrefixOf (b::l) with
   |true=>simp
   |false =>
     rw[← d];simp only[Bool.false_eq_true,if_false,Bool.false_or]
     by_cases D:Lib.index l sub = -1
     · simp[D]
     · have G:¬(Lib.index l sub == -1)=true:=by simpa using D
       rw[if_neg G];simp only[decide_eq_decide];omega
def pL:lU:=[32,102,110,32,108,101,116,32,114,101,99,32,105,102,32,115,101,113,32,116,117,112,108,101,32,99,97,115,101,32,116,114,121,32,114,97,105,115,101,32,116,114,97,110,115,97,99,116,32,100,97,116,97,32,114,111,111,116,32,100,101,102,32,100,111,32]
def wB:lU:=[32,45,62,32,116,117,112,108,101,32,114,101,102,32,112,114,101,102,32]
def My(tx:lU):Bool:=DE pL ([32]++tx++[32])
def Rj(tx:lU):Bool:=DE wB ([32]++tx++[32])
def Ys(tx:lU):UInt8:=tx.headD 0
namespace Aq
def isWord(t:Aq)(s:lU):Bool:=t.k==5&&t.tx==s
def isVar(t:Aq):Bool:=t.k==5&&(!(t.tx==[95])&&(((Ys t.tx).toNat:Int) != 39&&!My t.tx))
def isHole(t:Aq):Bool:=t.isVar||t.isWord [95]
def isTypeName(t:Aq):Bool:=t.isVar&&!Rj t.tx
def isTypeVar(t:Aq):Bool:=t.k==5&&(((Ys t.tx).toNat:Int)==39&&decide (1<(t.tx.length:Int)))
end Aq
def within(n d h:Int):Bool:=decide (d≤n)&&decide (n≤h)
def S6(t:Aq):Fo→Bool
 |.nil=>false
 |.cons h _ _=>t.k==0&&h.isWord [102,110]
def need{α:Type}(t:Aq)(b:Bool)(x:R α):R α:=if b then x else .error (t.ln,t.co)
def A3(t:Aq)(op:Int)(tx:lU)(kids:Nd):N:=⟨op,t.ln,t.co,tx,0,kids⟩
def AL(f:Aq→Fo→R N):Fo→R Nd
 |.nil=>.ok .nil
 |.cons t k r=>match f t k with
   |.error e=>.error e
   |.ok a=>match AL f r with
     |.error e=>.error e
     |.ok b=>.ok (a.cons b)
def JS(t:Aq)(_:Fo):R N:=.ok (if t.isWord [95] then A3 t 21 [] .nil else A3 t 22 t.tx .nil)
def K8:Fo→Bool
 |.nil=>true
 |.cons t _ r=>t.isHole&&K8 r
def B1(seen:List lU):Nd→Option (List lU)
 |.nil=>some seen
 |.cons op _ _ tx _ kids rest =>
   match (if op==22 then (if seen.contains tx then none else some (tx::seen)) else some seen) with
   |none=>none
   |some s1=>match B1 s1 kids with
     |none=>none
     |some s2=>B1 s2 rest
def D7:Nat→Aq→Fo→R N
 |0,t,_=>.error (t.ln,t.co)
 |n+1,t,kids =>
   if t.k==2 then .ok ⟨23,t.ln,t.co,[],t.nm,.nil⟩
   else if t.k==4 then .ok (A3 t 24 t.tx .nil)
   else if t.k==6 then .ok (A3 t 26 t.tx .nil)
   else if t.k==5 then need t t.isHole (JS t kids)
   else if t.k==3 then .error (t.ln,t.co)
   else match kids with
     |.nil=>.ok (A3 t 25 [] .nil)
     |.cons h _ l =>
       if h.k==6 then need t (within l.len 1 8) (match AL (D7 n) l with|.error e=>.error e|.ok d=>.ok (A3 t 26 h.tx d))
       else need t (h.isWord [116,117,112,108,101]&&within l.len 2 8) (match AL (D7 n) l with|.error e=>.error e|.ok d=>.ok (A3 t 27 [] d))
def Hq(t:Aq):Nd→Option N
 |.nil=>none
 |.cons op ln co tx nm kids r=>match r with
   |.nil=>some ⟨op,ln,co,tx,nm,kids⟩
   |_=>match Hq t r with
     |none=>none
     |some o=>some (A3 t 32 [45,62] (.cons op ln co tx nm kids o.one))
def CN:Nat→Aq→Fo→R N
 |0,t,_=>.error (t.ln,t.co)
 |n+1,t,kids =>
   if t.k==0 then match kids with
     |.nil=>.error (t.ln,t.co)
     |.cons h _ l =>
       if h.isWord [45,62] then need t (decide ((2:Int)≤l.len)) (match AL (CN n) l with
         |.error e=>.error e
         |.ok d=>match Hq t d with
           |some o=>.ok o
           |none=>.error (t.ln,t.co))
       else
         let ok:=if h.isWord [116,117,112,108,101] then within l.len 2 8
           else if h.isWord [114,101,102]||h.isWord [112,114,101,102] then (l.len:Int)==1
           else h.isTypeName&&within l.len 1 8
         need t ok (match AL (CN n) l with|.error e=>.error e|.ok d=>.ok (A3 t 32 h.tx d))
   else if t.isTypeVar then .ok (A3 t 31 t.tx .nil)
   else need t t.isTypeName (.ok (A3 t 32 t.tx .nil))
def Hd(n:Nat)(ex:Aq→Fo→R N)(t:Aq)(kids:Fo):R N :=
 match kids with
 |.cons p d (.cons b bk .nil)=>need t (t.k==0) (match D7 n p d with
   |.error e=>.error e
   |.ok q=>need p (B1 [] q.one).isSome (match ex b bk with
     |.error e=>.error e
     |.ok x=>.ok (A3 t 18 [] (q.cons x.one))))
 |_=>.error (t.ln,t.co)
def Bo(n:Nat)(ex:Aq→Fo→R N)(t:Aq)(w:lU)(l:Fo):R N :=
 if w==[102,110] then match l with
   |.cons p F (.cons b bk .nil)=>need t (p.k==0&&(within F.len 1 8&&K8 F)) (match AL JS F with
     |.error e=>.error e
     |.ok J=>match ex b bk with
       |.error e=>.error e
       |.ok x=>.ok (A3 t 7 [] (J.app x.one)))
   |_=>.error (t.ln,t.co)
 else if w==[108,101,116] then match l with
   |.cons v _ (.cons e d (.cons b bk .nil))=>need t v.isHole (match ex e d with
     |.error e=>.error e
     |.ok x=>match ex b bk with
       |.error e=>.error e
       |.ok y=>.ok (A3 t 9 v.tx (x.cons y.one)))
   |_=>.error (t.ln,t.co)
 else if w==[114,101,99] then match l with
   |.cons v _ (.cons e d (.cons b bk .nil))=>need t (v.isVar&&S6 e d) (match ex e d with
     |.error e=>.error e
     |.ok x=>match ex b bk with
       |.error e=>.error e
       |.ok y=>.ok (A3 t 10 v.tx (x.cons y.one)))
   |_=>.error (t.ln,t.co)
 else if w==[105,102] then need t ((l.len:Int)==3) (match AL ex l with|.error e=>.error e|.ok h=>.ok (A3 t 11 [] h))
 else if w==[115,101,113] then need t (decide ((1:Int)≤l.len)) (match AL ex l with|.error e=>.error e|.ok h=>.ok (A3 t 12 [] h))
 else if w==[116,117,112,108,101] then need t (within l.len 2 8) (match AL ex l with|.error e=>.error e|.ok h=>.ok (A3 t 13 [] h))
 else if w==[99,97,115,101]||w==[116,114,121] then need t (decide ((2:Int)≤l.len)) (match l with
   |.nil=>.error (t.ln,t.co)
   |.cons e d D=>match ex e d with
     |.error e=>.error e
     |.ok x=>match AL (Hd n ex) D with
       |.error e=>.error e
       |.ok G=>.ok (A3 t (if w==[116,114,121] then 15 else 14) [] (x.cons G)))
 else if w==[114,97,105,115,101]||w==[116,114,97,110,115,97,99,116] then match l with
   |.cons e d .nil=>match ex e d with
     |.error e=>.error e
     |.ok x=>.ok (A3 t (if w==[116,114,97,110,115,97,99,116] then 17 else 16) [] x.one)
   |_=>.error (t.ln,t.co)
 else .error (t.ln,t.co)
def BB:Nat→Aq→Fo→R N
 |0,t,_=>.error (t.ln,t.co)
 |n+1,t,kids =>
   if t.k==2 then .ok ⟨1,t.ln,t.co,[],t.nm,.nil⟩
   else if t.k==3 then .ok (A3 t 2 t.tx .nil)
   else if t.k==4 then .ok (A3 t 3 t.tx .nil)
   else if t.k==6 then .ok (A3 t 6 t.tx .nil)
   else if t.k==5 then need t t.isVar (.ok (A3 t 5 t.tx .nil))
   else match kids with
     |.nil=>.ok (A3 t 4 [] .nil)
     |.cons h _ l =>
       if h.k==6 then need t (within l.len 1 8) (match AL (BB n) l with|.error e=>.error e|.ok d=>.ok (A3 t 6 h.tx d))
       else if h.k==5&&My h.tx then Bo n (BB n) t h.tx l
       else need t (within l.len 1 8) (match AL (BB n) kids with|.error e=>.error e|.ok d=>.ok (A3 t 8 [] d))
def G2(n:Nat)(t:Aq)(kids:Fo):R N :=
 match kids with
 |.nil=>.error (t.ln,t.co)
 |.cons h _ l=>need t (t.k==0&&(h.k==6&&decide ((kids.len:Int)≤9))) (match AL (CN n) l with|.error e=>.error e|.ok d=>.ok (A3 t 42 h.tx d))
def Bx:Fo→Option Nd
 |.nil=>some .nil
 |.cons v _ r=>if v.isTypeVar then (match Bx r with|none=>none|some x=>some ((A3 v 31 v.tx .nil).cons x)) else none
def C5(n:Nat)(t:Aq)(kids:Fo):R N :=
 match kids with
 |.nil=>.error (t.ln,t.co)
 |.cons h _ l=>need t (t.k==0&&h.k==5) (
   if h.tx==[100,97,116,97] then match l with
     |.cons a _ (.cons b bk (.cons c d r))=>need t (a.isTypeName&&(b.k==0&&decide ((bk.len:Int)≤8))) (match Bx bk with
       |none=>.error (t.ln,t.co)
       |some vs=>match AL (G2 n) (.cons c d r) with
         |.error e=>.error e
         |.ok cs=>.ok (A3 t 41 a.tx (vs.app cs)))
     |_=>.error (t.ln,t.co)
   else if h.tx==[114,111,111,116] then match l with
     |.cons a _ (.cons b bk (.cons c d .nil))=>need t a.isVar (match CN n b bk with
       |.error e=>.error e
       |.ok x=>match BB n c d with
         |.error e=>.error e
         |.ok y=>.ok (A3 t 43 a.tx (x.cons y.one)))
     |_=>.error (t.ln,t.co)
   else if h.tx==[100,101,102] then match l with
     |.cons a _ (.cons b bk .nil)=>need t a.isVar (match BB n b bk with|.error e=>.error e|.ok x=>.ok (A3 t 44 a.tx x.one))
     |_=>.error (t.ln,t.co)
   else if h.tx==[114,101,99] then match l with
     |.cons a _ (.cons b bk .nil)=>need t (a.isVar&&S6 b bk) (match BB n b bk with|.error e=>.error e|.ok x=>.ok (A3 t 45 a.tx x.one))
     |_=>.error (t.ln,t.co)
   else if h.tx==[100,111] then match l with
     |.cons b bk .nil=>match BB n b bk with|.error e=>.error e|.ok x=>.ok (A3 t 46 [] x.one)
     |_=>.error (t.ln,t.co)
   else .error (t.ln,t.co))
def A7:List Aq→List (Aq×Fo)→Fo→R Fo
 | [],[],cur=>.ok cur
 | [],(o,p)::s,_=>match ((o,p)::s).getLast? with
   |some (q,_)=>.error (q.ln,q.co)
   |none=>.error (0,0)
 |k::l,st,cur =>
   if k.k==0 then (if st.length==200 then .error (k.ln,k.co) else A7 l ((k,cur)::st) .nil)
   else if k.k==1 then (match st with
     | []=>.error (k.ln,k.co)
     |(o,p)::s=>A7 l s (p.snoc o cur))
   else A7 l st (cur.snoc k .nil)
end Go.SP
namespace Go.SP
def FX(n:Nat)(h:Except (Int×Int×Int) (List Aq)):Nd×Int×Int×Int :=
 match h with
 |.error e=>(.nil,e)
 |.ok d=>match A7 d [] .nil with
   |.error e=>(.nil,e.1,e.2,10)
   |.ok D=>match AL (C5 n) D with
     |.error e=>(.nil,e.1,e.2,10)
     |.ok nds=>(nds,0,0,0)
end Go.SP
namespace Go.SP
open Go.SW Go.RowKit
def Ir(t:Aq):List Value:=[.int .i64 t.k,.int .i64 t.ln,.int .i64 t.co,.int .i64 t.nm,S t.tx]
def Sl(U:Nat→Prop)(w:World)(a:Option Addr)(n c len:Nat)(C:List Value→Prop):Prop :=
 n=len∧n≤c∧(n=0∨∃b off l T,U b∧a=some ⟨b,off,none⟩∧AS w b l T∧C (l.drop off))
def GN(U:Nat→Prop)(w:World):Fo→List Value→Prop
 |.nil,_=>True
 |.cons t kids rest,l=>∃a n c d,l=.int .i64 t.k::.int .i64 t.ln::.int .i64 t.co::.int .i64 t.nm::S t.tx::.slice a n c::d∧Sl U w a n c kids.len (GN U w kids)∧GN U w rest d
abbrev Ee(U:Nat→Prop)(w:World)(a:Option Addr)(n c:Nat)(fo:Fo):Prop:=Sl U w a n c fo.len (GN U w fo)
def Fy(U:Nat→Prop)(w:World):Nd→List Value→Prop
 |.nil,_=>True
 |.cons op ln co tx nm kids rest,l=>∃a n c d,l=.int .i64 op::.int .i64 ln::.int .i64 co::S tx::.int .i64 nm::.slice a n c::d∧Sl U w a n c kids.len (Fy U w kids)∧Fy U w rest d
abbrev GO(U:Nat→Prop)(w:World)(a:Option Addr)(n c:Nat)(nd:Nd):Prop:=Sl U w a n c nd.len (Fy U w nd)
variable {vs:List Value}{m:Nat}{U':Nat→Prop}{e:TypeId}
theorem Sl.imp{U:Nat→Prop}{w w':World}{a:Option Addr}{n c len:Nat}{C D:List Value→Prop}(h:Sl U w a n c len C)(F:∀b,U b→b<w.heap.size→U' b∧w'.heap[b]?=w.heap[b]?)(G:∀l,C l→D l):Sl U' w' a n c len D :=
 ⟨h.1,h.2.1,h.2.2.imp id λ⟨b,off,l,T,hu,J,d,K⟩=>⟨b,off,l,T,(F b hu d.lt).1,J,(F b hu d.lt).2.trans d,G _ K⟩⟩
theorem GN.imp{U:Nat→Prop}{w w':World}(d:∀b,U b→b<w.heap.size→U' b∧w'.heap[b]?=w.heap[b]?):∀(fo:Fo)(l:List Value),GN U w fo l→GN U' w' fo l
 |.nil,_,_=>trivial
 |.cons _ kids rest,_,⟨a,n,c,h,D,F,G⟩=>⟨a,n,c,h,D,F.imp d (GN.imp d kids),GN.imp d rest h G⟩
theorem Fy.imp{U:Nat→Prop}{w w':World}(d:∀b,U b→b<w.heap.size→U' b∧w'.heap[b]?=w.heap[b]?):∀(nd:Nd)(l:List Value),Fy U w nd l→Fy U' w' nd l
 |.nil,_,_=>trivial
 |.cons _ _ _ _ _ kids rest,_,⟨a,n,c,h,D,F,G⟩=>⟨a,n,c,h,D,F.imp d (Fy.imp d kids),Fy.imp d rest h G⟩
theorem Ee.imp{U:Nat→Prop}{w w':World}{a:Option Addr}{n c:Nat}{fo:Fo}(h:Ee U w a n c fo)(d:∀b,U b→b<w.heap.size→U' b∧w'.heap[b]?=w.heap[b]?):Ee U' w' a n c fo:=Sl.imp h d (GN.imp d fo)
theorem GO.imp{U:Nat→Prop}{w w':World}{a:Option Addr}{n c:Nat}{nd:Nd}(h:GO U w a n c nd)(d:∀b,U b→b<w.heap.size→U' b∧w'.heap[b]?=w.heap[b]?):GO U' w' a n c nd:=Sl.imp h d (Fy.imp d nd)
section
variable{U:Nat→Prop}{w w':World}{a:Option Addr}{n c:Nat}{fo:Fo}{nd:Nd}{l:List Value}
theorem Ee.ext(h:Ee U w a n c fo)(d:AW w w'):Ee U w' a n c fo:=Ee.imp h λb hu D=>⟨hu,d.block b D⟩
theorem GO.ext(h:GO U w a n c nd)(d:AW w w'):GO U w' a n c nd:=GO.imp h λb hu D=>⟨hu,d.block b D⟩
theorem GN.ext(h:GN U w fo l)(d:AW w w'):GN U w' fo l:=GN.imp (λb hu D=>⟨hu,d.block b D⟩) fo l h
theorem Fy.ext(h:Fy U w nd l)(d:AW w w'):Fy U w' nd l:=Fy.imp (λb hu D=>⟨hu,d.block b D⟩) nd l h
theorem Ee.chg{b:Nat}(h:Ee U w a n c fo)(d:Hc b w w')(D:¬U b):Ee U w' a n c fo:=Ee.imp h λk hu _=>⟨hu,d.block k (λe=>D (e▸hu))⟩
theorem GO.chg{b:Nat}(h:GO U w a n c nd)(d:Hc b w w')(D:¬U b):GO U w' a n c nd:=GO.imp h λk hu _=>⟨hu,d.block k (λe=>D (e▸hu))⟩
theorem Fy.chg{b:Nat}(h:Fy U w nd l)(d:Hc b w w')(D:¬U b):Fy U w' nd l:=Fy.imp (λk hu _=>⟨hu,d.block k (λe=>D (e▸hu))⟩) nd l h
theorem Ee.mono(h:Ee U w a n c fo)(d:∀b,U b→U' b):Ee U' w a n c fo:=Ee.imp h λb hu _=>⟨d b hu,C⟩
theorem GO.mono(h:GO U w a n c nd)(d:∀b,U b→U' b):GO U' w a n c nd:=GO.imp h λb hu _=>⟨d b hu,C⟩
theorem Fy.mono(h:Fy U w nd l)(d:∀b,U b→U' b):Fy U' w nd l:=Fy.imp (λb hu _=>⟨d b hu,C⟩) nd l h
theorem Fy.more:∀(nd:Nd)(l m:List Value),Fy U w nd l→Fy U w nd (l++m)
 |.nil,_,_,_=>trivial
 |.cons _ _ _ _ _ kids rest,l,m,⟨a,n,c,d,h,D,F⟩=>⟨a,n,c,d++m,by rw[h];rfl,D,Fy.more rest d m F⟩
theorem GN.more:∀(fo:Fo)(l m:List Value),GN U w fo l→GN U w fo (l++m)
 |.nil,_,_,_=>trivial
 |.cons _ kids rest,l,m,⟨a,n,c,d,h,D,F⟩=>⟨a,n,c,d++m,by rw[h];rfl,D,GN.more rest d m F⟩
theorem Ee.nil(U:Nat→Prop)(w:World)(a:Option Addr)(c:Nat):Ee U w a 0 c .nil:=⟨C,Nat.zero_le _,.inl C⟩
theorem GO.nil(U:Nat→Prop)(w:World)(a:Option Addr)(c:Nat):GO U w a 0 c .nil:=⟨C,Nat.zero_le _,.inl C⟩
theorem Ee.head{t:Aq}{kids rest:Fo}(h:Ee U w a n c (.cons t kids rest)):∃b off l T ka kn kc d,U b∧a=some ⟨b,off,none⟩∧AS w b l T ∧
   l.drop off=.int .i64 t.k::.int .i64 t.ln::.int .i64 t.co::.int .i64 t.nm::S t.tx::.slice ka kn kc::d∧Ee U w ka kn kc kids∧GN U w rest d:=by
 obtain⟨D,Q,F|⟨b,off,l,T,hu,G,J,ka,kn,kc,d,K,L,O⟩⟩:=h
 · rw[F] at D;cases D
 · exact⟨b,off,l,T,ka,kn,kc,d,hu,G,J,K,L,O⟩
end
def DL(a:Option Addr)(c sz:Nat):Option Addr:=if c=1 then a else a.map (·.add (1*sz))
theorem Ee.rest{U:Nat→Prop}{w:World}{a:Option Addr}{n c:Nat}{t:Aq}{kids rest:Fo}(h:Ee U w a n c (.cons t kids rest)):Ee U w (DL a c 6) rest.len (c-1) rest:=by
 obtain⟨d,Q,D|⟨b,off,l,T,hu,F,G,ka,kn,kc,J,K,W,L⟩⟩:=h
 · rw[D] at d;cases d
 · have Y:n=rest.len+1:=d
   refine⟨C,oM,?_⟩
   by_cases O:c=1
   · left;omega
   · right
     refine⟨b,off+1*6,l,T,hu,by simp[DL,O,F,Ea],G,?_⟩
     have:l.drop (off+1*6)=J:=by
       rw[← List.drop_drop,K];rfl
     rw[this];exact L
section
variable{P:Program}{σ:Ba}{w:World}{ty T:TypeId}{x y lo:Operand}{k b p off q:Nat}{l cells:List Value}{T':TypeId}
theorem Wj{a:Option Addr}{c:Nat}(h:ev σ x=some (.slice a (m+1) c))(d:ev σ lo=some (.int .i64 1))(D:Hj P T=some (e,k)):AK P σ (.slice T x (some lo) none none) ty w (.slice (DL a c k) m (c-1)) w:=by
 have:=LH (w:=w) (ty:=ty) (i:=1) h (by simpa using d) D oM;simpa[DL] using this
theorem fA:∀{cells:List Value}{off q k:Nat}{l vs:List Value},cells.drop off=l→UH l q (k+1)=some vs→UH cells (off+q) (k+1)=some vs
 |cells,0,q,k,l,vs,h,d=>by rw[Nat.zero_add];rw[List.drop_zero] at h;rw[h];exact d
 | [],off+1,q,k,l,vs,h,d=>by
   rw[List.drop_nil] at h;subst h
   cases q <;> cases d
 |c::cells,off+1,q,k,l,vs,h,d=>by
   rw[List.drop_succ_cons] at h;have:=fA h d;rw[show off+1+q=(off+q)+1 by omega];exact this
theorem Md(q:Nat)(d:ev σ x=some (.pointer (some ⟨b,p,none⟩)))(h:AT P T=some (true,k+1))(D:AS w b cells T')(hd:cells.drop off=l)(F:p=off+q)(G:UH l q (k+1)=some vs) :
   AK P σ (.load T x) ty w (.agg vs.toArray) w:=by
 refine C4 d h D ?_;rw[F];exact fA hd G
end
end Go.SP
namespace Go.Proofs.YtnojaendcldjpaaGreatDoor
open Go.SW Go.RowKit Go.Proofs.Tryz
theorem aT:Jy prog 70=some (117,5,48,[.int .i64 0,.int .i64 0,.int .i64 0,.int .i64 0,.string ⟨#[]⟩]):=kR
theorem XL:Jy prog 76=some (119,6,72,[.int .i64 0,.int .i64 0,.int .i64 0,.int .i64 0,.string ⟨#[]⟩,.slice none 0 0]):=kR
theorem zX:Jy prog 120=some (76,1,24,[.slice none 0 0]):=kR
theorem Z8:Jy prog 127=some (5,1,1,[.int .u8 0]):=kR
theorem Tb:kJ prog 127 9=some 5:=kR
theorem pK:Wc prog 3 5=some .u8:=kR
theorem nD:Wc prog 3 170=some .u64:=kR
theorem Lr:Wc prog 3 238=some .u64:=kR
theorem Ru:Wc prog 5 170=some .u64:=kR
theorem Jv:Wc prog 170 2=some .i64:=kR
theorem kZ:Wc prog 211 5=some .u8:=kR
theorem oZ:Bi prog 38:=Ag func38 kR kR
theorem S4:Bi prog 39:=Ag func39 kR kR
theorem ent40:Bi prog 40:=Ag func40 kR kR
theorem cV:Bi prog 43:=Ag func43 kR kR
theorem nZ:Bi prog 48:=Ag func48 kR kR
theorem ent52:Bi prog 52:=Ag func52 kR kR
theorem Ot:Bi prog 80:=Ag func80 kR kR
theorem W6:Bi prog 81:=Ag func81 kR kR
theorem pE:Bi prog 82:=Ag func82 kR kR
theorem Oi:Bi prog 83:=Ag func83 kR kR
theorem oP:Bi prog 84:=Ag func84 kR kR
theorem ent85:Bi prog 85:=Ag func85 kR kR
theorem rU:Bi prog 114:=Ag func114 kR kR
theorem xQ:Bi prog 115:=Ag func115 kR kR
theorem xX:Bi prog 116:=Ag func116 kR kR
theorem tS:Bi prog 117:=Ag func117 kR kR
theorem UY:Bi prog 118:=Ag func118 kR kR
theorem Fu:Bi prog 119:=Ag func119 kR kR
theorem Vx:Bi prog 144:=Ag func144 kR kR
theorem uN:Bi prog 145:=Ag func145 kR kR
theorem vB:Bi prog 146:=Ag func146 kR kR
theorem wH:Bi prog 147:=Ag func147 kR kR
theorem wM:Bi prog 148:=Ag func148 kR kR
theorem YE:Bi prog 150:=Ag func150 kR kR
theorem tW:Bi prog 167:=Ag func167 kR kR
theorem sS:Bi prog 168:=Ag func168 kR kR
theorem rJ:Bi prog 170:=Ag func170 kR kR
theorem uZ:Bi prog 171:=Ag func171 kR kR
theorem Zg:Bi prog 187:=Ag func187 kR kR
theorem xS:Bi prog 192:=Ag func192 kR kR
theorem vV:Bi prog 204:=Ag func204 kR kR
theorem rX:Bi prog 209:=Ag func209 kR kR
theorem wS:Bi prog 218:=Ag func218 kR kR
theorem xN:Bi prog 219:=Ag func219 kR kR
theorem uK:Bi prog 227:=Ag func227 kR kR
theorem vC:Bi prog 229:=Ag func229 kR kR
theorem tJ:Bi prog 234:=Ag func234 kR kR
theorem gX:DD prog 113 0=some 0:=kR
theorem Ha:DD prog 116 0=some 0:=kR
theorem ER:DD prog 116 1=some 1:=kR
theorem Q6:DD prog 116 2=some 2:=kR
theorem Gh:DD prog 116 3=some 4:=kR
theorem fY:DD prog 117 1=some 1:=kR
theorem iX:DD prog 321 0=some 0:=kR
theorem pU:Y3 prog 20=true:=kR
theorem FN:Y3 prog 241=true:=kR
theorem mixed:prog.follows .mixedOrders=true:=kR
theorem nI:yE prog 74=true:=kR
theorem FG:yE prog 113=true:=kR
theorem KI:yE prog 275=true:=kR
theorem xR:K2 prog 41=some [(0,1),(1,1)]:=kR
theorem pl74:K2 prog 74=some [(0,2)]:=kR
theorem Aa0:K2 prog 113=some [(0,2)]:=kR
theorem zA:K2 prog 116=some [(0,1),(1,1),(2,2),(4,1)]:=kR
theorem Tf:K2 prog 117=some [(0,1),(1,2),(3,1),(4,1)]:=kR
theorem qC:K2 prog 119=some [(0,5),(5,1)]:=kR
theorem GR:Hj prog 70=some (117,5):=kR
theorem KN:Hj prog 76=some (119,6):=kR
theorem G5:Hj prog 120=some (76,1):=kR
theorem Ww:Hj prog 127=some (5,1):=kR
theorem sl355:Hj prog 355=some (218,1):=kR
theorem rD:zG prog 113=true:=kR
theorem Ux:AT prog 3=some (false,1):=kR
theorem vT:AT prog 4=some (false,1):=kR
theorem ti5:AT prog 5=some (false,1):=kR
theorem Yu:AT prog 9=some (false,1):=kR
theorem Iw:AT prog 41=some (true,2):=kR
theorem XW:AT prog 42=some (false,1):=kR
theorem EU:AT prog 70=some (false,1):=kR
theorem JG:AT prog 76=some (false,1):=kR
theorem nS:AT prog 101=some (true,6):=kR
theorem ti113:AT prog 113=some (true,2):=kR
theorem DO:AT prog 117=some (true,5):=kR
theorem KB:AT prog 119=some (true,6):=kR
theorem ti218:AT prog 218=some (false,1):=kR
theorem ti238:AT prog 238=some (false,1):=kR
theorem ti355:AT prog 355=some (false,1):=kR
theorem un4:prog.underlying 4=some .bool:=kR
theorem J7:prog.underlying 9=some .string:=kR
theorem zr4:FK prog 4=some [.bool false]:=kR
theorem zr5:FK prog 5=some [.int .u8 0]:=kR
theorem Vo:FK prog 41=some [.int .i64 0,.int .i64 0]:=kR
theorem zr42:FK prog 42=some [.int .i64 0]:=kR
theorem zr70:FK prog 70=some [.slice none 0 0]:=kR
theorem zr74:FK prog 74=some [.int .i64 0,.int .i64 0]:=kR
theorem zU:FK prog 76=some [.slice none 0 0]:=kR
theorem zr101:FK prog 101=some [.int .i64 0,.int .i64 0,.int .i64 0,.string ⟨#[]⟩,.int .i64 0,.slice none 0 0]:=kR
theorem pJ:FK prog 113=some [.int .i64 0,.int .i64 0]:=kR
theorem Aa4:FK prog 116=some [.string ⟨#[]⟩,.int .i64 0,.int .i64 0,.int .i64 0,.slice none 0 0]:=kR
theorem DA:FK prog 117=some [.int .i64 0,.int .i64 0,.int .i64 0,.int .i64 0,.string ⟨#[]⟩]:=kR
theorem KT:FK prog 119=some [.int .i64 0,.int .i64 0,.int .i64 0,.int .i64 0,.string ⟨#[]⟩,.slice none 0 0]:=kR
end Go.Proofs.YtnojaendcldjpaaGreatDoor
namespace Go.SP
def FM:List Nat:=[4607182418800017408,4621819117588971520,4636737291354636288,4652007308841189376,4666723172467343360,4681608360884174848,4696837146684686336,4711630319722168320,4726483295884279808,4741671816366391296,4756540486875873280,4771362005757984768,4786511204640096256,4801453603149578240,4816244402031689728]
end Go.SP
namespace Go.Proofs.YtnojaendcldjpaaGreatDoor
open Go.SW Go.SP Go.RowKit Go.Shelf Go.Lib Go.Proofs.Tryz
structure Gl(w:wO):Prop where
 maxLen:∃m:Int,w.cell? ⟨2,0,none⟩=some (.int .i64 m)
 errRange:∃v:Value,w.cell? ⟨5,0,none⟩=some v∧(v=.nilIface∨∃te pe,v=.iface te pe)
 optimize:w.cell? ⟨8,0,none⟩=some (.bool true)
 finfo:w.cell? ⟨9,0,none⟩=some (.int .u64 52)
 pow10:∃b off n c,w.cell? ⟨14,0,none⟩=some (.slice (some ⟨b,off,none⟩) n c)∧15≤n∧∀j v,FM[j]?=some v→w.cell? ⟨b,off+j,none⟩=some (.float .f64 v)
variable {args:Array Value}{b o:Nat}{P:Program}{w w':wO}
theorem Ib{v:Value}(h:w.cell? ⟨b,o,none⟩=some v):b<w.heap.size:=by
 rcases Nat.lt_or_ge b w.heap.size with d | d
 · exact d
 · simp[World.cell?,Array.getElem?_eq_none d] at h
theorem FD{v:Value}(h:w.cell? ⟨b,o,none⟩=some v)(d:AW w w'):w'.cell? ⟨b,o,none⟩=some v:=(d.cell (p:=⟨b,o,none⟩) (Ib h)).trans h
theorem Gl.ext(h:Gl w)(d:AW w w'):Gl w' :=
 ⟨let ⟨m,hm⟩:=h.maxLen;⟨m,FD hm d⟩,let ⟨v,D,F⟩:=h.errRange;⟨v,FD D d,F⟩,FD h.optimize d,FD h.finfo d,
   let ⟨b,off,n,c,G,F,J⟩:=h.pow10;⟨b,off,n,c,FD G d,F,λj v D=>FD (J j v D) d⟩⟩
theorem FP(l:lU):(⟨l.toArray⟩:ByteArray).data.toList=l:=rfl
theorem Mp(l:lU):(⟨l.toArray⟩:ByteArray).size=l.length:=by simp[ByteArray.size]
theorem EL{f:FuncId}{v:Value}{R:wO→Prop}(h:Calls P f args w λe w'=>e=.returned v∧R w')(d:∀w',R w'→AW w w') :
   AX P f args w λu w'=>u=v∧AW w w':=Calls.mono h λ_ _ ⟨he,D⟩=>⟨v,he,C,d _ D⟩
theorem He(w:wO)(d:Gl w)(a b:lU)(D:a.length<4294967281):AX prog 84 #[S a,S b] w λv w'=>v=.bool (DE a b)∧AW w w':=by
 obtain⟨m,hm⟩:=d.maxLen;have h:=Any.strings_Contains Tryz.lays144 ⟨a.toArray⟩ ⟨b.toArray⟩ m w (by rw[Mp];exact D) hm;rw[FP,FP,M7] at h;exact EL h (λw' e=>by subst e;exact AW.refl _)
theorem EC(w:wO)(a:lU)(c:UInt8):AX prog 81 #[S a,.int .u8 c.toNat] w λv w'=>v=.int .i64 (Lib.indexByte a c)∧AW w w':=by
 have h:=Any.strings_IndexByte Tryz.lays137 ⟨a.toArray⟩ c.toNat w;rw[FP] at h;have e:((c.toNat:Int).toNat).toUInt8=c:=by simp
 rw[e] at h;exact EL h (λw' e=>by subst e;exact AW.refl _)
theorem FQ(w:wO)(a b:lU):AX prog 118 #[S a,S b] w λv w'=>v=S (Lib.trimPrefix a b)∧AW w w':=by
 have h:=Any.strings_TrimPrefix Tryz.lays101 ⟨a.toArray⟩ ⟨b.toArray⟩ w;rw[FP,FP] at h;exact EL h (λw' e=>by subst e;exact AW.refl _)
theorem bG(w:wO)(d:Gl w)(a b:lU)(D:a.length<4294967281) :
   AX prog 146 #[S a,S b] w λv w'=>v=.tuple #[S (Lib.cut a b).1,S (Lib.cut a b).2.1,.bool (Lib.cut a b).2.2]∧AW w w':=by
 obtain⟨m,hm⟩:=d.maxLen;have h:=Any.strings_Cut Tryz.lays145 ⟨a.toArray⟩ ⟨b.toArray⟩ m w (by rw[Mp];exact D) hm;rw[FP,FP] at h;exact EL h (λw' ⟨n,e⟩=>by subst e;exact⟨C,C,C,Nat.le_refl _,λ_ _=>C⟩)
theorem PV(w:wO)(a b:lU)(F:a.length≤9223372036854775807)(G:b.length<4294967281)(d:b.all (λc=>decide (c.toNat<128))=true) :
   AX prog 150 #[S a,S b] w λv w'=>v=S (Lib.trimS a b)∧AW w w':=by
 have h:=Any.strings_Trim_laid Tryz.lays160 kR ⟨a.toArray⟩ ⟨b.toArray⟩ w (by rw[Mp];exact F) (by rw[Mp];exact G) (λj c D=>by
   rw[FP] at D;have:=List.all_eq_true.1 d c (List.mem_of_getElem? D);simpa using this)
 rw[FP,FP] at h;exact EL h (λw' h=>h)
theorem QL(w:wO)(D:Gl w)(fn s:lU)(base bits:Int)(J:s.length≤100000):AX prog 168 #[S fn,S s,.int .i64 base,.int .i64 bits,.iface 275 (.int .i64 1)] w λv w'=>(∃T u,v=.iface T u)∧AW w w':=by
 obtain⟨ev,F,d⟩:=D.errRange;have h:=Any.strconv_toError_range Tryz.lays245 ⟨fn.toArray⟩ ⟨s.toArray⟩ base bits ev w (by rw[Mp];omega) F d;exact Calls.mono h λe w' ⟨N,he,_,_,G⟩=>⟨_,he,⟨_,_,C⟩,G⟩
end Go.Proofs.YtnojaendcldjpaaGreatDoor
namespace Go.SP
open Go.SW Go.RowKit
def At(U:Nat→Prop)(w:World)(a:Option Addr)(i:Nat)(r:Fo):Prop :=
 r=.nil∨∃b off l T,U b∧a=some ⟨b,off,none⟩∧AS w b l T∧GN U w r (l.drop (off+i*6))
variable {fo:Fo}{co ln nm:Int}{xs:List Value}{b c' i kc kn n:Nat}{U:Nat→Prop}{a a' ka:Option Addr}{e:TypeId}{w w' w0 w1:World}
theorem Ee.at{c:Nat}(h:Ee U w a n c fo):At U w a 0 fo:=by
 obtain⟨d,K,D|⟨b,off,l,T,hu,F,G,J⟩⟩:=h
 · left;cases fo with
   |nil=>rfl
   |cons t k r=>rw[D] at d;cases d
 · exact .inr ⟨b,off,l,T,hu,F,G,by simpa using J⟩
theorem At.ext{r:Fo}(h:At U w a i r)(d:AW w w'):At U w' a i r :=
 h.imp id λ⟨b,off,l,T,hu,D,F,G⟩=>⟨b,off,l,T,hu,D,F.ext d,G.ext d⟩
theorem At.head{t:Aq}{k r:Fo}(h:At U w a i (.cons t k r)):∃b off l T ka kn kc d,U b∧a=some ⟨b,off,none⟩∧AS w b l T ∧
   l.drop (off+i*6)=.int .i64 t.k::.int .i64 t.ln::.int .i64 t.co::.int .i64 t.nm::S t.tx::.slice ka kn kc::d∧Ee U w ka kn kc k:=by
 rcases h with h|⟨b,off,l,T,hu,D,F,ka,kn,kc,d,G,J,K⟩
 · cases h
 · exact⟨b,off,l,T,ka,kn,kc,d,hu,D,F,G,J⟩
theorem At.next{t:Aq}{k r:Fo}(h:At U w a i (.cons t k r)):At U w a (i+1) r:=by
 rcases h with h|⟨b,off,l,T,hu,d,D,ka,kn,kc,F,G,K,J⟩
 · cases h
 · refine .inr ⟨b,off,l,T,hu,d,D,?_⟩
   have:l.drop (off+(i+1)*6)=F:=by
     rw[show off+(i+1)*6=(off+i*6)+6 by omega,← List.drop_drop,G];rfl
   rw[this];exact J
theorem Nd.len_app:∀(x y:Nd),(x.app y).len=x.len+y.len
 |.nil,y=>by simp[Nd.app,Nd.len]
 |.cons _ _ _ _ _ _ r,y=>by simp[Nd.app,Nd.len,Nd.len_app r y];omega
theorem Nd.app_assoc:∀(x y z:Nd),(x.app y).app z=x.app (y.app z)
 |.nil,_,_=>rfl
 |.cons _ _ _ _ _ _ r,y,z=>by simp[Nd.app,Nd.app_assoc r y z]
theorem Nd.app_nil:∀(x:Nd),x.app .nil=x
 |.nil=>rfl
 |.cons _ _ _ _ _ _ r=>by simp[Nd.app,Nd.app_nil r]
theorem Fy.app:∀(x y:Nd)(l m:List Value),Fy U w x l→l.length=x.len*6→Fy U w y m→Fy U w (x.app y) (l++m)
 |.nil,y,l,m,_,d,h=>by
   have:l=[]:=List.eq_nil_of_length_eq_zero (by simpa[Nd.len] using d);subst this;exact h
 |.cons _ _ _ _ _ kids rest,y,l,m,⟨a,n,c,D,F,G,J⟩,d,h=>by
   refine⟨a,n,c,D++m,by rw[F];rfl,G,Fy.app rest y D m J ?_ h⟩;rw[F] at d;simp[Nd.len] at d;omega
structure JC(e:TypeId)(w0 w:World)(a:Option Addr)(n c:Nat)(nds:Nd):Prop where
 ex:∃xs,BQ w e 6 a c n xs∧Fy (λb=>w0.heap.size≤b∧some b≠rb a) w nds xs
 len:n=nds.len
 new:∀b,rb a=some b→w0.heap.size≤b
theorem JC.nil(e:TypeId)(w0 w:World):JC e w0 w none 0 0 .nil:=⟨⟨[],Fx _ _ _,tQ⟩,C,λ_ h=>by cases h⟩
theorem JC.ext{c:Nat}{nds:Nd}(h:JC e w0 w a n c nds)(d:AW w w'):JC e w0 w' a n c nds :=
 ⟨let ⟨xs,D,F⟩:=h.ex;⟨xs,D.ext d,F.ext d⟩,h.len,h.new⟩
theorem JC.chg{c:Nat}{nds:Nd}(h:JC e w0 w a n c nds)(d:Hc b w w')(G:b<w0.heap.size):JC e w0 w' a n c nds :=
 ⟨let ⟨xs,D,F⟩:=h.ex;⟨xs,D.chg d (λe=>by have:=h.new b e;omega),F.chg d (λe=>by omega)⟩,h.len,h.new⟩
theorem JC.nds{c:Nat}{nds:Nd}(h:JC e w0 w a n c nds):GO (λb=>w0.heap.size≤b) w a n c nds:=by
 obtain⟨xs,D,G⟩:=h.ex;refine⟨h.len,D.n_le,?_⟩;rcases D.2 with ⟨_,_,d⟩|⟨b,l,F,J,O,_,Q,K⟩
 · exact .inl d
 · refine .inr ⟨b,0,l,e,h.new b (by rw[F];rfl),F,J,?_⟩
   have d:=Fy.more nds xs (l.drop (n*6)) (G.mono λ_ L=>L.1);rw[List.drop_zero,← List.take_append_drop (n*6) l,K];exact d
theorem JC.step{c:Nat}{nds:Nd}{op:Int}{tx:lU}{kids:Nd}
   (J:BQ w e 6 a c n xs) (O:Fy (λb=>w0.heap.size≤b∧some b≠rb a) w nds xs) (hlen:n=nds.len) (K:∀b,rb a=some b→w0.heap.size≤b)
   (Q:GO (λb=>w1.heap.size≤b) w ka kn kc kids) (W:w0.heap.size≤w1.heap.size) (Y:w1.heap.size≤w.heap.size) (Z:∀b,rb a=some b→b<w1.heap.size)
   (hr:BQ w' e 6 a' c' (n+1) (xs++[.int .i64 op,.int .i64 ln,.int .i64 co,S tx,.int .i64 nm,.slice ka kn kc])) (L:FE a w a' w') :
   JC e w0 w' a' (n+1) c' (nds.app (.cons op ln co tx nm kids .nil)):=by
 have h:∀b,rb a'=some b→w0.heap.size≤b:=λb d=>by
   rcases L.own with D|D
   · exact K b (by rw[← D];exact d)
   · rw[D] at d;cases d;omega
 have hold:∀b,(w0.heap.size≤b∧some b≠rb a)→b<w.heap.size→(w0.heap.size≤b∧some b≠rb a')∧w'.heap[b]?=w.heap[b]?:=λb d F=>by
   refine⟨⟨d.1,?_⟩,L.block b F d.2⟩;rcases L.own with D|D
   · rw[D];exact d.2
   · rw[D];intro e;cases e;omega
 have G:GO (λb=>w0.heap.size≤b∧some b≠rb a') w' ka kn kc kids:=GO.imp Q λb d F=>by
   refine hold b ⟨oM,λe=>?_⟩ F;have:=Z b e.symm;omega
 refine⟨⟨_,hr,Fy.app nds _ xs _ (Fy.imp hold nds xs O) (by rw[J.1,hlen]) ⟨ka,kn,kc,[],C,G,tQ⟩⟩,by rw[Nd.len_app,hlen];rfl,h⟩
def RG(T:TypeId)(e:Int×Int):List PanicEntry:=[{v:=.iface T (.agg #[.int .i64 e.1,.int .i64 e.2]),recovered:=false}]
end Go.SP
namespace Go.SP
open Go.SW Go.RowKit
def Nd.drop:Nat→Nd→Nd
 |0,x=>x
 |_+1,.nil=>.nil
 |n+1,.cons _ _ _ _ _ _ r=>Nd.drop n r
theorem Nd.drop_lt:∀(i:Nat)(x:Nd),i<x.len→∃op ln co tx nm kids,x.drop i=.cons op ln co tx nm kids (x.drop (i+1))
 |0,.cons op ln co tx nm kids r,_=>⟨op,ln,co,tx,nm,kids,by simp[Nd.drop]⟩
 |i+1,.cons _ _ _ _ _ _ r,h=>by
   obtain⟨op,ln,co,tx,nm,kids,e⟩:=Nd.drop_lt i r (by simp[Nd.len] at h;omega);exact⟨op,ln,co,tx,nm,kids,by simpa[Nd.drop] using e⟩
theorem Nd.drop_len:∀(x:Nd),x.drop x.len=.nil
 |.nil=>rfl
 |.cons _ _ _ _ _ _ r=>by simp[Nd.len,Nd.drop,Nd.drop_len r]
variable {co ln nm:Int}{i n:Nat}{U:Nat→Prop}{a:Option Addr}{w:World}
theorem Fy.dropc:∀(i:Nat)(x:Nd)(l:List Value),Fy U w x l→Fy U w (x.drop i) (l.drop (i*6))
 |0,x,l,h=>by simpa[Nd.drop] using h
 |i+1,.nil,l,h=>trivial
 |i+1,.cons _ _ _ _ _ _ r,l,⟨a,n,c,d,D,G,F⟩=>by
   have:=Fy.dropc i r d F;rw[show (i+1)*6=6+i*6 by omega,← List.drop_drop,D];exact this
theorem GO.get{c:Nat}{nds:Nd}(h:GO U w a n c nds)(i:Nat)(L:i<n):∃b off l T op ln co tx nm kids ka kn kc d,U b∧a=some ⟨b,off,none⟩∧AS w b l T ∧
   nds.drop i=.cons op ln co tx nm kids (nds.drop (i+1)) ∧
   l.drop (off+i*6)=.int .i64 op::.int .i64 ln::.int .i64 co::S tx::.int .i64 nm::.slice ka kn kc::d∧GO U w ka kn kc kids:=by
 obtain⟨O,Q,W|⟨b,off,l,T,hu,D,F,G⟩⟩:=h
 · omega
 · obtain⟨op,ln,co,tx,nm,kids,e⟩:=Nd.drop_lt i nds oM
   have:=Fy.dropc i nds _ G;rw[e,List.drop_drop] at this;obtain⟨ka,kn,kc,d,J,K,Y⟩:=this;exact⟨b,off,l,T,op,ln,co,tx,nm,kids,ka,kn,kc,d,hu,D,F,e,J,K⟩
theorem TB{t:Aq}{x:Nd}{op:Int}{tx:lU}{kids:Nd}(e:x.drop i=.cons op ln co tx nm kids (x.drop (i+1)))(h:i+1=x.len):Hq t (x.drop i)=some ⟨op,ln,co,tx,nm,kids⟩:=by
 rw[e,h,Nd.drop_len];rfl
theorem Tw{t:Aq}{x:Nd}{op:Int}{tx:lU}{kids:Nd}{o:N}(e:x.drop i=.cons op ln co tx nm kids (x.drop (i+1)))(h:Hq t (x.drop (i+1))=some o) :
   Hq t (x.drop i)=some (A3 t 32 [45,62] (.cons op ln co tx nm kids o.one)):=by
 rw[e]
 cases D:x.drop (i+1) with
 |nil=>rw[D] at h;cases h
 |cons a b c d f g r=>rw[D] at h;simp only[Hq] at h ⊢;rw[h]
end Go.SP
namespace Go.SP
open Go.SW Go.RowKit
theorem CE{f:Aq→Fo→R N}:∀{fo:Fo}{nds:Nd},AL f fo=.ok nds→nds.len=fo.len
 |.nil,nds,h=>by simp[AL] at h;subst h;rfl
 |.cons t k r,nds,h=>by
   unfold AL at h
   cases d:f t k with
   |error e=>rw[d] at h;cases h
   |ok a =>
     cases D:AL f r with
     |error e=>rw[d,D] at h;cases h
     |ok b =>
       rw[d,D] at h;injection h with h
       subst h;simp[N.cons,Nd.len,Fo.len,CE D]
variable {σ:Ba}{kk:IntKind}{b k off:Nat}{x:Operand}{P:Program}{T e ty:TypeId}{w:World}
theorem Ei{y:Operand}{z:Int}(i:Nat){len cap:Nat}(d:ev σ x=some (.slice (some ⟨b,off,none⟩) len cap))(h:ev σ y=some (.int kk z))(hz:z=(i:Int))(D:Hj P T=some (e,k))
   (F:i<len):AK P σ (.indexAddr T x y) ty w (.pointer (some ⟨b,off+i*k,none⟩)) w:=by
 subst hz;exact Me d h D F
end Go.SP
namespace Go.SP
open Go.SW Go.RowKit
structure K1(m:Nat)(w w':wO):Prop where
 os:w'.os=w.os
 tape:w'.tape=w.tape
 output:w'.output=w.output
 size:w.heap.size≤w'.heap.size
 block:∀k,k<w.heap.size→k≠m→w'.heap[k]?=w.heap[k]?
theorem K1.refl(m:Nat)(w:wO):K1 m w w:=⟨C,C,C,Nat.le_refl _,λ_ _ _=>C⟩
variable {b:Nat}{w1 w2:wO}
theorem K1.trans{m:Nat}{w:wO}(h:K1 m w w1)(D:AW w1 w2):K1 m w w2 :=
 ⟨D.os.trans h.os,D.tape.trans h.tape,D.output.trans h.output,Nat.le_trans h.size D.size,λk F G=>(D.block k (Nat.lt_of_lt_of_le F h.size)).trans (h.block k F G)⟩
theorem K1.trans2{m:Nat}{w:wO}(h:K1 m w w1)(D:K1 m w1 w2):K1 m w w2 :=
 ⟨D.os.trans h.os,D.tape.trans h.tape,D.output.trans h.output,Nat.le_trans h.size D.size,λk F G=>(D.block k (Nat.lt_of_lt_of_le F h.size) G).trans (h.block k F G)⟩
theorem K1.chg{m:Nat}{w:wO}(h:K1 m w w1)(D:Hc b w1 w2)(J:w.heap.size≤b∨b=m):K1 m w w2 :=
 ⟨D.os.trans h.os,D.tape.trans h.tape,D.output.trans h.output,by rw[D.size];exact h.size,λk F G=>(D.block k oM).trans (h.block k F G)⟩
end Go.SP
namespace Go.SW
open Go.SP Go.RowKit
variable {l:lV}{b:Nat}{w':wO}
theorem AS.exb{m:Nat}{w:wO}{T:tI}(h:AS w b l T)(F:K1 m w w')(D:b≠m):AS w' b l T:=(F.block b h.lt D).trans h
end Go.SW
namespace Go.SP
open Go.SW Go.RowKit
variable {co ln nm:Int}{b i:Nat}{U:Nat→Prop}{a:oA}{w' w0:wO}
theorem GO.exb{m:Nat}{w:wO}{n c:Nat}{nd:Nd}(h:GO U w a n c nd)(D:K1 m w w')(hm:¬U m):GO U w' a n c nd:=GO.imp h λk hu F=>⟨hu,D.block k F (λe=>hm (e▸hu))⟩
theorem K1.ext{m:Nat}{w:wO}(h:K1 m w w')(D:AW w0 w)(hm:w0.heap.size≤m):AW w0 w' :=
 ⟨h.os.trans D.os,h.tape.trans D.tape,h.output.trans D.output,Nat.le_trans D.size h.size,λk F=>(h.block k (Nat.lt_of_lt_of_le F D.size) oM).trans (D.block k F)⟩
def SD(w:wO)(m:Nat)(seen:List lU):Prop :=
 ∃(es:List MapEntry)(clock:Nat),w.heap[m]?=some (.map es.toArray clock)∧es.map (λe=>(e.key,e.val))=seen.reverse.map λs=>(S s,Value.bool true)
theorem SD.lt{w:wO}{m:Nat}{seen:List lU}(h:SD w m seen):m<w.heap.size:=by
 obtain⟨es,c,F,_⟩:=h;rcases Nat.lt_or_ge m w.heap.size with D | D
 · exact D
 · rw[Array.getElem?_eq_none D] at F;cases F
theorem SD.ext{w:wO}{m:Nat}{seen:List lU}(h:SD w m seen)(D:AW w w'):SD w' m seen:=let ⟨es,c,F,G⟩:=h;⟨es,c,(D.block m h.lt).trans F,G⟩
theorem SD.chg{w:wO}{m:Nat}{seen:List lU}(h:SD w m seen)(F:Hc b w w')(D:m≠b):SD w' m seen:=let ⟨es,c,G,J⟩:=h;⟨es,c,(F.block m D).trans G,J⟩
section
variable{P:Program}{n:Nat}{Q:AV}{σ:Ba}{ds:List Deferred}{w:wO}{ops:Array Oper}{ty T:tI}{pos:String}{af:Array Edge}{rest:List Oper}{d m:Nat}{x y z:Operand}{tx:lU}{seen:List lU}
theorem JJ{k:tI}{b:Bool}{v:Value}(h:P.underlying k=some .string):(Instr.checkKey b 10000 k v).run P w=.ok () w:=by
 rw[Instr.checkKey];simp[run_underlying h]
end
theorem O5(s:List lU)(op ln co:Int)(tx:lU)(nm:Int)(kids rest:Nd):B1 s (.cons op ln co tx nm kids rest)=match B1 s (.cons op ln co tx nm kids .nil) with|none=>none|some s2=>B1 s2 rest:=by
 simp only[B1]
 cases (if op==22 then (if s.contains tx then none else some (tx::s)) else some s) with
 |none=>rfl
 |some s1 =>
   simp only
   cases B1 s1 kids <;> rfl
def Nd.size:Nd→Nat
 |.nil=>0
 |.cons _ _ _ _ _ kids rest=>kids.size+rest.size+1
def Nd.ok:Nd→Prop
 |.nil=>True
 |.cons _ _ _ _ _ kids rest=>kids.len≤100000∧kids.ok∧rest.ok
def N.ok(nd:N):Prop:=nd.kids.len≤100000∧nd.kids.ok
theorem Nd.ok_drop:∀(i:Nat)(x:Nd),x.ok→(x.drop i).ok
 |0,_,h=>h
 |_+1,.nil,h=>h
 |i+1,.cons _ _ _ _ _ _ r,h=>Nd.ok_drop i r h.2.2
theorem Nd.ok.get{x:Nd}(h:x.ok){op:Int}{tx:lU}{kids rest:Nd}(e:x.drop i=.cons op ln co tx nm kids rest):N.ok ⟨op,ln,co,tx,nm,kids⟩:=by
 have:=Nd.ok_drop i x h;rw[e] at this;exact⟨this.1,this.2.1⟩
end Go.SP
namespace Go.SW
variable {bs:List Nat}{a a':Option Addr}{w w' w2:World}
theorem A4.grow(h:A4 w bs w')(D:FE a w' a' w2)(F:∀c,c∈bs→some c≠rb a):A4 w bs w2 :=
 λc d=>⟨Nat.lt_of_lt_of_le (h c d).1 D.size,(D.block c (h c d).1 (F c d)).trans (h c d).2⟩
end Go.SW
namespace Go.SP
open Go.SW Go.RowKit
variable {t0 t1:Aq}{co ln nm:Int}{xs ys:List Value}{c' kc kn n:Nat}{U:Nat→Prop}{a a' ka:Option Addr}{e:TypeId}{w w' w0:World}
theorem Ee.two{c:Nat}{k0 k1 r:Fo}(h:Ee U w a n c (.cons t0 k0 (.cons t1 k1 r))):∃b off l T a0 n0 c0 a1 d D J,U b∧a=some ⟨b,off,none⟩∧AS w b l T ∧
   l.drop off=.int .i64 t0.k::.int .i64 t0.ln::.int .i64 t0.co::.int .i64 t0.nm::S t0.tx::.slice a0 n0 c0::.int .i64 t1.k::.int .i64 t1.ln::.int .i64 t1.co::.int .i64 t1.nm::S t1.tx::.slice a1 d D::J ∧
   Ee U w a0 n0 c0 k0∧Ee U w a1 d D k1∧GN U w r J:=by
 obtain⟨b,off,l,T,a0,n0,c0,Z,K,L,O,hd,F,a1,d,D,Q,W,G,Y⟩:=Ee.head h;exact⟨b,off,l,T,a0,n0,c0,a1,d,D,Q,K,L,O,by rw[hd,W],F,G,Y⟩
theorem Ee.three{c:Nat}{t2:Aq}{k0 k1 k2 r:Fo}(h:Ee U w a n c (.cons t0 k0 (.cons t1 k1 (.cons t2 k2 r)))):∃b off l T a0 n0 c0 a1 d D a2 F c2 L,U b∧a=some ⟨b,off,none⟩∧AS w b l T ∧
   l.drop off=.int .i64 t0.k::.int .i64 t0.ln::.int .i64 t0.co::.int .i64 t0.nm::S t0.tx::.slice a0 n0 c0::.int .i64 t1.k::.int .i64 t1.ln::.int .i64 t1.co::.int .i64 t1.nm::S t1.tx::.slice a1 d D ::
     .int .i64 t2.k::.int .i64 t2.ln::.int .i64 t2.co::.int .i64 t2.nm::S t2.tx::.slice a2 F c2::L ∧
   Ee U w a0 n0 c0 k0∧Ee U w a1 d D k1∧Ee U w a2 F c2 k2∧GN U w r L:=by
 obtain⟨b,off,l,T,a0,n0,c0,a1,d,D,l1,O,Q,W,hd,G,J,a2,F,c2,Y,Z,K,hr⟩:=Ee.two h;exact⟨b,off,l,T,a0,n0,c0,a1,d,D,a2,F,c2,Y,O,Q,W,by rw[hd,Z],G,J,K,hr⟩
theorem LF:∀(n:Nat)(d:Fo),d.deep n=true→d.deep (n+1)=true
 |_,.nil,_=>by simp[Fo.deep]
 |0,.cons _ _ _,h=>by simp[Fo.deep] at h
 |n+1,.cons t k r,h=>by
   simp only[Fo.deep,Bool.and_eq_true] at h ⊢;exact⟨LF n k h.1,by have:=LF (n+1) r h.2;exact this⟩
theorem RQ{t:Aq}{k:Fo}(h:DP n t k):DP (n+1) t k:=⟨h.1,h.2.1,h.2.2.1,LF n k h.2.2.2⟩
theorem Du{t:Aq}{k:Fo}(h:DP (n+1) t k):k.all (DP n):=HJ n k h.2.1 h.2.2.2
theorem Fy.one:∀(x:Nd)(l:List Value),Fy U w x l→l.length=x.len*6→∀v∈l,v.oneCell'=true
 |.nil,l,_,h,v,d=>by
   have:l=[]:=List.eq_nil_of_length_eq_zero (by simpa[Nd.len] using h);subst this;cases d
 |.cons _ _ _ _ _ kids rest,l,⟨a,n,c,D,F,J,G⟩,h,v,d=>by
   subst F;simp only[List.mem_cons] at d;rcases d with rfl|rfl|rfl|rfl|rfl|rfl|d
   all_goals first|rfl|exact Fy.one rest D G (by simp[Nd.len] at h;omega) v d
theorem JC.lit{s:Nat}{op:Int}{tx:lU}{kids:Nd}(d:AS w s [.int .i64 op,.int .i64 ln,.int .i64 co,S tx,.int .i64 nm,.slice ka kn kc] e)(h:w0.heap.size≤s)
   (D:GO (λb=>w0.heap.size≤b∧b≠s) w ka kn kc kids):JC e w0 w (some ⟨s,0,none⟩) 1 1 (.cons op ln co tx nm kids .nil) :=
 ⟨⟨_,⟨C,.inr ⟨s,_,C,d,Nat.le_refl _,by unfold maxLen;omega,C,C⟩⟩,ka,kn,kc,[],C,GO.mono D (λb d=>⟨d.1,λe=>d.2 (by cases e;rfl)⟩),tQ⟩,C,λb d=>by cases d;exact h⟩
theorem JC.join{c:Nat}{x y:Nd}{K:Nat→Prop}
   (G:BQ w e 6 a c n xs) (Q:Fy (λb=>w0.heap.size≤b∧some b≠rb a) w x xs) (hlen:n=x.len) (J:∀b,rb a=some b→w0.heap.size≤b)
   (W:Fy K w y ys) (Y:∀b,K b→w0.heap.size≤b∧some b≠rb a)  (Z:w0.heap.size≤w.heap.size)
   (hr:BQ w' e 6 a' c' (n+y.len) (xs++ys)) (L:FE a w a' w'):JC e w0 w' a' (n+y.len) c' (x.app y):=by
 have h:∀b,rb a'=some b→w0.heap.size≤b:=λb d=>by
   rcases L.own with D|D
   · exact J b (by rw[← D];exact d)
   · rw[D] at d;cases d;omega
 have hold:∀b,(w0.heap.size≤b∧some b≠rb a)→b<w.heap.size→(w0.heap.size≤b∧some b≠rb a')∧w'.heap[b]?=w.heap[b]?:=λb d F=>by
   refine⟨⟨d.1,?_⟩,L.block b F d.2⟩;rcases L.own with D|D
   · rw[D];exact d.2
   · rw[D];intro e;cases e;omega
 have O:=Fy.imp (U':=λb=>w0.heap.size≤b∧some b≠rb a') (w':=w') (λb (d:K b) F=>hold b (Y b d) F) y ys W;exact⟨⟨_,hr,Fy.app x y xs ys (Fy.imp hold x xs Q) (by rw[G.1,hlen]) O⟩,by rw[Nd.len_app,hlen],h⟩
end Go.SP
namespace Go.SW
open Go.SP
variable {bs:List Nat}{m:Nat}{w w' w2:World}
theorem A4.exb(h:A4 w bs w')(D:K1 m w' w2)(F:∀c,c∈bs→c≠m):A4 w bs w2 :=
 λc d=>⟨Nat.lt_of_lt_of_le (h c d).1 D.size,(D.block c (h c d).1 (F c d)).trans (h c d).2⟩
end Go.SW
namespace Go.SP
theorem Pf{f:Aq→Fo→R N}{p:Aq→Fo→Prop}(F:∀t k nd,p t k→f t k=.ok nd→nd.ok):∀{G:Fo}{nds:Nd},G.all p→AL f G=.ok nds→nds.ok
 |.nil,nds,_,h=>by simp[AL] at h;subst h;trivial
 |.cons t k r,nds,J,h=>by
   unfold AL at h
   cases d:f t k with
   |error e=>rw[d] at h;cases h
   |ok a =>
     cases D:AL f r with
     |error e=>rw[d,D] at h;cases h
     |ok b =>
       rw[d,D] at h;injection h with h
       subst h;have:=F t k a J.1 d;exact⟨this.1,this.2,Pf F J.2 D⟩
theorem YC:∀(n:Nat)(t:Aq)(k:Fo)(nd:N),DP n t k→D7 (n+1) t k=.ok nd→nd.ok:=by
 intro n
 induction n with
 |zero =>
   intro t k nd d h
   cases k with
   |cons a b c=>exact absurd d.2.2.2 (by simp[Fo.deep])
   |nil =>
     unfold D7 at h;simp only[JS,need] at h
     repeat' split at h
     all_goals first|(injection h with h;subst h;exact⟨by simp[A3,Nd.len],tQ⟩)|(cases h;done)|skip
     all_goals first|contradiction|(injection h with h;subst h;split <;> exact⟨by simp[A3,Nd.len],tQ⟩)
 |succ n G =>
   intro t k nd d h
   have key:∀(l:Fo)(F:Nd)(op:Int)(tx:lU),l.all (DP n)→l.len≤100000→AL (D7 (n+1)) l=.ok F→N.ok (A3 t op tx F):=λl F op tx J hlen he =>
     ⟨by have:=CE he;simp[A3];omega,Pf (p:=DP n) G J he⟩
   unfold D7 at h;simp only[JS,need] at h
   cases k with
   |nil =>
     repeat' split at h
     all_goals first|(injection h with h;subst h;exact⟨by simp[A3,Nd.len],tQ⟩)|(cases h;done)|skip
     all_goals first|contradiction|(injection h with h;subst h;split <;> exact⟨by simp[A3,Nd.len],tQ⟩)
   |cons a b c =>
     have D:=(Du d).2;have hlen:c.len≤100000:=by have:=d.2.2.1;simp only[Fo.len] at this;omega
     simp only at h
     repeat' split at h
     all_goals first|(injection h with h;subst h;first|exact key _ _ _ _ D hlen (by assumption)|exact⟨by simp[A3,Nd.len],tQ⟩)|(cases h;done)|skip
     all_goals first|contradiction|(injection h with h;subst h;split <;> exact⟨by simp[A3,Nd.len],tQ⟩)
end Go.SP
namespace Go.SP
theorem Fo.ok.all:∀{d:Fo},d.ok→d.all (λt _=>t.ok)
 |.nil,_=>trivial
 |.cons _ _ _,h=>⟨h.1,Fo.ok.all h.2.2.2⟩
theorem Fo.all_true:∀(d:Fo),d.all (λ_ _=>True)
 |.nil=>trivial
 |.cons _ _ r=>⟨tQ,Fo.all_true r⟩
end Go.SP
namespace Go.SP
open Go.SW Go.RowKit
end Go.SP
namespace Go.SP
open Go.SW Go.RowKit
variable {σ:Ba}{b k m off:Nat}{lo x:Operand}{P:Program}{T ty:TypeId}{w:World}
theorem ZA{e c:Nat}(h:ev σ x=some (.slice (some ⟨b,off,none⟩) (m+2) c))(d:ev σ lo=some (.int .i64 2))(D:Hj P T=some (e,k))(F:c≠2):AK P σ (.slice T x (some lo) none none) ty w (.slice (some ⟨b,off+2*k,none⟩) m (c-2)) w:=by
 have:=LH (w:=w) (ty:=ty) (i:=2) h (by simpa using d) D oM;rwa[if_neg F,Option.map_some,Ea,Nat.add_sub_cancel] at this
theorem Vy{v:Aq}{k r:Fo}(h:v.isTypeVar=false):Bx (.cons v k r)=none:=by simp[Bx,h]
theorem U3{v:Aq}{k r:Fo}{x:Nd}(h:v.isTypeVar=true)(d:Bx r=some x):Bx (.cons v k r)=some ((A3 v 31 v.tx .nil).cons x):=by simp[Bx,h,d]
theorem SN{v:Aq}{k r:Fo}(d:Bx r=none):Bx (.cons v k r)=none:=by simp[Bx,d]
def Yr:List (Aq×Fo)→lV
 | []=>[]
 |(o,_)::s=>Yr s++Ir o
theorem Ko:∀s,(Yr s).length=s.length*5
 | []=>rfl
 |(o,p)::s=>by simp[Yr,Ko s,Ir];omega
def lO(u:Nat→Nat)(w0:wO)(a:oA)(L:Nat):Prop:=∀b,rb a=some b→w0.heap.size≤b∧u b=L
def Fz(u:Nat→Nat)(w0:wO)(b:Nat):Prop:=w0.heap.size≤b∧u b=0
def Lv(eT:tI)(u:Nat→Nat)(w0 w:wO)(j:Nat)(a:oA)(c:Nat)(p:Fo):Prop :=
 ∃xs,BQ w eT 6 a c p.len xs∧GN (Fz u w0) w p xs∧lO u w0 a (3+j)
def yN(eT:tI)(u:Nat→Nat)(w0 w:wO):List (Aq×Fo)→lV→Prop
 | [],[]=>True
 |(_,p)::s,v::vs=>(∃a c,v=.slice a p.len c∧Lv eT u w0 w s.length a c p)∧yN eT u w0 w s vs
 |_,_=>False
structure SV(eT eK eS:tI)(u:Nat→Nat)(w0 w:wO)(so sl:List (Aq×Fo))(oa:oA)(oc:Nat)(sa:oA)(sc:Nat)(x:Value)(a:oA)(c:Nat)(p:Fo)(vs:lV)(ka:oA)(kn kc:Nat)(kf:Fo):Prop where
 o:BQ w eK 5 oa oc so.length (Yr so)
 ol:lO u w0 oa 1
 s:BQ w eS 1 sa sc (sl.length+1) (vs.reverse++[x])
 sla:lO u w0 sa 2
 top:Lv eT u w0 w sl.length a c p
 lv:yN eT u w0 w sl vs
 kid:Ee (Fz u w0) w ka kn kc kf
def Kp(L:Nat)(u u':Nat→Nat)(w0 w w':wO):Prop:=∀b,b<w.heap.size→w0.heap.size≤b→u b≠L→u' b=u b∧w'.heap[b]?=w.heap[b]?
section
variable{eT eK eS:tI}{u u':Nat→Nat}{w0 w w':wO}{L M:Nat}{a:oA}{c n:Nat}{p:Fo}
variable {xs:lV}{j:Nat}{U:Nat→Prop}{a':oA}{e:tI}
theorem BQ.kp(h:BQ w e k a c n xs)(d:lO u w0 a M)(F:Kp L u u' w0 w w')(G:M≠L):BQ w' e k a c n xs∧lO u' w0 a M:=by
 refine⟨⟨h.1,h.2.imp id λ⟨b,l,D,J,O⟩=>⟨b,l,D,((F b J.lt (d b (by rw[D];rfl)).1 (by rw[(d b (by rw[D];rfl)).2];exact G)).2).trans J,O⟩⟩,λb K=>?_⟩
 · have:=d b K
   exact⟨this.1,by rw[(F b (h.lt K) this.1 (by rw[this.2];exact G)).1];exact this.2⟩
theorem IV(D:Kp L u u' w0 w w')(F:0≠L):∀b,Fz u w0 b→b<w.heap.size→Fz u' w0 b∧w'.heap[b]?=w.heap[b]?:=λb d h=>by
 have:=D b h d.1 (by rw[d.2];exact F);exact⟨⟨d.1,this.1.trans d.2⟩,this.2⟩
theorem Lv.kp(h:Lv eT u w0 w j a c p)(d:Kp L u u' w0 w w')(D:0≠L)(F:3+j≠L):Lv eT u' w0 w' j a c p:=by
 obtain⟨xs,G,J,K⟩:=h;obtain⟨O,Q⟩:=BQ.kp G K d F;exact⟨xs,O,GN.imp (IV d D) p xs J,Q⟩
theorem yN.kp:∀{sl:List (Aq×Fo)}{vs:lV},yN eT u w0 w sl vs→Kp L u u' w0 w w'→0≠L→(∀j,j<sl.length→3+j≠L)→yN eT u' w0 w' sl vs
 | [],[],_,_,_,_=>trivial
 |(_,p)::s,v::vs,h,d,D,F=>⟨let ⟨a,c,G,J⟩:=h.1;⟨a,c,G,J.kp d D (F _ (by simp))⟩,yN.kp h.2 d D λj K=>F j (by simp;omega)⟩
 | [],_::_,h,_,_,_=>h.elim
 |_::_,[],h,_,_,_=>h.elim
theorem uT(d:AW w w'):Kp L u u w0 w w':=λb h _ _=>⟨C,d.block b h⟩
theorem Zk(d:Hc b w w')(h:u b=L):Kp L u u w0 w w':=λk _ _ D=>⟨C,d.block k (λe=>D (e▸h))⟩
def zF(u:Nat→Nat)(w:wO)(L:Nat)(b:Nat):Nat:=if b<w.heap.size then u b else L
theorem QO(h:FE a w a' w')(D:lO u w0 a L):Kp L u (zF u w L) w0 w w':=λb d _ F=>by
 refine⟨by simp[zF,d],h.block b d λe=>F (D b e.symm).2⟩
theorem NU(D:BQ w e k a c n xs)(F:FE a w a' w')(G:lO u w0 a L)(J:w0.heap.size≤w.heap.size):lO (zF u w L) w0 a' L:=λb d=>by
 rcases F.own with h|h
 · rw[h] at d
   have:=G b d;exact⟨this.1,by simp[zF,D.lt d,this.2]⟩
 · rw[h] at d;cases d
   exact⟨J,by simp[zF]⟩
theorem BQ.take(h:BQ w e k a c n xs)(hm:m≤n):BQ w e k a c m (xs.take (m*k)):=by
 refine⟨by rw[List.length_take,h.1];exact Nat.min_eq_left (Nat.mul_le_mul_right _ hm),h.2.imp (λh=>⟨h.1,h.2.1,oM⟩) λ⟨b,l,d,D,K,F,G,J⟩=>⟨b,l,d,D,oM,F,G,?_⟩⟩;rw[← J,List.take_take,Nat.min_eq_left (Nat.mul_le_mul_right _ hm)]
theorem GN.snoc{t:Aq}{k:Fo}{ka:oA}{kn kc:Nat}(h:Ee U w ka kn kc k):∀(p:Fo)(xs:lV),GN U w p xs→xs.length=p.len*6→GN U w (p.snoc t k) (xs++(Ir t++[.slice ka kn kc]))
 |.nil,xs,_,d=>by
   have:xs=[]:=List.eq_nil_of_length_eq_zero (by simpa[Fo.len] using d);subst this;exact⟨ka,kn,kc,[],C,h,tQ⟩
 |.cons t' K r,xs,⟨a,n,c,D,F,G,J⟩,d=>by
   subst F;exact⟨a,n,c,_,C,G,GN.snoc h r D J (by simp[Fo.len] at d;omega)⟩
theorem GN.init{t:Aq}{k:Fo}:∀(p:Fo)(xs:lV),GN U w (p.snoc t k) xs→GN U w p (xs.take (p.len*6))
 |.nil,_,_=>trivial
 |.cons t' G r,xs,⟨a,n,c,d,h,D,F⟩=>by
   subst h;refine⟨a,n,c,d.take (r.len*6),?_,D,GN.init r d F⟩;simp only[Fo.len];rw[show (r.len+1)*6=r.len*6+6 by omega];rfl
theorem Fo.len_snoc(t:Aq)(k:Fo):∀(p:Fo),(p.snoc t k).len=p.len+1
 |.nil=>rfl
 |.cons _ _ r=>by simp[Fo.snoc,Fo.len,Fo.len_snoc t k r]
end
section
variable{eT eK eS:tI}{u:Nat→Nat}{w0 w w':wO}{so sl:List (Aq×Fo)}{oa:oA}{oc:Nat}{sa:oA}{sc:Nat}{x:Value}{a:oA}{c:Nat}{p:Fo}{vs:lV}{ka:oA}{kn kc:Nat}{kf:Fo}
theorem SV.ext(h:SV eT eK eS u w0 w so sl oa oc sa sc x a c p vs ka kn kc kf)(d:AW w w'):SV eT eK eS u w0 w' so sl oa oc sa sc x a c p vs ka kn kc kf:=by
 have D:Kp 2 u u w0 w w':=uT d;exact⟨h.o.ext d,h.ol,h.s.ext d,h.sla,let ⟨xs,F,G,J⟩:=h.top;⟨xs,F.ext d,G.ext d,J⟩,h.lv.kp D dC (λj _=>by omega),Ee.ext h.kid d⟩
theorem SV.pushTok(h:SV eT eK eS u w0 w so sl oa oc sa sc x a c p vs ka kn kc kf)(k:Aq)(q:Fo){d:oA}{D:Nat}(J:BQ w' eK 5 d D (so.length+1) (Yr so++Ir k))(G:FE oa w d w')(K:w0.heap.size≤w.heap.size) :
   ∃u',SV eT eK eS u' w0 w' ((k,q)::so) sl d D sa sc x a c p vs ka kn kc kf:=by
 have F:=QO G h.ol;obtain⟨O,Q⟩:=BQ.kp h.s h.sla F dC;exact⟨_,J,NU h.o G h.ol K,O,Q,h.top.kp F dC oM,h.lv.kp F dC (λj _=>by omega),Ee.imp h.kid (IV F dC)⟩
theorem SV.pushLev(h:SV eT eK eS u w0 w so sl oa oc sa sc x a c p vs ka kn kc kf)(J:x=.slice a p.len c)(k:Aq){d:oA}{D:Nat}(K:BQ w' eS 1 d D (sl.length+1+1) (vs.reverse++[x]++[.slice none 0 0]))(G:FE sa w d w')(O:w0.heap.size≤w.heap.size) :
   ∃u',SV eT eK eS u' w0 w' so ((k,p)::sl) oa oc d D (.slice none 0 0) none 0 .nil (x::vs) ka kn kc kf:=by
 have F:=QO G h.sla;obtain⟨Q,W⟩:=BQ.kp h.o h.ol F dC;refine⟨_,Q,W,by simpa using K,NU h.s G h.sla O,⟨[],Fx _ _ _,tQ,λb Y=>by cases Y⟩,⟨⟨a,c,J,h.top.kp F dC oM⟩,h.lv.kp F dC (λj _=>by omega)⟩,Ee.imp h.kid (IV F dC)⟩
def rW(u:Nat→Nat)(L:Nat)(b:Nat):Nat:=if u b=L then 0 else u b
theorem SV.pop{o:Aq}{q:Fo}{so:List (Aq×Fo)}{y:Value}(h:SV eT eK eS u w0 w ((o,q)::so) ((o,q)::so) oa oc sa sc x a c p (y::vs) ka kn kc kf) :
   ∃u' a' c',y=.slice a' q.len c'∧SV eT eK eS u' w0 w so so oa oc sa sc y a' c' q vs a p.len c p:=by
 have d:Kp (3+((o,q)::so).length) u (rW u (3+((o,q)::so).length)) w0 w w:=λb _ _ D=>⟨by simp only[rW,if_neg D],C⟩;obtain⟨⟨a',c',Q,W⟩,Y⟩:=h.lv;obtain⟨xs,t1,t2,t3⟩:=h.top;have G:=BQ.take (m:=so.length) h.o (by simp);have J:=BQ.take (m:=so.length+1) h.s (by simp);have Z:(Yr ((o,q)::so)).take (so.length*5)=Yr so:=by rw[Yr,← Ko so];exact List.take_left
 have F:(y::vs).length=so.length+1:=by
   have:=h.s.1;simp at this;simp;omega
 have e2:((y::vs).reverse++[x]).take ((so.length+1)*1)=vs.reverse++[y]:=by
   rw[List.reverse_cons,Nat.mul_one,← F];have:(vs.reverse++[y]).length=(y::vs).length:=by simp
   rw[← this];exact List.take_left
 rw[Z] at G;rw[e2] at J;obtain⟨o1,o2⟩:=BQ.kp G h.ol d (by simp only[List.length_cons];omega);obtain⟨s1,s2⟩:=BQ.kp J h.sla d (by simp only[List.length_cons];omega);refine⟨_,a',c',Q,o1,o2,s1,s2,W.kp d (by simp only[List.length_cons];omega) (by simp only[List.length_cons];omega),Y.kp d (by simp only[List.length_cons];omega) (λj hj=>by simp only[List.length_cons];omega),⟨C,t1.n_le,?_⟩⟩;rcases t1.2 with ⟨_,_,h0⟩|⟨b,l,K,D,_,_,_,ht⟩
 · exact .inl h0
 · have O:=t3 b (by rw[K];rfl)
   refine .inr ⟨b,0,l,eT,⟨O.1,by simp only[rW,O.2,if_true]⟩,K,D,?_⟩;rw[List.drop_zero,← List.take_append_drop (p.len*6) l,ht];exact GN.more p xs _ (GN.imp (IV d (by simp only[List.length_cons];omega)) p xs t2)
variable {t0:Aq}{kf0:Fo}{l xs:lV}{c' c1 n1 o sb:Nat}{a':oA}
theorem SV.app(h:SV eT eK eS u w0 w so sl oa oc sa sc x a c p vs ka kn kc kf)(d:BQ w eT 6 a c p.len xs)(G:GN (Fz u w0) w p xs)(F:lO u w0 a (3+sl.length))(t:Aq){k1:oA}(K:Ee (Fz u w0) w k1 n1 c1 kf0)
     (O:BQ w' eT 6 a' c' (p.len+1) (xs++(Ir t++[.slice k1 n1 c1]))) (J:FE a w a' w') (Q:w0.heap.size≤w.heap.size) :
   ∃u',SV eT eK eS u' w0 w' so sl oa oc sa sc x a' c' (p.snoc t kf0) vs ka kn kc kf:=by
 have D:=QO J F;obtain⟨W,Y⟩:=BQ.kp h.o h.ol D oM;obtain⟨s1,s2⟩:=BQ.kp h.s h.sla D oM;refine⟨_,W,Y,s1,s2,⟨_,by rw[Fo.len_snoc];exact O,GN.snoc (Ee.imp K (IV D oM)) p xs (GN.imp (IV D oM) p xs G) d.1,NU d J F Q⟩,h.lv.kp D oM (λj _=>by omega),Ee.imp h.kid (IV D oM)⟩
theorem SV.sblk(h:SV eT eK eS u w0 w so sl oa oc sa sc x a c p vs ka kn kc kf):∃sb l,sa=some ⟨sb,0,none⟩∧AS w sb l eS∧l[sl.length]?=some x∧sl.length+1≤l.length∧w0.heap.size≤sb∧u sb=2:=by
 rcases h.s.2 with ⟨_,_,D⟩|⟨b,l,d,F,K,O,Q,G⟩
 · cases D
 · have J:=h.sla b (by rw[d];rfl)
   have hlen:=h.s.1;refine⟨b,l,d,F,?_,oM,J⟩
   have e:(vs.reverse++[x])[sl.length]?=some x:=by
     have:vs.length=sl.length:=by simp at hlen;omega
     simp[← this]
   rw[← G,List.getElem?_take,if_pos (by omega)] at e;exact e
theorem P2{vs:lV}(h:o+vs.length≤l.length):(DT l o vs).take (o+vs.length)=l.take o++vs:=by
 rw[MT vs l o h];have:(l.take o++vs).length=o+vs.length:=by rw[List.length_append,List.length_take];omega
 rw[← this];exact List.take_left
theorem SV.cell(h:SV eT eK eS u w0 w so sl oa oc sa sc x a c p vs ka kn kc kf){y:Value}(d:sa=some ⟨sb,0,none⟩)(O:AS w sb l eS)(F:AS w' sb (DT l sl.length [y]) eS)(Q:Hc sb w w') :
   SV eT eK eS u w0 w' so sl oa oc sa sc y a c p vs ka kn kc kf:=by
 have D:Kp 2 u u w0 w w':=Zk Q (h.sla sb (by rw[d];rfl)).2;obtain⟨W,Y⟩:=BQ.kp h.o h.ol D dC;refine⟨W,Y,⟨by have:=h.s.1;simpa using this,?_⟩,h.sla,h.top.kp D dC oM,h.lv.kp D dC (λj _=>by omega),Ee.imp h.kid (IV D dC)⟩;rcases h.s.2 with ⟨_,_,Z⟩|⟨b,l1,K,G,h1,h2,h3,h4⟩
 · cases Z
 · rw[d] at K;cases K
   have J:l=l1:=by have:=O.symm.trans G;simpa using this
   subst J;have hle:sl.length+[y].length≤l.length:=by simp only[List.length_singleton];omega
   refine .inr ⟨sb,_,d,F,h1,h2,by rw[FF];exact h3,?_⟩;have:=P2 hle;rw[Nat.mul_one];rw[List.length_singleton] at this;rw[this]
   have e:(vs.reverse++[x]).take sl.length=vs.reverse:=by
     have hv:vs.reverse.length=sl.length:=by have:=h.s.1;simp at this;simp;omega
     rw[← hv];exact List.take_left
   rw[← e,← h4,List.take_take,Nat.mul_one,Nat.min_eq_left (by omega)]
theorem SV.tblk{t:Aq}{k:Fo}(h:SV eT eK eS u w0 w so sl oa oc sa sc x a c (p.snoc t k) vs ka kn kc kf):∃b l,a=some ⟨b,0,none⟩∧AS w b l eT∧(p.len+1)*6≤l.length∧w0.heap.size≤b∧u b=3+sl.length:=by
 obtain⟨xs,d,Q,F⟩:=h.top;rw[Fo.len_snoc] at d;rcases d.2 with ⟨_,_,G⟩|⟨b,l,D,J,K,_,O,_⟩
 · cases G
 · exact⟨b,l,D,J,by rw[O];exact Nat.mul_le_mul_right _ K,F b (by rw[D];rfl)⟩
theorem SV.last{k0:Fo}(h:SV eT eK eS u w0 w so sl oa oc sa sc x a c (p.snoc t0 k0) vs ka kn kc kf)(G:a=some ⟨b,0,none⟩)(Y:AS w b l eT)(t:Aq){k1:oA}(Z:Ee (Fz u w0) w k1 n1 c1 kf0)
   (J:AS w' b (DT l (p.len*6) (Ir t++[.slice k1 n1 c1])) eT) (hC:Hc b w w'):SV eT eK eS u w0 w' so sl oa oc sa sc x a c (p.snoc t kf0) vs ka kn kc kf:=by
 obtain⟨xs,F,h2,W⟩:=h.top;have K:=(W b (by rw[G];rfl)).2;have d:Kp (3+sl.length) u u w0 w w':=Zk hC K;obtain⟨o1,o2⟩:=BQ.kp h.o h.ol d oM;obtain⟨s1,s2⟩:=BQ.kp h.s h.sla d oM;rw[Fo.len_snoc] at F;refine⟨o1,o2,s1,s2,⟨xs.take (p.len*6)++(Ir t++[.slice k1 n1 c1]),?_,?_,W⟩,h.lv.kp d oM (λj _=>by omega),Ee.imp h.kid (IV d oM)⟩
 · rw[Fo.len_snoc]
   refine⟨by rw[List.length_append,List.length_take,F.1];simp[Ir];omega,?_⟩;rcases F.2 with ⟨_,_,h0⟩|⟨b1,l1,D,O,h4,h5,h6,h7⟩
   · cases h0
   · rw[G] at D;cases D
     have Q:l=l1:=by have:=Y.symm.trans O;simpa using this
     subst Q;refine .inr ⟨b,_,G,J,h4,h5,by rw[FF];exact h6,?_⟩;have hle:p.len*6+(Ir t++[Value.slice k1 n1 c1]).length≤l.length:=by simp[Ir];omega
     have:=P2 hle;have e:p.len*6+(Ir t++[Value.slice k1 n1 c1]).length=(p.len+1)*6:=by simp[Ir];omega
     rw[e] at this;rw[this,← h7,List.take_take,Nat.min_eq_left (by omega)]
 · exact GN.snoc (Ee.imp Z (IV d oM)) p _ (GN.imp (IV d oM) p _ (GN.init p xs h2)) (by rw[List.length_take,F.1];omega)
end
end Go.SP
namespace Go.SW
open Go.RowKit
section
variable{P:Program}{n:Nat}{Q:AV}{σ:Ba}{ds:List Deferred}{w:wO}{ops:Array Oper}{ty T T':tI}{pos:String}{af:Array Edge}{rest:List Oper}{b off k:Nat}{x y:Operand}{l:lV}
theorem BM{v:Value}{vs:lV}{a:Bool}(D:ev σ x=some (.pointer (some ⟨b,off,none⟩)))(F:ev σ y=some v)(G:Hm v=some vs)(J:AT P T=some (a,k))(K:Nat.beq vs.length k=true)
   (d:AS w b l T') (L:MB vs=true) (O:off+vs.length≤l.length)
   (h:∀w',AS w' b (DT l off vs) T'→Hc b w w'→Gd P n ops Q rest σ ds w'):Gd P n ops Q (⟨none,.store T x y,ty,pos,af,none⟩::rest) σ ds w :=
 IP (O6 D F (Gk G) J K d L O) (h _ (setRow_heap w b _ _ T' _ d) (OC w b _))
variable {hi:Operand}{e:tI}
theorem W2{k1:IntKind}{z:Int}(i:Nat){a:oA}{len cap:Nat}(D:ev σ x=some (.slice a len cap))(d:ev σ hi=some (.int k1 z))(hz:z=(i:Int))
   (F:Hj P T=some (e,k)) (h:i≤cap):AK P σ (.slice T x none (some hi) none) ty w (.slice a i cap) w:=by
 subst hz;exact Wf D d F h
end
end Go.SW
namespace Go.SP
open Go.SW Go.RowKit
def EK:List Aq→lV
 | []=>[]
 |t::l=>Ir t++EK l
theorem Lb:∀l,(EK l).length=l.length*5
 | []=>rfl
 |t::l=>by simp[EK,Lb l,Ir];omega
theorem Gs:∀l m,EK (l++m)=EK l++EK m
 | [],_=>rfl
 |t::l,m=>by simp[EK,Gs l m]
variable {t0:Aq}{kf0:Fo}{xs ys:lV}{c1 i n1 sb:Nat}{e:tI}
theorem HU{l:lV}{n:Nat}(h:l.take n=xs++ys):l.drop xs.length=ys++l.drop n:=by
 have d:=List.take_append_drop n l;rw[h,List.append_assoc] at d;rw[← d];have D:(xs++(ys++l.drop n)).drop xs.length=ys++l.drop n:=List.drop_left;rw[d] at D ⊢;exact D
theorem vF{w:wO}{a:oA}{c:Nat}{pre rest:List Aq}{k:Aq}(h:BQ w e 5 a c (pre++k::rest).length (EK (pre++k::rest)))(hi:pre.length=i) :
   ∃b l D,a=some ⟨b,0,none⟩∧AS w b l e∧l.drop (0+i*5)=.int .i64 k.k::.int .i64 k.ln::.int .i64 k.co::.int .i64 k.nm::S k.tx::D:=by
 rcases h.2 with ⟨_,_,F⟩|⟨b,l,G,J,_,_,_,d⟩
 · simp at F
 · rw[Gs,EK] at d
   have:=HU d;rw[Lb,hi] at this;exact⟨b,l,_,G,J,by rw[Nat.zero_add,this];rfl⟩
section
variable{eT eK eS:tI}{u:Nat→Nat}{w0 w w':wO}{so sl:List (Aq×Fo)}{oa:oA}{oc:Nat}{sa:oA}{sc:Nat}{x:Value}{a:oA}{c:Nat}{p:Fo}{vs:lV}{ka:oA}{kn kc:Nat}{kf:Fo}
theorem SV.oblk{o:Aq}{q:Fo}{s:List (Aq×Fo)}(h:SV eT eK eS u w0 w ((o,q)::s) sl oa oc sa sc x a c p vs ka kn kc kf):∃b l D,oa=some ⟨b,0,none⟩∧AS w b l eK ∧
   l.drop (0+s.length*5)=.int .i64 o.k::.int .i64 o.ln::.int .i64 o.co::.int .i64 o.nm::S o.tx::D:=by
 rcases h.o.2 with ⟨_,_,F⟩|⟨b,l,G,J,_,_,_,d⟩
 · cases F
 · rw[Yr] at d
   have:=HU d;rw[Ko] at this;exact⟨b,l,_,G,J,by rw[Nat.zero_add,this];rfl⟩
theorem SS:∀(o:Aq×Fo)(s:List (Aq×Fo)),∃q d,(o::s).getLast?=some q∧Yr (o::s)=Ir q.1++d
 |o,[]=>⟨o,[],C,by simp[Yr]⟩
 |o,h::s=>by
   obtain⟨q,d,D,F⟩:=SS h s;refine⟨q,d++Ir o.1,by rw[List.getLast?_cons_cons];exact D,?_⟩;show Yr (h::s)++Ir o.1=_;rw[F,List.append_assoc]
theorem SV.oblk0{o:Aq×Fo}{s:List (Aq×Fo)}(h:SV eT eK eS u w0 w (o::s) sl oa oc sa sc x a c p vs ka kn kc kf):∃b l d t f,oa=some ⟨b,0,none⟩∧AS w b l eK∧(o::s).getLast?=some (t,f) ∧
   l.drop (0+0*5)=.int .i64 t.k::.int .i64 t.ln::.int .i64 t.co::.int .i64 t.nm::S t.tx::d:=by
 obtain⟨⟨t,f⟩,d,F,G⟩:=SS o s;rcases h.o.2 with ⟨_,_,J⟩|⟨b,l,K,L,_,_,_,D⟩
 · cases J
 · refine⟨b,l,d++l.drop ((o::s).length*5),t,f,K,L,F,?_⟩
   rw[G] at D;exact HU (xs:=[]) D
theorem SV.knil(h:SV eT eK eS u w0 w so sl oa oc sa sc x a c p vs ka kn kc kf):SV eT eK eS u w0 w so sl oa oc sa sc x a c p vs none 0 0 .nil:={h with kid:=Ee.nil _ _ _ _}
theorem SV.olt(h:SV eT eK eS u w0 w so sl oa oc sa sc x a c p vs ka kn kc kf):∀b,rb oa=some b→b<w.heap.size:=λ_ d=>h.o.lt d
theorem SV.slt(h:SV eT eK eS u w0 w so sl oa oc sa sc x a c p vs ka kn kc kf):∀b,rb sa=some b→b<w.heap.size:=λ_ d=>h.s.lt d
theorem SV.tlt(h:SV eT eK eS u w0 w so sl oa oc sa sc x a c p vs ka kn kc kf):∀b,rb a=some b→b<w.heap.size:=λ_ d=>let ⟨_,D,_⟩:=h.top;D.lt d
theorem SV.start{b:Nat}(d:AS w b [.slice none 0 0] eS)(D:w0.heap.size≤b):SV eT eK eS (λ_=>2) w0 w [] [] none 0 (some ⟨b,0,none⟩) 1 (.slice none 0 0) none 0 .nil [] none 0 0 .nil :=
 ⟨Fx _ _ _,(λ_ h=>by cases h),⟨C,.inr ⟨b,_,C,d,Nat.le_refl _,by unfold maxLen;omega,C,C⟩⟩,(λc F=>by cases F;exact⟨D,C⟩),⟨[],Fx _ _ _,tQ,(λ_ h=>by cases h)⟩,tQ,Ee.nil _ _ _ _⟩
theorem SV.out(h:SV eT eK eS u w0 w so sl oa oc sa sc x a c p vs ka kn kc kf):Ee (λb=>w0.heap.size≤b) w a p.len c p:=by
 obtain⟨xs,t1,t2,t3⟩:=h.top;refine⟨C,t1.n_le,?_⟩;rcases t1.2 with ⟨_,_,F⟩|⟨b,l,D,d,_,_,_,G⟩
 · exact .inl F
 · have J:=t3 b (by rw[D];rfl)
   refine .inr ⟨b,0,l,eT,J.1,D,d,?_⟩;rw[List.drop_zero,← List.take_append_drop (p.len*6) l,G];exact GN.more p xs _ (GN.imp (λb d _=>⟨d.1,C⟩) p xs t2)
theorem SV.cell'(h:SV eT eK eS u w0 w so sl oa oc sa sc x a c p vs ka kn kc kf){l:lV}{y:Value}(d:sa=some ⟨sb,0,none⟩)(F:AS w sb l eS)(D:AS w' sb (DT l (0+sl.length*1) [y]) eS)(G:Hc sb w w') :
   SV eT eK eS u w0 w' so sl oa oc sa sc y a c p vs ka kn kc kf:=h.cell d F (by rwa[Nat.zero_add,Nat.mul_one] at D) G
theorem SV.last'{k0:Fo}(h:SV eT eK eS u w0 w so sl oa oc sa sc x a c (p.snoc t0 k0) vs ka kn kc kf){b:Nat}{l:lV}(D:a=some ⟨b,0,none⟩)(F:AS w b l eT)(t:Aq){k1:oA}(G:Ee (Fz u w0) w k1 n1 c1 kf0)
   (d:AS w' b (DT l (0+p.len*6) (Ir t++[.slice k1 n1 c1])) eT) (J:Hc b w w'):SV eT eK eS u w0 w' so sl oa oc sa sc x a c (p.snoc t kf0) vs ka kn kc kf:=h.last D F t G (by rwa[Nat.zero_add] at d) J
end
theorem Jw{st:List (Aq×Fo)}(h:∀z∈st,z.2.len≤i):∀z∈st,z.2.len≤i+1:=λz hz=>Nat.le_succ_of_le (h z hz)
theorem Xb{st:List (Aq×Fo)}(k:Aq){cur:Fo}(h:∀z∈st,z.2.len≤i)(d:cur.len≤i):∀z∈(k,cur)::st,z.2.len≤i+1:=λz hz=>by
 rcases List.mem_cons.1 hz with rfl|hz
 · exact Nat.le_succ_of_le d
 · exact Jw h z hz
theorem Lg{st:List (Aq×Fo)}{o:Aq×Fo}(h:∀z∈o::st,z.2.len≤i):∀z∈st,z.2.len≤i+1:=λz hz=>Jw h z (.tail _ hz)
section
variable{k:Aq}{l:List Aq}{st:List (Aq×Fo)}{cur:Fo}
theorem Sz(h:(k.k==0)=true)(d:st.length=200):A7 (k::l) st cur=.error (k.ln,k.co):=by unfold A7;simp[h,d]
theorem Si(h:(k.k==0)=true)(d:st.length≠200):A7 (k::l) st cur=A7 l ((k,cur)::st) .nil:=by rw[A7.eq_def];simp[h,d]
theorem TW(h:(k.k==0)=false)(d:(k.k==1)=true):A7 (k::l) [] cur=.error (k.ln,k.co):=by unfold A7;simp[h,d]
theorem Gi{o:Aq}{q:Fo}{s:List (Aq×Fo)}(h:(k.k==0)=false)(d:(k.k==1)=true):A7 (k::l) ((o,q)::s) cur=A7 l s (q.snoc o cur):=by rw[A7.eq_def];simp[h,d]
theorem FZ(h:(k.k==0)=false)(d:(k.k==1)=false):A7 (k::l) st cur=A7 l st (cur.snoc k .nil):=by rw[A7.eq_def];simp[h,d]
theorem VF{o:Aq×Fo}{s:List (Aq×Fo)}{t:Aq}{f:Fo}(h:(o::s).getLast?=some (t,f)):A7 [] (o::s) cur=.error (t.ln,t.co):=by
 obtain⟨d,D⟩:=o;unfold A7;rw[h]
theorem SM:A7 [] [] cur=.ok cur:=by unfold A7;rfl
end
end Go.SP
namespace Go.SW
open Go.RowKit
section
variable{P:Program}{n:Nat}{Q:AV}{σ:Ba}{ds:List Deferred}{w:wO}{ops:Array Oper}{ty T:tI}{pos:String}{af:Array Edge}{rest:List Oper}{x:Operand}
def Wx(P:Program)(fn:Func)(R:Ending→wO→Prop):AV :=
 {q:=λe σ ds w=>match e with
     |.normal|.ret=>∀tmps:Array Value,(∀t v,σ t=some v→tmps.getD t undef=v)→Leaves P fn tmps R ds .returning w
     |_=>False,
   p:=λc σ ds w=>∀tmps:Array Value,(∀t v,σ t=some v→tmps.getD t undef=v)→Leaves P fn tmps R ds (.panicking c) w}
variable {ts:Array tI}{tmps:Array Value}{u':FrameMode}{caps:List Operand}{cv l:lV}{d i:Nat}
theorem xU{f:FuncId}{fn:Func}{c:Code}{R:Ending→wO→Prop}(G:P.funcs[f]?=some fn)(J:fn.body=some c)
   (K:fn.ntmps=n) (L:Nat.ble l.length n=true) (h:GP P n c (Wx P fn R) (GU l 0) [] w):Calls P f l.toArray w R:=by
 refine calls_of_wp_defers G J ?_;rw[K];refine wp_mono (h _ (IN L)) λe a w' he=>?_
 cases e with
 |normal=>obtain⟨σ,ds,D,F⟩:=he;show Leaves _ _ _ _ a.defers _ _;rw[D.defs];exact F _ D.val
 |ret=>obtain⟨σ,ds,D,F⟩:=he;show Leaves _ _ _ _ a.defers _ _;rw[D.defs];exact F _ D.val
 |panic c=>obtain⟨σ,ds,D,F⟩:=he;show Leaves _ _ _ _ a.defers _ _;rw[D.defs];exact F _ D.val
 |outgrown=>exact he.elim
 |exit i=>obtain⟨σ,ds,D,F⟩:=he;exact F.elim
 |goto i=>obtain⟨σ,ds,D,F⟩:=he;exact F.elim
theorem Ve{f:FuncId}(F:Ii σ caps=some cv):AK P σ (.makeFunc (.func f) #[] caps.toArray) ty w (.func (.func f) #[] cv.toArray) w:=λG _ _ _ _ D=>by
 have h:=Em D F;simp only[execOp,Instr.makeFunc,List.map_toArray,h,Array.map_empty];rfl
theorem PZ{g:Operand}{f:FuncId}{ts:Array tI}(F:ev σ g=some (.func (.func f) #[] cv.toArray))
   (h:Gd P n ops Q rest σ ({target:=.fn (.func f) cv.toArray,args:=#[]}::ds) w):Gd P n ops Q (⟨none,.defer {callee:=.value g,args:=#[],argTypes:=ts},ty,pos,af,none⟩::rest) σ ds w:=λa D =>
 wpList_plain C λK G=>by
   unfold Oper.wp
   have e:(execOp a.eval ⟨none,.defer {callee:=.value g,args:=#[],argTypes:=ts},ty,pos,af,none⟩).run P w=.ok (.defer {target:=.fn (.func f) cv.toArray,args:=#[]}) w:=by
     simp[execOp,resolve,Deferred.ofValue,D.ev _ _ F]
   rw[e];exact G _ _ (h _ ⟨D.size,by show _::a.defers=_;rw[D.defs],D.val⟩)
theorem Ds{f:FuncId}{fn:Func}{c:Code}{u:FrameMode}{v:Value}{U:tI}{F:String}{W:Array Edge}{R:wO→Prop}{w:wO}
   (hf:P.funcs[f]?=some fn) (hb:fn.body=some (.seq (.region i #[⟨some d,.call {callee:=.builtin .recover,args:=#[],argTypes:=ts},U,F,W,none⟩] false) c)) (hn:fn.ntmps=n) (hl:Nat.ble l.length n=true) (hd:Nat.blt d n=true)
   (Y:∀(D:Frame)(cs:List Frame),D.mode=u→(recoverD (D::cs)=some (v,{D with mode:=u' }::cs)∨(recoverD (D::cs)=none∧v=.nilIface∧u'=u)))
   (h:GP P n c (Ek P fn (λ_ w'=>R w') λ_ _=>False) (AI (GU l 0) d v) [] w):CallsD P f l.toArray u w λe m w'=>∃x,e=.returned x∧m=u'∧R w':=by
 refine callsD_of_wpS hf hb λD cs hu=>wpS_seq (wpS_region ?_)
 have Z:∀ρ,(execOp ρ ⟨some d,.call {callee:=.builtin .recover,args:=#[],argTypes:=ts},U,F,W,none⟩).run P w=.ok .recover w:=λρ=>by
   simp[execOp,resolve,invoke,builtin]
 have hgo:∀G,G={D with mode:=u' }::cs→(c.wpS P (bodyPostS P fn D cs λe m w'=>∃x,e=.returned x∧m=u'∧R w') (Act.put {tmps:=l.toArray++Array.replicate (fn.ntmps-l.toArray.size) undef,defers:=[]} (some d) v) G w):=λG hcs=>by
   subst hcs;refine wpS_of_wp ?_;have hst:=IN (n:=n) hl;rw[hn];refine wp_mono (h _ (hst.put hd v)) λe a w' he=>?_
   cases e with
   |normal=>obtain⟨σ,ds,J,K,x,Z,L⟩:=he;exact⟨by rw[J.defs,K],u',C,x,Z _ J.val,x,C,C,L⟩
   |ret=>obtain⟨σ,ds,J,K,x,Z,L⟩:=he;exact⟨by rw[J.defs,K],u',C,x,Z _ J.val,x,C,C,L⟩
   |panic c=>obtain⟨_,_,_,hq⟩:=he;exact hq.2.elim
   |outgrown=>exact he.elim
   |exit i=>obtain⟨σ,ds,J,hq⟩:=he;exact hq.elim
   |goto i=>obtain⟨σ,ds,J,hq⟩:=he;exact hq.elim
 have O:({D with mode:=u}:Frame)=D:=by subst hu;rfl
 show wpOpsS P _ _ [0] _ _ _;simp only[wpOpsS,List.getElem?_toArray,List.getElem?_cons_zero,Region.wanted,if_true,Z];rcases Y D cs hu with L|⟨L,hv,hu'⟩
 · rw[L];exact hgo _ C
 · rw[L]
   subst hv hu';exact hgo _ (by rw[O])
theorem Ff{fn:Func}{R:Ending→wO→Prop}{f:FuncId}{u:FrameMode}{R':wO→Prop}(hu:u≠.run)(he:Bi P f)(h:CallsD P f cv.toArray u w λe m w'=>∃x,e=.returned x∧m=u'∧R' w')
   (D:∀w',R' w'→Leaves P fn tmps R [] (settle u') w'):Leaves P fn tmps R [{target:=.fn (.func f) cv.toArray,args:=#[]}] u w:=by
 refine leaves_cons (f:=f) (args:=cv.toArray) hu (by simp only[invoke,Array.empty_append];exact he _ _) (CallsD.mono h ?_);rintro e m w' ⟨x,rfl,rfl,hw⟩;exact D w' hw
theorem DR{fn:Func}{R:Ending→wO→Prop}{v:Value}(D:∀t v,σ t=some v→tmps.getD t undef=v)(F:Um P fn σ w v)(h:R (.returned v) w):Leaves P fn tmps R [] .returning w:=⟨v,F _ D,h⟩
theorem UK{v:Value}{X:tI}(F:ev σ x=some (.iface T v))(h:zG P T=true):AK P σ (.typeAssert x X T true) ty w (.tuple #[v,.bool true]) w:=λG _ _ _ _ D=>by
 unfold zG at h
 cases hu:P.underlying T with
 |none=>rw[hu] at h;cases h
 |some d =>
   rw[hu] at h
   cases d <;> simp_all [execOp,Instr.typeAssert,underlying,D _ _ F,run_underlying hu]
end
section
variable{P:Program}{σ:Ba}{w:wO}{ty T:tI}{x y:Operand}
theorem Hx(h:Y3 P T=true):∃ms,P.underlying T=some (.interface ms):=by
 unfold Y3 at h
 split at h
 · exact⟨_,by assumption⟩
 · cases h
variable {t t':tI}
theorem oU{ms}(d:Nat)(hu:P.underlying t=some (.interface ms)):(Op.equalIn (d+1) t .nilIface .nilIface).run P w=.ok true w:=by simp[Op.equalIn,run_underlying hu]
theorem oR{ms}(d:Nat){v:Value}(hu:P.underlying t=some (.interface ms)):(Op.equalIn (d+1) t (.iface T v) .nilIface).run P w=.ok false w:=by simp[Op.equalIn,run_underlying hu]
theorem Rs(h:Y3 P t=true)(D:ev σ x=some .nilIface):AK P σ (.binOp .eql t x (.const .nilIface) t') ty w (.bool true) w:=by
 obtain⟨ms,hu⟩:=Hx h;have e:(Op.equal t .nilIface .nilIface).run P w=.ok true w:=oU (Op.maxDepth-1) hu
 exact λF _ _ _ _ d=>by
   have G:F (.const .nilIface)=.nilIface:=d _ _ C;simp[execOp,d _ _ D,G,eqGuard,binOp,e]
theorem Q2{v:Value}(h:Y3 P t=true)(D:ev σ x=some (.iface T v)):AK P σ (.binOp .eql t x (.const .nilIface) t') ty w (.bool false) w:=by
 obtain⟨ms,hu⟩:=Hx h;have e:(Op.equal t (.iface T v) .nilIface).run P w=.ok false w:=oR (Op.maxDepth-1) hu
 exact λF _ _ _ _ d=>by
   have G:F (.const .nilIface)=.nilIface:=d _ _ C;simp[execOp,d _ _ D,G,eqGuard,binOp,e]
theorem NC:∀(d:Frame)(cs:List Frame),d.mode=.returning→(recoverD (d::cs)=some (Value.nilIface,{d with mode:=.returning}::cs)∨(recoverD (d::cs)=none∧Value.nilIface=Value.nilIface∧FrameMode.returning=.returning)):=λd cs h=>.inr ⟨by simp[recoverD,h],C,C⟩
theorem RD{v:Value}:∀(d:Frame)(cs:List Frame),d.mode=.panicking [{v:=v,recovered:=false}]→(recoverD (d::cs)=some (v,{d with mode:=.panicking [{v:=v,recovered:=true}]}::cs)∨(recoverD (d::cs)=none∧v=Value.nilIface∧FrameMode.panicking [{v:=v,recovered:=true}]=.panicking [{v:=v,recovered:=false}])):=λd cs h=>.inl (by simp[recoverD,h])
theorem Kj{v:Value}:settle (.panicking [{v:=v,recovered:=true}])=.returning:=by simp[settle]
end
end Go.SW
namespace Go.SP
open Go.SW Go.RowKit
abbrev Ps:=Int×Int
def adv(c:UInt8)(p:Ps):Ps:=if (c.toNat:Int)==10 then (p.1+1,1) else (p.1,p.2+1)
def Bk:lU:=[48,49,50,51,52,53,54,55,56,57,97,98,99,100,101,102]
def EA:lU:=[32,9,10]
def NJ:lU:=[32,9,10,40,41,34,59]
def Ge(p:Ps):lU→Except Ps (UInt8×lU×Ps)
 | []=>.error p
 |c::r =>
   if (c.toNat:Int)==34 then .ok (c,r,adv c p)
   else if (c.toNat:Int)==92 then .ok (c,r,adv c p)
   else if (c.toNat:Int)==110 then .ok (10,r,adv c p)
   else if (c.toNat:Int)==120 then
     match r with
     |a::b::d =>
       if decide ((0:Int)≤Lib.indexByte Bk a)&&decide ((0:Int)≤Lib.indexByte Bk b) then .ok (UInt8.ofNat ((Lib.indexByte Bk a).toNat*16+(Lib.indexByte Bk b).toNat),d,adv b (adv a (adv c p))) else .error p
     |_=>.error p
   else .error p
def Fp(start:Ps):Nat→Ps→lU→lU→Except Ps (lU×lU×Ps)
 |0,_,_,_=>.error start
 |_+1,_,_,[]=>.error start
 |n+1,p,acc,c::r =>
   if (c.toNat:Int)==34 then (if decide ((4096:Int)<acc.length) then .error start else .ok (acc,r,adv c p))
   else if decide ((c.toNat:Int)<32) then .error p
   else if (c.toNat:Int) != 92 then Fp start n (adv c p) (acc++[c]) r
   else match r with
     | []=>.error start
     |_=>match Ge (adv c p) r with
       |.error e=>.error e
       |.ok (b,d,h)=>Fp start n h (acc++[b]) d
def Pk(i:Nat)(p:Ps):Prop:=0≤p.1∧p.1≤i+1∧0≤p.2∧p.2≤i+1
variable {i:Nat}{src:lU}
theorem Pk.adv{p:Ps}{c:UInt8}(h:Pk i p):Pk (i+1) (adv c p):=by
 obtain⟨d,D,F,G⟩:=h;unfold Go.SP.adv
 split <;> (refine⟨?_,?_,?_,?_⟩ <;> simp only <;> omega)
theorem AB{c:UInt8}(h:src[i]?=some c):src.drop i=c::src.drop (i+1):=by
 obtain⟨d,he⟩:=List.getElem?_eq_some_iff.1 h;rw[List.drop_eq_getElem_cons d,he]
theorem G7(h:i<src.length):∃c,src[i]?=some c:=⟨src[i],List.getElem?_eq_getElem h⟩
theorem Ca{c:UInt8}(h:src[i]?=some c):i<src.length:=(List.getElem?_eq_some_iff.1 h).1
theorem QU(c:UInt8):Lib.indexByte Bk c<16:=by
 have:∀(l:lU),Lib.indexByte l c<l.length∨Lib.indexByte l c = -1:=by
   intro l
   induction l with
   |nil=>right;rfl
   |cons a l d =>
     unfold Lib.indexByte
     split
     · left;simp
     · split
       · right;rfl
       · left;simp only[List.length_cons];rcases d with h|h <;> simp_all
 rcases this Bk with h|h
 · exact h
 · omega
end Go.SP
namespace Go.SW
open Go.RowKit
theorem Cj{P:Program}{σ:Ba}{w:wO}{ty:tI}{x:Operand}{a:Addr}(h:ev σ x=some (.pointer (some a))):AK P σ (.nilCheck x) ty w (.pointer (some a)) w:=λD _ _ _ _ d=>by
 simp[execOp,d _ _ h]
section
variable{P:Program}{σ:Ba}{w:wO}{ty T T':tI}{x y:Operand}
variable {a:oA}{e t t':tI}
theorem lY{a:Int}(D:ev σ x=some (.int .i64 a))(F:ev σ y=some (.int .u64 4))(h:0≤a∧a<16):AK P σ (.binOp .shl t x y t') ty w (.int .i64 (a*16)) w :=
 λG _ _ _ _ d=>by
   have e:IntKind.i64.wrap (a*16)=a*16:=MM ⟨oM,oM⟩;simp[execOp,d _ _ D,d _ _ F,eqGuard,binOp,Op.shift,IntKind.bits,e]
theorem or16:∀a b:Fin 16,((BitVec.ofInt 64 ((a.val:Int)*16)) ||| (BitVec.ofInt 64 (b.val:Int))).toNat=a.val*16+b.val:=dC
theorem mI{a b:Int}(D:ev σ x=some (.int .i64 (a*16)))(F:ev σ y=some (.int .i64 b))(h:0≤a∧a<16)(G:0≤b∧b<16):AK P σ (.binOp .or t x y t') ty w (.int .i64 (a*16+b)) w :=
 λL _ _ _ _ d=>by
   have e:=or16 ⟨a.toNat,oM⟩ ⟨b.toNat,oM⟩;simp only[Int.toNat_of_nonneg h.1,Int.toNat_of_nonneg G.1] at e;have J:IntKind.i64.wrap (a*16+b)=a*16+b:=MM ⟨oM,oM⟩;have K:((a.toNat*16+b.toNat:Nat):Int)=a*16+b:=oM;simp only[execOp,d _ _ D,d _ _ F,eqGuard,binOp,Op.intBits];show Result.ok (Next.value (.int .i64 (IntKind.i64.wrap ((BitVec.ofInt 64 (a*16) ||| BitVec.ofInt 64 b).toNat:Int)))) w=_;rw[e,K,J]
theorem BW{k k0:IntKind}{n m:Int}(G:ev σ x=some (.int k0 n))(h:Wc P T T'=some k)(hm:k.wrap n=m):AK P σ (.convert T T' x) ty w (.int k m) w:=by
 unfold Wc at h
 cases D:P.underlying T with
 |none=>rw[D] at h;cases h
 |some s =>
   cases hd:P.underlying T' with
   |none=>rw[D,hd] at h;cases h
   |some d =>
     rw[D,hd] at h
     cases d <;> simp at h
     rename_i J;subst h
     exact λK _ _ _ _ F=>by
       simp[execOp,F _ _ G,convert,run_underlying D,run_underlying hd,Conv.intToInt,hm]
theorem Io{n:Int}(h:0≤n∧n<256):IntKind.u8.wrap n=n:=by
 unfold IntKind.wrap;simp[IntKind.bits,IntKind.signed];omega
def bC(l:lU):lV:=l.map λc=>.int .u8 c.toNat
theorem bC_app(l m:lU):bC (l++m)=bC l++bC m:=List.map_append
theorem QD{c:Nat}{l:lU}(G:ev σ x=some (.slice a l.length c))(d:kJ P T T'=some e)(J:BQ w e 1 a c l.length (bC l)):AK P σ (.convert T T' x) ty w (S l) w:=by
 unfold kJ at d
 split at d
 · rename_i D F
   split at d
   · rename_i he hd
     injection d with d
     subst d;refine λU _ _ _ _ h=>?_;simp only[execOp,h _ _ G,Sem.run_bind];rcases J.2 with ⟨rfl,_,K⟩|⟨b,cs,rfl,L,_,_,_,O⟩
     · have:l=[]:=List.eq_nil_of_length_eq_zero K
       subst this;rw[run_convert_bytes_nil w T D F he _ c T' hd];rfl
     · rw[run_convert_bytes_back w T T' D ⟨b,0,none⟩ c l F he hd (λj Q=>by
         rw[Ea,L.cell,Nat.zero_add];have:(bC l)[j]?=some (.int .u8 (l[j].toNat:Int)):=by simp[bC,List.getElem?_eq_getElem Q]
         rw[← O,List.getElem?_take,if_pos (by omega)] at this;exact this)]
       rfl
   · cases d
 · cases d
end
end Go.SW
namespace Go.SP
open Go.SW Go.RowKit
def DQ:lU:=[48,49,50,51,52,53,54,55,56,57]
def D3:lU:=[65,66,67,68,69,70,71,72,73,74,75,76,77,78,79,80,81,82,83,84,85,86,87,88,89,90]
def Dh:lU:=[97,98,99,100,101,102,103,104,105,106,107,108,109,110,111,112,113,114,115,116,117,118,119,120,121,122]
def CT:lU:=[39,43,42,47,60,62,61,33,63,95,46,45]
def Ey(s l:lU):Bool:=Lib.trimS s l==[]
def DJ(s:lU):Bool:=!(s==[])&&Ey s DQ
def AG(s:lU):lU:=Lib.trimPrefix s [45]
def CH:Nat→lU→Nat
 |n,[]=>n
 |n,c::l=>CH (n*10+(c.toNat-48)) l
def F6(s:lU):Bool:=s.head?==some 45
def EN(s:lU):Option Int :=
 if DJ (AG s) then
   (if F6 s then (if CH 0 (AG s)≤4611686018427387904 then some (-(CH 0 (AG s):Int)) else none)
   else if CH 0 (AG s)<4611686018427387904 then some (CH 0 (AG s)) else none)
 else none
def Fm(s:lU):Option (lU×lU) :=
 let c:=Lib.cut (AG s) [46]
 if c.2.2&&(DJ c.1&&(DJ c.2.1&&decide ((c.1.length:Int)+c.2.1.length≤15))) then some (c.1,c.2.1) else none
end Go.SP
namespace Go.SP
open Go.SW Go.RowKit
theorem hexv{a b:Int}(d:0≤a∧a<16)(h:0≤b∧b<16):((UInt8.ofNat (a.toNat*16+b.toNat)).toNat:Int)=a*16+b:=by
 have:a.toNat*16+b.toNat<256:=oM;simp only[UInt8.toNat_ofNat'];rw[Nat.mod_eq_of_lt this];omega
variable {i:Nat}{src:lU}
theorem fC{a b:UInt8}(d:src[i]?=some a)(h:src[i+1]?=some b):src.drop i=a::b::src.drop (i+2):=by
 rw[AB d,AB h]
theorem OA{p:Ps}{c a b:UInt8}{r:lU}(F:((c.toNat:Int)==34)=false)(G:((c.toNat:Int)==92)=false)(d:((c.toNat:Int)==110)=false)(D:((c.toNat:Int)==120)=true)
   (h:Lib.indexByte Bk a<0∨Lib.indexByte Bk b<0):Ge p (c::a::b::r)=.error p:=by
 simp only[Ge,F,G,d,D,Bool.false_eq_true,if_false,if_true];rw[if_neg];simp only[Bool.and_eq_true,decide_eq_true_eq];omega
theorem T5{p:Ps}{c:UInt8}{r:lU}(D:((c.toNat:Int)==34)=false)(F:((c.toNat:Int)==92)=false)(d:((c.toNat:Int)==110)=false)(h:r.length<2):Ge p (c::r)=.error p:=by
 unfold Ge;rcases r with _|⟨a,_|⟨b,r⟩⟩
 · simp[D,F,d]
 · simp[D,F,d]
 · simp at h;omega
end Go.SP
namespace Go.SP
open Go.SW Go.RowKit
def Mw(neg:Bool)(a b:lU):Nat :=
 let m:=CH 0 (a++b)
 let x:=FloatKind.f64.nearest m
 let x:=if neg then Op.negFloat .f64 x else x
 if m=0 then (if neg then 9223372036854775808 else 0) else (FloatKind.f64.format.div x (FM.getD b.length 0)).getD 0
def B4(s:lU):Option Nat:=match Fm s with
 |none=>none
 |some (a,b)=>let f:=Mw (F6 s) a b
   some (if Op.floatEq .f64 f f then f else 9221120237041090560)
def PA(x:Nat):Nat→lU
 |0=>[]
 |j+1=>UInt8.ofNat (x / 2 ^ (8*j))::PA x j
def LP(x:Nat):lU:=PA x 8
def D9(w:lU):Option (Int×Int×lU) :=
 match EN w with
 |some n=>some (2,n,[])
 |none=>match B4 w with
   |some x=>some (3,0,LP x)
   |none =>
     if decide ((40:Int)<w.length)||(!(AG w==[])&&Ey (AG w) DQ) then none
     else if Ey (w.take 1) D3&&Ey w (D3++Dh++DQ) then some (6,0,w)
     else if Ey (w.take 1) (Dh++CT)&&Ey w (D3++Dh++DQ++CT) then some (5,0,w)
     else none
def L4(p:Ps):lU→lU×Ps
 | []=>([],p)
 |c::r=>if (c.toNat:Int) != 10 then L4 (adv c p) r else (c::r,p)
def Co(p:Ps):lU→lU×lU×Ps
 | []=>([],[],p)
 |c::r=>if decide (Lib.indexByte NJ c<0) then (c::(Co (adv c p) r).1,(Co (adv c p) r).2) else ([],c::r,p)
def Dw(F:Nat)(p:Ps):lU→Except Ps (List Aq×lU×Ps)
 | []=>.error p
 |c::r =>
   if decide ((0:Int)≤Lib.indexByte EA c) then .ok ([],r,adv c p)
   else if (c.toNat:Int)==59 then .ok ([],L4 (adv c p) r)
   else if (c.toNat:Int)==40 then .ok ([⟨0,p.1,p.2,0,[]⟩],r,adv c p)
   else if (c.toNat:Int)==41 then .ok ([⟨1,p.1,p.2,0,[]⟩],r,adv c p)
   else if (c.toNat:Int)==34 then (match Fp p F (adv c p) [] r with
     |.error e=>.error e
     |.ok (tx,d,h)=>.ok ([⟨4,p.1,p.2,0,tx⟩],d,h))
   else (match D9 (c::(Co (adv c p) r).1) with
     |none=>.error p
     |some (k,nm,tx)=>.ok ([⟨k,p.1,p.2,nm,tx⟩],(Co (adv c p) r).2))
def FU(F:Nat):Nat→Ps→lU→Except Ps (List Aq)
 |_,_,[]=>.ok []
 |0,p,_::_=>.error p
 |n+1,p,c::r=>match Dw F p (c::r) with
   |.error e=>.error e
   |.ok (t,d,h)=>match FU F n h d with
     |.error e=>.error e
     |.ok l=>.ok (t++l)
def EG(src:lU):Except (Int×Int×Int) (List Aq) :=
 if decide ((65536:Int)<src.length) then .error (0,0,4)
 else match FU (src.length+1) src.length (1,1) src with
   |.error e=>.error (e.1,e.2,10)
   |.ok l=>.ok l
variable {m:Nat}{a a':oA}{w w1 w2:wO}
theorem K1.grow(h:K1 m w w1)(d:FE a w1 a' w2)(J:∀x,rb a=some x→w.heap.size≤x):K1 m w w2 :=
 ⟨d.os.trans h.os,d.tape.trans h.tape,d.output.trans h.output,Nat.le_trans h.size d.size,λk G D=>(d.block k (Nat.lt_of_lt_of_le G h.size) (λe=>by have:=J k e.symm;omega)).trans (h.block k G D)⟩
end Go.SP
namespace Go.SW
open Go.SP Go.RowKit
variable {xs:lV}{m n:Nat}{a:oA}{e:tI}{w w':wO}
theorem BQ.exb{size:Nat}{c:Nat}(h:BQ w e size a c n xs)(G:K1 m w w')(d:rb a≠some m):BQ w' e size a c n xs :=
 ⟨h.1,h.2.imp id λ⟨b,l,D,J,K⟩=>⟨b,l,D,J.exb G (λe=>d (by rw[D,e];rfl)),K⟩⟩
end Go.SW
namespace Go.SP
open Go.SW Go.RowKit
variable {a a':oA}{w1 w2:wO}
theorem GB{p:Nat→Prop}(D:FE a w1 a' w2)(h:∀x,rb a=some x→p x)(G:p w1.heap.size):∀x,rb a'=some x→p x:=λx d=>by
 rcases D.own with e|e
 · exact h x (e▸d)
 · have:=Option.some.inj (e.symm.trans d)
   exact this▸G
theorem IF{src:lU}{i:Nat}(h:¬i<src.length):src.drop i=[]:=List.drop_eq_nil_of_le oM
theorem Ex(start p:Ps)(n:Nat)(acc r:lU)(c:UInt8):Fp start (n+1) p acc (c::r) =
   (if (c.toNat:Int)==34 then (if decide ((4096:Int)<acc.length) then .error start else .ok (acc,r,adv c p))
   else if decide ((c.toNat:Int)<32) then .error p
   else if (c.toNat:Int) != 92 then Fp start n (adv c p) (acc++[c]) r
   else match r with
     | []=>.error start
     |_=>match Ge (adv c p) r with
       |.error e=>.error e
       |.ok (b,d,h)=>Fp start n h (acc++[b]) d):=rfl
section
variable{start p:Ps}{F i:Nat}{acc src:lU}{c:UInt8}
theorem Lq(d:0<F)(h:¬i<src.length):Fp start F p acc (src.drop i)=.error start:=by
 rw[IF h]
 cases F with
 |zero=>omega
 |succ n=>rfl
theorem Sa(d:src[i]?=some c)(h:((c.toNat:Int)==34)=true)(D:decide ((4096:Int)<acc.length)=true):Fp start (F+1) p acc (src.drop i)=.error start:=by rw[AB d];rw[Ex,if_pos h,if_pos D]
theorem TJ(d:src[i]?=some c)(h:((c.toNat:Int)==34)=true)(D:decide ((4096:Int)<acc.length)=false):Fp start (F+1) p acc (src.drop i)=.ok (acc,src.drop (i+1),adv c p):=by rw[AB d];rw[Ex,if_pos h,if_neg (by rw[D];decide)]
theorem S5(d:src[i]?=some c)(h:((c.toNat:Int)==34)=false)(D:decide ((c.toNat:Int)<32)=true):Fp start (F+1) p acc (src.drop i)=.error p:=by rw[AB d];rw[Ex,if_neg (by rw[h];decide),if_pos D]
theorem PL(d:src[i]?=some c)(h:((c.toNat:Int)==34)=false)(D:decide ((c.toNat:Int)<32)=false)(G:((c.toNat:Int) != 92)=true) :
   Fp start (F+1) p acc (src.drop i)=Fp start F (adv c p) (acc++[c]) (src.drop (i+1)):=by rw[AB d];rw[Ex,if_neg (by rw[h];decide),if_neg (by rw[D];decide),if_pos G]
theorem PD(d:src[i]?=some c)(D:((c.toNat:Int)==34)=false)(G:decide ((c.toNat:Int)<32)=false)(J:((c.toNat:Int) != 92)=false)(h:¬i+1<src.length) :
   Fp start (F+1) p acc (src.drop i)=.error start:=by rw[AB d,IF h];rw[Ex,if_neg (by rw[D];decide),if_neg (by rw[G];decide),if_neg (by rw[J];decide)]
theorem Qd{e:Ps}(G:src[i]?=some c)(J:((c.toNat:Int)==34)=false)(K:decide ((c.toNat:Int)<32)=false)(L:((c.toNat:Int) != 92)=false)(h:i+1<src.length)
   (D:Ge (adv c p) (src.drop (i+1))=.error e):Fp start (F+1) p acc (src.drop i)=.error e:=by
 obtain⟨d,hd⟩:=G7 h;rw[AB G,Ex,if_neg (by rw[J];decide),if_neg (by rw[K];decide),if_neg (by rw[L];decide)];rw[AB hd] at D ⊢;simp only[D]
theorem LR{b:UInt8}{D:lU}{G:Ps}(K:src[i]?=some c)(L:((c.toNat:Int)==34)=false)(O:decide ((c.toNat:Int)<32)=false)(Q:((c.toNat:Int) != 92)=false)(h:i+1<src.length)
   (J:Ge (adv c p) (src.drop (i+1))=.ok (b,D,G)):Fp start (F+1) p acc (src.drop i)=Fp start F G (acc++[b]) D:=by
 obtain⟨d,hd⟩:=G7 h;rw[AB K,Ex,if_neg (by rw[L];decide),if_neg (by rw[O];decide),if_neg (by rw[Q];decide)];rw[AB hd] at J ⊢;simp only[J]
end
end Go.SP
namespace Go.SW
open Go.RowKit
section
variable{P:Program}{n:Nat}{Q:AV}{σ:Ba}{ds:List Deferred}{w:wO}{ops:Array Oper}{ty T T':tI}{pos:String}{af:Array Edge}{rest:List Oper}{d b off k:Nat}{x y:Operand}
variable {l:lV}{e t t':tI}{w':wO}
theorem J0{k:IntKind}{a b:Int}(m:Int)(F:ev σ x=some (.int k a))(G:ev σ y=some (.int k b))(h:k.wrap (a+b)=m):AK P σ (.binOp .add t x y t') ty w (.int k m) w :=
 λJ _ _ _ _ D=>by simp[execOp,D _ _ F,D _ _ G,eqGuard,binOp,Op.intArith,h]
theorem Ck{k:IntKind}{a b:Int}(m:Int)(F:ev σ x=some (.int k a))(G:ev σ y=some (.int k b))(h:k.wrap (a-b)=m):AK P σ (.binOp .sub t x y t') ty w (.int k m) w :=
 λJ _ _ _ _ D=>by simp[execOp,D _ _ F,D _ _ G,eqGuard,binOp,Op.intArith,h]
theorem KS{k:IntKind}{a b:Int}(m:Int)(F:ev σ x=some (.int k a))(G:ev σ y=some (.int k b))(h:k.wrap (a*b)=m):AK P σ (.binOp .mul t x y t') ty w (.int k m) w :=
 λJ _ _ _ _ D=>by simp[execOp,D _ _ F,D _ _ G,eqGuard,binOp,Op.intArith,h]
theorem Jo{k k2:IntKind}{a b:Int}(m:Int)(F:ev σ x=some (.int k a))(G:ev σ y=some (.int k2 b))(J:¬b<0)(h:k.wrap (a*2 ^ (min b.toNat k.bits))=m):AK P σ (.binOp .shl t x y t') ty w (.int k m) w :=
 λK _ _ _ _ D=>by simp only[execOp,D _ _ F,D _ _ G,eqGuard,binOp,Op.shift,if_neg J,h];rfl
theorem QA{k k2:IntKind}{a b:Int}(m:Int)(F:ev σ x=some (.int k a))(G:ev σ y=some (.int k2 b))(J:¬b<0)(h:a.fdiv (2 ^ (min b.toNat k.bits))=m):AK P σ (.binOp .shr t x y t') ty w (.int k m) w :=
 λK _ _ _ _ D=>by simp only[execOp,D _ _ F,D _ _ G,eqGuard,binOp,Op.shift,if_neg J,h];rfl
theorem Lw{k:IntKind}{a:Int}(m:Int)(F:ev σ x=some (.int k a))(h:k.wrap (0-a)=m):AK P σ (.unOp .neg t x) ty w (.int k m) w:=λJ _ _ _ _ D=>by
 have G:k.wrap (-a)=m:=by rw[← h];congr 1;omega
 simp[execOp,D _ _ F,Op.unary,Op.intArith,G]
theorem H6(D:Y3 P t=true)(F:ev σ x=some .nilIface):AK P σ (.binOp .neq t x (.const .nilIface) t') ty w (.bool false) w:=by
 obtain⟨ms,hu⟩:=Hx D;have e:(Op.equal t .nilIface .nilIface).run P w=.ok true w:=oU (Op.maxDepth-1) hu
 exact λG _ _ _ _ h=>by
   have J:G (.const .nilIface)=.nilIface:=h _ _ C;simp[execOp,h _ _ F,J,eqGuard,binOp,e]
theorem Ln{v:Value}(D:Y3 P t=true)(F:ev σ x=some (.iface T v)):AK P σ (.binOp .neq t x (.const .nilIface) t') ty w (.bool true) w:=by
 obtain⟨ms,hu⟩:=Hx D;have e:(Op.equal t (.iface T v) .nilIface).run P w=.ok false w:=oR (Op.maxDepth-1) hu
 exact λG _ _ _ _ h=>by
   have J:G (.const .nilIface)=.nilIface:=h _ _ C;simp[execOp,h _ _ F,J,eqGuard,binOp,e]
def iH(P:Program)(T:tI):Bool:=match P.info? T,P.underlying T with|some i,some (.int _)=>i.comparable|_,_=>false
theorem eqI{ms}(dd:Nat){k:IntKind}{a b:Int}(hu:P.underlying t=some (.interface ms))(h:iH P T=true):(Op.equalIn (dd+2) t (.iface T (.int k a)) (.iface T (.int k b))).run P w=.ok (a==b) w:=by
 unfold iH at h
 split at h
 · rename_i i J D F
   have G:(Op.equalIn (dd+1) T (.int k a) (.int k b)).run P w=.ok (a==b) w:=by simp[Op.equalIn,run_underlying F]
   rw[Op.equalIn];simp[run_underlying hu,typeInfo,D,h,G]
 · cases h
theorem Zu{k:IntKind}{a b:Int}(D:Y3 P t=true)(F:iH P T=true)(G:ev σ x=some (.iface T (.int k a)))(J:ev σ y=some (.iface T (.int k b))):AK P σ (.binOp .neq t x y t') ty w (.bool (!(a==b))) w:=by
 obtain⟨ms,hu⟩:=Hx D;have e:(Op.equal t (.iface T (.int k a)) (.iface T (.int k b))).run P w=.ok (a==b) w:=eqI (Op.maxDepth-2) hu F;exact λK _ _ _ _ h=>by simp[execOp,h _ _ G,h _ _ J,eqGuard,binOp,e]
structure yA(w:wO)(b:Nat)(l:lV):Prop where
 lt:b<w.heap.size
 at':∀j v,l[j]?=some v→w.cell? ⟨b,j,none⟩=some v
theorem yA.ext{w:wO}{b:Nat}(h:yA w b l)(D:AW w w'):yA w' b l :=
 ⟨Nat.lt_of_lt_of_le h.lt D.size,λj v F=>(D.cell (p:=⟨b,j,none⟩) h.lt).trans (h.at' j v F)⟩
theorem aL{v:Value}(D:ev σ x=some (.pointer (some ⟨b,off,none⟩)))(F:AT P T=some (false,k))(G:yA w b l)(J:l[off]?=some v):AK P σ (.load T x) ty w v w:=λL _ _ _ _ h=>by
 have K:=G.at' off v J;simp[execOp,h _ _ D,Instr.loadAt,Instr.sureAddr,loadVar,Ew F,run_load,K]
def sF(P:Program)(s d:tI):Option tI:=match P.underlying s with
 |some .string=>match P.underlying d with|some (.slice e)=>(match P.underlying e with|some (.int .u8)=>some e|_=>none)|_=>none
 |_=>none
theorem lR{l:lU}(hd:Nat.blt d n=true)(O:ev σ x=some (S l))(D:sF P T T'=some e)
   (h:∀b c w',yA w' b (bC l)→AW w w'→Gd P n ops Q rest (AI σ d (.slice (some ⟨b,0,none⟩) l.length c)) ds w'):Gd P n ops Q (⟨some d,.convert T T' x,ty,pos,af,none⟩::rest) σ ds w:=by
 unfold sF at D
 split at D
 · rename_i W
   split at D
   · rename_i F J
     split at D
     · rename_i he
       injection D with D
       subst D
       have Y:AK P σ (.convert T T' x) ty w (.slice (some ⟨w.heap.size,0,none⟩) l.length (grownCap w l.length 0 F)) (Lib.bytesWorld w F ⟨l.toArray⟩):=λρ _ _ _ _ K=>by
         have:=Lib.run_convert_string_bytes (P:=P) w T T' F ⟨l.toArray⟩ W J he;have Z:(⟨l.toArray⟩:ByteArray).size=l.length:=by simp[ByteArray.size]
         rw[Z] at this;simp only[execOp,K _ _ O,Sem.run_bind,this];rfl
       refine Ac hd Y (h _ _ _ ⟨by rw[Lib.bytesWorld_size];omega,λj v L=>?_⟩ ⟨C,C,C,by rw[Lib.bytesWorld_size];omega,λj G=>Lib.bytesWorld_at_old w F _ j G⟩)
       have G:j<l.length:=by
         rcases Nat.lt_or_ge j l.length with h|h
         · exact h
         · rw[List.getElem?_eq_none (by simpa[bC] using h)] at L;cases L
       have:=Lib.bytesWorld_cell w F ⟨l.toArray⟩ j (by simpa[ByteArray.size] using G);rw[this,← L];simp[bC,G]
     · cases D
   · cases D
 · cases D
end
theorem EB{n:Int}(h:0≤n∧n≤18446744073709551615):IntKind.u64.wrap n=n:=IntWalk.u64_in _ h
theorem CL{n:Int}(h : -9223372036854775808≤n∧n≤9223372036854775807):IntKind.i64.wrap n=n:=IntWalk.i64_in _ h
end Go.SW
namespace Go.SW
open Go.RowKit
variable {lo:Operand}
theorem Mu{P:Program}{σ:Ba}{w:wO}{ty T:tI}{x:Operand}{c:UInt8}{s:lU}{k1:IntKind}(D:ev σ x=some (S (c::s)))(h:ev σ lo=some (.int k1 1))(F:P.underlying T=some .string) :
   AK P σ (.slice T x (some lo) none none) ty w (S s) w:=by
 have:=TY (ty:=ty) (w:=w) D h F ⟨oM,by simp only[List.length_cons];omega⟩;simpa using this
end Go.SW
namespace Go.SW
open Go.RowKit
section
variable{P:Program}{σ:Ba}{w:wO}{ty T T':tI}{x y:Operand}
variable {vs:lV}{t t':tI}
theorem V3{f:FuncId}{fn:Func}{e:Array Value→Sem Value}{g:Operand}{args:List Operand}{F:Array tI}{v:Value}(G:P.funcs[f]?=some fn)(J:(fn.name == "runtime.NumGoroutine")=false) (K:fn.body.isNone=true)
   (L:Extern.findNext fn=none) (O:Extern.find fn=some e) (W:ev σ g=some (.func (.func f) #[] #[])) (Y:Ii σ args=some vs) (Z:(e vs.toArray).run P w=.ok v w) :
   AK P σ (.call {callee:=.value g,args:=args.toArray,argTypes:=F}) ty w v w:=λρ _ _ _ _ D=>by
 have h:=Em D Y;have hc:=run_callFunc_extern G J K L O vs.toArray w;simp[execOp,resolve,D _ _ W,Deferred.ofValue,invoke,h,hc,Z]
theorem YG{k:FloatKind}{a b:Nat}(D:ev σ x=some (.float k a))(F:ev σ y=some (.float k b)):AK P σ (.binOp .neq t x y t') ty w (.bool (!(Op.floatEq k a b))) w :=
 λG _ _ _ _ h=>by simp[execOp,h _ _ D,h _ _ F,eqGuard,binOp,Op.floatCmp,Op.floatEq];rfl
theorem Wo{k:FloatKind}{a b r:Nat}(F:ev σ x=some (.float k a))(G:ev σ y=some (.float k b))(h:k.format.div a b=some r):AK P σ (.binOp .quo t x y t') ty w (.float k r) w :=
 λJ _ _ _ _ D=>by simp[execOp,D _ _ F,D _ _ G,eqGuard,binOp,Op.floatArith,h]
theorem gN{k:FloatKind}{a:Nat}(D:ev σ x=some (.float k a)):AK P σ (.unOp .neg t x) ty w (.float k (Op.negFloat k a)) w:=λF _ _ _ _ h=>by
 simp[execOp,h _ _ D,Op.unary]
def cvF(P:Program)(s d:tI):Option FloatKind:=match P.underlying s,P.underlying d with|some _,some (.float k)=>some k|_,_=>none
theorem Uv{k:FloatKind}{k0:IntKind}{n:Int}(G:ev σ x=some (.int k0 n))(h:cvF P T T'=some k):AK P σ (.convert T T' x) ty w (.float k (k.nearest n)) w:=by
 unfold cvF at h
 cases D:P.underlying T with
 |none=>rw[D] at h;cases h
 |some s =>
   cases hd:P.underlying T' with
   |none=>rw[D,hd] at h;cases h
   |some d =>
     rw[D,hd] at h
     cases d <;> simp at h
     rename_i J;subst h
     exact λK _ _ _ _ F=>by
       simp[execOp,F _ _ G,convert,run_underlying D,run_underlying hd,Conv.intToFloat]
end
theorem S0(x k:Nat):(x:Int).fdiv (2 ^ k)=((x / 2 ^ k:Nat):Int):=by
 rw[Int.fdiv_eq_ediv_of_nonneg _ (Int.le_of_lt (Int.pow_pos (by decide)))];simp
theorem wF(n:Nat):IntKind.u8.wrap (n:Int)=((UInt8.ofNat n).toNat:Int):=by
 unfold IntKind.wrap;simp[IntKind.bits,IntKind.signed]
end Go.SW
namespace Go.SW
open Go.RowKit
section
variable{P:Program}{n:Nat}{Q:AV}{S:wO→Prop}{σ:Ba}{ds:List Deferred}{w:wO}{ops:Array Oper}{op:Op}{ty:tI}{pos:String}{af:Array Edge}{rest:List Oper}{r:List (Bool×Oper)}{d:Nat}
variable {want:Bool}{dj j:Nat}{dst:Option Tmp}
theorem Xd{a:Act}(G:St n σ ds a)(F:(ops[j]?).bind (·.dst)=some dj)(J:σ dj=some undef) :
   Region.wanted ⟨dst,op,ty,pos,af,some (j,want)⟩ (yielded ops a.tmps)=false:=by
 have h:=G.val dj _ J
 cases D:a.tmps[dj]? with
 |none=>simp[Region.wanted,yielded,F,D]
 |some u =>
   rw[Array.getD_eq_getD_getElem?,D] at h;simp at h;subst h;simp[Region.wanted,yielded,F,D,undef]
end
end Go.SW
namespace Go.SW
open Go.RowKit
section
variable{P:Program}{n:Nat}{Q:AV}{σ:Ba}{ds:List Deferred}{w:wO}
def ngt(Q:AV):AV:={q:=λe σ ds w=>match e with|.goto _=>False|e=>Q.q e σ ds w,p:=Q.p}
theorem Xe{c:Code}(h:GP P n c (ngt Q) σ ds w):GP P n (.scope c) Q σ ds w:=λa D =>
 wp_scope_straight (wp_mono (h a D) λe a' w' he=>by
   cases e with
   |goto l=>obtain⟨_,_,_,F⟩:=he;exact F.elim
   |normal=>exact he
   |panic c=>exact he
   |outgrown=>exact he
   |ret=>exact he
   |exit i=>exact he)
theorem nR(h:Q.q .ret σ ds w):(ngt Q).q .ret σ ds w:=h
theorem X6{l:Nat}(h:Q.q .normal σ ds w):GP P n (.label l) Q σ ds w:=λ_ D=>wp_label ⟨σ,ds,D,h⟩
end
section
variable{P:Program}{σ:Ba}{w:wO}{ty T T':tI}{x y:Operand}
variable {kk:IntKind}{t t':tI}
theorem uB{a b:Bool}(D:P.underlying t=some .bool)(F:ev σ x=some (.bool a))(G:ev σ y=some (.bool b)):AK P σ (.binOp .eql t x y t') ty w (.bool (a==b)) w:=by
 have e:(Op.equal t (.bool a) (.bool b)).run P w=.ok (a==b) w:=by
   show (Op.equalIn (Op.maxDepth-1+1) t _ _).run P w=_;simp[Op.equalIn,run_underlying D]
 exact λJ _ _ _ _ h=>by simp[execOp,h _ _ F,h _ _ G,eqGuard,binOp,e]
theorem Rg{b:Bool}(h:P.underlying t=some .bool)(D:ev σ x=some (.bool true))(F:ev σ y=some (.bool b)):AK P σ (.binOp .eql t x y t') ty w (.bool b) w:=by
 have:=uB (ty:=ty) (w:=w) (t':=t') h D F;rwa[show (true==b)=b by cases b <;> rfl] at this
theorem cX{k:IntKind}{a b:Int}(m:Int)(F:ev σ x=some (.int k a))(G:ev σ y=some (.int k b))(h:k.wrap (BitVec.ofInt k.bits a ||| BitVec.ofInt k.bits b).toNat=m):AK P σ (.binOp .or t x y t') ty w (.int k m) w :=
 λJ _ _ _ _ D=>by
   simp only[execOp,D _ _ F,D _ _ G,eqGuard,binOp,Op.intBits,h,ne_eq,not_true_eq_false,if_false];rfl
theorem iG{a b:Int}{D:Array tI}(F:ev σ x=some (.int kk a))(G:ev σ y=some (.int kk b)):AK P σ (.call {callee:=.builtin .min,args:=#[x,y],argTypes:=D}) ty w (.int kk (if b<a then b else a)) w:=λJ _ _ _ _ h=>by
 simp[execOp,resolve,invoke,builtin,h _ _ F,h _ _ G,Builtin.min_,Builtin.min2]
end
end Go.SW
namespace Go.SW
open Go.RowKit
variable {r1 r2 r3:ResultVar}{v1 v2 v3 v4:Value}
theorem qK{P:Program}{σ:Ba}{w:wO}{fn:Func}{F G J K:ResultVar}{v5 v6 L:Value}(h:fn.results=#[r1,r2,r3,F,G,J,K])(O:Rv P σ w r1 v1)(W:Rv P σ w r2 v2)(Y:Rv P σ w r3 v3)(Z:Rv P σ w F v4)(h5:Rv P σ w G v5)(h6:Rv P σ w J v6)(h7:Rv P σ w K L) :
   Um P fn σ w (.tuple #[v1,v2,v3,v4,v5,v6,L]):=λtmps D=>by
 have g1:=O tmps D;have g2:=W tmps D;have g3:=Y tmps D;have g4:=Z tmps D;have g5:=h5 tmps D;have g6:=h6 tmps D;have g7:=h7 tmps D;rw[HY,h,List.mapM_toArray];simp[g1,g2,g3,g4,g5,g6,g7]
end Go.SW
namespace Go.SW
open Go.RowKit
theorem Lk{P:Program}{σ:Ba}{w:wO}{ty T:tI}{x:Operand}{b off k:Nat}{v:Value}(D:ev σ x=some (.pointer (some ⟨b,off,none⟩)))(F:AT P T=some (false,k))(G:w.cell? ⟨b,off,none⟩=some v):AK P σ (.load T x) ty w v w:=λJ _ _ _ _ h=>by
 simp[execOp,h _ _ D,Instr.loadAt,Instr.sureAddr,loadVar,Ew F,run_load,G]
end Go.SW
namespace Go.SW
open Go.RowKit
section
variable{P:Program}{n:Nat}{Q:AV}{σ:Ba}{ds:List Deferred}{w:wO}{ty T T':tI}{x y:Operand}
end
end Go.SW
namespace Go.SP
open Go.SW
variable {co ln nm:Int}{U:Nat→Prop}{a:oA}
theorem GO.head{w:wO}{n c:Nat}{op:Int}{tx:lU}{kids rest:Nd}(h:GO U w a n c (.cons op ln co tx nm kids rest)):∃b off l T ka kn kc D,U b∧a=some ⟨b,off,none⟩∧AS w b l T ∧
   l.drop off=.int .i64 op::.int .i64 ln::.int .i64 co::S tx::.int .i64 nm::.slice ka kn kc::D∧GO U w ka kn kc kids∧Fy U w rest D∧n=rest.len+1:=by
 obtain⟨F,Y,G|⟨b,off,l,T,hu,J,K,ka,kn,kc,D,L,O,W⟩⟩:=h
 · rw[G] at F;cases F
 · exact⟨b,off,l,T,ka,kn,kc,D,hu,J,K,L,O,W,F⟩
end Go.SP
namespace Go.SW
open Go.RowKit
def dJ(P:Program)(t:tI):Bool:=match P.underlying t with
 |some (.struct fs)=>(match fs.toList with
   | [f,g]=>(f.name != "_" && g.name != "_")&&(f.offset==0&&g.offset==1)&&(match P.underlying f.type,P.underlying g.type with|some (.int .i64),some (.int .i64)=>true|_,_=>false)
   |_=>false)&&(!P.stoodInHeld t&&!P.eqGuardType P.depth t)
 |_=>false
variable {e t t':tI}
theorem DS{P:Program}{w:wO}{k:IntKind}{cs:Array Value}{off:Nat}{v:Value}(he:P.underlying e=some (.int k))(h:cs[off]?=some v):(part e cs off).run P w=.ok v w:=by
 simp[part,isAgg,run_underlying he,h]
theorem Yf{P:Program}{w:wO}{a1 a2 b1 b2:Int}(h:dJ P t=true)(d:Nat) :
   (Op.equalIn (d+2) t (.agg #[.int .i64 a1,.int .i64 a2]) (.agg #[.int .i64 b1,.int .i64 b2])).run P w=.ok (a1==b1&&a2==b2) w:=by
 unfold dJ at h
 split at h
 · rename_i fs hu
   rw[Bool.and_eq_true] at h;obtain⟨D,G⟩:=h
   split at D
   · rename_i f g F
     simp only[Bool.and_eq_true] at D G;obtain⟨⟨⟨J,K⟩,L,O⟩,h3⟩:=D
     split at h3
     · rename_i W Y
       have e1:f.offset=0:=by simpa using L
       have e2:g.offset=1:=by simpa using O
       have n1:f.name ≠ "_" := by simpa using J
       have n2:g.name ≠ "_" := by simpa using K
       have Z:P.stoodInHeld t=false:=by simpa using G.1
       have q1:(Op.equalIn (d+1) f.type (.int .i64 a1) (.int .i64 b1)).run P w=.ok (a1==b1) w:=by simp[Op.equalIn,run_underlying W]
       have q2:(Op.equalIn (d+1) g.type (.int .i64 a2) (.int .i64 b2)).run P w=.ok (a2==b2) w:=by simp[Op.equalIn,run_underlying Y]
       have p1:(part f.type #[Value.int .i64 a1,.int .i64 a2] 0).run P w=.ok (.int .i64 a1) w:=DS W C;have p2:(part f.type #[Value.int .i64 b1,.int .i64 b2] 0).run P w=.ok (.int .i64 b1) w:=DS W C;have p3:(part g.type #[Value.int .i64 a1,.int .i64 a2] 1).run P w=.ok (.int .i64 a2) w:=DS Y C;have p4:(part g.type #[Value.int .i64 b1,.int .i64 b2] 1).run P w=.ok (.int .i64 b2) w:=DS Y C;obtain⟨fl⟩:=fs;simp only at F;subst F;rw[Op.equalIn];simp only[Sem.run_bind,run_underlying hu,Result.andThen_ok,run_program,Z,Bool.false_eq_true,if_false]
       cases D:a1==b1 <;> cases G:a2==b2 <;> simp[n1,n2,e1,e2,p1,p2,p3,p4,q1,q2,D,G]
     · cases h3
   · cases D
 · cases h
theorem ZB{P:Program}{σ:Ba}{w:wO}{ty:tI}{x y:Operand}{a1 a2 b1 b2:Int}(h:dJ P t=true)(F:ev σ x=some (.agg #[.int .i64 a1,.int .i64 a2]))(G:ev σ y=some (.agg #[.int .i64 b1,.int .i64 b2])) :
   AK P σ (.binOp .eql t x y t') ty w (.bool (a1==b1&&a2==b2)) w:=λK _ _ _ _ D=>by
 have J:P.eqGuardType P.depth t=false:=by
   unfold dJ at h
   split at h
   · simp only[Bool.and_eq_true] at h;simpa using h.2.2
   · cases h
 have e:=Yf (w:=w) (a1:=a1) (a2:=a2) (b1:=b1) (b2:=b2) h 9998;simp[execOp,D _ _ F,D _ _ G,run_eqGuard_agg w _ _ _ _ _ _ J,run_eql_struct,e]
abbrev Fq:=Nat→Nat
structure HB where
 b:Nat
 l:lV
 T:tI
 nw:Bool
structure RB where
 e:tI
 size:Nat
 a:oA
 c:Nat
 n:Nat
 xs:lV
structure FB where
 b:Nat
 off:Nat
 l:lV
structure MC(M:Nat→Prop)(w w':wO):Prop where
 os:w'.os=w.os
 tape:w'.tape=w.tape
 output:w'.output=w.output
 size:w.heap.size≤w'.heap.size
 block:∀k,k<w.heap.size→¬M k→w'.heap[k]?=w.heap[k]?
theorem MC.refl(M:Nat→Prop)(w:wO):MC M w w:=⟨C,C,C,Nat.le_refl _,λ_ _ _=>C⟩
variable {nw:Bool}{f':Fq}{H':List HB}{l l':lV}{b i off:Nat}{M M':Nat→Prop}{T:tI}{w' w1 w2:wO}
theorem MC.trans{w:wO}(h:MC M w w1)(k:MC M w1 w2):MC M w w2 :=
 ⟨k.os.trans h.os,k.tape.trans h.tape,k.output.trans h.output,Nat.le_trans h.size k.size,λi d hm=>(k.block i (Nat.lt_of_lt_of_le d h.size) hm).trans (h.block i d hm)⟩
theorem MC.mono{w:wO}(h:MC M w w1)(hm:∀b,M b→M' b):MC M' w w1:=⟨h.os,h.tape,h.output,h.size,λi d D=>h.block i d λF=>D (hm i F)⟩
theorem MC.of_ext{w:wO}(h:AW w w'):MC M w w':=⟨h.os,h.tape,h.output,h.size,λk d _=>h.block k d⟩
theorem MC.ext{w:wO}(h:MC (λ_=>False) w w'):AW w w':=⟨h.os,h.tape,h.output,h.size,λk d=>h.block k d (λh=>h)⟩
theorem DW{w:wO}(h:w'.heap[b]?=w.heap[b]?)(o:Nat):w'.cell? ⟨b,o,none⟩=w.cell? ⟨b,o,none⟩:=by simp[World.cell?,h]
def HF(w:wO)(f:Fq)(w':wO)(f':Fq):Prop:=∀b,f b≤f' b∧∀o,o<f b→w'.cell? ⟨b,o,none⟩=w.cell? ⟨b,o,none⟩
theorem HF.refl(w:wO)(f:Fq):HF w f w f:=λ_=>⟨Nat.le_refl _,λ_ _=>C⟩
theorem HF.trans{w:wO}{f f1 f2:Fq}(h:HF w f w1 f1)(k:HF w1 f1 w2 f2):HF w f w2 f2:=λb =>
 ⟨Nat.le_trans (h b).1 (k b).1,λo d=>((k b).2 o (Nat.lt_of_lt_of_le d (h b).1)).trans ((h b).2 o d)⟩
def Cs(w:wO)(f:Fq)(b off:Nat)(l:lV):Prop:=∀j v,l[j]?=some v→off+j<f b∧w.cell? ⟨b,off+j,none⟩=some v
abbrev EI(φ:wO→Fq→Prop):Prop:=∀w f w' f',φ w f→HF w f w' f'→φ w' f'
theorem Cs.mono{w:wO}{f:Fq}(h:Cs w f b off l)(d:HF w f w' f'):Cs w' f' b off l:=λj v F=>by
 obtain⟨D,G⟩:=h j v F;exact⟨Nat.lt_of_lt_of_le D (d b).1,((d b).2 _ D).trans G⟩
abbrev ED(MI:Nat→Prop)(I:wO→Fq→Prop):Prop:=∀w f w' f',I w f→HF w f w' f'→(∀b,MI b→w'.heap[b]?=w.heap[b]?)→I w' f'
structure Cx where
 M:Nat→Prop
 MI:Nat→Prop
 I:wO→Fq→Prop
 w0:wO
 f0:Fq
def Cf(H:List HB)(R:List RB):List Nat:=H.map (·.b)++R.filterMap λr=>rb r.a
structure AO(X:Cx)(w:wO)(f:Fq)(H:List HB)(R:List RB)(B:List FB)(Fs:List (wO→Fq→Prop)):Prop where
 stp:MC X.M X.w0 w
 old:∀b,b<X.w0.heap.size→f b=X.f0 b
 val:∀b,w.heap.size≤b→f b=0
 ent:HF X.w0 X.f0 w f
 res:X.I w f
 stab:ED X.MI X.I
 mi:∀b,X.MI b→b<w.heap.size∧f b=0∧(X.w0.heap.size≤b∨X.M b)
 blk:∀e,e∈H→AS w e.b e.l e.T
 row:∀r,r∈R→BQ w r.e r.size r.a r.c r.n r.xs
 nd:(Cf H R).Nodup
 own:∀b,b∈Cf H R→f b=0∧(X.w0.heap.size≤b∨X.M b)∧¬X.MI b
 hnw:∀e,e∈H→e.nw=true→X.w0.heap.size≤e.b
 rnw:∀r,r∈R→∀b,rb r.a=some b→X.w0.heap.size≤b
 fro:∀e,e∈B→Cs w f e.b e.off e.l
 fac:∀φ,φ∈Fs→φ w f
 mono:∀φ,φ∈Fs→EI φ
section
variable{X:Cx}{w:wO}{f:Fq}{H:List HB}{R:List RB}{B:List FB}{Fs:List (wO→Fq→Prop)}
theorem AO.lt(h:AO X w f H R B Fs)(d:b∈Cf H R):b<w.heap.size:=by
 rcases List.mem_append.1 d with d|d
 · obtain⟨e,he,rfl⟩:=List.mem_map.1 d
   exact (h.blk e he).lt
 · obtain⟨r,D,d⟩:=List.mem_filterMap.1 d
   exact (h.row r D).lt d
theorem AO.step(h:AO X w f H R B Fs)(O:MC X.M w w')(J:HF w f w' f')(hold:∀b,b<w.heap.size→f' b=f b)(F:∀b,w'.heap.size≤b→f' b=0)
   (D:∀b,b∈Cf H R→w'.heap[b]?=w.heap[b]?) (K:∀b,X.MI b→w'.heap[b]?=w.heap[b]?):AO X w' f' H R B Fs where
 stp:=h.stp.trans O
 old b d:=(hold b (Nat.lt_of_lt_of_le d h.stp.size)).trans (h.old b d)
 val:=F
 ent:=h.ent.trans J
 res:=h.stab _ _ _ _ h.res J K
 stab:=h.stab
 mi b d:=⟨Nat.lt_of_lt_of_le (h.mi b d).1 O.size,(hold b (h.mi b d).1).trans (h.mi b d).2.1,(h.mi b d).2.2⟩
 blk e he:=(D e.b (List.mem_append.2 (.inl (List.mem_map.2 ⟨e,he,C⟩)))).trans (h.blk e he)
 row r L:=by
   refine⟨(h.row r L).1,(h.row r L).2.imp id ?_⟩;rintro⟨b,l,Q,U,W⟩;exact⟨b,l,Q,(D b (List.mem_append.2 (.inr (List.mem_filterMap.2 ⟨r,L,by rw[Q];rfl⟩)))).trans U,W⟩
 nd:=h.nd
 own b d:=⟨(hold b (h.lt d)).trans (h.own b d).1,(h.own b d).2⟩
 hnw:=h.hnw
 rnw:=h.rnw
 fro e he:=(h.fro e he).mono J
 fac φ G:=h.mono φ G _ _ _ _ (h.fac φ G) J
 mono:=h.mono
theorem Jf(w:wO)(o:Obj)(k:Nat)(h:k<w.heap.size):(w.alloc o).heap[k]?=w.heap[k]?:=(J5 w o).block k h
theorem XH(h:∀b,w.heap.size≤b→f b=0)(o:Obj):HF w f (w.alloc o) f:=λb=>⟨Nat.le_refl _,λk F=>by
 have D:b<w.heap.size:=by
   rcases Nat.lt_or_ge b w.heap.size with d|d
   · exact d
   · have:=h b d;omega
 exact DW (Jf w o b D) k⟩
theorem AO.alloc(h:AO X w f H R B Fs):AO X (w.alloc (.cells l.toArray T)) f (⟨w.heap.size,l,T,true⟩::H) R B Fs:=by
 have F:AO X (w.alloc (.cells l.toArray T)) f H R B Fs:=h.step (MC.of_ext (J5 w _)) (XH h.val _) (λ_ _=>C) (λb d=>h.val b (by rw[GH] at d;omega))
   (λb d=>Jf w _ b (h.lt d)) (λb d=>Jf w _ b (h.mi b d).1)
 refine {F with blk:=?_,nd:=?_,own:=?_,hnw:=?_}
 · intro e he
   rcases List.mem_cons.1 he with rfl|he
   · exact Nb w l T
   · exact F.blk e he
 · show (w.heap.size::Cf H R).Nodup
   exact List.nodup_cons.2 ⟨λG=>Nat.lt_irrefl _ (h.lt G),h.nd⟩
 · intro b d
   have D:b∈w.heap.size::Cf H R:=d;rcases List.mem_cons.1 D with rfl|D
   · exact⟨h.val _ (Nat.le_refl _),.inl h.stp.size,λhm=>Nat.lt_irrefl _ (h.mi _ hm).1⟩
   · exact F.own b D
 · intro e he J
   rcases List.mem_cons.1 he with rfl|he
   · exact h.stp.size
   · exact h.hnw e he J
def Ra:List HB→Nat→HB→Option (List HB)
 | [],_,_=>none
 |_::H,0,e=>some (e::H)
 |x::H,i+1,e=>match Ra H i e with
   |some r=>some (x::r)
   |none=>none
def G9:List HB→Nat→Option HB
 | [],_=>none
 |x::_,0=>some x
 |_::H,i+1=>G9 H i
theorem ZJ:∀{H H':List HB}{i:Nat}{e D:HB},G9 H i=some e→Ra H i D=some H'→D.b=e.b→H'.map (·.b)=H.map (·.b)∧(∀x,x∈H'→x=D∨x∈H)∧e∈H
 | [],_,_,_,_,h,_,_=>by cases h
 |x::H,H',0,e,D,F,d,G=>by
   cases F;cases d
   exact⟨by simp[G],λx L=>by rcases List.mem_cons.1 L with h|h;exact .inl h;exact .inr (.tail _ h),.head _⟩
 |x::H,H',i+1,e,D,F,d,G=>by
   unfold Ra at d
   cases J:Ra H i D with
   |none=>rw[J] at d;cases d
   |some r =>
     rw[J] at d;cases d;obtain⟨O,Q,U⟩:=ZJ (H:=H) F J G
     exact⟨by simp[O],λy K=>by
       rcases List.mem_cons.1 K with rfl|K
       · exact .inr (.head _)
       · rcases Q y K with h|h
         · exact .inl h
         · exact .inr (.tail _ h),.tail _ U⟩
theorem QS:∀{H H':List HB}{i:Nat}{e D:HB},G9 H i=some e→Ra H i D=some H'→(H.map (·.b)).Nodup→∀x,x∈H'→x=D∨(x∈H∧x.b≠e.b)
 | [],_,_,_,_,h,_,_=>by cases h
 |x::H,H',0,e,D,J,d,K=>by
   cases J;cases d
   intro y F;rcases List.mem_cons.1 F with h|h
   · exact .inl h
   · refine .inr ⟨.tail _ h,λe=>?_⟩
     have:=(List.nodup_cons.1 K).1;exact this (List.mem_map.2 ⟨y,h,e⟩)
 |x::H,H',i+1,e,D,J,d,K=>by
   unfold Ra at d
   cases L:Ra H i D with
   |none=>rw[L] at d;cases d
   |some r =>
     rw[L] at d;cases d;have G:=List.nodup_cons.1 K;have O:=QS (H:=H) J L G.2;intro y F;rcases List.mem_cons.1 F with rfl|F
     · refine .inr ⟨.head _,λh=>G.1 ?_⟩
       have he:e∈H:=by
         have:∀(H:List HB)(i:Nat)(e:HB),G9 H i=some e→e∈H:=by
           intro H
           induction H with
           |nil=>intro i e h;cases h
           |cons a H O=>intro i e h;cases i with|zero=>cases h;exact .head _|succ i=>exact .tail _ (O i e h)
         exact this H i e J
       exact List.mem_map.2 ⟨e,he,h.symm⟩
     · rcases O y F with h|h
       · exact .inl h
       · exact .inr ⟨.tail _ h.1,h.2⟩
theorem BD:∀{H:List HB}{i:Nat}{e:HB},G9 H i=some e→e∈H
 | [],_,_,h=>by cases h
 |_::_,0,_,h=>by cases h;exact .head _
 |_::H,i+1,e,h=>.tail _ (BD (H:=H) h)
theorem AO.chg(h:AO X w f H R B Fs)(G:G9 H i=some ⟨b,l,T,nw⟩)(W:Ra H i ⟨b,l',T,nw⟩=some H')(hb:AS w' b l' T)(d:Hc b w w'):AO X w' f H' R B Fs:=by
 have J:b∈Cf H R:=List.mem_append.2 (.inl (List.mem_map.2 ⟨_,BD G,C⟩));obtain⟨h1,O,h3⟩:=h.own b J
 have Q:HF w f w' f:=λk=>⟨Nat.le_refl _,λo ho=>by
   have:k≠b:=λe=>by rw[e,h1] at ho;omega
   exact DW (d.block k this) o⟩
 obtain⟨e1,_,_⟩:=ZJ G W C;have K:(H.map (·.b)).Nodup:=(List.nodup_append.1 h.nd).1
 have Y:∀r,r∈R→rb r.a≠some b:=λr U e=>by
   have:=(List.nodup_append.1 h.nd).2.2 b (List.mem_map.2 ⟨_,BD G,C⟩) b (List.mem_filterMap.2 ⟨r,U,e⟩);exact this C
 have Z:∀k,X.MI k→w'.heap[k]?=w.heap[k]?:=λk D=>d.block k (λe=>h3 (e▸D))
 exact {stp:=⟨d.os.trans h.stp.os,d.tape.trans h.stp.tape,d.output.trans h.stp.output,by rw[d.size];exact h.stp.size,λk D hm=>(d.block k (λe=>by
           subst e;rcases O with O|O
           · omega
           · exact hm O)).trans (h.stp.block k D hm)⟩,
         old:=h.old,val:=λk D=>h.val k (by rw[d.size] at D;exact D),ent:=h.ent.trans Q,res:=h.stab _ _ _ _ h.res Q Z,stab:=h.stab,
         mi:=λk D=>by rw[d.size];exact h.mi k D,
         blk:=λx F=>by
           rcases QS G W K x F with rfl|⟨F,hne⟩
           · exact hb
           · exact (h.blk x F).chg d hne,
         row:=λr U=>(h.row r U).chg d (Y r U),
         nd:=by unfold Cf;rw[e1];exact h.nd,
         own:=λk D=>h.own k (by unfold Cf at D ⊢;rwa[e1] at D),
         hnw:=λx F hn=>by
           rcases QS G W K x F with rfl|⟨F,_⟩
           · exact h.hnw ⟨b,l,T,nw⟩ (BD G) hn
           · exact h.hnw x F hn,
         rnw:=h.rnw,
         fro:=λx F=>(h.fro x F).mono Q,fac:=λφ L=>h.mono φ L _ _ _ _ (h.fac φ L) Q,mono:=h.mono}
end
structure Ym where
 fl:List (Nat×Nat×Nat)
 sl:List (Nat×Nat×Nat)
 st:List Nat
 bo:List Nat
 ti:List (Nat×Bool×Nat)
 zr:List (Nat×lV)
 pl:List (Nat×List (Nat×Nat))
 pt:List (Nat×Nat)
def sY(P:Program):List (Nat×Nat×Nat)→Prop
 | []=>True
 |(T,i,o)::l=>DD P T i=some o∧sY P l
def wJ(P:Program):List (Nat×Nat×Nat)→Prop
 | []=>True
 |(T,e,k)::l=>Hj P T=some (e,k)∧wJ P l
def jP(P:Program)(d:TypeDesc):List Nat→Prop
 | []=>True
 |T::l=>P.underlying T=some d∧jP P d l
def uY(P:Program):List (Nat×Bool×Nat)→Prop
 | []=>True
 |(T,a,k)::l=>AT P T=some (a,k)∧uY P l
def rG(P:Program):List (Nat×lV)→Prop
 | []=>True
 |(T,z)::l=>FK P T=some z∧rG P l
def vQ(P:Program):List (Nat×List (Nat×Nat))→Prop
 | []=>True
 |(T,z)::l=>K2 P T=some z∧vQ P l
def sN(P:Program):List (Nat×Nat)→Prop
 | []=>True
 |(T,e)::l=>P.underlying T=some (.pointer e)∧sN P l
structure Ym.Ok(P:Program)(t:Ym):Prop where
 fl:sY P t.fl
 sl:wJ P t.sl
 st:jP P .string t.st
 bo:jP P .bool t.bo
 ti:uY P t.ti
 zr:rG P t.zr
 pl:vQ P t.pl
 pt:sN P t.pt
def lkF:List (Nat×Nat×Nat)→Nat→Nat→Option Nat
 | [],_,_=>none
 |(T,i,o)::l,h,D=>bif Nat.beq T h&&Nat.beq i D then some o else lkF l h D
def WO:List (Nat×Nat×Nat)→Nat→Option (Nat×Nat)
 | [],_=>none
 |(T,e,k)::l,h=>bif Nat.beq T h then some (e,k) else WO l h
def yK:List Nat→Nat→Bool
 | [],_=>false
 |T::l,h=>bif Nat.beq T h then true else yK l h
def qM:List (Nat×Bool×Nat)→Nat→Option (Bool×Nat)
 | [],_=>none
 |(T,a,k)::l,h=>bif Nat.beq T h then some (a,k) else qM l h
def Yq{α:Type}:List (Nat×α)→Nat→Option α
 | [],_=>none
 |(T,z)::l,h=>bif Nat.beq T h then some z else Yq l h
theorem fD{P:Program}:∀{l:List (Nat×Nat×Nat)}{T i o:Nat},sY P l→lkF l T i=some o→DD P T i=some o
 | [],_,_,_,_,h=>by cases h
 |(T,i,o)::l,G,J,O,F,h=>by
   unfold lkF at h
   cases D:(Nat.beq T G&&Nat.beq i J) with
   |true =>
     rw[D] at h;simp only[Bool.and_eq_true] at D;have K:=Nat.eq_of_beq_eq_true D.1;have L:=Nat.eq_of_beq_eq_true D.2;subst K L
     cases h
     exact F.1
   |false=>rw[D] at h;exact fD F.2 h
theorem JT{P:Program}:∀{l:List (Nat×Nat×Nat)}{T e k:Nat},wJ P l→WO l T=some (e,k)→Hj P T=some (e,k)
 | [],_,_,_,_,h=>by cases h
 |(T,e,k)::l,G,K,L,F,h=>by
   unfold WO at h
   cases D:Nat.beq T G with
   |true=>rw[D] at h;have J:=Nat.eq_of_beq_eq_true D;subst J;cases h;exact F.1
   |false=>rw[D] at h;exact JT F.2 h
theorem QZ{P:Program}{d:TypeDesc}:∀{l:List Nat}{T:Nat},jP P d l→yK l T=true→P.underlying T=some d
 | [],_,_,h=>by cases h
 |T::l,G,D,h=>by
   unfold yK at h
   cases F:Nat.beq T G with
   |true=>have J:=Nat.eq_of_beq_eq_true F;subst J;exact D.1
   |false=>rw[F] at h;exact QZ D.2 h
theorem FR{P:Program}:∀{l:List (Nat×Bool×Nat)}{T k:Nat}{a:Bool},uY P l→qM l T=some (a,k)→AT P T=some (a,k)
 | [],_,_,_,_,h=>by cases h
 |(T,a,k)::l,G,K,a',F,h=>by
   unfold qM at h
   cases D:Nat.beq T G with
   |true=>rw[D] at h;have J:=Nat.eq_of_beq_eq_true D;subst J;cases h;exact F.1
   |false=>rw[D] at h;exact FR F.2 h
theorem QM{P:Program}:∀{l:List (Nat×lV)}{T:Nat}{z:lV},rG P l→Yq l T=some z→FK P T=some z
 | [],_,_,_,h=>by cases h
 |(T,z)::l,G,K,F,h=>by
   unfold Yq at h
   cases D:Nat.beq T G with
   |true=>rw[D] at h;have J:=Nat.eq_of_beq_eq_true D;subst J;cases h;exact F.1
   |false=>rw[D] at h;exact QM F.2 h
theorem Y7{P:Program}:∀{l:List (Nat×List (Nat×Nat))}{T:Nat}{z:List (Nat×Nat)},vQ P l→Yq l T=some z→K2 P T=some z
 | [],_,_,_,h=>by cases h
 |(T,z)::l,G,K,F,h=>by
   unfold Yq at h
   cases D:Nat.beq T G with
   |true=>rw[D] at h;have J:=Nat.eq_of_beq_eq_true D;subst J;cases h;exact F.1
   |false=>rw[D] at h;exact Y7 F.2 h
theorem YZ{P:Program}:∀{l:List (Nat×Nat)}{T e:Nat},sN P l→Yq l T=some e→P.underlying T=some (.pointer e)
 | [],_,_,_,h=>by cases h
 |(T,e)::l,G,K,F,h=>by
   unfold Yq at h
   cases D:Nat.beq T G with
   |true=>rw[D] at h;have J:=Nat.eq_of_beq_eq_true D;subst J;cases h;exact F.1
   |false=>rw[D] at h;exact YZ F.2 h
def xC:BinOp→oA→Option Value
 |.eql,some _=>some (.bool false)
 |.eql,none=>some (.bool true)
 |.neq,some _=>some (.bool true)
 |.neq,none=>some (.bool false)
 |_,_=>none
def vR:BinOp→Value→Value→Option Value
 |.eql,.int k a,.int h b=>bif k==h then some (.bool (a==b)) else none
 |.neq,.int k a,.int h b=>bif k==h then some (.bool (a != b)) else none
 |.lss,.int k a,.int h b=>bif k==h then some (.bool (decide (a<b))) else none
 |.leq,.int k a,.int h b=>bif k==h then some (.bool (decide (a≤b))) else none
 |.gtr,.int k a,.int h b=>bif k==h then some (.bool (decide (b<a))) else none
 |.geq,.int k a,.int h b=>bif k==h then some (.bool (decide (b≤a))) else none
 |.eql,.string ⟨⟨a⟩⟩,.string ⟨⟨b⟩⟩=>some (.bool (a==b))
 |.neq,.string ⟨⟨a⟩⟩,.string ⟨⟨b⟩⟩=>some (.bool (!(a==b)))
 |_,_,_=>none
def pv(tb:Ym)(σ:Ba):Op→Option Value
 |.move x=>ev σ x
 |.assign x=>ev σ x
 |.pick c x y=>match ev σ c with
   |some (.bool true)=>ev σ x
   |some (.bool false)=>ev σ y
   |_=>none
 |.unOp .not _ x=>match ev σ x with
   |some (.bool b)=>some (.bool (!b))
   |_=>none
 |.binOp o T x y _=>match ev σ x,ev σ y with
   |some (.pointer a),some (.pointer none)=>match Yq tb.pt T with
     |some _=>xC o a
     |none=>none
   |some (.slice a _ _),some (.slice none _ _)=>match WO tb.sl T,o with
     |some _,.eql=>some (.bool a.isNone)
     |_,_=>none
   |some a,some b=>vR o a b
   |_,_=>none
 |.fieldAddr T x i=>match ev σ x,lkF tb.fl T i with
   |some (.pointer (some ⟨b,o,none⟩)),some d=>some (.pointer (some ⟨b,o+d,none⟩))
   |_,_=>none
 |.nilCheck x=>match ev σ x with
   |some (.pointer (some a))=>some (.pointer (some a))
   |_=>none
 |.extract x i=>match ev σ x with
   |some (.tuple ⟨vs⟩)=>vs[i]?
   |_=>none
 |.build T ⟨parts⟩=>match Gj σ parts,Yq tb.pl T,Yq tb.zr T with
   |some pv,some pl,some z=>match JK pl z pv with
     |some out=>some (.agg ⟨out⟩)
     |none=>none
   |_,_,_=>none
 |.call ⟨.builtin .len,⟨[x]⟩,⟨[T]⟩⟩=>match ev σ x with
   |some (.slice _ n _)=>match WO tb.sl T with
     |some _=>some (.int .i64 n)
     |none=>none
   |some (.string ⟨⟨s⟩⟩)=>match yK tb.st T with
     |true=>some (.int .i64 s.length)
     |false=>none
   |_=>none
 |_=>none
section
variable{P:Program}{σ:Ba}{w:wO}{ty:tI}
variable {c' k n':Nat}{x:Operand}{a:oA}{e t t':tI}
theorem tA{o:BinOp}{y:Operand}{a b v:Value}(D:ev σ x=some a)(F:ev σ y=some b)(h:vR o a b=some v):AK P σ (.binOp o t x y t') ty w v w:=by
 unfold vR at h
 split at h
 all_goals first
   |(
     rename_i k a J b
     cases G:(k==J) with
     |false=>rw[G] at h;cases h
     |true =>
       rw[G] at h;have e:k=J:=by simpa using G
       subst e
       cases h
       first|exact rL D F|exact cL D F|exact UP D F|exact Zq D F|exact YY D F|exact dV D F)
   |(cases h;first|exact rM D F|exact uD D F)
   |cases h
theorem sV{o:BinOp}{y:Operand}{v:Value}(F:P.underlying t=some (.pointer e))(G:ev σ x=some (.pointer a))(J:ev σ y=some (.pointer none))(h:xC o a=some v):AK P σ (.binOp o t x y t') ty w v w:=by
 have K:(Op.equal t (.pointer a) (.pointer none)).run P w=.ok a.isNone w:=by
   show (Op.equalIn (Op.maxDepth-1+1) t _ _).run P w=_
   cases a <;> simp[Op.equalIn,run_underlying F]
 unfold xC at h
 split at h
 all_goals first
   |(cases h;exact λL _ _ _ _ D=>by simp[execOp,D _ _ G,D _ _ J,eqGuard,binOp,K])
   |cases h
theorem kE{y:Operand}{n c:Nat}(D:Hj P t=some (e,k))(F:ev σ x=some (.slice a n c))(G:ev σ y=some (.slice none n' c')):AK P σ (.binOp .eql t x y t') ty w (.bool a.isNone) w:=by
 obtain⟨i,hu,_,_⟩:=FH D
 have J:(Op.equal t (.slice a n c) (.slice none n' c')).run P w=.ok a.isNone w:=by
   show (Op.equalIn (Op.maxDepth-1+1) t _ _).run P w=_
   cases a <;> simp[Op.equalIn,run_underlying hu]
 exact λK _ _ _ _ h=>by simp[execOp,h _ _ F,h _ _ G,eqGuard,binOp,J]
theorem QE{tb:Ym}(F:tb.Ok P):∀{op:Op}{v:Value},pv tb σ op=some v→AK P σ op ty w v w:=by
 intro op v h;unfold pv at h
 split at h
 · exact Aw h
 · exact CV h
 · split at h
   · rename_i K;exact O2 K C h
   · rename_i K;exact Nr K C h
   · cases h
 · split at h
   · rename_i D;cases h;exact Up D
   · cases h
 · split at h
   · rename_i D G
     split at h
     · rename_i J;exact sV (YZ F.pt J) D G h
     · cases h
   · rename_i D G
     split at h
     · rename_i q J;cases h;exact kE (JT (e:=q.1) (k:=q.2) F.sl J) D G
     · cases h
   · rename_i D G;exact tA D G h
   · cases h
 · split at h
   · rename_i D L;cases h;exact CB D (fD F.fl L)
   · cases h
 · split at h
   · rename_i D;cases h;exact Cj D
   · cases h
 · split at h
   · rename_i D;exact U5 D h
   · cases h
 · split at h
   · rename_i J U hz
     split at h
     · rename_i L;cases h;exact D5 J (Y7 F.pl U) (QM F.zr hz) L
     · cases h
   · cases h
 · split at h
   · rename_i D
     split at h
     · rename_i e O;cases h;exact Mb D (JT (e:=e.1) (k:=e.2) F.sl O)
     · cases h
   · rename_i D
     split at h <;> rename_i O
     · cases h;exact MS D (QZ F.st O)
     · cases h
   · cases h
 · cases h
end
end Go.SW
namespace Go.SW
open Go.RowKit
inductive Fr where
 |sq (y:Code)
 |bk (i:Nat)
inductive K3 where
 |code (c:Code)
 |ops (all l:List Oper)
 |out (e:Exit)
def nth{α:Type}:List α→Nat→Option α
 | [],_=>none
 |x::_,0=>some x
 |_::l,i+1=>nth l i
theorem Es{α:Type}:∀(l:List α)(i:Nat),nth l i=l[i]?
 | [],_=>by simp[nth]
 |x::_,0=>by simp[nth]
 |_::l,i+1=>by simp[nth,Es l i]
def gd(all:List Oper)(σ:Ba)(g:Option (Nat×Bool)):Option Bool:=match g with
 |none=>some true
 |some (j,want)=>match nth all j with
   |some q=>match q.dst with
     |some h=>match σ h with
       |some (.bool true)=>some want
       |some (.bool false)=>some (!want)
       |some (.tuple ⟨[]⟩)=>some false
       |_=>none
     |none=>none
   |none=>none
section
variable(P:Program)(n:Nat)(Q:AV)(ds:List Deferred)(X:Cx)(R:List RB)(B:List FB)(Fs:List (wO→Fq→Prop))(tb:Ym)
def Lo:List Fr→AV
 | []=>Q
 |.sq y::fs=>thn P n y (Lo fs)
 |.bk i::fs=>blk i (Lo fs)
def A1(k:K3)(fs:List Fr)(σ:Ba)(H:List HB):Prop:=∀w f,AO X w f H R B Fs→match k with
 |.code c=>GP P n c (Lo P n Q fs) σ ds w
 |.ops all l=>Gd P n all.toArray (Lo P n Q fs) l σ ds w
 |.out e=>(Lo P n Q fs).q e σ ds w
def ex:Nat→List Nat→K3→List Fr→Ba→List HB→Prop
 |0,_,k,fs,σ,H=>True→A1 P n Q ds X R B Fs k fs σ H
 |m+1,D,.code c,fs,σ,H=>(match c with
   |.skip=>ex m D (.out .normal) fs σ H
   |.ret=>ex m D (.out .ret) fs σ H
   |.exit i=>ex m D (.out (.exit i)) fs σ H
   |.seq a b=>ex m D (.code a) (.sq b::fs) σ H
   |.block i a=>ex m D (.code a) (.bk i::fs) σ H
   |.region _ ⟨l⟩ false=>ex m D (.ops l l) fs σ H
   |.cond x a b=>(match ev σ x with
     |some (.bool true)=>ex m D (.code a) fs σ H
     |some (.bool false)=>ex m D (.code b) fs σ H
     |_=>False)
   |_=>False)
 |m+1,D,.out e,fs,σ,H=>(match fs with
   | []=>False
   |.sq y::fs=>(match e with
     |.normal=>ex m D (.code y) fs σ H
     |.ret=>ex m D (.out .ret) fs σ H
     |.exit i=>ex m D (.out (.exit i)) fs σ H
     |_=>False)
   |.bk i::fs=>(match e with
     |.normal=>ex m D (.out .normal) fs σ H
     |.ret=>ex m D (.out .ret) fs σ H
     |.exit j=>(match Nat.beq j i with
       |true=>ex m D (.out .normal) fs σ H
       |false=>ex m D (.out (.exit j)) fs σ H)
     |_=>False))
 |m+1,D,.ops all [],fs,σ,H=>ex m D (.out .normal) fs σ H
 |m+1,D,.ops all (⟨dst,op,ty,pos,af,g⟩::r),fs,σ,H=>(match gd all σ g with
   |none=>False
   |some false=>(match dst with
     |some d=>(match Nat.blt d n with
       |true=>ex m D (.ops all r) fs (AI σ d undef) H
       |false=>False)
     |none=>False)
   |some true=>(match dst with
     |none=>(match op with
       |.store T x y=>(match D with
         | []=>False
         |h::D=>(match ev σ x,ev σ y,G9 H h,qM tb.ti T with
           |some (.pointer (some ⟨b,o,none⟩)),some v,some ⟨F,l,G,nw⟩,some (a,k)=>(match Hm v with
             |some vs=>(match Nat.beq vs.length k&&MB vs,OR l o vs with
               |true,some J=>(match Ra H h ⟨F,J,G,nw⟩ with
                 |some H'=>F=b∧ex m D (.ops all r) fs σ H'
                 |none=>False)
               |_,_=>False)
             |none=>False)
           |_,_,_,_=>False))
       |_=>False)
     |some d=>(match Nat.blt d n with|false=>False|true=>(match op with
       |.alloc T=>(match Yq tb.zr T with
         |some z=>∀b,ex m D (.ops all r) fs (AI σ d (.pointer (some ⟨b,0,none⟩))) (⟨b,z,T,true⟩::H)
         |none=>False)
       |.box T x=>(match ev σ x with
         |some v=>(match Hm v with
           |some l=>∀b,ex m D (.ops all r) fs (AI σ d (.pointer (some ⟨b,0,none⟩))) (⟨b,l,T,true⟩::H)
           |none=>False)
         |none=>False)
       |.buildSlice T len ⟨parts⟩=>(match WO tb.sl T,Gj σ parts with
         |some (e,k),some pv=>(match Yq tb.zr e with
           |some z=>(match (Nat.beq z.length k&&Nat.blt 0 k)&&(Nat.blt 0 len&&Nat.ble (len*k) 16777216),JK (JP k 0 len) (EV len z) pv with
             |true,some l=>∀b,ex m D (.ops all r) fs (AI σ d (.slice (some ⟨b,0,none⟩) len len)) (⟨b,l,e,true⟩::H)
             |_,_=>False)
           |none=>False)
         |_,_=>False)
       |.load T x=>(match D with
         | []=>False
         |h::D=>(match ev σ x,qM tb.ti T with
           |some (.pointer (some ⟨b,o,none⟩)),some (a,k)=>(match Nat.blt h 100 with
             |true=>(match G9 H h with
               |some ⟨F,l,_,_⟩=>(match a with
                 |false=>(match nth l o with
                   |some v=>F=b∧ex m D (.ops all r) fs (AI σ d v) H
                   |none=>False)
                 |true=>(match UH l o k with
                   |some vs=>F=b∧ex m D (.ops all r) fs (AI σ d (.agg ⟨vs⟩)) H
                   |none=>False))
               |none=>False)
             |false=>(match D with
               | []=>False
               |q::D=>(match nth B (h-100) with
                 |some ⟨F,off,l⟩=>(match a with
                   |false=>(match nth l q with
                     |some v=>(F=b∧off+q=o)∧ex m D (.ops all r) fs (AI σ d v) H
                     |none=>False)
                   |true=>(match UH l q k with
                     |some vs=>(F=b∧off+q=o)∧ex m D (.ops all r) fs (AI σ d (.agg ⟨vs⟩)) H
                     |none=>False))
                 |none=>False)))
           |_,_=>False))
       |.indexAddr T x y=>(match ev σ x,ev σ y,WO tb.sl T with
         |some (.slice (some ⟨b,o,none⟩) len _),some (.int _ i),some (_,k)=>(0≤i∧i<len)∧ex m D (.ops all r) fs (AI σ d (.pointer (some ⟨b,o+i.toNat*k,none⟩))) H
         |_,_,_=>False)
       |.index T x y=>(match ev σ x,ev σ y,yK tb.st T with
         |some (.string ⟨⟨s⟩⟩),some (.int _ i),true=>(0≤i∧i<s.length)∧∀c,s[i.toNat]?=some c→ex m D (.ops all r) fs (AI σ d (.int .u8 c.toNat)) H
         |_,_,_=>False)
       |.binOp .add T x y G=>(match ev σ x,ev σ y with
         |some (.int .i64 a),some (.int .i64 b)=>Qj (a+b)∧ex m D (.ops all r) fs (AI σ d (.int .i64 (a+b))) H
         |some (.string ⟨⟨a⟩⟩),some (.string ⟨⟨b⟩⟩)=>a.length+b.length≤9223372036854775807∧ex m D (.ops all r) fs (AI σ d (S (a++b))) H
         |_,_=>False)
       |.binOp .sub T x y G=>(match ev σ x,ev σ y with
         |some (.int .i64 a),some (.int .i64 b)=>Qj (a-b)∧ex m D (.ops all r) fs (AI σ d (.int .i64 (a-b))) H
         |_,_=>False)
       |op=>(match pv tb σ op with
         |some v=>ex m D (.ops all r) fs (AI σ d v) H
         |none=>False)))))
end
variable {af:Array Edge}{f:Fq}{H:List HB}{r:List Oper}{l vs:lV}{b d i k o off:Nat}{x:Operand}{g:Option (Nat×Bool)}{dst:Option Tmp}{T:tI}
theorem Jm{n:Nat}{σ:Ba}{ds:List Deferred}{all:List Oper}{a:Act}{op:Op}{ty:tI}{pos:String}{b:Bool}(F:St n σ ds a)(h:gd all σ g=some b) :
   Region.wanted ⟨dst,op,ty,pos,af,g⟩ (yielded all.toArray a.tmps)=b:=by
 unfold gd at h
 split at h
 · cases h;rfl
 · rename_i j want
   split at h
   · rename_i q J
     rw[Es] at J
     split at h
     · rename_i K hd
       have G:(all.toArray[j]?).bind (·.dst)=some K:=by simp[J,hd]
       split at h
       · rename_i D;cases h;rw[Gp F G D];cases b <;> rfl
       · rename_i D;cases h;rw[Gp F G D];cases want <;> rfl
       · rename_i D;cases h;exact Xd F G D
       · cases h
     · cases h
   · cases h
section
variable{P:Program}{n:Nat}{Q:AV}{ds:List Deferred}{X:Cx}{R:List RB}{B:List FB}{Fs:List (wO→Fq→Prop)}{tb:Ym}
theorem Bh{Q:AV}{σ:Ba}{w:wO}{all:List Oper}{op:Op}{ty:tI}{pos:String}(G:gd all σ g=some true)
   (h:Gd P n all.toArray Q (⟨dst,op,ty,pos,af,none⟩::r) σ ds w):Gd P n all.toArray Q (⟨dst,op,ty,pos,af,g⟩::r) σ ds w:=λa F=>by
 have D:=h a F;unfold wpList at D ⊢;rw[if_pos (by simp[Region.wanted])] at D;rw[if_pos (Jm F G)];exact D
theorem Og{Q:AV}{σ:Ba}{w:wO}{all:List Oper}{op:Op}{ty:tI}{pos:String}(F:gd all σ g=some false)(hd:Nat.blt d n=true)
   (h:Gd P n all.toArray Q r (AI σ d undef) ds w):Gd P n all.toArray Q (⟨some d,op,ty,pos,af,g⟩::r) σ ds w:=λa D=>by
 unfold wpList;rw[if_neg (by rw[Jm D F];simp)];exact h _ (D.put hd undef)
theorem AO.getB{w:wO}(h:AO X w f H R B Fs)(D:nth B i=some ⟨b,off,l⟩):Cs w f b off l:=by
 rw[Es] at D;exact h.fro _ (List.mem_of_getElem? D)
theorem QX:∀{l:lV}{q k:Nat}{vs:lV},UH l q k=some vs→vs.length=k∧∀j v,vs[j]?=some v→l[q+j]?=some v:=by
 intro l q k vs h;obtain⟨G,J⟩:=Ld h;refine⟨J,λj v D=>?_⟩;rw[← G] at D
 have F:j<k:=by
   rcases Nat.lt_or_ge j k with h|h
   · exact h
   · rw[List.getElem?_take,if_neg (by omega)] at D;cases D
 rwa[List.getElem?_take,if_pos F,List.getElem?_drop] at D
theorem IW{σ:Ba}{w:wO}{ty:tI}{v:Value}(D:ev σ x=some (.pointer (some ⟨b,o,none⟩)))(F:AT P T=some (false,k))(G:w.cell? ⟨b,o,none⟩=some v):AK P σ (.load T x) ty w v w:=λJ _ _ _ _ h=>by
 simp[execOp,h _ _ D,Instr.loadAt,Instr.sureAddr,loadVar,Ew F,run_load,G]
theorem K9{σ:Ba}{w:wO}{ty:tI}(G:ev σ x=some (.pointer (some ⟨b,o,none⟩)))(D:AT P T=some (true,k))(J:vs.length=k)(K:∀j v,vs[j]?=some v→w.cell? ⟨b,o+j,none⟩=some v) :
   AK P σ (.load T x) ty w (.agg vs.toArray) w:=λO _ _ _ _ h=>by
 have F:=run_loadCells_list (P:=P) w ⟨b,o,none⟩ vs (λj v L=>by rw[Ea];exact K j v L);rw[J] at F;simp[execOp,h _ _ G,Instr.loadAt,Instr.sureAddr,loadVar,Ew D,HT D,F]
theorem IJ(J:tb.Ok P):∀(m:Nat)(Y:List Nat)(k:K3)(fs:List Fr)(σ:Ba)(H:List HB),ex P n Q ds X R B Fs tb m Y k fs σ H→A1 P n Q ds X R B Fs k fs σ H
 |0,_,_,_,_,_,h=>h tQ
 |m+1,Y,.code c,fs,σ,H,h=>by
   have F:=IJ J m;intro w f D;unfold ex at h
   split at h
   · exact HD (F _ _ _ _ _ h w f D)
   · exact J6 (F _ _ _ _ _ h w f D)
   · exact KP (F _ _ _ _ _ h w f D)
   · exact BF (F _ _ _ _ _ h w f D)
   · exact DU (F _ _ _ _ _ h w f D)
   · exact C6 (F _ _ _ _ _ h w f D)
   · split at h
     · rename_i G;exact F2 G C (F _ _ _ _ _ h w f D)
     · rename_i G;exact J4 G C (F _ _ _ _ _ h w f D)
     · exact h.elim
   · exact h.elim
 |m+1,Y,.out e,fs,σ,H,h=>by
   have F:=IJ J m;intro w f D;unfold ex at h
   split at h
   · exact h.elim
   · split at h
     · exact Dr (F _ _ _ _ _ h w f D)
     · exact VQ (F _ _ _ _ _ h w f D)
     · exact WE (F _ _ _ _ _ h w f D)
     · exact h.elim
   · split at h
     · exact IA (F _ _ _ _ _ h w f D)
     · exact WL (F _ _ _ _ _ h w f D)
     · split at h
       · rename_i Z
         have e:=Nat.eq_of_beq_eq_true Z;subst e;exact PE (F _ _ _ _ _ h w f D)
       · rename_i Z;exact pZ Z (F _ _ _ _ _ h w f D)
     · exact h.elim
 |m+1,Y,.ops all [],fs,σ,H,h=>by
   intro w f D;unfold ex at h;exact Ah (IJ J m _ _ _ _ _ h w f D)
 |m+1,Y,.ops all (⟨dst,op,ty,pos,af,g⟩::r),fs,σ,H,h=>by
   have F:=IJ J m;intro w f D;unfold ex at h
   split at h
   · exact h.elim
   · rename_i hg
     split at h
     · split at h
       · rename_i hd;exact Og hg hd (F _ _ _ _ _ h w f D)
       · exact h.elim
     · exact h.elim
   · rename_i hg
     refine Bh hg ?_
     split at h
     · split at h
       · split at h
         · exact h.elim
         · split at h
           · rename_i G L hH O
             split at h
             · rename_i vs K
               split at h
               · rename_i hk hp
                 split at h
                 · rename_i H' W
                   obtain⟨rfl,h⟩:=h;simp only[Bool.and_eq_true] at hk;exact AA G L K (FR J.ti O) hk.1 (D.blk _ (BD hH)) hk.2 hp λw' Z hC=>F _ _ _ _ _ h w' f (D.chg hH W Z hC)
                 · exact h.elim
               · exact h.elim
             · exact h.elim
           · exact h.elim
       · exact h.elim
     · split at h
       · exact h.elim
       rename_i hd
       split at h
       · split at h
         · rename_i z hz
           exact Ac hd (Tl (QM J.zr hz)) (F _ _ _ _ _ (h _) _ f D.alloc)
         · exact h.elim
       · split at h
         · rename_i v G
           split at h
           · rename_i l hl
             have e:=Gk hl;subst e;exact Ac hd (Y2 G) (F _ _ _ _ _ (h _) _ f D.alloc)
           · exact h.elim
         · exact h.elim
       · split at h
         · rename_i W hp
           split at h
           · rename_i z hz
             split at h
             · rename_i U hf
               simp only[Bool.and_eq_true] at U;exact Ac hd (oG hp (JT J.sl W) (QM J.zr hz) U.1.1 U.1.2 U.2.1 U.2.2 hf) (F _ _ _ _ _ (h _) _ f D.alloc)
             · exact h.elim
           · exact h.elim
         · exact h.elim
       · split at h
         · exact h.elim
         · split at h
           · rename_i G O
             split at h
             · split at h
               · rename_i hH
                 split at h
                 · split at h
                   · rename_i v K
                     obtain⟨rfl,h⟩:=h;rw[Es] at K;exact Ac hd (Ai G (FR J.ti O) (D.blk _ (BD hH)) K) (F _ _ _ _ _ h w f D)
                   · exact h.elim
                 · split at h
                   · rename_i vs K
                     obtain⟨rfl,h⟩:=h;exact Ac hd (C4 G (FR J.ti O) (D.blk _ (BD hH)) K) (F _ _ _ _ _ h w f D)
                   · exact h.elim
               · exact h.elim
             · split at h
               · exact h.elim
               · split at h
                 · rename_i hB
                   have U:=D.getB hB
                   split at h
                   · split at h
                     · rename_i v K
                       obtain⟨⟨rfl,rfl⟩,h⟩:=h;rw[Es] at K;exact Ac hd (IW G (FR J.ti O) (U _ v K).2) (F _ _ _ _ _ h w f D)
                     · exact h.elim
                   · split at h
                     · rename_i vs K
                       obtain⟨⟨rfl,rfl⟩,h⟩:=h;obtain⟨hk,hg2⟩:=QX K;exact Ac hd (K9 G (FR J.ti O) hk (λj v hj=>by have:=(U _ v (hg2 j v hj)).2;rwa[← Nat.add_assoc] at this)) (F _ _ _ _ _ h w f D)
                     · exact h.elim
                 · exact h.elim
           · exact h.elim
       · split at h
         · rename_i G L O
           exact Ac hd (Oo G L (JT J.sl O) h.1) (F _ _ _ _ _ h.2 w f D)
         · exact h.elim
       · split at h
         · rename_i s _ i G L O
           obtain⟨h1,h⟩:=h;have hlt:i.toNat<s.length:=oM;exact Ac hd (C1 G L (QZ J.st O) h1.1 (List.getElem?_eq_getElem hlt)) (F _ _ _ _ _ (h _ (List.getElem?_eq_getElem hlt)) w f D)
         · exact h.elim
       · split at h
         · rename_i G L
           exact Ac hd (NQ G L h.1) (F _ _ _ _ _ h.2 w f D)
         · rename_i G L
           exact Ac hd (Jk G L h.1) (F _ _ _ _ _ h.2 w f D)
         · exact h.elim
       · split at h
         · rename_i G L
           exact Ac hd (G0 G L h.1) (F _ _ _ _ _ h.2 w f D)
         · exact h.elim
       · split at h
         · rename_i v K
           exact Ac hd (QE J K) (F _ _ _ _ _ h w f D)
         · exact h.elim
end
end Go.SW
namespace Go.SW
open Go.RowKit
structure C9(M:Nat→Prop)(w:wO)(f:Fq)(w':wO)(f':Fq):Prop where
 stp:MC M w w'
 old:∀b,b<w.heap.size→f' b=f b
 val:∀b,w'.heap.size≤b→f' b=0
variable {af:Array Edge}{args:Array Value}{σ':Ba}{fid:FuncId}{H':List HB}{r:List Oper}{XX:List PanicEntry→wO→Prop}{l:lV}{d i k:Nat}{M M':Nat→Prop}{g:Option (Nat×Bool)}{dst:Option Tmp}{p:Prop}{ty:tI}{R0:Value→wO→Prop}{I' φ:wO→Fq→Prop}
theorem C9.fle{w w':wO}{f f':Fq}(h:C9 M w f w' f')(G:∀b,w.heap.size≤b→f b=0)(hm:∀b,M b→f b=0):HF w f w' f':=λb=>by
 rcases Nat.lt_or_ge b w.heap.size with D|D
 · refine⟨by rw[h.old b D];exact Nat.le_refl _,λo F=>DW (h.stp.block b D λJ=>?_) o⟩
   rw[hm b J] at F;omega
 · refine⟨by rw[G b D];exact Nat.zero_le _,λo F=>?_⟩
   rw[G b D] at F;omega
theorem C9.refl(M:Nat→Prop){w:wO}{f:Fq}(h:∀b,w.heap.size≤b→f b=0):C9 M w f w f:=⟨MC.refl _ _,λ_ _=>C,h⟩
theorem C9.mono{w w':wO}{f f':Fq}(h:C9 M w f w' f')(hm:∀b,M b→M' b):C9 M' w f w' f':=⟨h.stp.mono hm,h.old,h.val⟩
theorem C9.of_ext{w w':wO}{f:Fq}(h:AW w w')(D:∀b,w.heap.size≤b→f b=0):C9 (λ_=>False) w f w' f:=⟨MC.of_ext h,λ_ _=>C,λb F=>D b (Nat.le_trans h.size F)⟩
theorem AO.exm{X:Cx}{w:wO}{f:Fq}{H:List HB}{R:List RB}{B:List FB}{Fs:List (wO→Fq→Prop)}(h:AO X w f H R B Fs):C9 X.M X.w0 X.f0 w f:=⟨h.stp,h.old,h.val⟩
section
variable{X:Cx}{w w':wO}{f f':Fq}{H:List HB}{R:List RB}{B:List FB}{Fs:List (wO→Fq→Prop)}
theorem AO.call0(h:AO X w f H R B Fs)(he:C9 (λ_=>False) w f w' f'):AO X w' f' H R B Fs :=
 have F:=he.fle h.val (λ_ h=>h.elim)
 h.step (he.stp.mono λ_ h=>h.elim) F he.old he.val (λb D=>he.stp.block b (h.lt D) λh=>h) (λb D=>he.stp.block b (h.mi b D).1 λh=>h)
theorem AO.callI(h:AO X w f H R B Fs)(he:C9 X.MI w f w' f')(Y:I' w' f')(L:ED X.MI I'):AO {X with I:=I' } w' f' H R B Fs :=
 have O:=he.fle h.val (λb D=>(h.mi b D).2.1);have F:∀b,b∈Cf H R→w'.heap[b]?=w.heap[b]?:=λb D=>he.stp.block b (h.lt D) (h.own b D).2.2
 {stp:=⟨he.stp.os.trans h.stp.os,he.stp.tape.trans h.stp.tape,he.stp.output.trans h.stp.output,Nat.le_trans h.stp.size he.stp.size,λk U hm=>(he.stp.block k (Nat.lt_of_lt_of_le U h.stp.size) λG=>by
       rcases (h.mi k G).2.2 with J|J
       · exact absurd U (Nat.not_lt.2 J)
       · exact hm J).trans (h.stp.block k U hm)⟩,
   old:=λb D=>(he.old b (Nat.lt_of_lt_of_le D h.stp.size)).trans (h.old b D),val:=he.val,ent:=h.ent.trans O,res:=Y,stab:=L,
   mi:=λb D=>⟨Nat.lt_of_lt_of_le (h.mi b D).1 he.stp.size,(he.old b (h.mi b D).1).trans (h.mi b D).2.1,(h.mi b D).2.2⟩,
   blk:=λe G=>(F e.b (List.mem_append.2 (.inl (List.mem_map.2 ⟨e,G,C⟩)))).trans (h.blk e G),
   row:=λr W=>by
     refine⟨(h.row r W).1,(h.row r W).2.imp id ?_⟩;rintro⟨b,l,J,Z,h3⟩;exact⟨b,l,J,(F b (List.mem_append.2 (.inr (List.mem_filterMap.2 ⟨r,W,by rw[J];rfl⟩)))).trans Z,h3⟩,
   nd:=h.nd,
   own:=λb D=>⟨(he.old b (h.lt D)).trans (h.own b D).1,(h.own b D).2⟩,hnw:=h.hnw,rnw:=h.rnw,
   fro:=λe G=>(h.fro e G).mono O,fac:=λφ K=>h.mono φ K _ _ _ _ (h.fac φ K) O,mono:=h.mono}
theorem AO.more{B':List FB}{F':List (wO→Fq→Prop)}(h:AO X w f H R B Fs)(F:∀e,e∈B'→Cs w f e.b e.off e.l)(G:∀φ,φ∈F'→φ w f)(hm:∀φ,φ∈F'→EI φ):AO X w f H R (B'++B) (F'++Fs) :=
 {h with
   fro:=λe he=>(List.mem_append.1 he).elim (F e) (h.fro e),
   fac:=λφ D=>(List.mem_append.1 D).elim (G φ) (h.fac φ),
   mono:=λφ D=>(List.mem_append.1 D).elim (hm φ) (h.mono φ)}
theorem AO.less{R':List RB}{B':List FB}{F':List (wO→Fq→Prop)}(h:AO X w f H R B Fs)(F:H'.Sublist H)(G:R'.Sublist R)(O:∀e,e∈B'→e∈B)(K:∀φ,φ∈F'→φ∈Fs):AO X w f H' R' B' F' :=
 have L:(Cf H' R').Sublist (Cf H R):=List.Sublist.append (F.map _) (G.filterMap _)
 {h with
   blk:=λe he=>h.blk e (F.subset he),row:=λr J=>h.row r (G.subset J),nd:=L.nodup h.nd,own:=λb U=>h.own b (L.subset U),hnw:=λe he=>h.hnw e (F.subset he),rnw:=λr J=>h.rnw r (G.subset J),
   fro:=λe he=>h.fro e (O e he),fac:=λφ D=>h.fac φ (K φ D),mono:=λφ D=>h.mono φ (K φ D)}
theorem AO.fact(h:AO X w f H R B Fs)(D:nth Fs i=some φ):φ w f:=by
 rw[Es] at D;exact h.fac _ (List.mem_of_getElem? D)
end
section
variable{P:Program}{n:Nat}{Q:AV}{ds:List Deferred}{X:Cx}{R:List RB}{B:List FB}{Fs:List (wO→Fq→Prop)}{tb:Ym}{fs:List Fr}{σ:Ba}{H:List HB}
theorem go{k:K3}(F:tb.Ok P)(m:Nat)(D:List Nat)(h:ex P n Q ds X R B Fs tb m D k fs σ H):A1 P n Q ds X R B Fs k fs σ H:=IJ F m D k fs σ H h
theorem y{α:Type}{a:α}(h:p):a=a∧p:=⟨C,h⟩
theorem y2{α β:Type}{a:α}{b:β}(h:p):(a=a∧b=b)∧p:=⟨⟨C,C⟩,h⟩
def xT:K3→Bool
 |.out _=>false
 |_=>true
theorem A1.le{k:K3}(F:xT k=true)(D:Le σ' σ)(h:A1 P n Q ds X R B Fs k fs σ' H):A1 P n Q ds X R B Fs k fs σ H:=λw f G=>by
 have:=h w f G
 cases k with
 |code c=>exact N8 D this
 |ops all l=>exact λa J=>this a (J.le D)
 |out e=>cases F
theorem Ap{k:K3}{b:Bool}(t:Nat)(h:xT k=true)(D:σ t=some (.bool b))(F:b=true→A1 P n Q ds X R B Fs k fs (AI σ t (.bool true)) H)(G:b=false→A1 P n Q ds X R B Fs k fs (AI σ t (.bool false)) H):A1 P n Q ds X R B Fs k fs σ H:=by
 cases b with
 |true=>exact A1.le h (Av (le_refl _) D) (F C)
 |false=>exact A1.le h (Av (le_refl _) D) (G C)
theorem nW{k:K3}{b:Bool}(t:Nat)(c:Bool)(h:xT k=true)(D:σ t=some (.bool b))(F:b=c)(G:A1 P n Q ds X R B Fs k fs (AI σ t (.bool c)) H):A1 P n Q ds X R B Fs k fs σ H:=by
 subst F;exact A1.le h (Av (le_refl _) D) G
theorem Hh{k:K3}{α:Type}(p:α→Prop)(B':α→List FB)(F':α→List (wO→Fq→Prop))(D:∀w f,AO X w f H R B Fs→∃x,p x∧(∀e,e∈B' x→Cs w f e.b e.off e.l)∧∀φ,φ∈F' x→φ w f)(hm:∀x φ,φ∈F' x→EI φ)
   (h:∀x,p x→A1 P n Q ds X R (B' x++B) (F' x++Fs) k fs σ H):A1 P n Q ds X R B Fs k fs σ H:=λw f F=>by
 obtain⟨x,G,J,K⟩:=D w f F;exact h x G w f (F.more J K (hm x))
theorem Kz{k:K3}(D:∀w f,AO X w f H R B Fs→p)(h:p→A1 P n Q ds X R B Fs k fs σ H):A1 P n Q ds X R B Fs k fs σ H:=λw f F=>h (D w f F) w f F
theorem M0:∀fs:List Fr,(Lo P n Q fs).p=Q.p
 | []=>rfl
 |.sq _::fs=>M0 fs
 |.bk _::fs=>M0 fs
theorem mc0{all:List Oper}{op:Op}{pos:String}{α:Type}{val:α→Value}{q:α→Prop}{F':α→List (wO→Fq→Prop)}(F:gd all σ g=some true)(hd:Nat.blt d n=true)(he:∀w,Enters P σ op ty w fid args)
   (G:∀w f,AO X w f H R B Fs→AX P fid args w λv w'=>∃x f',v=val x∧q x∧C9 (λ_=>False) w f w' f'∧∀φ,φ∈F' x→φ w' f') (hm:∀x φ,φ∈F' x→EI φ)
   (h:∀x,q x→A1 P n Q ds X R B (F' x++Fs) (.ops all r) fs (AI σ d (val x)) H):A1 P n Q ds X R B Fs (.ops all (⟨some d,op,ty,pos,af,g⟩::r)) fs σ H:=λw f D=>by
 refine Bh F (A0 hd (he w) (G w f D) ?_);rintro v w' ⟨x,f',rfl,J,K,L⟩;exact h x J w' f' ((D.call0 K).more (B':=[]) (λ_ h=>by cases h) L (hm x))
theorem mcI{all:List Oper}{op:Op}{pos:String}{α:Type}{val:α→Value}{q:α→Prop}{I':α→wO→Fq→Prop}{F':α→List (wO→Fq→Prop)}
   (G:gd all σ g=some true) (hd:Nat.blt d n=true) (he:∀w,Enters P σ op ty w fid args)
   (J:∀w f,AO X w f H R B Fs→BV P fid args w (λv w'=>∃x f',v=val x∧q x∧C9 X.MI w f w' f'∧I' x w' f'∧∀φ,φ∈F' x→φ w' f') XX) (D:∀x,ED X.MI (I' x)) (hm:∀x φ,φ∈F' x→EI φ)
   (K:∀w f c w',AO X w f H R B Fs→XX c w'→Q.p c σ ds w')
   (h:∀x,q x→A1 P n Q ds {X with I:=I' x} R B (F' x++Fs) (.ops all r) fs (AI σ d (val x)) H):A1 P n Q ds X R B Fs (.ops all (⟨some d,op,ty,pos,af,g⟩::r)) fs σ H:=λw f F=>by
 refine Bh G (Cc hd (he w) (J w f F) ?_ ?_)
 · rintro v w' ⟨x,f',rfl,L,O,U,W⟩
   exact h x L w' f' ((F.callI O U (D x)).more (B':=[]) (λ_ h=>by cases h) W (hm x))
 · intro c w' Y
   rw[M0];exact K w f c w' F Y
theorem BN{all:List Oper}{op:Op}{pos:String}{v:Value}(F:gd all σ g=some true)(hd:Nat.blt d n=true)(G:∀w f,AO X w f H R B Fs→AK P σ op ty w v w)
   (h:A1 P n Q ds X R B Fs (.ops all r) fs (AI σ d v) H):A1 P n Q ds X R B Fs (.ops all (⟨some d,op,ty,pos,af,g⟩::r)) fs σ H:=λw f D=>Bh F (Ac hd (G w f D) (h w f D))
theorem mpan{all:List Oper}{op:Op}{pos:String}{v:Value}(D:gd all σ g=some true)(F:∀w,tG P σ op ty w v w)
   (h:∀w f,AO X w f H R B Fs→Q.p [{v,recovered:=false}] σ ds w):A1 P n Q ds X R B Fs (.ops all (⟨dst,op,ty,pos,af,g⟩::r)) fs σ H:=λw f G=>Bh D (BX (F w) (by rw[M0];exact h w f G))
def lpq(P:Program)(n:Nat){α:Type}(m:α→Nat)(p:α→Prop)(s:α→Ba)(X:α→Cx)(H:α→List HB)(R:α→List RB)(B:α→List FB)(Fs:α→List (wO→Fq→Prop))(ds:List Deferred)(k:Nat)(Q:AV):AV :=
 {q:=λe σ h w=>match e with
     |.normal=>∃x,m x<k∧p x∧h=ds∧Le (s x) σ∧∃f,AO (X x) w f (H x) (R x) (B x) (Fs x)
     |e=>Q.q e σ h w,
   p:=Q.p}
theorem DK{c:Code}{α:Type}(m:α→Nat)(p:α→Prop)(s:α→Ba)(F:α→Cx)(H':α→List HB)(R':α→List RB)(B':α→List FB)(F':α→List (wO→Fq→Prop))(h:α)(L:p h)(O:Le (s h) σ)
   (U:∀w f,AO X w f H R B Fs→AO (F h) w f (H' h) (R' h) (B' h) (F' h))
   (body:∀x,p x→A1 P n (lpq P n m p s F H' R' B' F' ds (m x) (Lo P n Q fs)) ds (F x) (R' x) (B' x) (F' x) (.code c) [] (s x) (H' x)):A1 P n Q ds X R B Fs (.code (.loop c)) fs σ H:=λw f hm=>by
 refine DM (λk σ D w=>∃x,m x=k∧p x∧D=ds∧σ=s x∧∃f,AO (F x) w f (H' x) (R' x) (B' x) (F' x)) (m h) (s h) O ⟨h,C,L,C,C,f,U w f hm⟩ ?_;rintro k σ D w ⟨x,rfl,W,rfl,rfl,f,hm⟩;have:=body x W w f hm;intro a Y;refine wp_mono (this a Y) λe a' w' he=>?_
 cases e with
 |normal =>
   obtain⟨σ',D,Z,y,hy,G,rfl,J,f',K⟩:=he;exact⟨σ',_,Z,m y,s y,hy,J,y,C,G,C,C,f',K⟩
 |panic c=>exact he
 |outgrown=>exact he
 |ret=>exact he
 |exit i=>exact he
 |goto i=>exact he
theorem Ce{α:Type}{m:α→Nat}{p:α→Prop}{s:α→Ba}{h:α→Cx}{H':α→List HB}{R':α→List RB}{B':α→List FB}{F':α→List (wO→Fq→Prop)}(x:α)(D:m x<k)(F:p x)(G:Le (s x) σ)
   (J:∀w f,AO X w f H R B Fs→∃f,AO (h x) w f (H' x) (R' x) (B' x) (F' x)):A1 P n (lpq P n m p s h H' R' B' F' ds k Q) ds X R B Fs (.out .normal) [] σ H :=
 λw f hm=>⟨x,D,F,C,G,J w f hm⟩
theorem Df{α:Type}{m:α→Nat}{p:α→Prop}{s:α→Ba}{D:α→Cx}{H':α→List HB}{R':α→List RB}{B':α→List FB}{F':α→List (wO→Fq→Prop)}(h:A1 P n Q ds X R B Fs (.out (.exit i)) fs σ H):A1 P n (lpq P n m p s D H' R' B' F' ds k (Lo P n Q fs)) ds X R B Fs (.out (.exit i)) [] σ H:=λw f hm=>h w f hm
theorem Hf{α:Type}{m:α→Nat}{p:α→Prop}{s:α→Ba}{D:α→Cx}{H':α→List HB}{R':α→List RB}{B':α→List FB}{F':α→List (wO→Fq→Prop)}(h:A1 P n Q ds X R B Fs (.out .ret) fs σ H):A1 P n (lpq P n m p s D H' R' B' F' ds k (Lo P n Q fs)) ds X R B Fs (.out .ret) [] σ H:=λw f hm=>h w f hm
theorem TV{fn:Func}{c:Code}{w:wO}{f:Fq}(D:P.funcs[fid]?=some fn)(F:fn.body=some c)(G:fn.ntmps=n)(J:Nat.ble l.length n=true)(K:AO X w f H R B Fs)
   (h:A1 P n (Ek P fn R0 XX) [] X R B Fs (.code c) [] (GU l 0) H):BV P fid l.toArray w R0 XX:=HZ D F G J (h w f K)
theorem Gb{fn:Func}{c:Code}{w:wO}{f:Fq}(D:P.funcs[fid]?=some fn)(F:fn.body=some c)(G:fn.ntmps=n)(J:Nat.ble l.length n=true)(K:AO X w f H R B Fs)
   (h:A1 P n (Ek P fn R0 λ_ _=>False) [] X R B Fs (.code c) [] (GU l 0) H):AX P fid l.toArray w R0:=enter D F G J (h w f K)
theorem A5{fn:Func}{v:Value}(F:∀w f,AO X w f H R B Fs→Um P fn σ w v)(h:∀w f,AO X w f H R B Fs→R0 v w):A1 P n (Ek P fn R0 XX) [] X R B Fs (.out .ret) [] σ H:=λw f D=>Bp (F w f D) (h w f D)
theorem kC{fn:Func}{v:Value}(F:∀w f,AO X w f H R B Fs→Um P fn σ w v)(h:∀w f,AO X w f H R B Fs→R0 v w):A1 P n (Ek P fn R0 XX) [] X R B Fs (.out .normal) [] σ H:=λw f D=>MA (F w f D) (h w f D)
end
end Go.SW
