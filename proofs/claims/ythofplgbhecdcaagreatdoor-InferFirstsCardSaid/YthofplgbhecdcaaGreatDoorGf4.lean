/- What it rests on, part 4. -/
import Derived.Test.YthofplgbhecdcaaGreatDoorGf3
set_option linter.unusedVariables false
set_option linter.unusedSimpArgs false
namespace Go.SP
open Go.SW Go.RowKit
section
variable{T TS:TypeId}{A:Ad}{s:CS}{w w':World}{f f':Fq}
theorem BL.chg{sb mb b:Nat}{so:BJ}{fr pr:Int}(h:BL TS sb mb so fr pr w f)(hC:GS b w w')(h1:sb≠b)(h2:mb≠b)(hf:f b=0):BL TS sb mb so fr pr w' f :=
 BL.stab (MI:=fun k=>k=sb∨k=mb) (.inl rfl) (.inr rfl) _ _ _ _ h (GS.fle hC hf) fun k hk=>hC.block k (by rcases hk with rfl|rfl;exact h1;exact h2)
theorem Au.setVars(h:Au T TS A s w f)(hA:A.ok)(hC:GS A.cb w w'){v:Int}(hb:AQ w' A.cb [.pointer (some ⟨A.sb,0,none⟩),.map (some A.km),.map (some A.dm),.map (some A.rm),.int .i64 v] T)(hf:f A.cb=0):Au T TS A {s with vars:=v} w' f where
 blk:=hb
 sol:=let ⟨pr,hp⟩:=h.sol;⟨pr,hp.chg hC (Ne.symm hA.cs) (Ne.symm hA.cm.1) hf⟩
 cons:=let ⟨es,h1,h2⟩:=h.cons;⟨es,h1.heap (hC.block _ (Ne.symm hA.cm.2.1)),Cd.mono (GS.fle hC hf) _ _ h2⟩
 datas:=h.datas.heap (hC.block _ (Ne.symm hA.cm.2.2.1))
 roots:=h.roots.heap (hC.block _ (Ne.symm hA.cm.2.2.2))
theorem Au.addData(h:Au T TS A s w f)(hA:A.ok)(hC:GS A.dm w w'){k:List UInt8}{n:Int}(hm:Ci CE w' A.dm ((k,.int .i64 n)::s.datas.map fun p=>(p.1,.int .i64 p.2)))(hf:f A.dm=0):Au T TS A {s with datas:=(k,n)::s.datas} w' f where
 blk:=(hC.block _ hA.cm.2.2.1).trans h.blk
 sol:=let ⟨pr,hp⟩:=h.sol;⟨pr,hp.chg hC hA.sm.2.2.1 hA.mm.2.1 hf⟩
 cons:=let ⟨es,h1,h2⟩:=h.cons;⟨es,h1.heap (hC.block _ hA.mm.2.2.2.1),Cd.mono (GS.fle hC hf) _ _ h2⟩
 datas:=hm
 roots:=h.roots.heap (hC.block _ (Ne.symm hA.mm.2.2.2.2.2))
theorem Au.addRoot(h:Au T TS A s w f)(hA:A.ok)(hC:GS A.rm w w'){k:List UInt8}(hm:Ci CE w' A.rm ((k,.bool true)::s.roots.map fun k=>(k,.bool true)))(hf:f A.rm=0):Au T TS A {s with roots:=k::s.roots} w' f where
 blk:=(hC.block _ hA.cm.2.2.2).trans h.blk
 sol:=let ⟨pr,hp⟩:=h.sol;⟨pr,hp.chg hC hA.sm.2.2.2 hA.mm.2.2.1 hf⟩
 cons:=let ⟨es,h1,h2⟩:=h.cons;⟨es,h1.heap (hC.block _ hA.mm.2.2.2.2.1),Cd.mono (GS.fle hC hf) _ _ h2⟩
 datas:=h.datas.heap (hC.block _ hA.mm.2.2.2.2.2)
 roots:=hm
theorem Au.addCons(h:Au T TS A s w f)(hA:A.ok){es:List (List UInt8×Value)}(hE:Cd w f s.cons es)(hC:GS A.km w w'){k:List UInt8}{m:Mk}{aa oa va:Option Addr}{ac oc vc:Nat}(hm:Ci CE w' A.km ((k,.agg (ZF m aa ac oa oc va vc).toArray)::es))(hf:f A.km=0)
   (h1:Ah w f m.args aa ac) (h2:Ah w f m.out.kids oa oc) (h3:BN w f m.vars va vc):Au T TS A {s with cons:=(k,m)::s.cons} w' f where
 blk:=(hC.block _ hA.cm.2.1).trans h.blk
 sol:=let ⟨pr,hp⟩:=h.sol;⟨pr,hp.chg hC hA.sm.2.1 hA.mm.1 hf⟩
 cons:=⟨_,hm,aa,ac,oa,oc,va,vc,es,rfl,Ah.mono _ _ _ _ h1 (GS.fle hC hf),Ah.mono _ _ _ _ h2 (GS.fle hC hf),BN.mono _ _ _ _ h3 (GS.fle hC hf),Cd.mono (GS.fle hC hf) _ _ hE⟩
 datas:=h.datas.heap (hC.block _ (Ne.symm hA.mm.2.2.2.1))
 roots:=h.roots.heap (hC.block _ (Ne.symm hA.mm.2.2.2.2.1))
end
abbrev mJ(vars:List (List UInt8×T1)):List (List UInt8×Value):=vars.map fun p=>(p.1,tV p.2 none 0)
def EB(T TS:TypeId)(A:Ad)(s:CS)(vm:Nat)(vars:List (List UInt8×T1))(w:World)(f:Fq):Prop:=Au T TS A s w f∧Ci CE w vm (mJ vars)
section
variable{T TS:TypeId}{A:Ad}{s:CS}{w w':World}{f f':Fq}{vm:Nat}{vars:List (List UInt8×T1)}
theorem EB.stab:Gr (fun b=>BB A b∨b=vm) (EB T TS A s vm vars):=fun w f w' f' h hF hb =>
 ⟨Au.stab w f w' f' h.1 hF fun b hm=>hb b (.inl hm),h.2.heap (hb _ (.inr rfl))⟩
theorem Py{l:List (List UInt8×Value)}{b:Nat}(h:Ci CE w vm l)(hC:GS b w w')(hne:vm≠b):Ci CE w' vm l:=h.heap (hC.block _ hne)
end
section
variable{P:Program}{n:Nat}{Q:Bk}{ds:List Deferred}{M:Nat→Prop}{w0:World}{f0:Fq}{T TS:TypeId}{A:Ad}{s:CS}{vm:Nat}{vars:List (List UInt8×T1)}{R:List RB}{B:List FB}{Fs:List (World→Fq→Prop)}{fs:List Fr}{σ:Bo}{H:List HB}
variable{all r:List Oper}{ty TM k e:TypeId}{pos:String}{af:Array Edge}{g:Option (Nat×Bool)}{x y z:Operand}
theorem qE{v:Int}{ag:Bool}(hA:A.ok)(hvm:¬BB A vm)(hg:gd all σ g=some true)(hx:ev σ x=some (.pointer (some ⟨A.cb,4,none⟩)))(hy:ev σ y=some (.int .i64 v))(hT:Bb P TM=some (ag,1))
   (h:AF P n Q ds ⟨M,fun b=>BB A b∨b=vm,EB T TS A {s with vars:=v} vm vars,w0,f0⟩ R B Fs (.ops all r) fs σ H):AF P n Q ds ⟨M,fun b=>BB A b∨b=vm,EB T TS A s vm vars,w0,f0⟩ R B Fs (.ops all (⟨none,.store TM x y,ty,pos,af,g⟩::r)) fs σ H :=
 ZD (b:=A.cb) (I':=EB T TS A {s with vars:=v} vm vars) hg hx hy rfl hT rfl rfl rfl (.inl (.inl rfl)) (fun w f h=>h.1.blk) (fun w f w2 h hM hC hb=>⟨h.1.setVars hA hC hb (hM.mi _ (.inl (.inl rfl))).2.1,Py h.2 hC fun e=>hvm (e▸.inl rfl)⟩) EB.stab h
theorem rM{a:List UInt8}{q:Int}(hvm:¬BB A vm)(hg:gd all σ g=some true)(hx:ev σ x=some (.map (some vm)))(hy:ev σ y=some (S a))(hz:ev σ z=some (tV (.var q) none 0))(hT:Gs P TM=some (k,e))(hk:P.underlying k=some .string)(hd:KP (mJ vars))(hn:BZ vars a=none)
   (h:AF P n Q ds ⟨M,fun b=>BB A b∨b=vm,EB T TS A s vm ((a,.var q)::vars),w0,f0⟩ R B Fs (.ops all r) fs σ H):AF P n Q ds ⟨M,fun b=>BB A b∨b=vm,EB T TS A s vm vars,w0,f0⟩ R B Fs (.ops all (⟨none,.mapUpdate TM x y z,ty,pos,af,g⟩::r)) fs σ H :=
 ZG (K:=CE) (a:=a) (l:=mJ vars) (I':=EB T TS A s vm ((a,.var q)::vars)) hg hx hy hz hT hk (.inr rfl) hd (by rw[mJ,EP (fun t=>tV t none 0),hn];rfl) (fun w f h=>h.2) (fun w f w2 h hM hC hm=>⟨h.1.chg hC hvm (hM.mi vm (.inr rfl)).2.1,hm⟩) EB.stab h
theorem pA{a:List UInt8}{q:Int}(hA:A.ok)(hvm:¬BB A vm)(hw:DR s)(hg:gd all σ g=some true)(hx:ev σ x=some (.map (some A.dm)))(hy:ev σ y=some (S a))(hz:ev σ z=some (.int .i64 q))(hT:Gs P TM=some (k,e))(hk:P.underlying k=some .string)(hn:BZ s.datas a=none)
   (h:AF P n Q ds ⟨M,fun b=>BB A b∨b=vm,EB T TS A {s with datas:=(a,q)::s.datas} vm vars,w0,f0⟩ R B Fs (.ops all r) fs σ H):AF P n Q ds ⟨M,fun b=>BB A b∨b=vm,EB T TS A s vm vars,w0,f0⟩ R B Fs (.ops all (⟨none,.mapUpdate TM x y z,ty,pos,af,g⟩::r)) fs σ H :=
 ZG (K:=CE) (a:=a) (l:=s.datas.map fun p=>(p.1,.int .i64 p.2)) (I':=EB T TS A {s with datas:=(a,q)::s.datas} vm vars) hg hx hy hz hT hk (.inl (.inr (.inr (.inr (.inr (.inl rfl)))))) hw.dd (by rw[EP (fun c=>Value.int .i64 c),hn];rfl) (fun w f h=>h.1.datas) (fun w f w2 h hM hC hm=>⟨h.1.addData hA hC hm (hM.mi _ (.inl (.inr (.inr (.inr (.inr (.inl rfl))))))).2.1,Py h.2 hC fun e=>hvm (e▸.inr (.inr (.inr (.inr (.inl rfl)))))⟩) EB.stab h
theorem mO{a:List UInt8}{m:Mk}{aa oa va:Option Addr}{ac oc vc i1 i2 i3:Nat}(hA:A.ok)(hvm:¬BB A vm)(hw:DR s)(hg:gd all σ g=some true)(hx:ev σ x=some (.map (some A.km)))(hy:ev σ y=some (S a)){vz:Value}(hz:ev σ z=some vz)(hvz:vz=.agg (ZF m aa ac oa oc va vc).toArray)(hT:Gs P TM=some (k,e))(hk:P.underlying k=some .string)(hn:BZ s.cons a=none)
   (hf1:nth Fs i1=some fun w f=>Ah w f m.args aa ac) (hf2:nth Fs i2=some fun w f=>Ah w f m.out.kids oa oc) (hf3:nth Fs i3=some fun w f=>BN w f m.vars va vc)
   (h:AF P n Q ds ⟨M,fun b=>BB A b∨b=vm,EB T TS A {s with cons:=(a,m)::s.cons} vm vars,w0,f0⟩ R B Fs (.ops all r) fs σ H):AF P n Q ds ⟨M,fun b=>BB A b∨b=vm,EB T TS A s vm vars,w0,f0⟩ R B Fs (.ops all (⟨none,.mapUpdate TM x y z,ty,pos,af,g⟩::r)) fs σ H:=by
 subst hvz
 exact mN (fun es w f=>EB T TS A s vm vars w f∧Ci CE w A.km es∧Cd w f s.cons es) (fun w f h=>let ⟨es,h1,h2⟩:=h.1.cons;⟨es,h,h1,h2⟩) (fun es w f w' f' h hF hb=>⟨EB.stab w f w' f' h.1 hF hb,h.2.1.heap (hb _ (.inl (.inr (.inr (.inr (.inl rfl)))))),Cd.mono hF _ _ h.2.2⟩) fun es=>Ky (fun w f hM=>(show KP es from Cd.dis hM.res.2.2 hw.dc)) fun hdis=>Ky (fun w f hM=>(show FC es a=none from (Cd.look hM.res.2.2).1 hn)) fun hlk=>ZG (K:=CE) (a:=a) (l:=es) (I':=EB T TS A {s with cons:=(a,m)::s.cons} vm vars) hg hx hy hz hT hk (.inl (.inr (.inr (.inr (.inl rfl))))) hdis hlk (fun w f h=>h.2.1) (fun w f w2 h hM hC hm=>⟨h.1.1.addCons hA h.2.2 hC hm (hM.mi _ (.inl (.inr (.inr (.inr (.inl rfl)))))).2.1 (hM.fact hf1) (hM.fact hf2) (hM.fact hf3),Py h.1.2 hC fun e=>hvm (e▸.inr (.inr (.inr (.inl rfl))))⟩) EB.stab h
end
theorem Ja{α:Type}{a b:List UInt8}{v:α}{l:List (List UInt8×α)}:BZ ((a,v)::l) b=if a==b then some v else BZ l b:=rfl
theorem JK{α:Type}(g:α→Value){a:List UInt8}{v:α}{l:List (List UInt8×α)}(h:KP (l.map fun p=>(p.1,g p.2)))(hn:BZ l a=none):KP (((a,v)::l).map fun p=>(p.1,g p.2)):=⟨by rw[EP,hn];rfl,h⟩
theorem DR.addData{s:CS}(h:DR s){a:List UInt8}{q:Int}(hn:BZ s.datas a=none):DR {s with datas:=(a,q)::s.datas}:={h with dd:=JK (fun c=>Value.int .i64 c) h.dd hn}
theorem DR.setVars{s:CS}(h:DR s){v:Int}:DR {s with vars:=v}:={h with}
theorem DR.addCons{s:CS}(h:DR s){a:List UInt8}{m:Mk}(hn:BZ s.cons a=none)(hm:m.args.len≤200000∧m.args.bnd∧m.out.bnd∧m.vars.length≤200000):DR {s with cons:=(a,m)::s.cons} :=
 {h with
   cons:=fun k m' hk=>by
     rw[Ja] at hk
     split at hk
     · cases hk;exact hm
     · exact h.cons k m' hk,
   dc:=JK (fun _=>Value.bool true) h.dc hn}
section
variable{ln co:Int}{op ln2 co2 nm:Int}{tx:List UInt8}{k r:Nd}{v:Int}{m:List (List UInt8×T1)}{self:Ty}{nums:List Int}
theorem K2(h:(op==31)=true)(hn:BZ m tx=none):EE ln co (.cons op ln2 co2 tx nm k r) v m self nums=EE ln co r (v-1) ((tx,.var (v-1))::m) (self.snoc (.var (v-1))) (nums++[v-1]):=by
 rw[EE,if_pos h,if_neg (by rw[hn];decide)]
theorem TD(h:(op==31)=true){t:T1}(hn:BZ m tx=some t):EE ln co (.cons op ln2 co2 tx nm k r) v m self nums=.error (ln,co,11):=by
 rw[EE,if_pos h,if_pos (by rw[hn];rfl)]
theorem Ro(h:(op==31)=false):EE ln co (.cons op ln2 co2 tx nm k r) v m self nums=EE ln co r v m self nums:=by
 rw[EE,if_neg (by rw[h];decide)]
variable{datas:List (List UInt8×Int)}{out:T1}{c:List (List UInt8×Mk)}
theorem Ul(h:(op==42)=true)(hn:BZ c tx=none){args:Ty}(ha:Gw datas m k=.ok args):DU datas m out nums (.cons op ln2 co2 tx nm k r) c=DU datas m out nums r ((tx,⟨args,out,nums⟩)::c):=by
 rw[DU,if_pos h,if_neg (by rw[hn];decide),ha]
theorem QE(h:(op==42)=true){mk:Mk}(hn:BZ c tx=some mk):DU datas m out nums (.cons op ln2 co2 tx nm k r) c=.error (ln2,co2,11):=by
 rw[DU,if_pos h,if_pos (by rw[hn];rfl)]
theorem NA(h:(op==42)=true)(hn:BZ c tx=none){er:Er}(ha:Gw datas m k=.error er):DU datas m out nums (.cons op ln2 co2 tx nm k r) c=.error er:=by
 rw[DU,if_pos h,if_neg (by rw[hn];decide),ha]
theorem Sd(h:(op==42)=false):DU datas m out nums (.cons op ln2 co2 tx nm k r) c=DU datas m out nums r c:=by
 rw[DU,if_neg (by rw[h];decide)]
end
abbrev Sg:=List UInt8×Int×T1
def pC(p:Sg)(a:Option Addr)(c:Nat):List Value:=S p.1::.int .i64 p.2.1::tC p.2.2 a c
def Di(w:World)(f:Fq):List Sg→List Value→Prop
 | [],xs=>xs=[]
 |p::l,xs=>∃a c xs',xs=pC p a c++xs'∧Ah w f p.2.2.kids a c∧Di w f l xs'
theorem Di.mono'{w w':World}{f f':Fq}(hF:Jf w f w' f'):∀(l:List Sg)(xs:List Value),Di w f l xs→Di w' f' l xs
 | [],_,h=>h
 |_::l,_,⟨a,c,xs',h1,h2,h3⟩=>⟨a,c,xs',h1,Ah.mono _ _ _ _ h2 hF,Di.mono' hF l xs' h3⟩
theorem Di.snoc{w:World}{f:Fq}{p:Sg}{a:Option Addr}{c:Nat}(hp:Ah w f p.2.2.kids a c):∀{l:List Sg}{xs:List Value},Di w f l xs→Di w f (l++[p]) (xs++pC p a c)
 | [],xs,h=>by
   have h:xs=[]:=h
   subst h
   exact⟨a,c,[],by simp,hp,rfl⟩
 |q::l,xs,⟨a',c',xs',h1,h2,h3⟩=>⟨a',c',xs'++pC p a c,by rw[h1,List.append_assoc],h2,Di.snoc hp h3⟩
theorem Di.len{w:World}{f:Fq}:∀{l:List Sg}{xs:List Value},Di w f l xs→xs.length=l.length*6
 | [],xs,h=>by have h:xs=[]:=h;subst h;rfl
 |p::l,xs,⟨a,c,xs',h1,h2,h3⟩=>by
   have:=Di.len h3
   subst h1
   simp only[List.length_append,List.length_cons,pC,tC,List.length_nil];omega
theorem Di.mono{l:List Sg}{xs:List Value}:G0 (fun w f=>Di w f l xs):=fun _ _ _ _ h hF=>Di.mono' hF l xs h
def Oj(ob:Nat)(a:Option Addr)(b:Nat):Prop:=b=ob∨rb a=some b
structure Ec(T E:TypeId)(ob:Nat)(sl:Value)(a:Option Addr)(c n:Nat)(xs:List Value)(w:World)(_:Fq):Prop where
 blk:AQ w ob [sl] T
 row:Ck w E 6 a c n xs
 ne:rb a≠some ob
section
variable{T E:TypeId}{ob:Nat}{sl sl':Value}{a a':Option Addr}{c c' n n':Nat}{xs xs':List Value}{w w':World}{f f':Fq}
theorem Ec.stab:Gr (Oj ob a) (Ec T E ob sl a c n xs):=fun w f w' f' h hF hb=>⟨(hb _ (.inl rfl)).trans h.blk,⟨h.row.1,h.row.2.imp id fun⟨b,l,h1,h2,h3⟩=>⟨b,l,h1,(hb b (.inr (by rw[h1];rfl))).trans h2,h3⟩⟩,h.ne⟩
theorem Ec.lt(h:Ec T E ob sl a c n xs w f){b:Nat}(hb:Oj ob a b):b<w.heap.size:=by
 rcases hb with rfl|hb
 · exact h.blk.lt
 · exact h.row.lt hb
theorem Ec.app(h:Ec T E ob sl a c n xs w f)(hr:Ck w' E 6 a' c' n' xs')(hG:G4 a w a' w'):Ec T E ob sl a' c' n' xs' w' f' :=
 ⟨h.blk.grow hG (fun e=>h.ne e.symm),hr,fun e=>hG.own.elim (fun o=>h.ne (o.symm.trans e)) (fun o=>absurd h.blk.lt (by rw[← Option.some.inj (o.symm.trans e)];exact Nat.lt_irrefl _))⟩
theorem Ec.store(h:Ec T E ob sl a c n xs w f)(hC:GS ob w w')(hb:AQ w' ob [sl'] T):Ec T E ob sl' a c n xs w' f':=⟨hb,Ck.chgB h.row hC h.ne,h.ne⟩
theorem Oj.or{b:Nat}(h:Oj ob a' b):Oj ob a b∨rb a'=some b:=h.elim (fun h=>.inl (.inl h)) .inr
end
def SG:List (T1×Option Addr×Nat)→Ty
 | []=>.nil
 |t::l=>t.1.cons (SG l)
def lG:List (T1×Option Addr×Nat)→List Value
 | []=>[]
 |t::l=>tC t.1 t.2.1 t.2.2++lG l
def pG(w:World)(f:Fq):List (T1×Option Addr×Nat)→Prop
 | []=>True
 |t::l=>Ah w f t.1.kids t.2.1 t.2.2∧pG w f l
theorem Zc{w:World}{f:Fq}:∀{l:List (T1×Option Addr×Nat)},pG w f l→Bl w f (SG l) (lG l)
 | [],_=>rfl
 |(.var n,a,c)::l,h=>⟨a,c,lG l,rfl,Zc h.2⟩
 |(.con tx k,a,c)::l,h=>⟨a,c,lG l,rfl,h.1,Zc h.2⟩
theorem P5:∀l:List (T1×Option Addr×Nat),(SG l).len=l.length
 | []=>rfl
 |t::l=>by rw[SG,T1.len_cons,P5 l];rfl
theorem Ds{w:World}{f:Fq}{b:Nat}{l:List (T1×Option Addr×Nat)}(h:pG w f l)(hc:Cs w f b 0 (lG l)):Ah w f (SG l) (some ⟨b,0,none⟩) l.length:=Bl.toF (Zc h) hc (by rw[P5];exact Nat.le_refl _)
def Uz(w:World)(f:Fq)(l:List Sg)(a:Option Addr)(c:Nat):Prop:=l.length≤c∧∃b xs,a=some ⟨b,0,none⟩∧Cs w f b 0 xs∧Di w f l xs
theorem Uz.mono{l:List Sg}{a:Option Addr}{c:Nat}:G0 (fun w f=>Uz w f l a c):=fun _ _ _ _ h hF=>⟨h.1,let ⟨b,xs,h1,h2,h3⟩:=h.2;⟨b,xs,h1,h2.mono hF,Di.mono' hF l xs h3⟩⟩
theorem Ec.fin{T E:TypeId}{ob:Nat}{sl:Value}{a:Option Addr}{c n:Nat}{xs:List Value}{w0 w:World}{f0 f:Fq}{M:Nat→Prop}{l:List Sg}(h:Ec T E ob sl a c n xs w f)(hE:CM M w0 f0 w f)(hn:∀b,rb a=some b→w0.heap.size≤b)(hL:Di w f l xs)(hl:l.length=n)(h0:0<n):∃f',CM M w0 f0 w f'∧Uz w f' l a c:=by
 rcases h.row.2 with ⟨_,_,hz⟩|⟨b,q,ha,hb,hmc,hq1,hq,ht⟩
 · omega
 · have hlt:=hb.lt
   refine⟨fun k=>if k=b then max xs.length (f k) else f k,?_,oM,b,xs,ha,?_,?_⟩
   · refine⟨hE.stp,fun k hk=>?_,fun k hk=>?_⟩
     · have:=hn b (by rw[ha];rfl)
       rw[if_neg (by omega)];exact hE.old k hk
     · rw[if_neg (by omega)];exact hE.val k hk
   · intro j v hj
     have hjl:j<xs.length:=(List.getElem?_eq_some_iff.1 hj).1
     refine⟨by simp only[if_true];omega,?_⟩
     have hb':w.heap[b]?=some (.cells q.toArray _):=hb
     have hq2:q[j]?=some v:=by
       rw[← ht] at hj
       rw[List.getElem?_take] at hj
       split at hj
       · exact hj
       · cases hj
     simp[World.cell?,hb',hq2]
   · exact Di.mono' (fun k=>⟨by split <;> omega,fun _ _=>rfl⟩) l xs hL
end Go.SP
namespace Go.SW
open Go.RowKit
theorem sX{P:Program}{n:Nat}{Q:Bk}{ds:List Deferred}{X:Cx}{R:List RB}{B:List FB}{Fs:List (World→Fq→Prop)}{fs:List Fr}{σ:Bo}{H:List HB}{k:M5}(MI':Nat→Prop)(I':World→Fq→Prop)(hm:∀b,MI' b→X.MI b)(hI:∀w f,X.I w f→I' w f)(hst:Gr MI' I')
   (h:AF P n Q ds {X with MI:=MI',I:=I' } R B Fs k fs σ H):AF P n Q ds X R B Fs k fs σ H:=fun w f hM =>
 h w f {hM with
         res:=hI w f hM.res,
         stab:=hst,
         mi:=fun b hb=>hM.mi b (hm b hb),
         own:=fun b hb=>⟨(hM.own b hb).1,(hM.own b hb).2.1,fun h=>(hM.own b hb).2.2 (hm b h)⟩}
section
variable{P:Program}{n:Nat}{Q:Bk}{ds:List Deferred}{X:Cx}{R:List RB}{B:List FB}{Fs:List (World→Fq→Prop)}{l:List Oper}{Hk:List HB}{B0:List FB}{J:World→Prop}{σ:Bo}{H:List HB}
theorem L3{α:Type}{t:OT}{top:Bool}(t':OT)(s':α→Bo)(H':α→List HB)(B':α→List FB)(F':α→List (World→Fq→Prop))(h1:∀x,Dx P n Q ds X R (B' x) (F' x) l Hk B0 J true t' (s' x) (H' x))
   (h2:(∀x,Dx P n Q ds X R (B' x) (F' x) l Hk B0 J true t' (s' x) (H' x))→Dx P n Q ds X R B Fs l Hk B0 J top t σ H):Dx P n Q ds X R B Fs l Hk B0 J top t σ H:=h2 h1
theorem Ft{α:Type}{t:OT}{s':α→Bo}{H':α→List HB}{B':α→List FB}{F':α→List (World→Fq→Prop)}(h:∀x,Dx P n Q ds X R (B' x) (F' x) l Hk B0 J true t (s' x) (H' x))(x:α)(hl:Le (s' x) σ)(hM:∀w f,AX X w f H R B Fs→AX X w f (H' x) R (B' x) (F' x)):Dx P n Q ds X R B Fs l Hk B0 J true t σ H :=
 fun w f hm a ha=>h x w f (hM w f hm) a (ha.le hl)
end
end Go.SW
namespace Go.SP
open Go.SW Go.RowKit
section
variable{P:Program}{n:Nat}{Q:Bk}{ds:List Deferred}{M:Nat→Prop}{w0:World}{f0:Fq}{T TS:TypeId}{A:Ad}{s:CS}{R:List RB}{B:List FB}{Fs:List (World→Fq→Prop)}{fs:List Fr}{σ:Bo}{H:List HB}
variable{all r:List Oper}{ty TM k e:TypeId}{pos:String}{af:Array Edge}{g:Option (Nat×Bool)}{x y z:Operand}
theorem qJ{v:Int}{ag:Bool}(hA:A.ok)(hg:gd all σ g=some true)(hx:ev σ x=some (.pointer (some ⟨A.cb,4,none⟩)))(hy:ev σ y=some (.int .i64 v))(hT:Bb P TM=some (ag,1))
   (h:AF P n Q ds ⟨M,BB A,Au T TS A {s with vars:=v},w0,f0⟩ R B Fs (.ops all r) fs σ H):AF P n Q ds ⟨M,BB A,Au T TS A s,w0,f0⟩ R B Fs (.ops all (⟨none,.store TM x y,ty,pos,af,g⟩::r)) fs σ H :=
 ZD (b:=A.cb) (I':=Au T TS A {s with vars:=v}) hg hx hy rfl hT rfl rfl rfl (.inl rfl) (fun w f h=>h.blk) (fun w f w2 h hM hC hb=>h.setVars hA hC hb (hM.mi _ (.inl rfl)).2.1) Au.stab h
theorem nW{a:List UInt8}(hA:A.ok)(hw:DR s)(hg:gd all σ g=some true)(hx:ev σ x=some (.map (some A.rm)))(hy:ev σ y=some (S a))(hz:ev σ z=some (.bool true))(hT:Gs P TM=some (k,e))(hk:P.underlying k=some .string)(hn:s.roots.contains a=false)
   (h:AF P n Q ds ⟨M,BB A,Au T TS A {s with roots:=a::s.roots},w0,f0⟩ R B Fs (.ops all r) fs σ H):AF P n Q ds ⟨M,BB A,Au T TS A s,w0,f0⟩ R B Fs (.ops all (⟨none,.mapUpdate TM x y z,ty,pos,af,g⟩::r)) fs σ H :=
 ZG (K:=CE) (a:=a) (l:=s.roots.map fun k=>(k,.bool true)) (I':=Au T TS A {s with roots:=a::s.roots}) hg hx hy hz hT hk (.inr (.inr (.inr (.inr (.inr rfl))))) hw.dr (by
   have:∀l:List (List UInt8),l.contains a=false→FC (l.map fun k=>(k,Value.bool true)) a=none:=by
     intro l
     induction l with
     |nil=>intro _;rfl
     |cons b l ih =>
       intro hc
       rw[List.contains_cons,Bool.or_eq_false_iff] at hc
       simp only[List.map_cons,FC]
       rw[hc.1]
       simpa using ih hc.2
   exact this _ hn) (fun w f h=>h.roots) (fun w f w2 h hM hC hm=>h.addRoot hA hC hm (hM.mi _ (.inr (.inr (.inr (.inr (.inr rfl)))))).2.1) Au.stab h
theorem mH{a:List UInt8}{m:Mk}{aa oa va:Option Addr}{ac oc vc i1:Nat}(hA:A.ok)(hw:DR s)(hg:gd all σ g=some true)(hx:ev σ x=some (.map (some A.km)))(hy:ev σ y=some (S a)){vz:Value}(hz:ev σ z=some vz)(hvz:vz=.agg (ZF m aa ac oa oc va vc).toArray)(hT:Gs P TM=some (k,e))(hk:P.underlying k=some .string)(hn:BZ s.cons a=none)
   (hf1:nth Fs i1=some fun w f=>Ah w f m.args aa ac) (hf2:m.out.kids=.nil) (hf3:m.vars=[])
   (h:AF P n Q ds ⟨M,BB A,Au T TS A {s with cons:=(a,m)::s.cons},w0,f0⟩ R B Fs (.ops all r) fs σ H):AF P n Q ds ⟨M,BB A,Au T TS A s,w0,f0⟩ R B Fs (.ops all (⟨none,.mapUpdate TM x y z,ty,pos,af,g⟩::r)) fs σ H:=by
 subst hvz
 exact sY fun es=>Ky (fun w f hM=>(show KP es from Cd.dis hM.res.2.2 hw.dc)) fun hdis=>Ky (fun w f hM=>(show FC es a=none from (Cd.look hM.res.2.2).1 hn)) fun hlk=>ZG (K:=CE) (a:=a) (l:=es) (I':=Au T TS A {s with cons:=(a,m)::s.cons}) hg hx hy hz hT hk (.inr (.inr (.inr (.inl rfl)))) hdis hlk (fun w f h=>h.2.1) (fun w f w2 h hM hC hm=>h.1.addCons hA h.2.2 hC hm (hM.mi _ (.inr (.inr (.inr (.inl rfl))))).2.1 (hM.fact hf1) (by rw[hf2];exact Ah.nil _ _ _ _) (by rw[hf3];exact⟨Nat.zero_le _,.inl rfl⟩)) Au.stab h
end
def N8:Nat→Ty
 |0=>.nil
 |n+1=>(N8 n).snoc (c0 bS)
theorem KR:∀n,(N8 n).len=n
 |0=>rfl
 |n+1=>by rw[N8,Ty.len_snoc,KR n]
theorem Nk:∀n,(N8 n).bnd
 |0=>trivial
 |n+1=>Ty.bnd_snoc (Nk n) (Df dC)
def It:List (List UInt8×List UInt8×Int×Nat):=[([70,97,108,115,101],bB,0,0),([84,114,117,101],bB,1,0),([68,105,118],bX,0,0),([77,97,116,99,104],bX,1,0),([65,98,111,114,116],bX,2,0),([75,101,101,112],bX,3,0),([79,117,116],bX,4,0),([70,97,105,108],bX,5,1)]
def sW(p:List UInt8×List UInt8×Int×Nat):List UInt8×Mk:=(p.1,⟨N8 p.2.2.2,c0 p.2.1,[]⟩)
def Xd(i:Nat):List (List UInt8×Mk):=((It.take i).map sW).reverse
theorem NZ{i:Nat}{p:List UInt8×List UInt8×Int×Nat}(h:It[i]?=some p):Xd (i+1)=sW p::Xd i:=by
 unfold Xd
 rw[D2 h,List.map_append,List.reverse_append]
 rfl
theorem NL:∀i,i<8→∀p,It[i]?=some p→BZ (Xd i) p.1=none:=by
 intro i hi p hp
 have:i=0∨i=1∨i=2∨i=3∨i=4∨i=5∨i=6∨i=7:=oM
 rcases this with rfl|rfl|rfl|rfl|rfl|rfl|rfl|rfl <;> (cases hp;decide)
def cC(p:List UInt8×List UInt8×Int×Nat):List Value:=[S p.1,S p.2.1,.int .i64 p.2.2.1,.int .i64 (p.2.2.2:Int)]
theorem Cs.flat{α:Type}{w:World}{f:Fq}{b:Nat}(g:α→List Value)(q:Nat)(hg:∀x,(g x).length=q):∀(l:List α)(off i:Nat)(x:α),Cs w f b off (l.flatMap g)→l[i]?=some x→Cs w f b (off+i*q) (g x)
 | [],_,_,_,_,h=>by simp at h
 |y::l,off,0,x,hc,h=>by
   cases h
   rw[List.flatMap_cons] at hc
   simpa using Cs.le hc
 |y::l,off,i+1,x,hc,h=>by
   rw[List.flatMap_cons] at hc
   have h2:=Cs.drop hc
   rw[hg] at h2
   have:=Cs.flat g q hg l (off+q) i x h2 (by simpa using h)
   rwa[show off+q+i*q=off+(i+1)*q by rw[Nat.add_mul];omega] at this
theorem Di.get{w:World}{f:Fq}{b:Nat}:∀{l:List Sg}{xs:List Value}{off i:Nat}{p:Sg},Di w f l xs→Cs w f b off xs→l[i]?=some p→∃a c,Cs w f b (off+i*6) (pC p a c)∧Ah w f p.2.2.kids a c
 | [],_,_,_,_,_,_,h=>by simp at h
 |q::l,xs,off,0,p,⟨a,c,xs',h1,h2,h3⟩,hc,h=>by
   cases h
   subst h1
   exact⟨a,c,by simpa using Cs.le hc,h2⟩
 |q::l,xs,off,i+1,p,⟨a,c,xs',h1,h2,h3⟩,hc,h=>by
   subst h1
   have h4:=Cs.drop hc
   obtain⟨a',c',h5,h6⟩:=Di.get h3 h4 (by simpa using h)
   exact⟨a',c',by rwa[show off+(pC q a c).length+i*6=off+(i+1)*6 by simp only[pC,tC,List.length_cons,List.length_nil];omega] at h5,h6⟩
end Go.SP
namespace Go.SW
open Go.RowKit
def lL(K:List Nat)(Q:Bk):Prop:=∀c σ σ' ds w,(∀k,k∈K→σ' k=σ k)→Q.p c σ ds w→Q.p c σ' ds w
def lI(K:List Nat):List Oper→Bool
 | []=>true
 |o::l=>(match o.dst with|some d=>!K.contains d|none=>true)&&lI K l
theorem UG{K:List Nat}:∀{l:List Oper}{i:Nat}{o:Oper}{d:Nat},lI K l=true→l[i]?=some o→o.dst=some d→d∉K
 | [],_,_,_,_,h,_=>by simp at h
 |x::l,0,o,d,hn,h,hd=>by
   cases h
   simp only[lI,hd,Bool.and_eq_true] at hn
   simpa using hn.1
 |x::l,i+1,o,d,hn,h,hd=>by
   simp only[lI,Bool.and_eq_true] at hn
   exact UG hn.2 (by simpa using h) hd
section
variable{P:Program}{n:Nat}{Q:Bk}{S:World→Prop}{l:List Oper}{K:List Nat}
theorem aB(hpi:lL K Q){c:List PanicEntry}{a:Act}{d:Nat}{v:Value}{w:World}(hd:d∉K)(h:Q.up n (.panic c) (a.put (some d) v) w):Q.up n (.panic c) a w:=by
 obtain⟨σ,ds,hs,hq⟩:=h
 refine⟨fun t=>if t=d then none else σ t,ds,⟨by have:=hs.size;simpa[Act.put] using this,hs.defs,fun t v' ht=>?_⟩,hpi _ _ _ _ _ (fun k hk=>if_neg (c:=k=d) fun e=>hd (e▸hk)) hq⟩
 by_cases e:t=d
 · simp[e] at ht
 · simp only[e,if_false] at ht
   have h1:=hs.val t v' ht
   simp only[Act.put,Array.getD_eq_getD_getElem?] at h1 ⊢
   rwa[Array.getElem?_setIfInBounds_ne (fun h=>e h.symm)] at h1
theorem KM(hs:Region.noSelect l.toArray=true)(hpi:lL K Q)(hno:lI K l=true):∀(m:Nat)(t:OT)(listed:Array Bool)(a:Act)(w:World),t.even true m=true→t.ok l.toArray true listed=true→S w→YS P l (Q.up n) S true t a w→wpAnyH P .any l.toArray (Q.up n) S m listed a w
 |m,.fin,listed,a,w,hev,ho,hS,h=>by
   simp[OT.even] at hev
   subst hev
   exact wpAnyH_done (by simpa[OT.ok] using ho) (h rfl) 0
 |0,.rd _ _,_,_,_,hev,_,_,_=>by simp[OT.even] at hev
 |0,.br _ _ _,_,_,_,hev,_,_,_=>by simp[OT.even] at hev
 |m+1,.rd i k,listed,a,w,hev,ho,hS,h=>by
   simp only[OT.ok,Bool.and_eq_true,Bool.true_and] at ho
   obtain⟨o,v,hi,hy,h'⟩:=h
   exact wpAnyH_take (by simpa using hi) hs ho.1.1 ho.1.2 (fun c a w hq=>by
     cases hd:o.dst with
     |none=>rw[hd] at hq;exact hq
     |some d=>rw[hd] at hq;exact aB hpi (UG hno hi hd) hq) hy hS (KM hs hpi hno m k _ _ w hev ho.2 hS h')
 |m+1,.br i k o,listed,a,w,hev,ho,hS,h=>by
   have hok':(OT.br i k o).ok l.toArray false listed=true:=by
     simp only[OT.ok,Bool.and_eq_true] at ho ⊢
     exact⟨⟨rfl,ho.1.2⟩,ho.2⟩
   have hev':(OT.br i k o).even false (m+1)=true:=hev
   have hrd:Region.ready .any l.toArray listed=(OT.br i k o).alts:=by
     simp only[OT.ok,Bool.and_eq_true,Bool.not_true,Bool.false_or,beq_iff_eq] at ho
     exact ho.1.1
   have hw':YS P l (Q.up n) S false (.br i k o) a w:=h
   refine wpAnyH_all hrd (by simp[OT.alts]) fun j hj=>?_
   obtain⟨k',h1,⟨m',hm,h2⟩,h3⟩:=OT.alts_mem (.br i k o) l.toArray listed (m+1) j hok' hev' hj
   obtain rfl:m=m':=oM
   obtain⟨op,hop,hwl⟩:=h3 P l (Q.up n) S a w hw'
   exact wpOp_mono (fun a' w' hk=>⟨hk.1,KM hs hpi hno m k' _ a' w' h2 h1 hk.1 hk.2⟩) (IC (by simpa using hop) (fun _ _ h=>h) hwl)
variable{σ:Bo}{ds:List Deferred}{X:Cx}{R:List RB}{B:List FB}{Fs:List (World→Fq→Prop)}{fs:List Fr}{H Hk:List HB}
theorem P0(hpi:lL K Q):∀fs:List Fr,lL K (MT P n Q fs)
 | []=>hpi
 |.sq _::fs=>P0 hpi fs
 |.bk _::fs=>P0 hpi fs
theorem Ww{id:Nat}(K:List Nat)(J:World→Prop)(hJ:∀w f,X.I w f→CM X.M X.w0 X.f0 w f→J w)(ix:List Nat)(hm:P.follows .mixedOrders=true)(t:OT)(hk:Mg H ix=some Hk)(hok:t.ok l.toArray true (Array.replicate l.length false)=true)(hev:t.even true l.length=true)(hsel:Region.noSelect l.toArray=true)(hno:lI K l=true)(hpi:lL K Q)
   (h:Dx P n (MT P n Q fs) ds X R B Fs l Hk B J true t σ H):AF P n Q ds X R B Fs (.code (.region id l.toArray true)) fs σ H:=fun w f hM a ha=>by
 refine wp_region_held (S:=Kp Hk B J) hm ?_
 have hM':AX X w.drew f H R B Fs:=hM.call0 (CM.of_ext AV.drew hM.val)
 have:=KM (P:=P) (n:=n) (Q:=MT P n Q fs) hsel (P0 hpi fs) hno l.length t (Array.replicate l.length false) a w.drew hev hok (hM'.kp (JZ hk) hJ) (h w.drew f hM' a ha)
 simpa using this
end
theorem dD{b1 b2 b3:Nat}{l1 l2 l3:List Value}{T1 T2 T3:TypeId}{w:World}{f:Fq}(hv:Vl w f)(h1:AQ w b1 l1 T1)(h2:AQ w b2 l2 T2)(h3:AQ w b3 l3 T3)(hf:f b1=0∧f b2=0∧f b3=0)(hn:b1≠b2∧b1≠b3∧b2≠b3) :
   AX ⟨fun b=>b=b1∨b=b2∨b=b3,fun _=>False,fun _ _=>True,w,f⟩ w f [⟨b1,l1,T1,false⟩,⟨b2,l2,T2,false⟩,⟨b3,l3,T3,false⟩] [] [] [] where
 stp:=Mx.refl _ _
 old _ _:=rfl
 val:=hv
 ent:=Jf.refl _ _
 res:=trivial
 stab _ _ _ _ _ _ _:=trivial
 mi _ h:=h.elim
 blk e h:=by
   rcases List.mem_cons.1 h with rfl|h
   · exact h1
   rcases List.mem_cons.1 h with rfl|h
   · exact h2
   rcases List.mem_cons.1 h with rfl|h
   · exact h3
   cases h
 row _ h:=by cases h
 nd:=by simp[CP,hn.1,hn.2.1,hn.2.2]
 own b h:=by
   simp[CP] at h
   rcases h with rfl|rfl|rfl
   · exact⟨hf.1,.inr (.inl rfl),fun h=>h⟩
   · exact⟨hf.2.1,.inr (.inr (.inl rfl)),fun h=>h⟩
   · exact⟨hf.2.2,.inr (.inr (.inr rfl)),fun h=>h⟩
 hnw e h hh:=by
   rcases List.mem_cons.1 h with rfl|h
   · cases hh
   rcases List.mem_cons.1 h with rfl|h
   · cases hh
   rcases List.mem_cons.1 h with rfl|h
   · cases hh
   cases h
 rnw _ h:=by cases h
 fro _ h:=by cases h
 fac _ h:=by cases h
 mono _ h:=by cases h
def UQ(P:Program)(fn:Func)(K:List Nat)(R:Ending→World→Prop):Bk :=
 {q:=(UU P fn R).q,
   p:=fun c σ ds w=>∀tmps:Array Value,(∀t,t∈K→∀v,σ t=some v→tmps.getD t undef=v)→Leaves P fn tmps R ds (.panicking c) w}
theorem Ff{P:Program}{fn:Func}{K:List Nat}{R:Ending→World→Prop}:lL K (UQ P fn K R):=fun _ _ _ _ _ hk h tmps ht=>h tmps fun t hm v hv=>ht t hm v ((hk t hm).trans hv)
theorem iE{P:Program}{n:Nat}{X:Cx}{H:List HB}{R:List RB}{B:List FB}{Fs:List (World→Fq→Prop)}{fid:FuncId}{fn:Func}{c:Code}{l:List Value}{R0:Ending→World→Prop}{K:List Nat}{w:World}{f:Fq}(hf:P.funcs[fid]?=some fn)(hb:fn.body=some c)(hn:fn.ntmps=n)(hl:Nat.ble l.length n=true)(hM:AX X w f H R B Fs)
   (h:AF P n (UQ P fn K R0) [] X R B Fs (.code c) [] (Io l 0) H):Calls P fid l.toArray w R0:=by
 refine calls_of_wp_defers hf hb ?_
 rw[hn]
 refine wp_mono (h w f hM _ (J7 hl)) fun e a w' he=>?_
 cases e with
 |normal=>obtain⟨σ,ds,hs,hq⟩:=he;show Leaves _ _ _ _ a.defers _ _;rw[hs.defs];exact hq _ hs.val
 |ret=>obtain⟨σ,ds,hs,hq⟩:=he;show Leaves _ _ _ _ a.defers _ _;rw[hs.defs];exact hq _ hs.val
 |panic c=>obtain⟨σ,ds,hs,hq⟩:=he;show Leaves _ _ _ _ a.defers _ _;rw[hs.defs];exact hq _ fun t _ v hv=>hs.val t v hv
 |outgrown=>exact he.elim
 |exit i=>obtain⟨σ,ds,hs,hq⟩:=he;exact hq.elim
 |goto i=>obtain⟨σ,ds,hs,hq⟩:=he;exact hq.elim
section
variable{P:Program}{n:Nat}{Q:Bk}{ds:List Deferred}{X:Cx}{R:List RB}{B:List FB}{Fs:List (World→Fq→Prop)}{fs:List Fr}{σ:Bo}{H:List HB}
variable{all r:List Oper}{ty T:TypeId}{pos:String}{af:Array Edge}{g:Option (Nat×Bool)}{d:Nat}
theorem tG{x:Operand}{f:FuncId}{cv:List Value}{ts:Array TypeId}(hg:gd all σ g=some true)(hx:ev σ x=some (.func (.func f) #[] cv.toArray))
   (h:AF P n Q ({target:=.fn (.func f) cv.toArray,args:=#[]}::ds) X R B Fs (.ops all r) fs σ H):AF P n Q ds X R B Fs (.ops all (⟨none,.defer {callee:=.value x,args:=#[],argTypes:=ts},ty,pos,af,g⟩::r)) fs σ H:=fun w f hM =>
 BD hg (OL hx (h w f hM))
theorem Xa{op:Op}{fid:FuncId}{args:Array Value}{α:Type}{val:α→Value}{q:α→Prop}{I':α→World→Fq→Prop}{F':α→List (World→Fq→Prop)}{M:Nat→Prop}{pe:SP.Er→Prop}
   (hg:gd all σ g=some true) (hd:Nat.blt d n=true) (he:∀w,Enters P σ op ty w fid args) (hs:∀b,M b→X.MI b)
   (hc:∀w f,AX X w f H R B Fs→BQ P fid args w (Fl val q X.MI I' F' w f) (SP.PanE T M pe w f)) (hst:∀x,Gr X.MI (I' x)) (hm:∀x,Af (F' x))
   (hp:∀er w' f',pe er→CM X.M X.w0 X.f0 w' f'→(∀e,e∈H→AQ w' e.b e.l e.T∧f' e.b=0∧(e.nw=true→X.w0.heap.size≤e.b))→Q.p (SP.trI T er) σ ds w')
   (h:∀x,q x→AF P n Q ds {X with I:=I' x} R B (F' x++Fs) (.ops all r) fs (AL σ d (val x)) H):AF P n Q ds X R B Fs (.ops all (⟨some d,op,ty,pos,af,g⟩::r)) fs σ H :=
 Ov (XX:=fun c w'=>∃er f',c=SP.trI T er∧pe er∧CM X.M X.w0 X.f0 w' f'∧∀e,e∈H→AQ w' e.b e.l e.T∧f' e.b=0∧(e.nw=true→X.w0.heap.size≤e.b)) hg hd he (fun w f hM=>(hc w f hM).mono (fun _ _ h=>h) fun _ w' ⟨er,f',h1,h2,h3⟩=>by
   have hM':=hM.callI (I':=fun _ _=>True) (h3.mono hs) trivial (fun _ _ _ _ _ _ _=>trivial)
   exact⟨er,f',h1,h2,hM'.exm,fun e he=>⟨hM'.blk e he,(hM'.own e.b (List.mem_append.2 (.inl (List.mem_map.2 ⟨e,he,rfl⟩)))).1,hM'.hnw e he⟩⟩) hst hm (fun _ _ _ _ _ ⟨er,f',h1,h2,h3,h4⟩=>h1▸hp er _ f' h2 h3 h4) h
end
open Go.SP (QI)
section
variable{P:Program}{n:Nat}{Q:Bk}{ds:List Deferred}{X:Cx}{R:List RB}{B:List FB}{Fs:List (World→Fq→Prop)}{fs:List Fr}{σ:Bo}{H:List HB}
variable{all r:List Oper}{ty T:TypeId}{pos:String}{af:Array Edge}{g:Option (Nat×Bool)}{d:Nat}{op:Op}{fid:FuncId}{args:Array Value}{α:Type}
theorem mS{val:α→Value}{q:α→Prop}{F':α→List (World→Fq→Prop)}{pe:Int×Int→Prop}
   (hg:gd all σ g=some true) (hd:Nat.blt d n=true) (he:∀w,Enters P σ op ty w fid args)
   (hc:∀w f,AX X w f H R B Fs→BQ P fid args w (BV val q F' w f) (SD T pe w f)) (hm:∀x,Af (F' x))
   (hp:∀e w' f',pe e→CM X.M X.w0 X.f0 w' f'→(∀e,e∈H→AQ w' e.b e.l e.T∧f' e.b=0∧(e.nw=true→X.w0.heap.size≤e.b))→Q.p (QI T e) σ ds w')
   (h:∀x,q x→AF P n Q ds X R B (F' x++Fs) (.ops all r) fs (AL σ d (val x)) H):AF P n Q ds X R B Fs (.ops all (⟨some d,op,ty,pos,af,g⟩::r)) fs σ H:=fun w f hM=>by
 refine BD hg (Cf hd (he w) (hc w f hM) ?_ ?_)
 · rintro v w' ⟨x,f',rfl,hq,hE,hF⟩
   exact h x hq w' f' ((hM.call0 hE).more (B':=[]) (fun _ h=>by cases h) hF.mem (hm x).mem)
 · rintro c w' ⟨e,f',rfl,hq,hE⟩
   rw[Mo]
   have hM':=hM.call0 hE
   exact hp e w' f' hq hM'.exm fun e he=>⟨hM'.blk e he,(hM'.own e.b (List.mem_append.2 (.inl (List.mem_map.2 ⟨e,he,rfl⟩)))).1,hM'.hnw e he⟩
theorem tY{e:TypeId}{size k:Nat}{xs:List Value}{val:Option Addr→Nat→Value}(hg:gd all σ g=some true)(hd:Nat.blt d n=true)(he:∀w,Enters P σ op ty w fid args)
   (hc:∀w f,AX X w f H R B Fs→BF P fid args w fun v w'=>∃a c,v=val a c∧(Ck w' e size a c k xs∧∀b,rb a=some b→w.heap.size≤b)∧AV w w')
   (h:∀a c,AF P n Q ds X (⟨e,size,a,c,k,xs⟩::R) B Fs (.ops all r) fs (AL σ d (val a c)) H):AF P n Q ds X R B Fs (.ops all (⟨some d,op,ty,pos,af,g⟩::r)) fs σ H:=fun w f hM=>by
 refine BD hg (Cf hd (he w) (BF.retP (X:=fun _ _=>False) (hc w f hM)) ?_ (fun _ _ h=>False.elim h))
 rintro v w' ⟨a,c,rfl,⟨hr,hb⟩,hE⟩
 exact h a c w' f (hM.addRow (CM.of_ext hE hM.val) hr fun b hb'=>⟨hb b hb',hM.val b (hb b hb')⟩)
end
end Go.SW
namespace Go.SP
open Go.SW Go.RowKit
def eR(w w':World)(f:Fq):Fq:=fun b=>if b<w.heap.size then f b else match w'.heap[b]? with|some (.cells l _)=>l.size|_=>0
theorem bP{w w':World}{f:Fq}(hE:AV w w'):CM (fun _=>False) w f w' (eR w w' f) where
 stp:=Mx.of_ext hE
 old b hb:=by unfold eR;rw[if_pos hb]
 val b hb:=by
   unfold eR
   rw[if_neg (by have:=hE.size;omega),Array.getElem?_eq_none hb]
theorem jN{w w':World}{f:Fq}{b off:Nat}{L l r:List Value}{T:TypeId}(hb:AQ w' b L T)(hn:w.heap.size≤b)(hd:L.drop off=l++r):Cs w' (eR w w' f) b off l:=fun j v hj=>by
 have h1:L[off+j]?=some v:=by
   rw[← List.getElem?_drop,hd]
   obtain⟨h,_⟩:=List.getElem?_eq_some_iff.1 hj
   rw[List.getElem?_append_left h];exact hj
 obtain⟨h2,_⟩:=List.getElem?_eq_some_iff.1 h1
 have hb':w'.heap[b]?=some (.cells L.toArray T):=hb
 refine⟨?_,?_⟩
 · unfold eR
   rw[if_neg (by omega),hb']
   simpa using h2
 · rw[hb.cell,h1]
theorem H2.frz{w w':World}{f:Fq}:∀(k:Fo)(b off:Nat)(L l:List Value)(T:TypeId),AQ w' b L T→w.heap.size≤b→L.drop off=l→H2 (fun b=>w.heap.size≤b) w' k l→Xb w' (eR w w' f) k b off
 |.nil,_,_,_,_,_,_,_,_,_=>trivial
 |.cons t k r,b,off,L,l,T,hb,hn,hd,⟨a,n,c,l',h1,⟨h2,h3,h4⟩,h5⟩=>by
   subst h1
   refine⟨⟨a,c,jN (r:=l') hb hn (by rw[hd,h2];rfl),oM,?_⟩,H2.frz r b (off+6) L l' T hb hn (by rw[← List.drop_drop,hd];rfl) h5⟩
   rcases h4 with h4|⟨b',off',l2,T2,hu,ha,hb2,hc⟩
   · left
     cases k with
     |nil=>rfl
     |cons _ _ _=>rw[h4] at h2;cases h2
   · exact .inr ⟨b',off',ha,H2.frz k b' off' l2 _ T2 hb2 hu rfl hc⟩
theorem EF.frz{w w':World}{f:Fq}{a:Option Addr}{c:Nat}{k:Fo}(h:EF (fun b=>w.heap.size≤b) w' a k.len c k):Bu w' (eR w w' f) k a c:=by
 obtain⟨h1,h2,h3⟩:=h
 refine⟨h2,?_⟩
 rcases h3 with h3|⟨b,off,l,T,hu,ha,hb,hc⟩
 · left
   cases k with
   |nil=>rfl
   |cons _ _ _=>cases h3
 · exact .inr ⟨b,off,ha,H2.frz k b off l _ T hb hu rfl hc⟩
def Re(p:Nd×Int×Int×Int)(w:World)(f:Fq)(v:Value)(w':World):Prop :=
 ∃f' a c,CM (fun _=>False) w f w' f'∧v=.tuple #[.slice a p.1.len c,.agg #[.int .i64 p.2.1,.int .i64 p.2.2.1],.int .i64 p.2.2.2]∧AK w' f' p.1 a c
end Go.SP
namespace Go.Proofs.YthofplgbhecdcaaGreatDoor
open Go.SW Go.SP Go.RowKit
def mI:Ea:=⟨[(79,0,0),(79,1,1)],[(37,79,5),(82,43,1)],[],[],[(3,false,1),(25,true,2),(79,true,5),(4,false,1)],[(41,[.int .i64 0,.int .i64 0])],[(41,[(0,2)])],[]⟩
theorem BE:mI.Ok Tryz.prog:=⟨(And.intro Zd (And.intro SH trivial)),(And.intro Ht (And.intro KH trivial)),trivial,trivial,(And.intro PX (And.intro Hw (And.intro Hh (And.intro eJ trivial)))),(And.intro jJ trivial),(And.intro gV trivial),trivial⟩
theorem U4(w:World)(ta:Option Addr)(tn tc:Nat)(toks:List AT)(hT:Ck w 79 5 ta tc toks.length (Fy toks))(htn:tn=toks.length)(hlen:toks.length≤100000) :
  BQ Tryz.prog 11 #[.slice ta tn tc] w (fun v w'=>∃fo a c,Bz toks [] .nil=.ok fo∧v=.slice a fo.len c∧EF (fun b=>w.heap.size≤b) w' a fo.len c fo∧AV w w') (fun c w'=>∃e,Bz toks [] .nil=.error e∧c=QI 41 e∧AV w w'):=by
 subst htn
 have hX:=AV.refl w
 refine IF Tryz.func11 rfl rfl rfl<|gP [] BE 7 [] (Ar _) (fun _=>Cj rfl rfl KH oU rfl rfl rfl rfl rfl fun b1 w1 hb1 hE1 hs1 hz1=>?_)
 replace hX:=hX.trans hE1
 refine gL [.sq _] BE 17 [] (Ar _) (fun _=>?_)
 refine Eh (fun k σ ds w'=>∃(i:Nat)(pre rest:List AT)(st:List (AT×Fo))(cur:Fo)(u:Nat→Nat)(oa:Option Addr)(oc sb sc:Nat)(a:Option Addr)(c:Nat)(vs:List Value),k=rest.length∧ds=[]∧σ=(E5 3 (.slice (some ⟨sb,0,none⟩) (st.length+1) sc) 4 (.slice oa st.length oc) 10 (.slice ta toks.length tc) 11 (.int .i64 (toks.length:Int)) 12 (.int .i64 (i:Int)))∧toks=pre++rest∧pre.length=i∧Bz toks [] .nil=Bz rest st cur∧st.length≤200∧cur.len≤i∧(∀z∈st,z.2.len≤i)∧SV 81 79 43 u w w' st st oa oc (some ⟨sb,0,none⟩) sc (.slice a cur.len c) a c cur vs none 0 0 .nil∧AV w w') toks.length (E5 3 (.slice (some ⟨b1,0,none⟩) 1 1) 4 (.slice none 0 0) 10 (.slice ta toks.length tc) 11 (.int .i64 (toks.length:Int)) 12 (.int .i64 ((0:Nat):Int))) lE ⟨0,[],toks,[],.nil,fun _=>2,none,0,b1,1,none,0,[],rfl,rfl,rfl,rfl,rfl,rfl,by simp,by simp[Fo.len],(fun z hz=>by cases hz),SV.start hb1 oM,hX⟩ ?_
 rintro _ _ _ wl ⟨i,pre,rest,st,cur,u,oa,oc,sb,sc,a,c,vs,rfl,rfl,rfl,htk,hpi,hm,h200,hcl,hsl,hS,hX⟩
 have szl:=hX.size
 have hil:i+rest.length=toks.length:=by rw[htk,List.length_append,hpi]
 have hslt:sb<wl.heap.size:=hS.slt sb rfl
 have hsge:w.heap.size≤sb:=(hS.sla sb rfl).1
 have htlt:=hS.tlt
 have holt:=hS.olt
 have hson:=hS.o.n_le
 have hssn:=hS.s.n_le
 have hA1:=AV.refl wl
 refine gP [] BE 6 [] (Ar _) (fun _=>sP 13 rfl (fun h1=>?_) (fun h1=>?_))
 refine gP [.sq _] BE 7 [] (Ar _) (fun _=>?_)
 have hi2:i<toks.length:=by simpa using h1
 rcases rest with _|⟨tk,rest⟩
 · simp at hil;omega
 simp only[List.length_cons] at hil
 obtain⟨bt,lt,lt2,hta,hbt,hdt⟩:=iC (htk▸hT) hpi
 cases hta
 have hbtl:=hbt.lt
 refine Aa rfl (K8 (i:=i) rfl rfl Ht hi2)<|Aa rfl (L8 0 rfl Hh (hbt.ext hX) hdt oM rfl)<|CO rfl FU fun b2 w2 hb2 hE2 hs2 hz2=>?_
 replace hX:=hX.trans hE2
 replace hA1:=hA1.trans hE2
 refine A4 rfl rfl rfl Hh rfl hb2 rfl rfl fun w3 hb3 hC1=>?_
 replace hX:=hX.chg hC1 oM
 replace hA1:=hA1.chg hC1 oM
 have sz1:=hC1.size
 refine gL [.sq _,.bk _,.sq _] BE 23 [0,0] (kB hb3 (Ar _)) (And.intro ⟨oM,oM⟩<|y2<|fun _=>sP 32 rfl (fun h2=>?_) (fun h2=>?_))
 refine gP [.bk _,.bk _,.sq _] BE 9 [] (Ar _) (fun _=>sP 36 rfl (fun h3=>?_) (fun h3=>?_))
 exact gP [.sq _,.bk _,.bk _,.sq _] BE 5 [0,1] (kB hb3 (Ar _)) (y2<|fun _=>Aa rfl (BY rfl cM)<|Ct (BM rfl) (And.intro rfl<|⟨(tk.ln,tk.co),hm.trans (SB h2 (by have:=h3;simp at this;omega)),rfl,hX⟩))
 refine gP [.sq _,.bk _,.bk _,.sq _] BE 7 [0,0] (kB hb3 (Ar _)) (y2<|fun _=>Cj rfl rfl Ht FU rfl rfl rfl rfl rfl fun b3 w4 hb4 hE3 hs3 hz3=>?_)
 replace hb3:=hb3.ext hE3
 replace hX:=hX.trans hE3
 replace hA1:=hA1.trans hE3
 have hS0:=(hS.ext hA1)
 refine Be rfl Je rfl rfl rfl rfl hS0.o hb4 rfl rfl oM oM fun oa2 oc2 w5 hr1 hG1=>?_
 obtain⟨u2,hS1⟩:=hS0.pushTok tk cur hr1 hG1 oM
 replace hX:=hX.grow hG1 (fun b hb=>(hS0.ol b hb).1)
 have sz2:=hG1.size
 have hA2:=AV.refl w5
 refine gL [.sq _,.bk _,.bk _,.sq _] BE 5 [] (Ar _) (fun _=>Cj rfl rfl KH oU rfl rfl rfl rfl rfl fun b4 w6 hb5 hE4 hs4 hz4=>?_)
 replace hX:=hX.trans hE4
 replace hA2:=hA2.trans hE4
 have hS0:=(hS1.ext hA2)
 refine Be rfl pX rfl rfl rfl rfl hS0.s hb5 rfl rfl oM oM fun sa2 sc2 w7 hr2 hG2=>?_
 obtain⟨u3,hS2⟩:=hS0.pushLev rfl tk hr2 hG2 oM
 replace hX:=hX.grow hG2 (fun b hb=>(hS0.sla b hb).1)
 have sz3:=hG2.size
 have hA3:=AV.refl w7
 refine gL [.bk _,.bk _,.sq _] BE 9 [] (Ar _) (And.intro ⟨oM,oM⟩<|fun _=>?_)
 obtain⟨sb2,_,hes2,-⟩:=(hS2.ext hA3).sblk
 cases hes2
 have hne2:st.length≠200:=by have:=h3;simp at this;omega
 refine HA rest.length (E5 3 (.slice (some ⟨sb2,0,none⟩) (st.length+1+1) sc2) 4 (.slice oa2 (st.length+1) oc2) 10 (.slice (some ⟨bt,0,none⟩) toks.length tc) 11 (.int .i64 (toks.length:Int)) 12 (.int .i64 ((i+1:Nat):Int))) (by simp) lE ⟨i+1,pre++[tk],rest,(tk,cur)::st,.nil,_,oa2,oc2,sb2,sc2,none,0,_,rfl,rfl,rfl,by rw[htk];simp,by simp[hpi],hm.trans (Rd h2 hne2),by simp only[List.length_cons];omega,by simp[Fo.len],VF tk hsl hcl,(hS2.ext hA3),hX⟩
 refine gP [.bk _,.bk _,.sq _] BE 7 [] (Ar _) (fun _=>sP 48 rfl (fun h4=>?_) (fun h4=>?_))
 refine gP [.bk _,.bk _,.sq _] BE 8 [] (Ar _) (fun _=>sP 51 rfl (fun h5=>?_) (fun h5=>?_))
 refine gP [.sq _,.bk _,.bk _,.sq _] BE 5 [0,1] (kB hb3 (Ar _)) (y2<|fun _=>Aa rfl (BY rfl cM)<|Ct (BM rfl) (And.intro rfl ?_))
 rcases st with _|⟨o,s⟩
 · exact⟨(tk.ln,tk.co),hm.trans (T8 h2 h4),rfl,hX⟩
 · have h2:=h5;simp at h2 <;> omega
 refine gP [.sq _,.bk _,.bk _,.sq _] BE 4 [] (Ar _) (fun _=>?_)
 rcases st with _|⟨⟨o,q⟩,s⟩
 · simp at h5
 rcases vs with _|⟨y,vs⟩
 · exact hS.lv.elim
 obtain⟨_,ls,hes,hsb,hcell,hsl2,hsw,hsu⟩:=(hS.ext hA1).sblk
 cases hes
 obtain⟨ob,lo,lo2,hoa,hob,hod⟩:=(hS.ext hA1).oblk
 cases hoa
 have hobl:ob<wl.heap.size:=holt ob rfl
 have hr3:=hsb
 have hr4:=(hbt.ext hX)
 have hr5:=hb3
 have hr6:=hob
 refine Ei mixed (A8 w3 [sb,bt,b2,ob]) [(true,0),(true,1),(true,2),(true,3),(true,4),(true,5),(true,6),(true,7),(true,8),(true,9),(false,10),(false,11)] kR kR rfl rfl fun w8 hE5 hz5=>?_
 have hKp:A8 w3 [sb,bt,b2,ob] w8:=A8.cons hr3 hE5 (A8.cons hr4 hE5 (A8.cons hr5 hE5 (A8.cons hr6 hE5 (A8.nil _ _))))
 refine⟨hKp,?_⟩
 replace hb3:=hb3.ext hE5
 replace hob:=hob.ext hE5
 replace hsb:=hsb.ext hE5
 replace hX:=hX.trans hE5
 replace hA1:=hA1.trans hE5
 refine A2 rfl (fun _ hS=>A0 rfl)<|A2 rfl (fun _ hS=>A0 rfl)<|A2 rfl (fun _ hS=>He rfl rfl ⟨oM,oM⟩)<|A2 rfl (fun _ hS=>EV s.length rfl rfl (by simp <;> omega) Ht (by simp))<|A2 rfl (fun _ hS=>L8 0 rfl Hh (hr6.keep hS (.tail _ (.tail _ (.tail _ (.head _))))) hod oM rfl)<|A2 rfl (fun _ hS=>A0 rfl)<|A2 rfl (fun _ hS=>A0 rfl)<|A2 rfl (fun _ hS=>EV (s.length+1) rfl rfl (by simp) KH (by simp))<|A2 rfl (fun _ hS=>Al rfl JI (hr3.keep hS (.head _)) (by simpa using hcell))<|A2 rfl (fun _ hS=>DK rfl oR Qv rfl) ?_
 refine EZ<|CO rfl Qv fun b5 w9 hb6 hE6 hs5 hz6=>?_
 replace hb3:=hb3.ext hE6
 replace hob:=hob.ext hE6
 replace hsb:=hsb.ext hE6
 replace hX:=hX.trans hE6
 replace hA1:=hA1.trans hE6
 replace hKp:=hKp.ext hE6
 refine Ab (Hq hKp<|EZ<|A4 rfl rfl rfl Nx rfl hb6 rfl rfl fun w10 hb7 hC2=>?_)
 replace hb3:=hb3.chg hC2 oM
 replace hob:=hob.chg hC2 oM
 replace hsb:=hsb.chg hC2 oM
 replace hX:=hX.chg hC2 oM
 replace hA1:=hA1.chg hC2 oM
 replace hKp:=hKp.chg hC2 nM
 have sz4:=hC2.size
 refine Ab (Hq hKp<|Em<|gQ [.sq _,.bk _,.bk _,.sq _] BE 2 [] (Ar _) (fun _=>?_))
 have hr7:=(hbt.ext hX)
 have hr8:=hb3
 have hr9:=hb7
 refine Ei mixed (A8 w10 [bt,b2,b5]) [(true,0),(true,1),(true,2),(true,3),(true,4),(true,5),(true,6),(true,7),(true,8)] kR kR rfl rfl fun w11 hE7 hz7=>?_
 have hKp:A8 w10 [bt,b2,b5] w11:=A8.cons hr7 hE7 (A8.cons hr8 hE7 (A8.cons hr9 hE7 (A8.nil _ _)))
 refine⟨hKp,?_⟩
 replace hb3:=hb3.ext hE7
 replace hb7:=hb7.ext hE7
 replace hX:=hX.trans hE7
 replace hA1:=hA1.trans hE7
 refine A2 rfl (fun _ hS=>A0 rfl)<|A2 rfl (fun _ hS=>A0 rfl)<|A2 rfl (fun _ hS=>He rfl rfl ⟨oM,oM⟩)<|A2 rfl (fun _ hS=>Va s.length rfl rfl (by simp <;> omega) Ht (by simp only[List.length_cons] at hson;omega))<|A2 rfl (fun _ hS=>A0 rfl)<|A2 rfl (fun _ hS=>A0 rfl)<|A2 rfl (fun _ hS=>Va (s.length+1) rfl rfl (by simp) KH (by simp only[List.length_cons] at hssn;omega))<|A2 rfl (fun _ hS=>Dm rfl)<|A2 rfl (fun _ hS=>Dm rfl)<|Em ?_
 refine gQ [.sq _,.bk _,.bk _,.sq _] BE 2 [] (Ar _) (fun _=>?_)
 obtain⟨u2,a2,c2,hy,hP⟩:=(hS.ext hA1).pop
 cases hy
 obtain⟨a9,c9,hy9,xs9,hrow9,-⟩:=hS.lv.1
 cases hy9
 have htlt9:∀b,rb a2=some b→b<wl.heap.size:=fun b hb=>hrow9.lt hb
 have hA4:=AV.refl w11
 have hr10:=(hbt.ext hX)
 have hr11:=hb3
 have hr12:=hb7
 refine Es mixed (A8 w11 [bt,b2,b5]) (.br 0 (.br 1 (.br 2 (.br 3 .fin .fin) .fin) (.br 2 (.br 1 (.br 3 .fin .fin) .fin) .fin)) .fin) kR kR kR fun w12 hE8 hz8=>?_
 have hKp:A8 w11 [bt,b2,b5] w12:=A8.cons hr10 hE8 (A8.cons hr11 hE8 (A8.cons hr12 hE8 (A8.nil _ _)))
 refine⟨hKp,?_⟩
 replace hb3:=hb3.ext hE8
 replace hb7:=hb7.ext hE8
 replace hX:=hX.trans hE8
 replace hA1:=hA1.trans hE8
 replace hA4:=hA4.trans hE8
 refine Am rfl ?_ Ae
 refine CO rfl uE fun b6 w13 hb8 hE9 hs6 hz9=>?_
 replace hb3:=hb3.ext hE9
 replace hb7:=hb7.ext hE9
 replace hX:=hX.trans hE9
 replace hA1:=hA1.trans hE9
 replace hA4:=hA4.trans hE9
 replace hKp:=hKp.ext hE9
 refine Ab (An hKp<|Am rfl ?_ ?_)
 refine A4 rfl rfl rfl eJ rfl hb8 rfl rfl fun w14 hb9 hC3=>?_
 replace hb3:=hb3.chg hC3 oM
 replace hb7:=hb7.chg hC3 oM
 replace hX:=hX.chg hC3 oM
 replace hA1:=hA1.chg hC3 oM
 replace hA4:=hA4.chg hC3 oM
 replace hKp:=hKp.chg hC3 nM
 have sz5:=hC3.size
 refine Ab (An hKp<|Am rfl ?_ Ae)
 refine A4 rfl rfl rfl eJ rfl hb9 rfl rfl fun w15 hb10 hC4=>?_
 replace hb3:=hb3.chg hC4 oM
 replace hb7:=hb7.chg hC4 oM
 replace hX:=hX.chg hC4 oM
 replace hA1:=hA1.chg hC4 oM
 replace hA4:=hA4.chg hC4 oM
 replace hKp:=hKp.chg hC4 nM
 have sz6:=hC4.size
 refine Ab (An hKp<|Am rfl ?_ Ae)
 refine Aa rfl (Al rfl eJ hb10 rfl)<|Ab (An hKp<|BC<|gQ [.sq _,.bk _,.bk _,.sq _] BE 2 [] (Ar _) (fun _=>?_))
 have hr13:=(hbt.ext hX)
 have hr14:=hb3
 have hr15:=hb7
 have hr16:=hb10
 refine Es mixed (A8 w15 [bt,b2,b5,b6]) (rd [0,1,2,3,4,5,6,8] (.br 7 (.br 9 (.br 10 (.rd 11 (.br 12 .fin .fin)) .fin) .fin) (.br 9 (.br 7 (.br 10 (.rd 11 (.br 12 .fin .fin)) .fin) .fin) .fin))) kR kR kR fun w16 hE10 hz10=>?_
 have hKp:A8 w15 [bt,b2,b5,b6] w16:=A8.cons hr13 hE10 (A8.cons hr14 hE10 (A8.cons hr15 hE10 (A8.cons hr16 hE10 (A8.nil _ _))))
 refine⟨hKp,?_⟩
 replace hb3:=hb3.ext hE10
 replace hb7:=hb7.ext hE10
 replace hb10:=hb10.ext hE10
 replace hX:=hX.trans hE10
 replace hA1:=hA1.trans hE10
 replace hA4:=hA4.trans hE10
 refine Av rfl rfl (fun _ hS=>A0 rfl)<|Av rfl rfl (fun _ hS=>A0 rfl)<|Av rfl rfl (fun _ hS=>He rfl rfl ⟨oM,oM⟩)<|Av rfl rfl (fun _ hS=>A0 rfl)<|Av rfl rfl (fun _ hS=>A0 rfl)<|Av rfl rfl (fun _ hS=>He rfl rfl ⟨oM,oM⟩)<|Av rfl rfl (fun _ hS=>EV s.length rfl rfl (by simp <;> omega) KH oM)<|Av rfl rfl (fun _ hS=>Dt rfl Nx (hr15.keep hS (.tail _ (.tail _ (.head _)))) rfl)<|Am rfl ?_ ?_
 obtain⟨_,ls,hes,hsb,hcell,hsl2,hsw,hsu⟩:=(hP.ext hA4).sblk
 cases hes
 refine Aa rfl (Al rfl JI hsb (by simpa using hcell))<|Ab (An hKp<|Am rfl ?_ Ae)
 refine Cj rfl rfl K7 Qv rfl rfl rfl rfl rfl fun b7 w17 hb11 hE11 hs7 hz11=>?_
 replace hb3:=hb3.ext hE11
 replace hb7:=hb7.ext hE11
 replace hb10:=hb10.ext hE11
 replace hX:=hX.trans hE11
 replace hA1:=hA1.trans hE11
 replace hA4:=hA4.trans hE11
 replace hKp:=hKp.ext hE11
 refine Ab (An hKp<|Am rfl ?_ Ae)
 have hS0:=(hP.ext hA4)
 obtain⟨xs,hrow,hfc,hla⟩:=hS0.top
 have hql:=hsl (o,q) (.head _)
 simp only at hql
 refine Be rfl W6 rfl rfl rfl rfl hrow hb11 rfl rfl oM oM fun a3 c3 w18 hr17 hG3=>?_
 obtain⟨u3,hS3⟩:=hS0.app hrow hfc hla o hS0.kid hr17 hG3 oM
 obtain⟨lb,_,he3,-⟩:=hS3.tblk
 cases he3
 have hlo:lb<wl.heap.size∨lb=w17.heap.size:=by
  rcases hG3.own with h|h
  · exact .inl (htlt9 lb h.symm)
  · exact .inr (Option.some.inj h)
 have hlge:w17.heap.size≤w18.heap.size:=hG3.size
 replace hX:=hX.grow hG3 (fun b hb=>(hla b hb).1)
 have sz7:=hG3.size
 replace hKp:=hKp.grow hG3 (by simp only[List.mem_cons,List.not_mem_nil,or_false];intro c hc e;have h1:=(hla c e.symm).1;have h2:=htlt9 c e.symm;omega)
 have hA5:=AV.refl w18
 refine Ab (An hKp<|Av rfl rfl (fun _ hS=>EV s.length rfl rfl (by simp <;> omega) KH oM)<|Am rfl ?_ Ae)
 have hS0:=(hS3.ext hA5)
 obtain⟨_,ls,hes,hsb,hcell,hsl2,hsw,hsu⟩:=hS0.sblk
 cases hes
 refine Ch rfl rfl rfl JI rfl hsb rfl (by simp <;> omega) fun w19 hb12 hC5=>?_
 have hS4:=hS0.cell' rfl hsb hb12 hC5
 replace hX:=hX.chg hC5 hsw
 have sz8:=hC5.size
 replace hKp:=hKp.chg hC5 nM
 have hA6:=AV.refl w19
 refine Ab (An hKp<|BC<|gQ [.bk _,.bk _,.sq _] BE 7 [] (Ar _) (And.intro ⟨oM,oM⟩<|fun _=>HA rest.length (E5 3 (.slice (some ⟨sb,0,none⟩) (s.length+1) sc) 4 (.slice (some ⟨ob,0,none⟩) s.length oc) 10 (.slice (some ⟨bt,0,none⟩) toks.length tc) 11 (.int .i64 (toks.length:Int)) 12 (.int .i64 ((i+1:Nat):Int))) (by simp) lE ⟨i+1,pre++[tk],rest,s,q.snoc o cur,_,_,oc,sb,sc,_,_,_,rfl,rfl,rfl,by rw[htk];simp,by simp[hpi],hm.trans (GO h2 h4),by simp only[List.length_cons] at h200;omega,by rw[Fo.len_snoc];have:=hsl (o,q) (.head _);simp only at this;omega,KX hsl,(by rw[Fo.len_snoc];exact (hS4.ext hA6).knil),hX⟩))
 refine Am rfl ?_ ?_
 refine Cj rfl rfl K7 Qv rfl rfl rfl rfl rfl fun b8 w20 hb13 hE12 hs8 hz12=>?_
 replace hb3:=hb3.ext hE12
 replace hb7:=hb7.ext hE12
 replace hb10:=hb10.ext hE12
 replace hX:=hX.trans hE12
 replace hA1:=hA1.trans hE12
 replace hA4:=hA4.trans hE12
 replace hKp:=hKp.ext hE12
 refine Ab (An hKp<|Am rfl ?_ Ae)
 obtain⟨_,ls,hes,hsb,hcell,hsl2,hsw,hsu⟩:=(hP.ext hA4).sblk
 cases hes
 refine Aa rfl (Al rfl JI hsb (by simpa using hcell))<|Ab (An hKp<|Am rfl ?_ Ae)
 have hS0:=(hP.ext hA4)
 obtain⟨xs,hrow,hfc,hla⟩:=hS0.top
 have hql:=hsl (o,q) (.head _)
 simp only at hql
 refine Be rfl W6 rfl rfl rfl rfl hrow hb13 rfl rfl oM oM fun a3 c3 w21 hr18 hG4=>?_
 obtain⟨u3,hS5⟩:=hS0.app hrow hfc hla o hS0.kid hr18 hG4 oM
 obtain⟨lb,_,he3,-⟩:=hS5.tblk
 cases he3
 have hlo:lb<wl.heap.size∨lb=w20.heap.size:=by
  rcases hG4.own with h|h
  · exact .inl (htlt9 lb h.symm)
  · exact .inr (Option.some.inj h)
 have hlge:w20.heap.size≤w21.heap.size:=hG4.size
 replace hX:=hX.grow hG4 (fun b hb=>(hla b hb).1)
 have sz9:=hG4.size
 replace hKp:=hKp.grow hG4 (by simp only[List.mem_cons,List.not_mem_nil,or_false];intro c hc e;have h1:=(hla c e.symm).1;have h2:=htlt9 c e.symm;omega)
 have hA7:=AV.refl w21
 refine Ab (An hKp<|Av rfl rfl (fun _ hS=>EV s.length rfl rfl (by simp <;> omega) KH oM)<|Am rfl ?_ Ae)
 have hS0:=(hS5.ext hA7)
 obtain⟨_,ls,hes,hsb,hcell,hsl2,hsw,hsu⟩:=hS0.sblk
 cases hes
 refine Ch rfl rfl rfl JI rfl hsb rfl (by simp <;> omega) fun w22 hb14 hC6=>?_
 have hS6:=hS0.cell' rfl hsb hb14 hC6
 replace hX:=hX.chg hC6 hsw
 have sz10:=hC6.size
 replace hKp:=hKp.chg hC6 nM
 have hA8:=AV.refl w22
 refine Ab (An hKp<|BC<|gQ [.bk _,.bk _,.sq _] BE 7 [] (Ar _) (And.intro ⟨oM,oM⟩<|fun _=>HA rest.length (E5 3 (.slice (some ⟨sb,0,none⟩) (s.length+1) sc) 4 (.slice (some ⟨ob,0,none⟩) s.length oc) 10 (.slice (some ⟨bt,0,none⟩) toks.length tc) 11 (.int .i64 (toks.length:Int)) 12 (.int .i64 ((i+1:Nat):Int))) (by simp) lE ⟨i+1,pre++[tk],rest,s,q.snoc o cur,_,_,oc,sb,sc,_,_,_,rfl,rfl,rfl,by rw[htk];simp,by simp[hpi],hm.trans (GO h2 h4),by simp only[List.length_cons] at h200;omega,by rw[Fo.len_snoc];have:=hsl (o,q) (.head _);simp only at this;omega,KX hsl,(by rw[Fo.len_snoc];exact (hS6.ext hA8).knil),hX⟩))
 exact Ae
 refine Am rfl ?_ ?_
 refine A4 rfl rfl rfl eJ rfl hb8 rfl rfl fun w23 hb15 hC7=>?_
 replace hb3:=hb3.chg hC7 oM
 replace hb7:=hb7.chg hC7 oM
 replace hX:=hX.chg hC7 oM
 replace hA1:=hA1.chg hC7 oM
 replace hA4:=hA4.chg hC7 oM
 replace hKp:=hKp.chg hC7 nM
 have sz11:=hC7.size
 refine Ab (An hKp<|Am rfl ?_ Ae)
 refine A4 rfl rfl rfl eJ rfl hb15 rfl rfl fun w24 hb16 hC8=>?_
 replace hb3:=hb3.chg hC8 oM
 replace hb7:=hb7.chg hC8 oM
 replace hX:=hX.chg hC8 oM
 replace hA1:=hA1.chg hC8 oM
 replace hA4:=hA4.chg hC8 oM
 replace hKp:=hKp.chg hC8 nM
 have sz12:=hC8.size
 refine Ab (An hKp<|Am rfl ?_ Ae)
 refine Aa rfl (Al rfl eJ hb16 rfl)<|Ab (An hKp<|BC<|gQ [.sq _,.bk _,.bk _,.sq _] BE 3 [] (Ar _) (fun _=>?_))
 have hr19:=(hbt.ext hX)
 have hr20:=hb3
 have hr21:=hb7
 have hr22:=hb16
 refine Es mixed (A8 w24 [bt,b2,b5,b6]) (rd [0,1,2,3,4,5,6,8] (.br 7 (.rd 9 (.br 10 (.br 11 (.rd 12 (.br 13 .fin .fin)) .fin) .fin)) (.br 10 (.br 7 (.rd 9 (.br 11 (.rd 12 (.br 13 .fin .fin)) .fin)) .fin) .fin))) kR kR kR fun w25 hE13 hz13=>?_
 have hKp:A8 w24 [bt,b2,b5,b6] w25:=A8.cons hr19 hE13 (A8.cons hr20 hE13 (A8.cons hr21 hE13 (A8.cons hr22 hE13 (A8.nil _ _))))
 refine⟨hKp,?_⟩
 replace hb3:=hb3.ext hE13
 replace hb7:=hb7.ext hE13
 replace hb16:=hb16.ext hE13
 replace hX:=hX.trans hE13
 replace hA1:=hA1.trans hE13
 replace hA4:=hA4.trans hE13
 refine Av rfl rfl (fun _ hS=>A0 rfl)<|Av rfl rfl (fun _ hS=>A0 rfl)<|Av rfl rfl (fun _ hS=>He rfl rfl ⟨oM,oM⟩)<|Av rfl rfl (fun _ hS=>A0 rfl)<|Av rfl rfl (fun _ hS=>A0 rfl)<|Av rfl rfl (fun _ hS=>He rfl rfl ⟨oM,oM⟩)<|Av rfl rfl (fun _ hS=>EV s.length rfl rfl (by simp <;> omega) KH oM)<|Av rfl rfl (fun _ hS=>Dt rfl Nx (hr21.keep hS (.tail _ (.tail _ (.head _)))) rfl)<|Am rfl ?_ ?_
 obtain⟨_,ls,hes,hsb,hcell,hsl2,hsw,hsu⟩:=(hP.ext hA4).sblk
 cases hes
 refine Aa rfl (Al rfl JI hsb (by simpa using hcell))<|Ab (An hKp<|Av rfl rfl (fun _ hS=>LX rfl K7)<|Am rfl ?_ Ae)
 refine Cj rfl rfl K7 Qv rfl rfl rfl rfl rfl fun b9 w26 hb17 hE14 hs9 hz14=>?_
 replace hb3:=hb3.ext hE14
 replace hb7:=hb7.ext hE14
 replace hb16:=hb16.ext hE14
 replace hX:=hX.trans hE14
 replace hA1:=hA1.trans hE14
 replace hA4:=hA4.trans hE14
 replace hKp:=hKp.ext hE14
 refine Ab (An hKp<|Am rfl ?_ Ae)
 have hS0:=(hP.ext hA4)
 obtain⟨xs,hrow,hfc,hla⟩:=hS0.top
 have hql:=hsl (o,q) (.head _)
 simp only at hql
 refine Be rfl W6 rfl rfl rfl rfl hrow hb17 rfl rfl oM oM fun a3 c3 w27 hr23 hG5=>?_
 obtain⟨u3,hS7⟩:=hS0.app hrow hfc hla ⟨0,0,0,0,[]⟩ (EF.nil _ _ none 0) hr23 hG5 oM
 obtain⟨lb,_,he3,-⟩:=hS7.tblk
 cases he3
 have hlo:lb<wl.heap.size∨lb=w26.heap.size:=by
  rcases hG5.own with h|h
  · exact .inl (htlt9 lb h.symm)
  · exact .inr (Option.some.inj h)
 have hlge:w26.heap.size≤w27.heap.size:=hG5.size
 replace hX:=hX.grow hG5 (fun b hb=>(hla b hb).1)
 have sz13:=hG5.size
 replace hKp:=hKp.grow hG5 (by simp only[List.mem_cons,List.not_mem_nil,or_false];intro c hc e;have h1:=(hla c e.symm).1;have h2:=htlt9 c e.symm;omega)
 have hA9:=AV.refl w27
 refine Ab (An hKp<|Av rfl rfl (fun _ hS=>EV s.length rfl rfl (by simp <;> omega) KH oM)<|Am rfl ?_ Ae)
 have hS0:=(hS7.ext hA9)
 obtain⟨_,ls,hes,hsb,hcell,hsl2,hsw,hsu⟩:=hS0.sblk
 cases hes
 refine Ch rfl rfl rfl JI rfl hsb rfl (by simp <;> omega) fun w28 hb18 hC9=>?_
 have hS8:=hS0.cell' rfl hsb hb18 hC9
 replace hX:=hX.chg hC9 hsw
 have sz14:=hC9.size
 replace hKp:=hKp.chg hC9 nM
 have hA10:=AV.refl w28
 refine Ab (An hKp<|BC<|gQ [.sq _,.bk _,.bk _,.sq _] BE 2 [] (Ar _) (fun _=>Aa rfl (EV q.len rfl rfl oM K7 oM) ?_))
 have hS0:=(hS8.ext hA10)
 obtain⟨_,ll,hel,hlb,hll,hlw,hlu⟩:=hS0.tblk
 cases hel
 refine Ch rfl rfl rfl Nx rfl hlb rfl (by simp <;> omega) fun w29 hb19 hC10=>?_
 have hS9:=hS0.last' rfl hlb o hS0.kid hb19 hC10
 replace hX:=hX.chg hC10 hlw
 have sz15:=hC10.size
 have hA11:=AV.refl w29
 refine gL [.bk _,.bk _,.sq _] BE 8 [] (Ar _) (And.intro ⟨oM,oM⟩<|fun _=>HA rest.length (E5 3 (.slice (some ⟨sb,0,none⟩) (s.length+1) sc) 4 (.slice (some ⟨ob,0,none⟩) s.length oc) 10 (.slice (some ⟨bt,0,none⟩) toks.length tc) 11 (.int .i64 (toks.length:Int)) 12 (.int .i64 ((i+1:Nat):Int))) (by simp) lE ⟨i+1,pre++[tk],rest,s,q.snoc o cur,_,_,oc,sb,sc,_,_,_,rfl,rfl,rfl,by rw[htk];simp,by simp[hpi],hm.trans (GO h2 h4),by simp only[List.length_cons] at h200;omega,by rw[Fo.len_snoc];have:=hsl (o,q) (.head _);simp only at this;omega,KX hsl,(by rw[Fo.len_snoc];exact (hS9.ext hA11).knil),hX⟩)
 refine Am rfl ?_ ?_
 refine Cj rfl rfl K7 Qv rfl rfl rfl rfl rfl fun b10 w30 hb20 hE15 hs10 hz15=>?_
 replace hb3:=hb3.ext hE15
 replace hb7:=hb7.ext hE15
 replace hb16:=hb16.ext hE15
 replace hX:=hX.trans hE15
 replace hA1:=hA1.trans hE15
 replace hA4:=hA4.trans hE15
 replace hKp:=hKp.ext hE15
 refine Ab (An hKp<|Am rfl ?_ Ae)
 obtain⟨_,ls,hes,hsb,hcell,hsl2,hsw,hsu⟩:=(hP.ext hA4).sblk
 cases hes
 refine Aa rfl (Al rfl JI hsb (by simpa using hcell))<|Ab (An hKp<|Av rfl rfl (fun _ hS=>LX rfl K7)<|Am rfl ?_ Ae)
 have hS0:=(hP.ext hA4)
 obtain⟨xs,hrow,hfc,hla⟩:=hS0.top
 have hql:=hsl (o,q) (.head _)
 simp only at hql
 refine Be rfl W6 rfl rfl rfl rfl hrow hb20 rfl rfl oM oM fun a3 c3 w31 hr24 hG6=>?_
 obtain⟨u3,hS10⟩:=hS0.app hrow hfc hla ⟨0,0,0,0,[]⟩ (EF.nil _ _ none 0) hr24 hG6 oM
 obtain⟨lb,_,he3,-⟩:=hS10.tblk
 cases he3
 have hlo:lb<wl.heap.size∨lb=w30.heap.size:=by
  rcases hG6.own with h|h
  · exact .inl (htlt9 lb h.symm)
  · exact .inr (Option.some.inj h)
 have hlge:w30.heap.size≤w31.heap.size:=hG6.size
 replace hX:=hX.grow hG6 (fun b hb=>(hla b hb).1)
 have sz16:=hG6.size
 replace hKp:=hKp.grow hG6 (by simp only[List.mem_cons,List.not_mem_nil,or_false];intro c hc e;have h1:=(hla c e.symm).1;have h2:=htlt9 c e.symm;omega)
 have hA12:=AV.refl w31
 refine Ab (An hKp<|Av rfl rfl (fun _ hS=>EV s.length rfl rfl (by simp <;> omega) KH oM)<|Am rfl ?_ Ae)
 have hS0:=(hS10.ext hA12)
 obtain⟨_,ls,hes,hsb,hcell,hsl2,hsw,hsu⟩:=hS0.sblk
 cases hes
 refine Ch rfl rfl rfl JI rfl hsb rfl (by simp <;> omega) fun w32 hb21 hC11=>?_
 have hS11:=hS0.cell' rfl hsb hb21 hC11
 replace hX:=hX.chg hC11 hsw
 have sz17:=hC11.size
 replace hKp:=hKp.chg hC11 nM
 have hA13:=AV.refl w32
 refine Ab (An hKp<|BC<|gQ [.sq _,.bk _,.bk _,.sq _] BE 2 [] (Ar _) (fun _=>Aa rfl (EV q.len rfl rfl oM K7 oM) ?_))
 have hS0:=(hS11.ext hA13)
 obtain⟨_,ll,hel,hlb,hll,hlw,hlu⟩:=hS0.tblk
 cases hel
 refine Ch rfl rfl rfl Nx rfl hlb rfl (by simp <;> omega) fun w33 hb22 hC12=>?_
 have hS12:=hS0.last' rfl hlb o hS0.kid hb22 hC12
 replace hX:=hX.chg hC12 hlw
 have sz18:=hC12.size
 have hA14:=AV.refl w33
 refine gL [.bk _,.bk _,.sq _] BE 8 [] (Ar _) (And.intro ⟨oM,oM⟩<|fun _=>HA rest.length (E5 3 (.slice (some ⟨sb,0,none⟩) (s.length+1) sc) 4 (.slice (some ⟨ob,0,none⟩) s.length oc) 10 (.slice (some ⟨bt,0,none⟩) toks.length tc) 11 (.int .i64 (toks.length:Int)) 12 (.int .i64 ((i+1:Nat):Int))) (by simp) lE ⟨i+1,pre++[tk],rest,s,q.snoc o cur,_,_,oc,sb,sc,_,_,_,rfl,rfl,rfl,by rw[htk];simp,by simp[hpi],hm.trans (GO h2 h4),by simp only[List.length_cons] at h200;omega,by rw[Fo.len_snoc];have:=hsl (o,q) (.head _);simp only at this;omega,KX hsl,(by rw[Fo.len_snoc];exact (hS12.ext hA14).knil),hX⟩)
 exact Ae
 exact Ae
 refine Kb rfl rfl ?_
 have hr25:=(hbt.ext hX)
 have hr26:=hb3
 refine Es mixed (A8 w3 [bt,b2]) (rd [0,1,2,4,5] (.br 3 (.rd 6 (.br 7 (.br 8 (.rd 9 (.rd 11 (.br 10 (.br 12 .fin .fin) (.br 12 (.br 10 .fin .fin) .fin)))) .fin) .fin)) (.br 7 (.br 3 (.rd 6 (.br 8 (.rd 9 (.rd 11 (.br 10 (.br 12 .fin .fin) (.br 12 (.br 10 .fin .fin) .fin)))) .fin)) .fin) .fin))) kR kR kR fun w34 hE16 hz16=>?_
 have hKp:A8 w3 [bt,b2] w34:=A8.cons hr25 hE16 (A8.cons hr26 hE16 (A8.nil _ _))
 refine⟨hKp,?_⟩
 replace hb3:=hb3.ext hE16
 replace hX:=hX.trans hE16
 replace hA1:=hA1.trans hE16
 refine Av rfl rfl (fun _ hS=>A0 rfl)<|Av rfl rfl (fun _ hS=>A0 rfl)<|Av rfl rfl (fun _ hS=>EV st.length rfl rfl oM KH oM)<|Av rfl rfl (fun _ hS=>Dt rfl Hh (hr26.keep hS (.tail _ (.head _))) rfl)<|Av rfl rfl (fun _ hS=>DK rfl oR Qv rfl)<|Am rfl ?_ ?_
 obtain⟨_,ls,hes,hsb,hcell,hsl2,hsw,hsu⟩:=(hS.ext hA1).sblk
 cases hes
 refine Aa rfl (Al rfl JI hsb (by simpa using hcell))<|Ab (An hKp<|Av rfl rfl (fun _ hS=>LX rfl K7)<|Am rfl ?_ Ae)
 refine Cj rfl rfl K7 Qv rfl rfl rfl rfl rfl fun b11 w35 hb23 hE17 hs11 hz17=>?_
 replace hb3:=hb3.ext hE17
 replace hX:=hX.trans hE17
 replace hA1:=hA1.trans hE17
 replace hKp:=hKp.ext hE17
 refine Ab (An hKp<|Am rfl ?_ Ae)
 have hS0:=(hS.ext hA1)
 obtain⟨xs,hrow,hfc,hla⟩:=hS0.top
 refine Be rfl W6 rfl rfl rfl rfl hrow hb23 rfl rfl oM oM fun a3 c3 w36 hr27 hG7=>?_
 obtain⟨u3,hS13⟩:=hS0.app hrow hfc hla ⟨0,0,0,0,[]⟩ (EF.nil _ _ none 0) hr27 hG7 oM
 obtain⟨lb,_,he3,-⟩:=hS13.tblk
 cases he3
 have hlo:lb<wl.heap.size∨lb=w35.heap.size:=by
  rcases hG7.own with h|h
  · exact .inl (htlt lb h.symm)
  · exact .inr (Option.some.inj h)
 have hlge:w35.heap.size≤w36.heap.size:=hG7.size
 replace hX:=hX.grow hG7 (fun b hb=>(hla b hb).1)
 have sz19:=hG7.size
 replace hKp:=hKp.grow hG7 (by simp only[List.mem_cons,List.not_mem_nil,or_false];intro c hc e;have h1:=(hla c e.symm).1;have h2:=htlt c e.symm;omega)
 have hA15:=AV.refl w36
 refine Ab (An hKp<|Av rfl rfl (fun _ hS=>EV cur.len rfl rfl oM K7 oM)<|Av rfl rfl (fun _ hS=>EV st.length rfl rfl oM KH oM)<|Am rfl ?_ ?_)
 have hS0:=(hS13.ext hA15)
 obtain⟨_,ll,hel,hlb,hll,hlw,hlu⟩:=hS0.tblk
 cases hel
 refine Ch rfl rfl rfl Nx rfl hlb rfl (by simp <;> omega) fun w37 hb24 hC13=>?_
 have hS14:=hS0.last' rfl hlb tk (EF.nil _ _ none 0) hb24 hC13
 replace hX:=hX.chg hC13 hlw
 have sz20:=hC13.size
 replace hKp:=hKp.chg hC13 nM
 have hA16:=AV.refl w37
 refine Ab (An hKp<|Am rfl ?_ Ae)
 have hS0:=(hS14.ext hA16)
 obtain⟨_,ls,hes,hsb,hcell,hsl2,hsw,hsu⟩:=hS0.sblk
 cases hes
 refine Ch rfl rfl rfl JI rfl hsb rfl (by simp <;> omega) fun w38 hb25 hC14=>?_
 have hS15:=hS0.cell' rfl hsb hb25 hC14
 replace hX:=hX.chg hC14 hsw
 have sz21:=hC14.size
 replace hKp:=hKp.chg hC14 nM
 have hA17:=AV.refl w38
 refine Ab (An hKp<|BC<|gQ [.bk _,.bk _,.sq _] BE 7 [] (Ar _) (And.intro ⟨oM,oM⟩<|fun _=>HA rest.length (E5 3 (.slice (some ⟨sb,0,none⟩) (st.length+1) sc) 4 (.slice oa st.length oc) 10 (.slice (some ⟨bt,0,none⟩) toks.length tc) 11 (.int .i64 (toks.length:Int)) 12 (.int .i64 ((i+1:Nat):Int))) (by simp) lE ⟨i+1,pre++[tk],rest,st,cur.snoc tk .nil,_,oa,oc,sb,sc,_,_,_,rfl,rfl,rfl,by rw[htk];simp,by simp[hpi],hm.trans (GD h2 h4),h200,by rw[Fo.len_snoc];omega,JW hsl,(by rw[Fo.len_snoc];exact (hS15.ext hA17)),hX⟩))
 refine Am rfl ?_ ?_
 have hS0:=(hS13.ext hA15)
 obtain⟨_,ls,hes,hsb,hcell,hsl2,hsw,hsu⟩:=hS0.sblk
 cases hes
 refine Ch rfl rfl rfl JI rfl hsb rfl (by simp <;> omega) fun w39 hb26 hC15=>?_
 have hS16:=hS0.cell' rfl hsb hb26 hC15
 replace hX:=hX.chg hC15 hsw
 have sz22:=hC15.size
 replace hKp:=hKp.chg hC15 nM
 have hA18:=AV.refl w39
 refine Ab (An hKp<|Am rfl ?_ Ae)
 have hS0:=(hS16.ext hA18)
 obtain⟨_,ll,hel,hlb,hll,hlw,hlu⟩:=hS0.tblk
 cases hel
 refine Ch rfl rfl rfl Nx rfl hlb rfl (by simp <;> omega) fun w40 hb27 hC16=>?_
 have hS17:=hS0.last' rfl hlb tk (EF.nil _ _ none 0) hb27 hC16
 replace hX:=hX.chg hC16 hlw
 have sz23:=hC16.size
 replace hKp:=hKp.chg hC16 nM
 have hA19:=AV.refl w40
 refine Ab (An hKp<|BC<|gQ [.bk _,.bk _,.sq _] BE 7 [] (Ar _) (And.intro ⟨oM,oM⟩<|fun _=>HA rest.length (E5 3 (.slice (some ⟨sb,0,none⟩) (st.length+1) sc) 4 (.slice oa st.length oc) 10 (.slice (some ⟨bt,0,none⟩) toks.length tc) 11 (.int .i64 (toks.length:Int)) 12 (.int .i64 ((i+1:Nat):Int))) (by simp) lE ⟨i+1,pre++[tk],rest,st,cur.snoc tk .nil,_,oa,oc,sb,sc,_,_,_,rfl,rfl,rfl,by rw[htk];simp,by simp[hpi],hm.trans (GD h2 h4),h200,by rw[Fo.len_snoc];omega,JW hsl,(by rw[Fo.len_snoc];exact (hS17.ext hA19)),hX⟩))
 exact Ae
 refine Am rfl ?_ ?_
 refine Cj rfl rfl K7 Qv rfl rfl rfl rfl rfl fun b12 w41 hb28 hE18 hs12 hz18=>?_
 replace hb3:=hb3.ext hE18
 replace hX:=hX.trans hE18
 replace hA1:=hA1.trans hE18
 replace hKp:=hKp.ext hE18
 refine Ab (An hKp<|Am rfl ?_ Ae)
 obtain⟨_,ls,hes,hsb,hcell,hsl2,hsw,hsu⟩:=(hS.ext hA1).sblk
 cases hes
 refine Aa rfl (Al rfl JI hsb (by simpa using hcell))<|Ab (An hKp<|Av rfl rfl (fun _ hS=>LX rfl K7)<|Am rfl ?_ Ae)
 have hS0:=(hS.ext hA1)
 obtain⟨xs,hrow,hfc,hla⟩:=hS0.top
 refine Be rfl W6 rfl rfl rfl rfl hrow hb28 rfl rfl oM oM fun a3 c3 w42 hr28 hG8=>?_
 obtain⟨u3,hS18⟩:=hS0.app hrow hfc hla ⟨0,0,0,0,[]⟩ (EF.nil _ _ none 0) hr28 hG8 oM
 obtain⟨lb,_,he3,-⟩:=hS18.tblk
 cases he3
 have hlo:lb<wl.heap.size∨lb=w41.heap.size:=by
  rcases hG8.own with h|h
  · exact .inl (htlt lb h.symm)
  · exact .inr (Option.some.inj h)
 have hlge:w41.heap.size≤w42.heap.size:=hG8.size
 replace hX:=hX.grow hG8 (fun b hb=>(hla b hb).1)
 have sz24:=hG8.size
 replace hKp:=hKp.grow hG8 (by simp only[List.mem_cons,List.not_mem_nil,or_false];intro c hc e;have h1:=(hla c e.symm).1;have h2:=htlt c e.symm;omega)
 have hA20:=AV.refl w42
 refine Ab (An hKp<|Av rfl rfl (fun _ hS=>EV cur.len rfl rfl oM K7 oM)<|Av rfl rfl (fun _ hS=>EV st.length rfl rfl oM KH oM)<|Am rfl ?_ ?_)
 have hS0:=(hS18.ext hA20)
 obtain⟨_,ll,hel,hlb,hll,hlw,hlu⟩:=hS0.tblk
 cases hel
 refine Ch rfl rfl rfl Nx rfl hlb rfl (by simp <;> omega) fun w43 hb29 hC17=>?_
 have hS19:=hS0.last' rfl hlb tk (EF.nil _ _ none 0) hb29 hC17
 replace hX:=hX.chg hC17 hlw
 have sz25:=hC17.size
 replace hKp:=hKp.chg hC17 nM
 have hA21:=AV.refl w43
 refine Ab (An hKp<|Am rfl ?_ Ae)
 have hS0:=(hS19.ext hA21)
 obtain⟨_,ls,hes,hsb,hcell,hsl2,hsw,hsu⟩:=hS0.sblk
 cases hes
 refine Ch rfl rfl rfl JI rfl hsb rfl (by simp <;> omega) fun w44 hb30 hC18=>?_
 have hS20:=hS0.cell' rfl hsb hb30 hC18
 replace hX:=hX.chg hC18 hsw
 have sz26:=hC18.size
 replace hKp:=hKp.chg hC18 nM
 have hA22:=AV.refl w44
 refine Ab (An hKp<|BC<|gQ [.bk _,.bk _,.sq _] BE 7 [] (Ar _) (And.intro ⟨oM,oM⟩<|fun _=>HA rest.length (E5 3 (.slice (some ⟨sb,0,none⟩) (st.length+1) sc) 4 (.slice oa st.length oc) 10 (.slice (some ⟨bt,0,none⟩) toks.length tc) 11 (.int .i64 (toks.length:Int)) 12 (.int .i64 ((i+1:Nat):Int))) (by simp) lE ⟨i+1,pre++[tk],rest,st,cur.snoc tk .nil,_,oa,oc,sb,sc,_,_,_,rfl,rfl,rfl,by rw[htk];simp,by simp[hpi],hm.trans (GD h2 h4),h200,by rw[Fo.len_snoc];omega,JW hsl,(by rw[Fo.len_snoc];exact (hS20.ext hA22)),hX⟩))
 refine Am rfl ?_ ?_
 have hS0:=(hS18.ext hA20)
 obtain⟨_,ls,hes,hsb,hcell,hsl2,hsw,hsu⟩:=hS0.sblk
 cases hes
 refine Ch rfl rfl rfl JI rfl hsb rfl (by simp <;> omega) fun w45 hb31 hC19=>?_
 have hS21:=hS0.cell' rfl hsb hb31 hC19
 replace hX:=hX.chg hC19 hsw
 have sz27:=hC19.size
 replace hKp:=hKp.chg hC19 nM
 have hA23:=AV.refl w45
 refine Ab (An hKp<|Am rfl ?_ Ae)
 have hS0:=(hS21.ext hA23)
 obtain⟨_,ll,hel,hlb,hll,hlw,hlu⟩:=hS0.tblk
 cases hel
 refine Ch rfl rfl rfl Nx rfl hlb rfl (by simp <;> omega) fun w46 hb32 hC20=>?_
 have hS22:=hS0.last' rfl hlb tk (EF.nil _ _ none 0) hb32 hC20
 replace hX:=hX.chg hC20 hlw
 have sz28:=hC20.size
 replace hKp:=hKp.chg hC20 nM
 have hA24:=AV.refl w46
 refine Ab (An hKp<|BC<|gQ [.bk _,.bk _,.sq _] BE 7 [] (Ar _) (And.intro ⟨oM,oM⟩<|fun _=>HA rest.length (E5 3 (.slice (some ⟨sb,0,none⟩) (st.length+1) sc) 4 (.slice oa st.length oc) 10 (.slice (some ⟨bt,0,none⟩) toks.length tc) 11 (.int .i64 (toks.length:Int)) 12 (.int .i64 ((i+1:Nat):Int))) (by simp) lE ⟨i+1,pre++[tk],rest,st,cur.snoc tk .nil,_,oa,oc,sb,sc,_,_,_,rfl,rfl,rfl,by rw[htk];simp,by simp[hpi],hm.trans (GD h2 h4),h200,by rw[Fo.len_snoc];omega,JW hsl,(by rw[Fo.len_snoc];exact (hS22.ext hA24)),hX⟩))
 exact Ae
 exact Ae
 refine gP [.sq _] BE 3 [] (Ar _) (fun _=>Oc<|gQ [.bk _,.sq _] BE 4 [] (Ar _) (fun _=>?_))
 have hrz:rest=[]:=by
  rcases rest with _|⟨t9,rest⟩
  · rfl
  · simp at hil;have:=h1;simp at this;omega
 subst hrz
 refine gP [.sq _,.sq _] BE 6 [] (Ar _) (fun _=>sP 104 rfl (fun h6=>?_) (fun h6=>?_))
 refine FW rfl rfl ?_
 rcases st with _|⟨o,s⟩
 · simp at h6
 obtain⟨ob,lo,lo2,tz,fz,hoa,hob,hoz,hod⟩:=(hS.ext hA1).oblk0
 cases hoa
 exact gP [.sq _] BE 2 [] (Ar _) (fun _=>Aa rfl (K8 (i:=0) rfl rfl Ht (by simp))<|Aa rfl (BO rfl SH)<|Aa rfl (L8 1 rfl Hw hob hod oM rfl)<|Aa rfl (DK rfl gV jJ rfl)<|Aa rfl (BY rfl cM)<|Ct (BM rfl) (And.intro rfl<|⟨(tz.ln,tz.co),hm.trans (SJ hoz),rfl,hX⟩))
 refine gP [.sq _] BE 4 [] (Ar _) (fun _=>?_)
 rcases st with _|⟨o,s⟩
 rotate_left
 · simp at h6
 refine gP [.sq _] BE 2 [] (Ar _) (fun _=>Aa rfl (K8 (i:=0) rfl rfl KH oM) ?_)
 obtain⟨_,ls,hes,hsb,hcell,hsl2,hsw,hsu⟩:=(hS.ext hA1).sblk
 cases hes
 exact Aa rfl (Al rfl JI hsb (by simpa using hcell))<|gL [.sq _] BE 4 [] (Ar _) (fun _=>By (AI rfl (Aj rfl))<|⟨cur,a,c,hm.trans S3,rfl,(hS.ext hA1).out,hX⟩)
def qO:Ea:=⟨[(41,0,0)],[],[],[],[(41,true,2),(25,true,2),(23,false,1),(26,false,1)],[(41,[.int .i64 0,.int .i64 0]),(23,[.slice none 0 0]),(25,[.int .i64 0,.int .i64 0]),(26,[.int .i64 0])],[(25,[(0,1),(1,1)])],[]⟩
theorem Bi:qO.Ok Tryz.prog:=⟨(And.intro cF trivial),trivial,trivial,trivial,(And.intro lP (And.intro CV (And.intro EM (And.intro Hu trivial)))),(And.intro nN (And.intro nD (And.intro V8 (And.intro dY trivial)))),(And.intro Y8 trivial),trivial⟩
theorem Pw(w:World)(c2 c3 c4:Nat) :
  CallsD Tryz.prog 9 [.pointer (some ⟨c2,0,none⟩),.pointer (some ⟨c3,0,none⟩),.pointer (some ⟨c4,0,none⟩)].toArray .returning w fun r m w'=>∃x,r=.returned x∧m=.returning∧AV w w':=by
 refine DA (R:=fun w'=>AV w w') Tryz.func9 rfl rfl rfl rfl MP<|(?_:AF Tryz.prog _ (FN Tryz.prog _ (fun _ w'=>AV w w') fun _ _=>False) [] (X0 w (fun _=>0)) [] [] [] (.code _) [] _ []) w (fun _=>0) (C7 (fun _ _=>rfl) trivial trivial)
 exact go Bi 3 [] (fun _=>Fh rfl rfl (fun w f hM=>QA Qh rfl)<|go Bi 7 [] (fun _=>aG (fun w f hM=>DT rfl) (fun w f hM=>hM.exm.stp.ext)))
theorem RU(w:World)(f:Fq)(hv:Vl w f)(c2 c3 c4:Nat)(v2 x3 y3 v4:Value)(hc2:AQ w c2 [v2] 23)(hc3:AQ w c3 [x3,y3] 25)(hc4:AQ w c4 [v4] 26)(hf:f c2=0∧f c3=0∧f c4=0)(hn:c2≠c3∧c2≠c4∧c3≠c4)(er:Int×Int) :
  CallsD Tryz.prog 9 [.pointer (some ⟨c2,0,none⟩),.pointer (some ⟨c3,0,none⟩),.pointer (some ⟨c4,0,none⟩)].toArray (.panicking (QI 41 er)) w fun r m w'=>∃x,r=.returned x∧m=.panicking [{v:=.iface 41 (.agg #[.int .i64 er.1,.int .i64 er.2]),recovered:=true}]∧(∃f',CM (fun b=>b=c2∨b=c3∨b=c4) w f w' f'∧AQ w' c2 [.slice none 0 0] 23∧AQ w' c3 [.int .i64 er.1,.int .i64 er.2] 25∧AQ w' c4 [.int .i64 10] 26):=by
 refine DA (R:=fun w'=>∃f',CM (fun b=>b=c2∨b=c3∨b=c4) w f w' f'∧AQ w' c2 [.slice none 0 0] 23∧AQ w' c3 [.int .i64 er.1,.int .i64 er.2] 25∧AQ w' c4 [.int .i64 10] 26) Tryz.func9 rfl rfl rfl rfl Q2<|(?_:AF Tryz.prog _ (FN Tryz.prog _ (fun _ w'=>∃f',CM (fun b=>b=c2∨b=c3∨b=c4) w f w' f'∧AQ w' c2 [.slice none 0 0] 23∧AQ w' c3 [.int .i64 er.1,.int .i64 er.2] 25∧AQ w' c4 [.int .i64 10] 26) fun _ _=>False) [] ⟨fun b=>b=c2∨b=c3∨b=c4,fun _=>False,fun _ _=>True,w,f⟩ [] [] [] (.code _) [] _ [⟨c2,[v2],23,false⟩,⟨c3,[x3,y3],25,false⟩,⟨c4,[v4],26,false⟩]) w f (dD hv hc2 hc3 hc4 hf hn)
 refine go Bi 3 [] (fun _=>Fh rfl rfl (fun w f hM=>PQ Qh rfl)<|go Bi 5 [] (fun _=>Fh rfl rfl (fun w f hM=>Tx rfl gE)<|go Bi 11 [0] (fun b1=>y<|fun _=>Dj [0] Ap (.rd 0 (.rd 1 (.br 2 (.br 3 (.br 4 .fin .fin) .fin) .fin))) rfl kR<|AA Bi 2 [0] (y<|fun _=>Ag rfl ?_ Ai))))
 refine go Bi 2 [1] (y<|fun _=>Ax [0] rfl<|Ag rfl ?_ Ai)
 refine go Bi 2 [2] (y<|fun _=>Ax [0] rfl<|Ag rfl ?_ Ai)
 exact go Bi 2 [3] (y<|fun _=>Ax [0] rfl<|B3<|go Bi 1 [] (fun _=>aG (fun w f hM=>DT rfl) (fun w f hM=>⟨f,hM.exm,hM.blk _ lC,hM.blk _ Vy,hM.blk _ V7⟩)))
theorem nB{p:Nd×Int×Int×Int}{w:World}{f:Fq}{b2 b3 b4:Nat}(hn:b2≠b3∧b2≠b4∧b3≠b4){fn:Func}(hr:fn.results=#[.cell 2 23,.cell 3 25,.cell 4 26]){σ:Bo}(h2:σ 2=some (.pointer (some ⟨b2,0,none⟩)))(h3:σ 3=some (.pointer (some ⟨b3,0,none⟩)))(h4:σ 4=some (.pointer (some ⟨b4,0,none⟩))){er:Int×Int}(hm:p=(.nil,er.1,er.2,10)){w':World}{f':Fq}(hE:CM (fun _=>False) w f w' f'){v2 x3 y3 v4:Value}
  (k2:AQ w' b2 [v2] 23∧f' b2=0∧(true=true→w.heap.size≤b2)) (k3:AQ w' b3 [x3,y3] 25∧f' b3=0∧(true=true→w.heap.size≤b3)) (k4:AQ w' b4 [v4] 26∧f' b4=0∧(true=true→w.heap.size≤b4))
  (tmps:Array Value) (ht:∀t,t∈[2,3,4]→∀v,σ t=some v→tmps.getD t undef=v):Leaves Tryz.prog fn tmps (fun e w'=>∃v,e=.returned v∧Re p w f v w') [{target:=.fn (.func 9) ([.pointer (some ⟨b2,0,none⟩),.pointer (some ⟨b3,0,none⟩),.pointer (some ⟨b4,0,none⟩)]:List Value).toArray,args:=#[]}] (.panicking (QI 41 er)) w':=by
 refine FI (by simp) dA (RU w' f' hE.val b2 b3 b4 v2 x3 y3 v4 k2.1 k3.1 k4.1 ⟨k2.2.1,k3.2.1,k4.2.1⟩ hn er) fun wz hz=>?_
 rw[KA]
 obtain⟨f3,e3,z2,z3,z4⟩:=hz
 refine BW (σ:=AL (E2 2 (.pointer (some ⟨b2,0,none⟩)) 3 (.pointer (some ⟨b3,0,none⟩))) 4 (.pointer (some ⟨b4,0,none⟩))) (fun t v hv=>?_) (Ex hr (B2 rfl EM z2 rfl) (Ac rfl CV z3 rfl) (B2 rfl Hu z4 rfl)) ⟨_,rfl,f3,none,0,CM.trans0 hE e3 (fun b hb=>?_),by rw[hm];rfl,by rw[hm];exact⟨Nat.zero_le _,.inl rfl⟩⟩
 ·
  by_cases e4:t=4
  · subst e4;exact ht 4 (by simp) v (h4.trans hv)
  by_cases e5:t=3
  · subst e5;exact ht 3 (by simp) v (h3.trans hv)
  by_cases e2:t=2
  · subst e2;exact ht 2 (by simp) v (h2.trans hv)
  have n4:Nat.beq t 4=false:=by cases h:Nat.beq t 4 with|false=>rfl|true=>exact absurd (Nat.eq_of_beq_eq_true h) e4
  have n3:Nat.beq t 3=false:=by cases h:Nat.beq t 3 with|false=>rfl|true=>exact absurd (Nat.eq_of_beq_eq_true h) e5
  have n2:Nat.beq t 2=false:=by cases h:Nat.beq t 2 with|false=>rfl|true=>exact absurd (Nat.eq_of_beq_eq_true h) e2
  simp[AL,Go.SW.e0,n2,n3,n4] at hv
 ·
  rcases hb with rfl|rfl|rfl
  · exact k2.2.2 rfl
  · exact k3.2.2 rfl
  · exact k4.2.2 rfl
theorem mX{p:Nd×Int×Int×Int}{w:World}{f:Fq}{b2 b3 b4:Nat}{fn:Func}(hr:fn.results=#[.cell 2 23,.cell 3 25,.cell 4 26]){σ:Bo}(h2:σ 2=some (.pointer (some ⟨b2,0,none⟩)))(h3:σ 3=some (.pointer (some ⟨b3,0,none⟩)))(h4:σ 4=some (.pointer (some ⟨b4,0,none⟩))){nds:Nd}(hm:p=(nds,0,0,0)){w':World}{f':Fq}(hE:CM (fun _=>False) w f w' f'){a:Option Addr}{c:Nat}(hB:AK w' f' nds a c)
  (k2:AQ w' b2 [.slice a nds.len c] 23) (k3:AQ w' b3 [.int .i64 0,.int .i64 0] 25) (k4:AQ w' b4 [.int .i64 0] 26)
  (tmps:Array Value) (ht:∀t v,σ t=some v→tmps.getD t undef=v):Leaves Tryz.prog fn tmps (fun e w'=>∃v,e=.returned v∧Re p w f v w') [{target:=.fn (.func 9) ([.pointer (some ⟨b2,0,none⟩),.pointer (some ⟨b3,0,none⟩),.pointer (some ⟨b4,0,none⟩)]:List Value).toArray,args:=#[]}] .returning w':=by
 refine FI (by simp) dA (Pw w' b2 b3 b4) fun wz hz=>?_
 have e3:=CM.of_ext hz hE.val
 subst hm
 exact BW ht (Ex hr (B2 h2 EM (k2.ext hz) rfl) (Ac h3 CV (k3.ext hz) rfl) (B2 h4 Hu (k4.ext hz) rfl)) ⟨_,rfl,f',a,c,CM.trans0 hE e3 (fun b hb=>hb.elim),rfl,AK.mono _ _ _ _ hB (e3.fle hE.val (fun _ h=>h.elim))⟩
theorem Rx(w:World)(f:Fq)(hv:Vl w f)(ta:Option Addr)(tc:Nat)(toks:List AT)(hT:Ck w 79 5 ta tc toks.length (Fy toks))(hlen:toks.length≤100000) :
  BQ Tryz.prog 11 #[.slice ta toks.length tc] w (BV (α:=Fo×Option Addr×Nat) (fun x=>.slice x.2.1 x.1.len x.2.2) (fun x=>Bz toks [] .nil=.ok x.1) (fun x=>[fun w f=>Bu w f x.1 x.2.1 x.2.2]) w f) (SD 41 (fun e=>Bz toks [] .nil=.error e) w f) :=
 (U4 w ta _ tc toks hT rfl hlen).mono (fun _ w' ⟨fo,a,c,h1,h2,h3,h4⟩=>⟨(fo,a,c),eR w w' f,h2,h1,bP h4,EF.frz h3,trivial⟩) fun _ w' ⟨e,h1,h2,h3⟩=>⟨e,f,h2,h1,CM.of_ext h3 hv⟩
set_option maxHeartbeats 1000000 in
theorem W2(w:World)(f:Fq)(hv:Vl w f)(hJ:D7 w f)(n:Nat)(src:List UInt8)(e:Int×Int×Int)(hcd:(e.2.2 != 0)=true)(hs:∀w1,Gl w1→BF Tryz.prog 8 #[S src] w1 fun v w'=>v=.tuple #[.slice none 0 0,.agg #[.int .i64 e.1,.int .i64 e.2.1],.int .i64 e.2.2]∧AV w1 w') :
  BF Tryz.prog 5 #[S src] w (Re (La (n+1) (.error e)) w f):=by
 refine iE (K:=[2,3,4]) (X:=X0 w f) (H:=[]) (R:=[]) (B:=[]) (Fs:=[fun w f=>D7 w f]) (f:=f) Tryz.func5 rfl rfl rfl (C7 hv ⟨hJ,trivial⟩ ⟨D7.mono,trivial⟩)<|go Bi 8 [] (fun b1=>fun b2=>fun b3=>fun _=>Ky (p:=b1≠b2∧b1≠b3∧b2≠b3) (fun w f hM=>by have h9:=hM.nd;simp[CP] at h9;exact⟨fun e=>h9.2 e.symm,fun e=>h9.1.2 e.symm,fun e=>h9.1.1 e.symm⟩) fun hn=>go Bi 2 [] (fun _=>Dy rfl rfl (eC dS rfl rfl) (fun w f hM=>hs _ (D7.gl hM.f0))<|go Bi 16 [1,0,0] (y<|y<|y<|fun _=>AZ 13 rfl rfl (fun h1=>?_) (fun h1=>?_))))
 refine go Bi 2 [] (fun _=>Ww [2,3,4] (fun _=>True) Fu [] Ap (.br 0 (.br 1 (.br 2 (.br 3 (.br 4 .fin .fin) .fin) .fin) (.br 2 (.br 1 (.br 3 (.br 4 .fin .fin) .fin) (.br 3 (.br 1 (.br 4 .fin .fin) .fin) .fin)) .fin)) (.br 1 (.br 0 (.br 2 (.br 3 (.br 4 .fin .fin) .fin) .fin) (.br 2 (.br 0 (.br 3 (.br 4 .fin .fin) .fin) .fin) .fin)) (.br 2 (.br 0 (.br 1 (.br 3 (.br 4 .fin .fin) .fin) (.br 3 (.br 1 (.br 4 .fin .fin) .fin) .fin)) (.br 1 (.br 0 (.br 3 (.br 4 .fin .fin) .fin) .fin) .fin)) .fin))) rfl kR kR kR rfl Ff<|Ag rfl ?_ ?_)
 refine go Bi 2 [1] (y<|fun _=>Ax [] rfl<|Ag rfl ?_ ?_)
 refine go Bi 2 [0] (y<|fun _=>Ax [] rfl<|Ag rfl ?_ Ai)
 refine go Bi 2 [2] (y<|fun _=>Ax [] rfl<|Ag rfl ?_ Ai)
 refine go Bi 2 [1] (y<|fun _=>Ax [] rfl<|Ag rfl ?_ Ai)
 exact go Bi 2 [0] (y<|fun _=>Ax [] rfl<|B3<|go Bi 3 [] (fun _=>fun w9 f9 hM=>fun tmps ht=>BW ht (Ex rfl (B2 rfl EM hM.k2 rfl) (Ac rfl CV hM.k1 rfl) (B2 rfl Hu hM.k0 rfl)) ⟨_,rfl,f9,none,0,hM.exm,rfl,⟨Nat.zero_le _,.inl rfl⟩⟩))
 refine Ag rfl ?_ Ai
 refine go Bi 2 [2] (y<|fun _=>Ax [] rfl<|Ag rfl ?_ ?_)
 refine go Bi 2 [0] (y<|fun _=>Ax [] rfl<|Ag rfl ?_ Ai)
 refine go Bi 2 [1] (y<|fun _=>Ax [] rfl<|Ag rfl ?_ Ai)
 exact go Bi 2 [0] (y<|fun _=>Ax [] rfl<|B3<|go Bi 3 [] (fun _=>fun w9 f9 hM=>fun tmps ht=>BW ht (Ex rfl (B2 rfl EM hM.k2 rfl) (Ac rfl CV hM.k1 rfl) (B2 rfl Hu hM.k0 rfl)) ⟨_,rfl,f9,none,0,hM.exm,rfl,⟨Nat.zero_le _,.inl rfl⟩⟩))
 refine Ag rfl ?_ Ai
 refine go Bi 2 [1] (y<|fun _=>Ax [] rfl<|Ag rfl ?_ Ai)
 refine go Bi 2 [0] (y<|fun _=>Ax [] rfl<|Ag rfl ?_ Ai)
 exact go Bi 2 [0] (y<|fun _=>Ax [] rfl<|B3<|go Bi 3 [] (fun _=>fun w9 f9 hM=>fun tmps ht=>BW ht (Ex rfl (B2 rfl EM hM.k2 rfl) (Ac rfl CV hM.k1 rfl) (B2 rfl Hu hM.k0 rfl)) ⟨_,rfl,f9,none,0,hM.exm,rfl,⟨Nat.zero_le _,.inl rfl⟩⟩))
 refine Ag rfl ?_ ?_
 refine go Bi 2 [0] (y<|fun _=>Ax [] rfl<|Ag rfl ?_ ?_)
 refine go Bi 2 [1] (y<|fun _=>Ax [] rfl<|Ag rfl ?_ Ai)
 refine go Bi 2 [2] (y<|fun _=>Ax [] rfl<|Ag rfl ?_ Ai)
 refine go Bi 2 [1] (y<|fun _=>Ax [] rfl<|Ag rfl ?_ Ai)
 exact go Bi 2 [0] (y<|fun _=>Ax [] rfl<|B3<|go Bi 3 [] (fun _=>fun w9 f9 hM=>fun tmps ht=>BW ht (Ex rfl (B2 rfl EM hM.k2 rfl) (Ac rfl CV hM.k1 rfl) (B2 rfl Hu hM.k0 rfl)) ⟨_,rfl,f9,none,0,hM.exm,rfl,⟨Nat.zero_le _,.inl rfl⟩⟩))
 refine Ag rfl ?_ Ai
 refine go Bi 2 [2] (y<|fun _=>Ax [] rfl<|Ag rfl ?_ Ai)
 refine go Bi 2 [1] (y<|fun _=>Ax [] rfl<|Ag rfl ?_ Ai)
 refine go Bi 2 [1] (y<|fun _=>Ax [] rfl<|Ag rfl ?_ Ai)
 exact go Bi 2 [0] (y<|fun _=>Ax [] rfl<|B3<|go Bi 3 [] (fun _=>fun w9 f9 hM=>fun tmps ht=>BW ht (Ex rfl (B2 rfl EM hM.k2 rfl) (Ac rfl CV hM.k1 rfl) (B2 rfl Hu hM.k0 rfl)) ⟨_,rfl,f9,none,0,hM.exm,rfl,⟨Nat.zero_le _,.inl rfl⟩⟩))
 refine Ag rfl ?_ Ai
 refine go Bi 2 [2] (y<|fun _=>Ax [] rfl<|Ag rfl ?_ ?_)
 refine go Bi 2 [1] (y<|fun _=>Ax [] rfl<|Ag rfl ?_ ?_)
 refine go Bi 2 [0] (y<|fun _=>Ax [] rfl<|Ag rfl ?_ Ai)
 refine go Bi 2 [1] (y<|fun _=>Ax [] rfl<|Ag rfl ?_ Ai)
 exact go Bi 2 [0] (y<|fun _=>Ax [] rfl<|B3<|go Bi 3 [] (fun _=>fun w9 f9 hM=>fun tmps ht=>BW ht (Ex rfl (B2 rfl EM hM.k2 rfl) (Ac rfl CV hM.k1 rfl) (B2 rfl Hu hM.k0 rfl)) ⟨_,rfl,f9,none,0,hM.exm,rfl,⟨Nat.zero_le _,.inl rfl⟩⟩))
 refine Ag rfl ?_ Ai
 refine go Bi 2 [1] (y<|fun _=>Ax [] rfl<|Ag rfl ?_ Ai)
 refine go Bi 2 [0] (y<|fun _=>Ax [] rfl<|Ag rfl ?_ Ai)
 exact go Bi 2 [0] (y<|fun _=>Ax [] rfl<|B3<|go Bi 3 [] (fun _=>fun w9 f9 hM=>fun tmps ht=>BW ht (Ex rfl (B2 rfl EM hM.k2 rfl) (Ac rfl CV hM.k1 rfl) (B2 rfl Hu hM.k0 rfl)) ⟨_,rfl,f9,none,0,hM.exm,rfl,⟨Nat.zero_le _,.inl rfl⟩⟩))
 refine Ag rfl ?_ Ai
 refine go Bi 2 [0] (y<|fun _=>Ax [] rfl<|Ag rfl ?_ Ai)
 refine go Bi 2 [1] (y<|fun _=>Ax [] rfl<|Ag rfl ?_ Ai)
 refine go Bi 2 [1] (y<|fun _=>Ax [] rfl<|Ag rfl ?_ Ai)
 exact go Bi 2 [0] (y<|fun _=>Ax [] rfl<|B3<|go Bi 3 [] (fun _=>fun w9 f9 hM=>fun tmps ht=>BW ht (Ex rfl (B2 rfl EM hM.k2 rfl) (Ac rfl CV hM.k1 rfl) (B2 rfl Hu hM.k0 rfl)) ⟨_,rfl,f9,none,0,hM.exm,rfl,⟨Nat.zero_le _,.inl rfl⟩⟩))
 exact absurd (hcd.symm.trans h1) dC
set_option maxHeartbeats 1000000 in
theorem Zf(w:World)(f:Fq)(hv:Vl w f)(hJ:D7 w f)(n:Nat)(src:List UInt8)(toks:List AT)(hlen:toks.length≤100000)(hok:∀fo,Bz toks [] .nil=.ok fo→fo.all (GN (n+1))∧fo.len≤100000)(hs:∀w1,Gl w1→BF Tryz.prog 8 #[S src] w1 fun v w'=>∃ta tc,v=.tuple #[.slice ta toks.length tc,.agg #[.int .i64 0,.int .i64 0],.int .i64 0]∧(Ck w' 79 5 ta tc toks.length (Fy toks)∧∀b,rb ta=some b→w1.heap.size≤b)∧AV w1 w') :
  BF Tryz.prog 5 #[S src] w (Re (La (n+1) (.ok toks)) w f):=by
 refine iE (K:=[2,3,4]) (X:=X0 w f) (H:=[]) (R:=[]) (B:=[]) (Fs:=[fun w f=>D7 w f]) (f:=f) Tryz.func5 rfl rfl rfl (C7 hv ⟨hJ,trivial⟩ ⟨D7.mono,trivial⟩)<|go Bi 8 [] (fun b1=>fun b2=>fun b3=>fun _=>Ky (p:=b1≠b2∧b1≠b3∧b2≠b3) (fun w f hM=>by have h9:=hM.nd;simp[CP] at h9;exact⟨fun e=>h9.2 e.symm,fun e=>h9.1.2 e.symm,fun e=>h9.1.1 e.symm⟩) fun hn=>go Bi 2 [] (fun _=>tY (val:=fun a c=>.tuple #[.slice a toks.length c,.agg #[.int .i64 0,.int .i64 0],.int .i64 0]) rfl rfl (eC dS rfl rfl) (fun w f hM=>hs w (D7.gl hM.f0)) fun ta tc=>go Bi 21 [1,0,0] (y<|y<|y<|fun _=>Fh rfl rfl (fun w f hM=>Tv rfl)<|tG rfl rfl<|go Bi 5 [] (fun _=>mS (pe:=fun e=>Bz toks [] .nil=.error e) rfl rfl (eC fH rfl rfl) (fun w f hM=>Rx w f hM.vl ta tc toks (hM.row _ (.head _)) hlen) (fun _=>⟨Bu.mono,trivial⟩) (fun er w2 f2 he hE hH=>nB hn rfl rfl rfl rfl (by rw[La,he]) hE (hH _ Vy) (hH _ lC) (hH _ qG)) ?_))))
 rintro⟨fo,fa,fc⟩ htr
 dsimp only at htr ⊢
 obtain⟨hall,hfl⟩:=hok fo htr
 refine mS (pe:=fun e=>Bw (Da (n+1)) fo=.error e) rfl rfl (eC Dv rfl rfl) (fun w f hM=>BX 12 iY (Da (n+1)) (GN (n+1)) (fun w f hv hJ t k a c hd hT=>WH n w f hv hJ t k a c hd hT) w f hM.vl hM.f1 fo _ _ hall hfl hM.f0) (fun _=>⟨AK.mono,trivial⟩) (fun er w2 f2 he hE hH=>nB hn rfl rfl rfl rfl (by rw[La,htr];simp only[he]) hE (hH _ Vy) (hH _ lC) (hH _ qG)) ?_
 rintro⟨⟨nds,xnds⟩,na,nc⟩ hnds
 dsimp only at hnds ⊢
 exact go Bi 7 [2,1,0] (y<|y<|y<|fun _=>fun w9 f9 hM=>fun tmps ht=>mX rfl rfl rfl rfl (show La (n+1) (.ok toks)=(nds,0,0,0) by rw[La,htr];simp only[hnds]) hM.exm hM.f0 hM.k2 hM.k1 hM.k0 tmps ht)
def rB:Ea:=⟨[(77,1,1),(77,2,2),(25,1,1),(25,0,0)],[],[],[],[(3,false,1)],[(25,[.int .i64 0,.int .i64 0])],[(25,[(0,1),(1,1)])],[]⟩
theorem Ib:rB.Ok Tryz.prog:=⟨(And.intro Hr (And.intro MN (And.intro kZ (And.intro jV trivial)))),trivial,trivial,trivial,(And.intro PX trivial),(And.intro Su trivial),(And.intro bM trivial),trivial⟩
theorem Iw(w:World)(b:Nat)(src:List UInt8)(i:Nat)(p:Ps)(sl:Value)(hsc:AQ w b [S src,.int .i64 (i:Int),.int .i64 p.1,.int .i64 p.2,sl] 77) :
  BF Tryz.prog 27 #[.pointer (some ⟨b,0,none⟩)] w fun v w'=>v=.bool (decide ((i:Int)<(src.length:Int)))∧AV w w':=by
 have hbl:=hsc.lt
 have hX:=AV.refl w
 refine enter Tryz.func27 rfl rfl rfl<|gP [] Ib 6 [] (Ar _) (fun _=>?_)
 have hr1:=hsc
 refine Ei mixed (A8 w [b]) [(true,0),(true,1),(true,2),(true,3),(true,4),(true,5),(true,6),(true,7),(true,8),(true,9),(true,10)] kR kR rfl rfl fun w1 hE1 hz1=>?_
 have hKp:A8 w [b] w1:=A8.cons hr1 hE1 (A8.nil _ _)
 refine⟨hKp,?_⟩
 replace hsc:=hsc.ext hE1
 replace hX:=hX.trans hE1
 refine A2 rfl (fun _ hS=>A0 rfl)<|A2 rfl (fun _ hS=>B6 rfl)<|A2 rfl (fun _ hS=>BO rfl Hr)<|A2 rfl (fun _ hS=>Al rfl PX (hr1.keep hS (.head _)) rfl)<|A2 rfl (fun _ hS=>A0 rfl)<|A2 rfl (fun _ hS=>B6 rfl)<|A2 rfl (fun _ hS=>BO rfl J0)<|A2 rfl (fun _ hS=>Al rfl U6 (hr1.keep hS (.head _)) rfl)<|A2 rfl (fun _ hS=>MF rfl Im)<|A2 rfl (fun _ hS=>Tu rfl rfl) ?_
 exact A2 rfl (fun _ hS=>Dm rfl)<|Em<|gQ [.sq _] Ib 2 [] (Ar _) (fun _=>By (AI rfl (Aj rfl))<|⟨rfl,hX⟩)
theorem FM(w:World)(b:Nat)(src:List UInt8)(i:Nat)(p:Ps)(sl:Value)(hsc:AQ w b [S src,.int .i64 (i:Int),.int .i64 p.1,.int .i64 p.2,sl] 77)(c:UInt8)(hc:src[i]?=some c)(hi:i<1000000)(hp:Pk i p) :
  BF Tryz.prog 59 #[.pointer (some ⟨b,0,none⟩)] w fun v w'=>v=.int .u8 c.toNat∧AQ w' b [S src,.int .i64 ((i+1:Nat):Int),.int .i64 (adv c p).1,.int .i64 (adv c p).2,sl] 77∧KN b w w':=by
 have hbl:=hsc.lt
 obtain⟨hp1,hp2,hp3,hp4⟩:=hp
 have hX:=KN.refl b w
 refine enter Tryz.func59 rfl rfl rfl<|gP [] Ib 6 [] (Ar _) (fun _=>?_)
 have hr1:=hsc
 refine Ei mixed (A8 w [b]) [(true,0),(true,1),(true,2),(true,3),(true,4),(true,5),(true,6),(true,7),(true,8),(true,9)] kR kR rfl rfl fun w1 hE1 hz1=>?_
 have hKp:A8 w [b] w1:=A8.cons hr1 hE1 (A8.nil _ _)
 refine⟨hKp,?_⟩
 replace hsc:=hsc.ext hE1
 replace hX:=hX.trans hE1
 refine A2 rfl (fun _ hS=>A0 rfl)<|A2 rfl (fun _ hS=>B6 rfl)<|A2 rfl (fun _ hS=>BO rfl J0)<|A2 rfl (fun _ hS=>Al rfl U6 (hr1.keep hS (.head _)) rfl)<|A2 rfl (fun _ hS=>A0 rfl)<|A2 rfl (fun _ hS=>B6 rfl)<|A2 rfl (fun _ hS=>BO rfl Hr)<|A2 rfl (fun _ hS=>Al rfl PX (hr1.keep hS (.head _)) rfl)<|A2 rfl (fun _ hS=>DB rfl rfl Im oM (by simpa using hc))<|A2 rfl (fun _ hS=>Dm rfl) ?_
 refine Em<|gQ [.sq _] Ib 4 [] (Ar _) (fun _=>Aa rfl (B6 rfl)<|gL [.sq _] Ib 3 [0,1] (kB hsc (Ar _)) (y2<|And.intro ⟨oM,oM⟩<|fun _=>Aa rfl (B6 rfl)<|Aa rfl (BO rfl Hr)<|A4 rfl rfl rfl PX rfl hsc rfl rfl fun w2 hb1 hC1=>?_))
 replace hX:=hX.chg hC1 oM
 have sz1:=hC1.size
 refine gL [.sq _] Ib 5 [] (Ar _) (fun _=>Aa rfl (B6 rfl)<|gL [.sq _] Ib 4 [0,3] (kB hb1 (Ar _)) (y2<|And.intro ⟨oM,oM⟩<|fun _=>Aa rfl (B6 rfl)<|gL [.sq _] Ib 2 [] (Ar _) (fun _=>A4 rfl rfl rfl PX rfl hb1 rfl rfl fun w3 hb2 hC2=>?_)))
 replace hX:=hX.chg hC2 oM
 have sz2:=hC2.size
 refine gL [.sq _] Ib 9 [] (Ar _) (fun _=>sP 30 rfl (fun h1=>?_) (fun h1=>?_))
 refine gP [.sq _] Ib 4 [] (Ar _) (fun _=>Aa rfl (B6 rfl)<|gL [.sq _] Ib 5 [0,2] (kB hb2 (Ar _)) (y2<|And.intro ⟨oM,oM⟩<|fun _=>Aa rfl (B6 rfl)<|Aa rfl (BO rfl MN)<|A4 rfl rfl rfl Hw rfl hb2 rfl rfl fun w4 hb3 hC3=>?_))
 replace hX:=hX.chg hC3 oM
 have sz3:=hC3.size
 exact gL [.sq _] Ib 9 [] (Ar _) (fun _=>By (AI rfl (Aj rfl))<|⟨rfl,by simp only[adv,h1];exact hb3,hX⟩)
 exact gP [.sq _] Ib 10 [] (Ar _) (fun _=>By (AI rfl (Aj rfl))<|⟨rfl,by simp only[adv,h1];exact hb2,hX⟩)
def rR:Ea:=⟨[(77,2,2)],[],[],[],[(25,true,2)],[(74,[.int .i64 0,.int .i64 0])],[(74,[(0,2)])],[]⟩
theorem Ej:rR.Ok Tryz.prog:=⟨(And.intro MN trivial),trivial,trivial,trivial,(And.intro Hw trivial),(And.intro ZW trivial),(And.intro eY trivial),trivial⟩
theorem R8(w:World)(b:Nat)(src:List UInt8)(i:Nat)(p:Ps)(sl:Value)(hsc:AQ w b [S src,.int .i64 (i:Int),.int .i64 p.1,.int .i64 p.2,sl] 77)(c:UInt8)(hc:src[i]?=some c)(hi:i<100000)(hp:Pk i p) :
  BQ Tryz.prog 85 #[.pointer (some ⟨b,0,none⟩)] w (fun v w'=>∃(c1:UInt8)(i1:Nat)(p1:Ps),K1 p (src.drop i)=.ok (c1,src.drop i1,p1)∧v=.int .u8 c1.toNat∧AQ w' b [S src,.int .i64 ((i1:Nat):Int),.int .i64 p1.1,.int .i64 p1.2,sl] 77∧KN b w w'∧i<i1∧i1≤src.length∧Pk i1 p1) (fun cc w'=>∃e,K1 p (src.drop i)=.error e∧cc=QI 74 e∧KN b w w'):=by
 have hbl:=hsc.lt
 have hX:=KN.refl b w
 refine IF Tryz.func85 rfl rfl rfl<|gP [] Ej 8 [] (Ar _) (fun _=>Aa rfl (B6 rfl)<|gL [.sq _] Ej 2 [0,2] (kB hsc (Ar _)) (y2<|fun _=>CO rfl Su fun b1 w1 hb1 hE1 hs1 hz1=>?_))
 replace hsc:=hsc.ext hE1
 replace hX:=hX.trans hE1
 refine A4 rfl rfl rfl Hw rfl hb1 rfl rfl fun w2 hb2 hC1=>?_
 replace hsc:=hsc.chg hC1 oM
 replace hX:=hX.chg hC1 oM
 have sz1:=hC1.size
 refine gL [.sq _] Ej 6 [] (Ar _) (fun _=>A7 rfl (Aw MU rfl rfl) (FM _ b src i p sl hsc c hc oM hp) ?_)
 rintro _ w3 ⟨rfl,hb3,hE2⟩
 replace hb2:=hb2.exb hE2 oM
 replace hX:=hX.trans2 hE2
 have sz2:=hE2.size
 have hp1:=Pk.adv (c:=c) hp
 refine gL [.sq _,.sq _] Ej 16 [] (Ar _) (fun _=>sP 14 rfl (fun h1=>?_) (fun h1=>?_))
 exact gP [.sq _,.bk _,.sq _] Ej 13 [] (Ar _) (fun _=>By (AI rfl (Aj rfl))<|⟨c,i+1,adv c p,by rw[Bf hc];simp[K1,h1],rfl,hb3,hX,oM,by have:=Cn hc;omega,hp1⟩)
 refine gP [.sq _,.bk _,.sq _] Ej 6 [] (Ar _) (fun _=>sP 14 rfl (fun h2=>?_) (fun h2=>?_))
 exact gP [.bk _,.sq _] Ej 10 [] (Ar _) (fun _=>By (AI rfl (Aj rfl))<|⟨c,i+1,adv c p,by rw[Bf hc];simp[K1,h1,h2],rfl,hb3,hX,oM,by have:=Cn hc;omega,hp1⟩)
 refine gP [.bk _,.sq _] Ej 7 [] (Ar _) (fun _=>sP 18 rfl (fun h3=>?_) (fun h3=>?_))
 exact gP [.bk _,.sq _] Ej 9 [] (Ar _) (fun _=>By (AI rfl (Aj rfl))<|⟨10,i+1,adv c p,by rw[Bf hc];simp[K1,h1,h2,h3],rfl,hb3,hX,oM,by have:=Cn hc;omega,hp1⟩)
 refine gP [.bk _,.sq _] Ej 7 [] (Ar _) (fun _=>sP 20 rfl (fun h4=>?_) (fun h4=>?_))
 refine gP [.bk _,.sq _] Ej 2 [] (Ar _) (fun _=>?_)
 have hr1:=hb3
 have hr2:=hb2
 refine Ei mixed (A8 w3 [b,b1]) [(true,0),(true,1),(true,2),(true,3),(true,4),(true,5),(true,6),(true,7),(true,8),(true,9),(true,10)] kR kR rfl rfl fun w4 hE3 hz2=>?_
 have hKp:A8 w3 [b,b1] w4:=A8.cons hr1 hE3 (A8.cons hr2 hE3 (A8.nil _ _))
 refine⟨hKp,?_⟩
 replace hb2:=hb2.ext hE3
 replace hb3:=hb3.ext hE3
 replace hX:=hX.trans hE3
 refine A2 rfl (fun _ hS=>A0 rfl)<|A2 rfl (fun _ hS=>B6 rfl)<|A2 rfl (fun _ hS=>BO rfl Hr)<|A2 rfl (fun _ hS=>Al rfl PX (hr1.keep hS (.head _)) rfl)<|A2 rfl (fun _ hS=>Nj rfl rfl ⟨oM,oM⟩)<|A2 rfl (fun _ hS=>A0 rfl)<|A2 rfl (fun _ hS=>B6 rfl)<|A2 rfl (fun _ hS=>BO rfl J0)<|A2 rfl (fun _ hS=>Al rfl U6 (hr1.keep hS (.head _)) rfl)<|A2 rfl (fun _ hS=>MF rfl Im) ?_
 refine A2 rfl (fun _ hS=>X2 rfl rfl)<|Em<|D3<|sP 32 rfl (fun h5=>?_) (fun h5=>?_)
 refine gP [.bk _,.sq _] Ej 2 [] (Ar _) (fun _=>?_)
 have hlt2:i+3≤src.length:=by have:=h5;simp at this;omega
 obtain⟨a1,ha1⟩:=Ks (show i+1<src.length by omega)
 obtain⟨a2,ha2⟩:=Ks (show i+2<src.length by omega)
 have hr3:=hb3
 have hr4:=hb2
 refine Ei mixed (A8 w4 [b,b1]) [(true,0),(true,1),(true,2),(true,3),(true,4),(true,5),(true,6),(true,7),(true,8),(true,10),(true,11),(true,12),(true,13),(true,14),(true,15),(true,16),(true,17),(true,18),(true,19),(false,9),(false,20),(true,21),(true,22)] kR kR rfl rfl fun w5 hE4 hz3=>?_
 have hKp:A8 w4 [b,b1] w5:=A8.cons hr3 hE4 (A8.cons hr4 hE4 (A8.nil _ _))
 refine⟨hKp,?_⟩
 replace hb2:=hb2.ext hE4
 replace hb3:=hb3.ext hE4
 replace hX:=hX.trans hE4
 refine A2 rfl (fun _ hS=>A0 rfl)<|A2 rfl (fun _ hS=>B6 rfl)<|A2 rfl (fun _ hS=>BO rfl J0)<|A2 rfl (fun _ hS=>Al rfl U6 (hr3.keep hS (.head _)) rfl)<|A2 rfl (fun _ hS=>A0 rfl)<|A2 rfl (fun _ hS=>B6 rfl)<|A2 rfl (fun _ hS=>BO rfl Hr)<|A2 rfl (fun _ hS=>Al rfl PX (hr3.keep hS (.head _)) rfl)<|A2 rfl (fun _ hS=>DB rfl rfl Im oM (show src[(((i+1:Nat):Int)).toNat]?=some a1 by rw[Int.toNat_natCast];exact ha1))<|A2 rfl (fun _ hS=>A0 rfl) ?_
 refine A2 rfl (fun _ hS=>B6 rfl)<|A2 rfl (fun _ hS=>BO rfl J0)<|A2 rfl (fun _ hS=>Al rfl U6 (hr3.keep hS (.head _)) rfl)<|A2 rfl (fun _ hS=>A0 rfl)<|A2 rfl (fun _ hS=>B6 rfl)<|A2 rfl (fun _ hS=>BO rfl Hr)<|A2 rfl (fun _ hS=>Al rfl PX (hr3.keep hS (.head _)) rfl)<|A2 rfl (fun _ hS=>Nj rfl rfl ⟨oM,oM⟩)<|A2 rfl (fun _ hS=>DB rfl rfl Im oM (show src[(((i+1:Nat):Int)+1).toNat]?=some a2 by rw[show (((i+1:Nat):Int)+1).toNat=i+2 by omega];exact ha2))<|EZ ?_
 refine A7 rfl (Aw Vv rfl rfl) (Fx _ F7 _) ?_
 rintro _ w6 ⟨rfl,hE5⟩
 replace hb2:=hb2.ext hE5
 replace hb3:=hb3.ext hE5
 replace hX:=hX.trans hE5
 replace hKp:=hKp.ext hE5
 have sz3:=hE5.size
 refine Ab (Hq hKp<|EZ<|A7 rfl (Aw Vv rfl rfl) (Fx _ F7 _) ?_)
 rintro _ w7 ⟨rfl,hE6⟩
 replace hb2:=hb2.ext hE6
 replace hb3:=hb3.ext hE6
 replace hX:=hX.trans hE6
 replace hKp:=hKp.ext hE6
 have sz4:=hE6.size
 refine Ab (Hq hKp<|A2 rfl (fun _ hS=>Dm rfl)<|A2 rfl (fun _ hS=>Dm rfl)<|Em<|gQ [.sq _,.bk _,.sq _] Ej 6 [] (Ar _) (fun _=>sL 56 rfl (fun h6=>?_) (fun h6=>?_)))
 refine gL [.sq _,.bk _,.sq _] Ej 5 [] (Ar _) (fun _=>sP 59 rfl (fun h7=>?_) (fun h7=>?_))
 refine gP [.bk _,.sq _] Ej 4 [] (Ar _) (fun _=>A7 rfl (Aw MU rfl rfl) (FM _ b src (i+1) (adv c p) sl hb3 a1 ha1 oM hp1) ?_)
 rintro _ w8 ⟨rfl,hb4,hE7⟩
 replace hb2:=hb2.exb hE7 oM
 replace hX:=hX.trans2 hE7
 have sz5:=hE7.size
 have hp2:=Pk.adv (c:=a1) hp1
 refine gL [.sq _,.bk _,.sq _] Ej 5 [] (Ar _) (fun _=>A7 rfl (Aw MU rfl rfl) (FM _ b src ((i+1)+1) (adv a1 (adv c p)) sl hb4 a2 ha2 oM hp2) ?_)
 rintro _ w9 ⟨rfl,hb5,hE8⟩
 replace hb2:=hb2.exb hE8 oM
 replace hX:=hX.trans2 hE8
 have sz6:=hE8.size
 have hp3:=Pk.adv (c:=a2) hp2
 refine gL [.sq _,.bk _,.sq _] Ej 3 [] (Ar _) (fun _=>?_)
 have hx1:0≤Lib.indexByte F7 a1:=by have:=h6;simpa using this
 have hx2:0≤Lib.indexByte F7 a2:=by have:=h7;simpa using this
 have hy1:=Xq a1
 have hy2:=Xq a2
 exact gP [.sq _,.bk _,.sq _] Ej 2 [] (Ar _) (fun _=>Aa rfl (bA rfl rfl ⟨hx1,hy1⟩)<|Aa rfl (A0 rfl)<|Aa rfl (bL rfl rfl ⟨hx1,hy1⟩ ⟨hx2,hy2⟩)<|Aa rfl (Dh rfl cR (Ve ⟨oM,oM⟩))<|gL [.sq _,.bk _,.sq _] Ej 6 [] (Ar _) (fun _=>By (AI rfl (Aj rfl))<|⟨UInt8.ofNat ((Lib.indexByte F7 a1).toNat*16+(Lib.indexByte F7 a2).toNat),i+3,adv a2 (adv a1 (adv c p)),by rw[Bf hc,X9 ha1 ha2];simp[K1,h1,h2,h3,h4,hx1,hx2],by rw[qD ⟨hx1,hy1⟩ ⟨hx2,hy2⟩],hb5,hX,oM,oM,hp3⟩))
 exact gP [.bk _,.sq _] Ej 7 [0,0] (kB hb2 (Ar _)) (y2<|fun _=>Aa rfl (BY rfl J3)<|Ct (BM rfl) (And.intro rfl<|⟨p,by rw[Bf hc,X9 ha1 ha2];exact QL h1 h2 h3 h4 (.inr (by have:=h7;simpa using this)),rfl,hX⟩))
 exact gL [.sq _,.bk _,.sq _] Ej 12 [0,0] (kB hb2 (Ar _)) (y2<|fun _=>Aa rfl (BY rfl J3)<|Ct (BM rfl) (And.intro rfl<|⟨p,by rw[Bf hc,X9 ha1 ha2];exact QL h1 h2 h3 h4 (.inl (by have:=h6;simpa using this)),rfl,hX⟩))
 exact gP [.bk _,.sq _] Ej 7 [0,0] (kB hb2 (Ar _)) (y2<|fun _=>Aa rfl (BY rfl J3)<|Ct (BM rfl) (And.intro rfl<|⟨p,by rw[Bf hc];exact Yq h1 h2 h3 (by have:=h5;simp at this;simp;omega),rfl,hX⟩))
 exact gP [.bk _,.sq _] Ej 7 [0,0] (kB hb2 (Ar _)) (y2<|fun _=>Aa rfl (BY rfl J3)<|Ct (BM rfl) (And.intro rfl<|⟨p,by rw[Bf hc];simp[K1,h1,h2,h3,h4],rfl,hX⟩))
def rL:Ea:=⟨[(77,2,2)],[(148,5,1)],[],[],[(25,true,2)],[(74,[.int .i64 0,.int .i64 0]),(79,[.int .i64 0,.int .i64 0,.int .i64 0,.int .i64 0,.string ⟨#[]⟩])],[(74,[(0,2)]),(79,[(0,1),(1,2),(3,1),(4,1)])],[]⟩
theorem DF:rL.Ok Tryz.prog:=⟨(And.intro MN trivial),(And.intro Pl trivial),trivial,trivial,(And.intro Hw trivial),(And.intro ZW (And.intro FU trivial)),(And.intro eY (And.intro VK trivial)),trivial⟩
theorem RH(w:World)(b:Nat)(src:List UInt8)(i:Nat)(p:Ps)(sl:Value)(hsc:AQ w b [S src,.int .i64 (i:Int),.int .i64 p.1,.int .i64 p.2,sl] 77)(start:Ps)(hile:i≤src.length)(hi:src.length<100000)(hp:Pk i p) :
  BQ Tryz.prog 61 #[.pointer (some ⟨b,0,none⟩),.agg #[.int .i64 start.1,.int .i64 start.2]] w (fun v w'=>∃(tx:List UInt8)(i1:Nat)(p1:Ps),Hl start (src.length+1) p [] (src.drop i)=.ok (tx,src.drop i1,p1)∧v=.agg #[.int .i64 4,.int .i64 start.1,.int .i64 start.2,.int .i64 0,S tx]∧AQ w' b [S src,.int .i64 ((i1:Nat):Int),.int .i64 p1.1,.int .i64 p1.2,sl] 77∧KN b w w'∧i<i1∧i1≤src.length∧Pk i1 p1) (fun cc w'=>∃e,Hl start (src.length+1) p [] (src.drop i)=.error e∧cc=QI 74 e∧KN b w w'):=by
 have hbl:=hsc.lt
 have hX:=KN.refl b w
 refine IF Tryz.func61 rfl rfl rfl<|gP [] DF 2 [] (Ar _) (fun _=>En rfl rfl rfl fun b1 w1 hb1 hE1 hs1 hz1=>?_)
 replace hsc:=hsc.ext hE1
 replace hX:=hX.trans hE1
 refine CO rfl FU fun b2 w2 hb2 hE2 hs2 hz2=>?_
 replace hsc:=hsc.ext hE2
 replace hb1:=hb1.ext hE2
 replace hX:=hX.trans hE2
 refine gL [.sq _] DF 9 [] (Ar _) (fun _=>?_)
 refine Eh (fun k σ ds w'=>∃(j:Nat)(q:Ps)(acc:List UInt8)(ra:Option Addr)(rc F:Nat),k=src.length-j∧ds=[]∧σ=(E4 0 (.pointer (some ⟨b,0,none⟩)) 3 (.pointer (some ⟨b1,0,none⟩)) 4 (.pointer (some ⟨b2,0,none⟩)) 5 (.slice ra acc.length rc))∧i≤j∧j≤src.length∧Pk j q∧src.length+1≤F+j∧Hl start (src.length+1) p [] (src.drop i)=Hl start F q acc (src.drop j)∧acc.length≤j∧AQ w' b [S src,.int .i64 ((j:Nat):Int),.int .i64 q.1,.int .i64 q.2,sl] 77∧AQ w' b1 [.int .i64 start.1,.int .i64 start.2] 25∧AQ w' b2 [.int .i64 0,.int .i64 0,.int .i64 0,.int .i64 0,.string ⟨#[]⟩] 79∧Ck w' 5 1 ra rc acc.length (bC acc)∧(∀x,rb ra=some x→w.heap.size≤x∧x≠b1∧x≠b2)∧KN b w w') (src.length-i) (E4 0 (.pointer (some ⟨b,0,none⟩)) 3 (.pointer (some ⟨b1,0,none⟩)) 4 (.pointer (some ⟨b2,0,none⟩)) 5 (.slice none 0 0)) lE ⟨i,p,[],none,0,src.length+1,rfl,rfl,rfl,Nat.le_refl _,hile,hp,oM,rfl,by simp,hsc,hb1,hb2,G9 _ _ _,(fun x hx=>by cases hx),hX⟩ ?_
 rintro _ _ _ wl ⟨j,q,acc,ra,rc,F,rfl,rfl,rfl,hij,hjl,hq,hF,hm,hal,hscl,hl3,hl4,hrow,hlow,hX⟩
 have szl:=hX.size
 have lt3:=hl3.lt
 have lt4:=hl4.lt
 have lts:=hscl.lt
 have hlowl:∀x,rb ra=some x→x<wl.heap.size:=fun x hx=>hrow.lt hx
 refine gP [] DF 4 [] (Ar _) (fun _=>A7 rfl (Aw Rt rfl rfl) (Iw _ b src j q sl hscl) ?_)
 rintro _ w3 ⟨rfl,hE3⟩
 replace hscl:=hscl.ext hE3
 replace hl3:=hl3.ext hE3
 replace hl4:=hl4.ext hE3
 replace hrow:=hrow.ext hE3
 replace hX:=hX.trans hE3
 have sz1:=hE3.size
 refine gL [.sq _,.sq _] DF 2 [] (Ar _) (fun _=>sP 9 rfl (fun h1=>?_) (fun h1=>?_))
 refine gP [.sq _] DF 5 [] (Ar _) (fun _=>?_)
 have hjlt:j<src.length:=by have:=h1;simpa using this
 obtain⟨c,hc⟩:=Ks hjlt
 obtain⟨F,rfl⟩:∃F1,F=F1+1:=⟨F-1,oM⟩
 refine gP [.sq _,.bk _] DF 2 [] (Ar _) (fun _=>Aa rfl (B6 rfl)<|gL [.sq _,.bk _] DF 2 [0,2] (kB hscl (Ar _)) (y2<|fun _=>CO rfl Su fun b3 w4 hb3 hE4 hs3 hz3=>?_))
 replace hscl:=hscl.ext hE4
 replace hl3:=hl3.ext hE4
 replace hl4:=hl4.ext hE4
 replace hrow:=hrow.ext hE4
 replace hX:=hX.trans hE4
 refine A4 rfl rfl rfl Hw rfl hb3 rfl rfl fun w5 hb4 hC1=>?_
 replace hscl:=hscl.chg hC1 oM
 replace hl3:=hl3.chg hC1 oM
 replace hl4:=hl4.chg hC1 oM
 replace hrow:=Ck.chg hrow hC1 (fun e=>by have:=hlow _ e;have:=hlowl _ e;omega)
 replace hX:=hX.chg hC1 oM
 have sz2:=hC1.size
 refine gL [.sq _,.bk _] DF 5 [] (Ar _) (fun _=>A7 rfl (Aw MU rfl rfl) (FM _ b src j q sl hscl c hc oM hq) ?_)
 rintro _ w6 ⟨rfl,hb5,hE5⟩
 replace hl3:=hl3.exb hE5 oM
 replace hl4:=hl4.exb hE5 oM
 replace hrow:=Ck.exb hrow hE5 (fun e=>by have:=hlow _ e;omega)
 replace hb4:=hb4.exb hE5 oM
 replace hX:=hX.trans2 hE5
 have sz3:=hE5.size
 have hp1:=Pk.adv (c:=c) hq
 refine gL [.sq _,.bk _] DF 11 [] (Ar _) (fun _=>sP 16 rfl (fun h2=>?_) (fun h2=>?_))
 refine gP [.bk _,.bk _] DF 9 [] (Ar _) (fun _=>sP 21 rfl (fun h3=>?_) (fun h3=>?_))
 exact gP [.sq _,.bk _,.bk _] DF 4 [0,0] (kB hl3 (Ar _)) (y2<|fun _=>Aa rfl (BY rfl J3)<|Ct (BM rfl) (And.intro rfl<|⟨start,hm.trans (YN hc h2 h3),rfl,hX⟩))
 refine gP [.sq _,.bk _,.bk _] DF 7 [0,0] (kB hl3 (Ar _)) (y2<|fun _=>Aa rfl (Yn rfl R4 hrow)<|Aa rfl (DK rfl VK FU rfl)<|A4 rfl rfl rfl Hh rfl hl4 rfl rfl fun w7 hb6 hC2=>?_)
 replace hl3:=hl3.chg hC2 oM
 replace hrow:=Ck.chg hrow hC2 (fun e=>by have:=hlow _ e;have:=hlowl _ e;omega)
 replace hb4:=hb4.chg hC2 oM
 replace hb5:=hb5.chg hC2 oM
 replace hX:=hX.chg hC2 oM
 have sz4:=hC2.size
 exact gL [.sq _,.bk _,.bk _] DF 5 [] (Ar _) (fun _=>Wf<|gQ [.bk _,.sq _] DF 2 [] (Ar _) (fun _=>By (AI rfl (Ac rfl Hh hb6 rfl))<|⟨acc,j+1,adv c q,hm.trans (Z3 hc h2 h3),rfl,hb5,hX,oM,oM,hp1⟩))
 refine gP [.bk _,.bk _] DF 8 [] (Ar _) (fun _=>sP 29 rfl (fun h4=>?_) (fun h4=>?_))
 exact gP [.bk _,.bk _] DF 4 [0,0] (kB hb4 (Ar _)) (y2<|fun _=>Aa rfl (BY rfl J3)<|Ct (BM rfl) (And.intro rfl<|⟨q,hm.trans (X7 hc h2 h4),rfl,hX⟩))
 refine gP [.bk _,.bk _] DF 8 [] (Ar _) (fun _=>sP 35 rfl (fun h5=>?_) (fun h5=>?_))
 refine gP [.bk _,.bk _] DF 4 [] (Ar _) (fun _=>Cj rfl rfl Pl sF rfl rfl rfl rfl rfl fun b4 w8 hb7 hE6 hs4 hz4=>?_)
 replace hl3:=hl3.ext hE6
 replace hl4:=hl4.ext hE6
 replace hrow:=hrow.ext hE6
 replace hb4:=hb4.ext hE6
 replace hb5:=hb5.ext hE6
 replace hX:=hX.trans hE6
 refine Be rfl YL rfl rfl rfl rfl hrow hb7 rfl rfl oM oM fun ra2 rc2 w9 hr2 hG=>?_
 have hlow2:∀x,rb ra2=some x→w.heap.size≤x∧x≠b1∧x≠b2:=Ca hG hlow oM
 replace hl3:=hl3.grow hG (fun e=>by have:=hlow _ e.symm;have:=hlowl _ e.symm;omega)
 replace hl4:=hl4.grow hG (fun e=>by have:=hlow _ e.symm;have:=hlowl _ e.symm;omega)
 replace hb5:=hb5.grow hG (fun e=>by have:=hlow _ e.symm;have:=hlowl _ e.symm;omega)
 replace hX:=hX.grow hG (fun x hx=>(hlow x hx).1)
 have sz5:=hG.size
 refine gL [.bk _,.bk _] DF 4 [] (Ar _) (fun _=>?_)
 have hl2:acc.length+1=(acc++[c]).length:=by simp
 refine HA (src.length-(j+1)) (E4 0 (.pointer (some ⟨b,0,none⟩)) 3 (.pointer (some ⟨b1,0,none⟩)) 4 (.pointer (some ⟨b2,0,none⟩)) 5 (.slice ra2 (acc++[c]).length rc2)) (by have:=Cn hc;omega) (tF rfl rfl rfl (hl2▸rfl)) ⟨j+1,adv c q,acc++[c],ra2,rc2,F,rfl,rfl,rfl,oM,by have:=Cn hc;omega,hp1,oM,hm.trans (WS hc h2 h4 h5),by rw[← hl2];omega,hb5,hl3,hl4,by rw[← hl2,bC_app];exact hr2,hlow2,hX⟩
 refine gP [.bk _,.bk _] DF 4 [] (Ar _) (fun _=>A7 rfl (Aw Rt rfl rfl) (Iw _ b src (j+1) (adv c q) sl hb5) ?_)
 rintro _ w10 ⟨rfl,hE7⟩
 replace hl3:=hl3.ext hE7
 replace hl4:=hl4.ext hE7
 replace hrow:=hrow.ext hE7
 replace hb4:=hb4.ext hE7
 replace hb5:=hb5.ext hE7
 replace hX:=hX.trans hE7
 have sz6:=hE7.size
 refine gL [.sq _,.bk _,.bk _] DF 3 [] (Ar _) (fun _=>sP 42 rfl (fun h6=>?_) (fun h6=>?_))
 refine FW rfl rfl ?_
 obtain⟨c2,hc2⟩:=Ks (show j+1<src.length by have:=of_decide_eq_true h6;omega)
 refine gP [.bk _,.bk _] DF 3 [] (Ar _) (fun _=>Cf rfl (Aw lO rfl rfl) (R8 _ b src (j+1) (adv c q) sl hb5 c2 hc2 oM hp1) ?_ (fun cc wp hc1=>And.intro rfl (let ⟨e,he,hcc,hE⟩:=hc1;⟨e,hm.trans (WX hc h2 h4 h5 (by have:=of_decide_eq_true h6;omega) he),hcc,hX.trans2 hE⟩)))
 rintro _ w11 ⟨c1,i1,p1,hesc,rfl,hb8,hE8,hi1,hi2,hp1⟩
 replace hl3:=hl3.exb hE8 oM
 replace hl4:=hl4.exb hE8 oM
 replace hrow:=Ck.exb hrow hE8 (fun e=>by have:=hlow _ e;omega)
 replace hb4:=hb4.exb hE8 oM
 replace hX:=hX.trans2 hE8
 have sz7:=hE8.size
 refine Cj rfl rfl Pl sF rfl rfl rfl rfl rfl fun b5 w12 hb9 hE9 hs5 hz5=>?_
 replace hl3:=hl3.ext hE9
 replace hl4:=hl4.ext hE9
 replace hrow:=hrow.ext hE9
 replace hb4:=hb4.ext hE9
 replace hb8:=hb8.ext hE9
 replace hX:=hX.trans hE9
 refine Be rfl YL rfl rfl rfl rfl hrow hb9 rfl rfl oM oM fun ra2 rc2 w13 hr2 hG=>?_
 have hlow2:∀x,rb ra2=some x→w.heap.size≤x∧x≠b1∧x≠b2:=Ca hG hlow oM
 replace hl3:=hl3.grow hG (fun e=>by have:=hlow _ e.symm;have:=hlowl _ e.symm;omega)
 replace hl4:=hl4.grow hG (fun e=>by have:=hlow _ e.symm;have:=hlowl _ e.symm;omega)
 replace hb8:=hb8.grow hG (fun e=>by have:=hlow _ e.symm;have:=hlowl _ e.symm;omega)
 replace hX:=hX.grow hG (fun x hx=>(hlow x hx).1)
 have sz8:=hG.size
 refine gL [.bk _,.bk _] DF 4 [] (Ar _) (fun _=>?_)
 have hl2:acc.length+1=(acc++[c1]).length:=by simp
 refine HA (src.length-(i1)) (E4 0 (.pointer (some ⟨b,0,none⟩)) 3 (.pointer (some ⟨b1,0,none⟩)) 4 (.pointer (some ⟨b2,0,none⟩)) 5 (.slice ra2 (acc++[c1]).length rc2)) (by have:=Cn hc;omega) (tF rfl rfl rfl (hl2▸rfl)) ⟨i1,p1,acc++[c1],ra2,rc2,F,rfl,rfl,rfl,oM,by have:=Cn hc;omega,hp1,oM,hm.trans (WD hc h2 h4 h5 (by have:=of_decide_eq_true h6;omega) hesc),by rw[← hl2];omega,hb8,hl3,hl4,by rw[← hl2,bC_app];exact hr2,hlow2,hX⟩
 refine gP [.bk _,.bk _] DF 4 [] (Ar _) (fun _=>HA (src.length-(j+1)) (E4 0 (.pointer (some ⟨b,0,none⟩)) 3 (.pointer (some ⟨b1,0,none⟩)) 4 (.pointer (some ⟨b2,0,none⟩)) 5 (.slice ra acc.length rc)) (by have:=Cn hc;omega) lE ⟨j+1,adv c q,acc,ra,rc,F,rfl,rfl,rfl,oM,by have:=Cn hc;omega,hp1,oM,hm.trans ?_,oM,hb5,hl3,hl4,hrow,hlow,hX⟩)
 have hno:¬j+1<src.length:=by have:=h6;simp at this;omega
 rw[WE hc h2 h4 h5 hno,Rf (by have:=Cn hc;omega) hno]
 exact gP [.sq _] DF 3 [] (Ar _) (fun _=>Oc<|gQ [.bk _,.sq _] DF 5 [0,0] (kB hl3 (Ar _)) (y2<|fun _=>Aa rfl (BY rfl J3)<|Ct (BM rfl) (And.intro rfl<|⟨start,hm.trans (Rf oM (by have:=h1;simp at this;omega)),rfl,hX⟩)))
def qT:Ea:=⟨[],[(148,5,1)],[],[],[],[],[],[]⟩
theorem C4:qT.Ok Tryz.prog:=⟨trivial,(And.intro Pl trivial),trivial,trivial,trivial,trivial,trivial,trivial⟩
theorem CN(w:World)(s:List UInt8)(hlen:s.length≤100000)(l:List UInt8)(hl:l.length<4294967281)(h128:l.all (fun c=>decide (c.toNat<128))=true) :
  BF Tryz.prog 90 #[S s,S l] w fun v w'=>v=.bool (HG s l)∧AV w w':=by
 have hX:=AV.refl w
 refine enter Tryz.func90 rfl rfl rfl<|gP [] C4 9 [] (Ar _) (fun _=>A7 rfl (Aw Xt rfl rfl) (OY _ s l oM hl h128) ?_)
 rintro _ w1 ⟨rfl,hE1⟩
 replace hX:=hX.trans hE1
 have sz1:=hE1.size
 exact gL [.sq _] C4 5 [] (Ar _) (fun _=>By (AI rfl (Aj rfl))<|⟨rfl,hX⟩)
theorem JM(w:World)(s:List UInt8)(hlen:s.length≤100000) :
  BF Tryz.prog 110 #[S s] w fun v w'=>v=.bool (ER s)∧AV w w':=by
 have hX:=AV.refl w
 refine enter Tryz.func110 rfl rfl rfl<|gP [] C4 10 [] (Ar _) (fun _=>sL 5 rfl (fun h1=>?_) (fun h1=>?_))
 refine gL [.sq _] C4 1 [] (Ar _) (fun _=>BG rfl rfl rfl<|A7 rfl (Aw Xt rfl rfl) (OY _ s Gc oM dC dC) ?_)
 rintro _ w1 ⟨rfl,hE1⟩
 replace hX:=hX.trans hE1
 have sz1:=hE1.size
 exact gL [.sq _] C4 6 [] (Ar _) (fun _=>By (AI rfl (Aj rfl))<|⟨by rw[ER,h1];rfl,hX⟩)
 exact gL [.sq _] C4 8 [] (Ar _) (fun _=>By (AI rfl (Aj rfl))<|⟨by rw[ER,h1];rfl,hX⟩)
theorem JP(n:Nat)(c:UInt8)(l:List UInt8):CW n (c::l)=CW (n*10+(c.toNat-48)) l:=by conv=>lhs;unfold CW
theorem M7:∀(l:List UInt8)(n:Nat),n≤CW n l
 | [],n=>Nat.le_refl _
 |c::l,n=>by
  have:=M7 l (n*10+(c.toNat-48))
  rw[JP]
  omega
theorem YV:kA Tryz.prog 9 148=some 5:=kR
theorem JA(w:World)(s:List UInt8)(hlen:s.length≤100000)(hne:(s==[])=false)(hd:∀c∈s,48≤c.toNat∧c.toNat≤57) :
  BF Tryz.prog 151 #[S s,.int .i64 10,.int .i64 63] w fun v w'=>((CW 0 s≤9223372036854775807∧v=.tuple #[.int .u64 (CW 0 s:Int),.nilIface])∨(9223372036854775807<CW 0 s∧v=.tuple #[.int .u64 9223372036854775807,.iface 228 (.int .i64 1)]))∧AV w w':=by
 have hX:=AV.refl w
 refine enter Tryz.func151 rfl rfl rfl<|gP [] C4 13 [] (Ar _) (fun _=>sP 19 rfl (fun h1=>?_) (fun h1=>?_))
 ·
  exfalso
  rw[hne] at h1;contradiction
 refine gP [.sq _] C4 81 [] (Ar _) (fun _=>Aa rfl (Dh (m:=63) rfl L0 dC)<|Aa rfl (Ke (9223372036854775808) rfl rfl dC dC)<|Aa rfl (Gb (9223372036854775807) rfl rfl dC)<|gL [.sq _] C4 17 [] (Ar _) (fun _=>cE rfl rfl YV fun bb bc w1 hbb hE1=>?_))
 replace hX:=hX.trans hE1
 have sz1:=hE1.size
 refine gL [.sq _,.sq _] C4 5 [] (Ar _) (fun _=>?_)
 refine Eh (fun k σ ds w'=>∃(i n:Nat),k=s.length-i∧ds=[]∧σ=(oA 0 (S s) 1 (.int .i64 10) 8 (.bool (10==0)) 9 (S s) 10 (.int .u64 1844674407370955162) 11 (.int .u64 9223372036854775807) 12 (.bool false) 13 (.int .u64 (n:Int)) 99 (.slice (some ⟨bb,0,none⟩) s.length bc) 100 (.int .i64 (s.length:Int)) 101 (.int .i64 (i:Int)))∧i≤s.length∧n≤9223372036854775807∧CW 0 s=CW n (s.drop i)∧lN w' bb (bC s)∧AV w w') s.length (oA 0 (S s) 1 (.int .i64 10) 8 (.bool (10==0)) 9 (S s) 10 (.int .u64 1844674407370955162) 11 (.int .u64 9223372036854775807) 12 (.bool false) 13 (.int .u64 ((0:Nat):Int)) 99 (.slice (some ⟨bb,0,none⟩) s.length bc) 100 (.int .i64 (s.length:Int)) 101 (.int .i64 ((0:Nat):Int))) lE ⟨0,0,rfl,rfl,rfl,Nat.zero_le _,Nat.zero_le _,rfl,hbb,hX⟩ ?_
 rintro _ _ _ wl ⟨i,n,rfl,rfl,rfl,hi,hn,hm,hbb,hX⟩
 refine gP [] C4 6 [] (Ar _) (fun _=>sP 102 rfl (fun h2=>?_) (fun h2=>?_))
 refine gP [.sq _] C4 7 [] (Ar _) (fun _=>?_)
 have hi2:i<s.length:=by have:=of_decide_eq_true h2;omega
 obtain⟨c,hc⟩:=Ks hi2
 obtain⟨hc1,hc2⟩:=hd c (List.mem_of_getElem? hc)
 have hcell:(bC s)[0+i*1]?=some (.int .u8 c.toNat):=by simp[bC,hc]
 refine Aa rfl (K8 (i:=i) rfl rfl Pl hi2)<|Aa rfl (XZ rfl uU hbb hcell)<|gL [.sq _,.bk _,.sq _] C4 15 [] (Ar _) (fun _=>sL 109 rfl (fun h3=>?_) (fun h3=>?_))
 ·
  exfalso
  have:=(beq_iff_eq).1 h3;omega
 refine gL [.sq _,.bk _,.sq _,.bk _,.sq _] C4 11 [] (Ar _) (fun _=>sL 115 rfl (fun h4=>?_) (fun h4=>?_))
 refine gL [.sq _,.bk _,.sq _,.bk _,.sq _] C4 6 [] (Ar _) (fun _=>sP 112 rfl (fun h5=>?_) (fun h5=>?_))
 refine gP [.bk _,.sq _,.bk _,.sq _] C4 3 [] (Ar _) (fun _=>Aa rfl (Gb ((c.toNat:Int)-48) rfl rfl (Ve ⟨oM,oM⟩))<|gL [.bk _,.sq _,.bk _,.sq _] C4 9 [] (Ar _) (fun _=>Aa rfl (Dh (m:=10) rfl cR dC)<|gL [.sq _,.sq _,.bk _,.sq _] C4 3 [] (Ar _) (fun _=>sP 137 rfl (fun h6=>?_) (fun h6=>?_))))
 ·
  exfalso
  have:=of_decide_eq_true h6;omega
 refine gP [.sq _,.bk _,.sq _] C4 11 [] (Ar _) (fun _=>sP 141 rfl (fun h7=>?_) (fun h7=>?_))
 exact gP [.sq _,.bk _,.sq _] C4 4 [] (Ar _) (fun _=>Aa rfl (BY rfl Ln)<|gL [.sq _,.sq _,.bk _,.sq _] C4 8 [] (Ar _) (fun _=>Wf<|gQ [.bk _,.sq _] C4 2 [] (Ar _) (fun _=>By (Cu rfl (Aj rfl) (Aj rfl))<|⟨.inr ⟨by rw[hm,Bf hc,JP];have:=M7 (s.drop (i+1)) (n*10+(c.toNat-48));have q4:=of_decide_eq_true h5;have q5:=of_decide_eq_false h6;have q6:=of_decide_eq_true h7;omega,rfl⟩,hX⟩)))
 refine gP [.sq _,.bk _,.sq _] C4 7 [] (Ar _) (fun _=>Aa rfl (Dh (m:=10) rfl fU dC)<|Aa rfl (Qk ((n:Int)*10) rfl rfl (GL ⟨oM,by have:=of_decide_eq_false h7;omega⟩))<|gL [.sq _,.bk _,.sq _] C4 7 [] (Ar _) (fun _=>Aa rfl (Dh (m:=(c.toNat:Int)-48) rfl Uc (GL ⟨oM,oM⟩))<|Aa rfl (M0 (((n:Int)*10+((c.toNat:Int)-48)) % 18446744073709551616) rfl rfl (IntKind.wrap_u64 _))<|gL [.sq _,.bk _,.sq _] C4 10 [] (Ar _) (fun _=>sL 155 rfl (fun h8=>?_) (fun h8=>?_))))
 exact gL [.sq _,.sq _,.bk _,.sq _] C4 10 [] (Ar _) (fun _=>Aa rfl (BY rfl Ln)<|gL [.sq _,.sq _,.bk _,.sq _] C4 8 [] (Ar _) (fun _=>Wf<|gQ [.bk _,.sq _] C4 2 [] (Ar _) (fun _=>By (Cu rfl (Aj rfl) (Aj rfl))<|⟨.inr ⟨by rw[hm,Bf hc,JP];have:=M7 (s.drop (i+1)) (n*10+(c.toNat-48));have q5:=of_decide_eq_false h6;have q6:=of_decide_eq_false h7;have q7:=of_decide_eq_true h8;omega,rfl⟩,hX⟩)))
 refine gL [.sq _,.sq _,.bk _,.sq _] C4 6 [] (Ar _) (fun _=>sP 159 rfl (fun h9=>?_) (fun h9=>?_))
 exact gP [.sq _,.bk _,.sq _] C4 4 [] (Ar _) (fun _=>Aa rfl (BY rfl Ln)<|gL [.sq _,.sq _,.bk _,.sq _] C4 8 [] (Ar _) (fun _=>Wf<|gQ [.bk _,.sq _] C4 2 [] (Ar _) (fun _=>By (Cu rfl (Aj rfl) (Aj rfl))<|⟨.inr ⟨by rw[hm,Bf hc,JP];have:=M7 (s.drop (i+1)) (n*10+(c.toNat-48));have q6:=of_decide_eq_false h7;have q7:=of_decide_eq_false h8;have q8:=of_decide_eq_true h9;omega,rfl⟩,hX⟩)))
 refine gP [.sq _,.bk _,.sq _] C4 13 [] (Ar _) (And.intro ⟨oM,oM⟩<|fun _=>?_)
 have hN:(((n:Int)*10+((c.toNat:Int)-48)) % 18446744073709551616)=((n*10+(c.toNat-48):Nat):Int):=by have h1:=of_decide_eq_false h7;have h2:=of_decide_eq_false h8;have h3:=of_decide_eq_false h9;omega
 refine HA (s.length-(i+1)) (oA 0 (S s) 1 (.int .i64 10) 8 (.bool (10==0)) 9 (S s) 10 (.int .u64 1844674407370955162) 11 (.int .u64 9223372036854775807) 12 (.bool false) 13 (.int .u64 ((n*10+(c.toNat-48):Nat):Int)) 99 (.slice (some ⟨bb,0,none⟩) s.length bc) 100 (.int .i64 (s.length:Int)) 101 (.int .i64 ((i+1:Nat):Int))) oM (sA rfl rfl rfl rfl rfl rfl rfl (by rw[← hN];rfl) rfl rfl rfl) ⟨i+1,n*10+(c.toNat-48),rfl,rfl,rfl,oM,by have h1:=of_decide_eq_false h7;have h2:=of_decide_eq_false h8;have h3:=of_decide_eq_false h9;omega,by rw[hm,Bf hc];rfl,hbb,hX⟩
 ·
  exfalso
  have:=of_decide_eq_false h5;omega
 ·
  exfalso
  have:=of_decide_eq_false h4;omega
 exact gP [.sq _] C4 3 [] (Ar _) (fun _=>Oc<|gQ [.bk _,.sq _] C4 24 [] (Ar _) (fun _=>By (Cu rfl (Aj rfl) (Aj rfl))<|⟨.inl ⟨by rw[hm,Jn (by have:=of_decide_eq_false h2;omega)];exact hn,by rw[hm,Jn (by have:=of_decide_eq_false h2;omega)];rfl⟩,hX⟩))
def pS:Ea:=⟨[],[],[],[],[],[],[],[]⟩
theorem CD:pS.Ok Tryz.prog:=⟨trivial,trivial,trivial,trivial,trivial,trivial,trivial,trivial⟩
theorem tA:aH Tryz.prog 228=true:=kR
theorem PU(w:World)(s:List UInt8)(hlen:s.length≤100000)(hne:(s==[])=false)(hd:∀c∈s,48≤c.toNat∧c.toNat≤57) :
  BF Tryz.prog 128 #[S s,.int .i64 10,.int .i64 63] w fun v w'=>((CW 0 s<4611686018427387904∧v=.tuple #[.int .i64 (CW 0 s:Int),.nilIface])∨(4611686018427387904≤CW 0 s∧∃z,v=.tuple #[.int .i64 z,.iface 228 (.int .i64 1)]))∧AV w w':=by
 obtain⟨c0,r0,hs0⟩:∃c r,s=c::r:=by
  cases s with
  |nil=>simp at hne
  |cons c r=>exact⟨c,r,rfl⟩
 have hX:=AV.refl w
 refine enter Tryz.func128 rfl rfl rfl<|gP [] CD 13 [] (Ar _) (fun _=>sP 13 rfl (fun h1=>?_) (fun h1=>?_))
 ·
  exfalso
  rw[hne] at h1;contradiction
 refine gP [.sq _] CD 12 [] (Ar _) (fun _=>Aa rfl (DB (c:=c0) rfl rfl Im dC (by rw[hs0];rfl))<|gL [.sq _,.sq _] CD 9 [] (Ar _) (fun _=>sP 17 rfl (fun h2=>?_) (fun h2=>?_)))
 ·
  exfalso
  have h9:=hd c0 (hs0▸List.mem_cons_self);have:=(beq_iff_eq).1 h2;omega
 refine gP [.bk _,.sq _] CD 7 [] (Ar _) (fun _=>sP 21 rfl (fun h3=>?_) (fun h3=>?_))
 ·
  exfalso
  have h9:=hd c0 (hs0▸List.mem_cons_self);have:=(beq_iff_eq).1 h3;omega
 refine gP [.bk _,.sq _] CD 14 [] (Ar _) (fun _=>A7 rfl (Aw YR rfl rfl) (JA _ s hlen hne hd) ?_)
 rintro _ w1 ⟨(⟨hle,rfl⟩|⟨hgt,rfl⟩),hE1⟩
 replace hX:=hX.trans hE1
 have sz1:=hE1.size
 refine gL [.sq _] CD 11 [] (Ar _) (fun _=>Aa rfl (Il Gy rfl)<|gL [.sq _,.sq _] CD 23 [] (Ar _) (fun _=>Aa rfl (Gb (62) rfl rfl dC)<|Aa rfl (Dh (m:=62) rfl L0 dC)<|Aa rfl (Ke (4611686018427387904) rfl rfl dC dC)<|gL [.sq _] CD 15 [] (Ar _) (fun _=>sP 52 rfl (fun h4=>?_) (fun h4=>?_))))
 exact gP [.sq _] CD 4 [] (Ar _) (fun _=>Aa rfl (Gb (4611686018427387903) rfl rfl dC)<|Aa rfl (Dh (m:=4611686018427387903) rfl L5 dC)<|Aa rfl (BY rfl Ln)<|gL [.sq _,.sq _] CD 6 [] (Ar _) (fun _=>By (Cu rfl (Aj rfl) (Aj rfl))<|⟨.inr ⟨by have:=of_decide_eq_true h4;omega,_,rfl⟩,hX⟩))
 exact gP [.sq _] CD 20 [] (Ar _) (fun _=>Aa rfl (Dh (m:=(CW 0 s:Int)) rfl L5 (IS ⟨oM,by have:=of_decide_eq_false h4;omega⟩))<|gL [.sq _] CD 20 [] (Ar _) (fun _=>By (Cu rfl (Aj rfl) (Aj rfl))<|⟨.inl ⟨by have:=of_decide_eq_false h4;omega,rfl⟩,hX⟩))
 replace hX:=hX.trans hE1
 have sz2:=hE1.size
 refine gL [.sq _] CD 11 [] (Ar _) (fun _=>Aa rfl (KS Gy rfl)<|gL [.sq _,.sq _] CD 2 [] (Ar _) (fun _=>BG rfl rfl rfl<|Aa rfl (BY rfl Ln)<|BG rfl rfl rfl<|Aa rfl (XO Gy tA rfl rfl)<|gL [.sq _,.sq _] CD 19 [] (Ar _) (fun _=>Aa rfl (Gb (62) rfl rfl dC)<|Aa rfl (Dh (m:=62) rfl L0 dC) ?_)))
 exact Aa rfl (Ke (4611686018427387904) rfl rfl dC dC)<|gL [.sq _] CD 19 [] (Ar _) (fun _=>Aa rfl (Gb (4611686018427387903) rfl rfl dC)<|Aa rfl (Dh (m:=4611686018427387903) rfl L5 dC)<|Aa rfl (BY rfl Ln)<|gL [.sq _,.sq _] CD 6 [] (Ar _) (fun _=>By (Cu rfl (Aj rfl) (Aj rfl))<|⟨.inr ⟨oM,_,rfl⟩,hX⟩))
theorem P2(w:World)(r:List UInt8)(hlen:(45::r).length≤100000)(hne:(r==[])=false)(hd:∀c∈r,48≤c.toNat∧c.toNat≤57) :
  BF Tryz.prog 128 #[S (45::r),.int .i64 10,.int .i64 63] w fun v w'=>((CW 0 r<4611686018427387905∧v=.tuple #[.int .i64 (-(CW 0 r:Int)),.nilIface])∨(4611686018427387905≤CW 0 r∧∃z,v=.tuple #[.int .i64 z,.iface 228 (.int .i64 1)]))∧AV w w':=by
 have hne2:((45::r:List UInt8)==[])=false:=rfl
 have hX:=AV.refl w
 refine enter Tryz.func128 rfl rfl rfl<|gP [] CD 13 [] (Ar _) (fun _=>sP 13 rfl (fun h1=>?_) (fun h1=>?_))
 ·
  exfalso
  rw[hne2] at h1;contradiction
 refine gP [.sq _] CD 12 [] (Ar _) (fun _=>Aa rfl (DB (c:=45) rfl rfl Im dC rfl)<|gL [.sq _,.sq _] CD 20 [] (Ar _) (fun _=>Aa rfl (Mj rfl rfl Im)<|gL [.sq _,.bk _,.sq _] CD 18 [] (Ar _) (fun _=>A7 rfl (Aw YR rfl rfl) (JA _ r (by simp only[List.length_cons] at hlen;omega) hne hd) ?_)))
 rintro _ w1 ⟨(⟨hle,rfl⟩|⟨hgt,rfl⟩),hE1⟩
 replace hX:=hX.trans hE1
 have sz1:=hE1.size
 refine gL [.sq _] CD 11 [] (Ar _) (fun _=>Aa rfl (Il Gy rfl)<|gL [.sq _,.sq _] CD 23 [] (Ar _) (fun _=>Aa rfl (Gb (62) rfl rfl dC)<|Aa rfl (Dh (m:=62) rfl L0 dC)<|Aa rfl (Ke (4611686018427387904) rfl rfl dC dC)<|gL [.sq _] CD 29 [] (Ar _) (fun _=>sP 62 rfl (fun h2=>?_) (fun h2=>?_))))
 exact gP [.sq _] CD 4 [] (Ar _) (fun _=>Aa rfl (Dh (m:=4611686018427387904) rfl L5 dC)<|Aa rfl (Lq (-4611686018427387904) rfl dC)<|Aa rfl (BY rfl Ln)<|gL [.sq _,.sq _] CD 6 [] (Ar _) (fun _=>By (Cu rfl (Aj rfl) (Aj rfl))<|⟨.inr ⟨by have:=of_decide_eq_true h2;omega,_,rfl⟩,hX⟩))
 exact gP [.sq _] CD 6 [] (Ar _) (fun _=>Aa rfl (Dh (m:=(CW 0 r:Int)) rfl L5 (IS ⟨oM,by have:=of_decide_eq_false h2;omega⟩))<|gL [.sq _] CD 12 [] (Ar _) (fun _=>Aa rfl (Lq (-(CW 0 r:Int)) rfl (by rw[IS ⟨by omega,by have:=of_decide_eq_false h2;omega⟩];omega))<|gL [.sq _] CD 11 [] (Ar _) (fun _=>By (Cu rfl (Aj rfl) (Aj rfl))<|⟨.inl ⟨by have:=of_decide_eq_false h2;omega,rfl⟩,hX⟩)))
 replace hX:=hX.trans hE1
 have sz2:=hE1.size
 refine gL [.sq _] CD 11 [] (Ar _) (fun _=>Aa rfl (KS Gy rfl)<|gL [.sq _,.sq _] CD 2 [] (Ar _) (fun _=>BG rfl rfl rfl<|Aa rfl (BY rfl Ln)<|BG rfl rfl rfl<|Aa rfl (XO Gy tA rfl rfl)<|gL [.sq _,.sq _] CD 19 [] (Ar _) (fun _=>Aa rfl (Gb (62) rfl rfl dC)<|Aa rfl (Dh (m:=62) rfl L0 dC) ?_)))
 exact Aa rfl (Ke (4611686018427387904) rfl rfl dC dC)<|gL [.sq _] CD 33 [] (Ar _) (fun _=>Aa rfl (Dh (m:=4611686018427387904) rfl L5 dC)<|Aa rfl (Lq (-4611686018427387904) rfl dC)<|Aa rfl (BY rfl Ln)<|gL [.sq _,.sq _] CD 6 [] (Ar _) (fun _=>By (Cu rfl (Aj rfl) (Aj rfl))<|⟨.inr ⟨oM,_,rfl⟩,hX⟩))
end Go.Proofs.YthofplgbhecdcaaGreatDoor
namespace Go.SP
open Go.SW Go.RowKit
theorem HO{α:Type}(p:α→Bool):∀(l:List α),l.dropWhile p=[]↔∀x∈l,p x=true
 | []=>by simp
 |a::l=>by
   have ih:=HO p l
   cases h:p a <;> simp[List.dropWhile,h,ih]
theorem Jp{α:Type}(p:α→Bool):∀(l:List α)(a:α)(r:List α),l.dropWhile p=a::r→p a=false
 | [],_,_,h=>by simp at h
 |b::l,a,r,h=>by
   cases hb:p b with
   |true=>rw[List.dropWhile_cons_of_pos hb] at h;exact Jp p l a r h
   |false=>rw[List.dropWhile_cons_of_neg (by simp[hb])] at h;cases h;exact hb
theorem Yf(s l:List UInt8):HG s l=s.all (l.contains ·):=by
 have key:Lib.trimS s l=[]↔∀x∈s,l.contains x=true:=by
   unfold Lib.trimS Lib.trimLeftS Lib.trimRightS
   rw[HO]
   constructor
   · intro h
     cases hd:s.reverse.dropWhile (l.contains ·) with
     |nil=>intro x hx;exact (HO _ _).1 hd x (by simpa using hx)
     |cons a r =>
       have h1:=Jp _ _ _ _ hd
       have h2:=h a (by rw[hd];simp)
       rw[h1] at h2;cases h2
   · intro h x hx
     exact h x (by have:=(List.dropWhile_suffix (l.contains ·) (l:=s.reverse)).subset (by simpa using hx);simpa using this)
 unfold HG
 cases h:s.all (l.contains ·) with
 |true=>rw[key.2 (by simpa using h)];rfl
 |false =>
   have:¬Lib.trimS s l=[]:=fun e=>by
     have:=key.1 e
     have h2:s.all (l.contains ·)=true:=by simpa using this
     rw[h] at h2;cases h2
   simp[this]
theorem Z5{c:UInt8}(h:Gc.contains c=true):48≤c.toNat∧c.toNat≤57:=by
 simp only[Gc,List.contains_cons,List.contains_nil,Bool.or_false,Bool.or_eq_true,beq_iff_eq] at h
 rcases h with rfl|rfl|rfl|rfl|rfl|rfl|rfl|rfl|rfl|rfl <;> decide
theorem GI{s:List UInt8}(h:ER s=true):(s==[])=false∧∀c∈s,48≤c.toNat∧c.toNat≤57:=by
 unfold ER at h
 rw[Yf,Bool.and_eq_true] at h
 exact⟨by simpa using h.1,fun c hc=>Z5 (List.all_eq_true.1 h.2 c hc)⟩
theorem IQ(r:List UInt8):Bj (45::r)=r:=by
 simp[Bj,Lib.trimPrefix,Lib.hasPrefix,List.isPrefixOf]
theorem I4{s:List UInt8}(h:Oy s=false):Bj s=s:=by
 unfold Bj Lib.trimPrefix
 cases s with
 |nil=>simp
 |cons c r =>
   have:c≠45:=by simpa[Oy] using h
   simp[Lib.hasPrefix,List.isPrefixOf,this.symm]
theorem ON{r:List UInt8}(h:ER r=true):Ie (45::r)=if CW 0 r<4611686018427387905 then some (-(CW 0 r:Int)) else none:=by
 unfold Ie
 rw[IQ,h]
 simp[Oy,Nat.lt_succ_iff]
theorem Pt{s:List UInt8}(hn:Oy s=false)(h:ER s=true):Ie s=if CW 0 s<4611686018427387904 then some (CW 0 s:Int) else none:=by
 unfold Ie
 rw[I4 hn,h,hn]
 simp
theorem KK(s:List UInt8):Oy s=false∨∃r,s=45::r:=by
 cases s with
 |nil=>exact .inl rfl
 |cons c r =>
   by_cases h:c=45
   · exact .inr ⟨r,by rw[h]⟩
   · left;simp[Oy,h]
theorem FO(s:List UInt8):(Bj s).length≤s.length:=by
 rcases KK s with h|⟨r,rfl⟩
 · rw[I4 h];exact Nat.le_refl _
 · rw[IQ];simp
end Go.SP
namespace Go.SP
theorem RP(s t:List UInt8):(Lib.cut s t).1.length≤s.length:=by
 unfold Lib.cut
 split
 · simp only[List.length_take];exact Nat.min_le_right _ _
 · exact Nat.le_refl _
theorem RL(s t:List UInt8):(Lib.cut s t).2.1.length≤s.length:=by
 unfold Lib.cut
 split
 · simp
 · simp
end Go.SP
namespace Go.SP
def rG(s:List UInt8)(a b c d e f g:Bool):Option (Int×Int×List UInt8):=if a||(b&&c) then none else if d&&e then some (6,0,s) else if f&&g then some (5,0,s) else none
theorem CI{s:List UInt8}(hr:Ie s=none)(hf:IT s=none):JC s=rG s (decide ((40:Int)<s.length)) (!(Bj s==[])) (HG (Bj s) Gc) (HG (s.take 1) F3) (HG s (F3++E0++Gc)) (HG (s.take 1) (E0++Gv)) (HG s (F3++E0++Gc++Gv)):=by
 rw[JC,hr]
 simp only[hf]
 rfl
end Go.SP
namespace Go.SP
theorem Pc{p:Ps}{src:List UInt8}{j:Nat}(h:¬j<src.length∨∃c,src[j]?=some c∧((c.toNat:Int) != 10)=false):NQ p (src.drop j)=(src.drop j,p):=by
 rcases h with h|⟨c,hc,h⟩
 · rw[List.drop_eq_nil_of_le (by omega)];rfl
 · rw[Bf hc,NQ,if_neg (by rw[h];decide)]
theorem VE{p:Ps}{src:List UInt8}{j:Nat}{c:UInt8}(hc:src[j]?=some c)(h:((c.toNat:Int) != 10)=true):NQ p (src.drop j)=NQ (adv c p) (src.drop (j+1)):=by
 rw[Bf hc,NQ,if_pos h]
theorem Of{p:Ps}{src:List UInt8}{j:Nat}(h:¬j<src.length∨∃c,src[j]?=some c∧decide (Lib.indexByte Vh c<0)=false):FF p (src.drop j)=([],src.drop j,p):=by
 rcases h with h|⟨c,hc,h⟩
 · rw[List.drop_eq_nil_of_le (by omega)];rfl
 · rw[Bf hc,FF,if_neg (by rw[h];decide)]
theorem TX{p:Ps}{src:List UInt8}{j:Nat}{c:UInt8}(hc:src[j]?=some c)(h:decide (Lib.indexByte Vh c<0)=true) :
   FF p (src.drop j)=(c::(FF (adv c p) (src.drop (j+1))).1,(FF (adv c p) (src.drop (j+1))).2):=by
 rw[Bf hc,FF,if_pos h]
def Fe(src:List UInt8)(i j:Nat):List UInt8:=(src.take j).drop i
theorem TR(src:List UInt8)(i:Nat):Fe src i i=[]:=by
 unfold Fe
 rw[List.drop_eq_nil_of_le (by simp;omega)]
theorem Ta{src:List UInt8}{i j:Nat}{c:UInt8}(hij:i≤j)(hc:src[j]?=some c):Fe src i (j+1)=Fe src i j++[c]:=by
 obtain⟨hl,he⟩:=List.getElem?_eq_some_iff.1 hc
 unfold Fe
 rw[List.take_succ_eq_append_getElem hl,List.drop_append_of_le_length (by simp;omega),he]
theorem AU{src:List UInt8}{i j:Nat}{c:UInt8}(hij:i<j)(hc:src[i]?=some c):Fe src i j=c::Fe src (i+1) j:=by
 unfold Fe
 have:(src.take j)[i]?=some c:=by rw[List.getElem?_take,if_pos hij,hc]
 exact Bf this
theorem Fi(src:List UInt8)(i j:Nat):(Fe src i j).length≤src.length:=by
 unfold Fe
 simp only[List.length_drop,List.length_take]
 omega
section
variable{F i:Nat}{p:Ps}{src:List UInt8}{c:UInt8}
theorem Ed(r:List UInt8):Ee F p (c::r) =
   (if decide ((0:Int)≤Lib.indexByte GA c) then .ok ([],r,adv c p)
   else if (c.toNat:Int)==59 then .ok ([],NQ (adv c p) r)
   else if (c.toNat:Int)==40 then .ok ([⟨0,p.1,p.2,0,[]⟩],r,adv c p)
   else if (c.toNat:Int)==41 then .ok ([⟨1,p.1,p.2,0,[]⟩],r,adv c p)
   else if (c.toNat:Int)==34 then (match Hl p F (adv c p) [] r with
     |.error e=>.error e
     |.ok (tx,r',p')=>.ok ([⟨4,p.1,p.2,0,tx⟩],r',p'))
   else (match JC (c::(FF (adv c p) r).1) with
     |none=>.error p
     |some (k,nm,tx)=>.ok ([⟨k,p.1,p.2,nm,tx⟩],(FF (adv c p) r).2))):=rfl
theorem R9(hc:src[i]?=some c)(h1:decide ((0:Int)≤Lib.indexByte GA c)=true):Ee F p (src.drop i)=.ok ([],src.drop (i+1),adv c p):=by rw[Bf hc,Ed,if_pos h1]
theorem Ph(hc:src[i]?=some c)(h1:decide ((0:Int)≤Lib.indexByte GA c)=false)(h2:((c.toNat:Int)==59)=true):Ee F p (src.drop i)=.ok ([],NQ (adv c p) (src.drop (i+1))):=by
 rw[Bf hc,Ed,if_neg (by rw[h1];decide),if_pos h2]
theorem Sm(hc:src[i]?=some c)(h1:decide ((0:Int)≤Lib.indexByte GA c)=false)(h2:((c.toNat:Int)==59)=false)(h3:((c.toNat:Int)==40)=true):Ee F p (src.drop i)=.ok ([⟨0,p.1,p.2,0,[]⟩],src.drop (i+1),adv c p):=by
 rw[Bf hc,Ed,if_neg (by rw[h1];decide),if_neg (by rw[h2];decide),if_pos h3]
theorem QK(hc:src[i]?=some c)(h1:decide ((0:Int)≤Lib.indexByte GA c)=false)(h2:((c.toNat:Int)==59)=false)(h3:((c.toNat:Int)==40)=false)(h4:((c.toNat:Int)==41)=true):Ee F p (src.drop i)=.ok ([⟨1,p.1,p.2,0,[]⟩],src.drop (i+1),adv c p):=by
 rw[Bf hc,Ed,if_neg (by rw[h1];decide),if_neg (by rw[h2];decide),if_neg (by rw[h3];decide),if_pos h4]
theorem Ik(hc:src[i]?=some c)(h1:decide ((0:Int)≤Lib.indexByte GA c)=false)(h2:((c.toNat:Int)==59)=false)(h3:((c.toNat:Int)==40)=false)(h4:((c.toNat:Int)==41)=false)(h5:((c.toNat:Int)==34)=true) :
   Ee F p (src.drop i)=(match Hl p F (adv c p) [] (src.drop (i+1)) with
     |.error e=>.error e
     |.ok (tx,r',p')=>.ok ([⟨4,p.1,p.2,0,tx⟩],r',p')):=by
 rw[Bf hc,Ed,if_neg (by rw[h1];decide),if_neg (by rw[h2];decide),if_neg (by rw[h3];decide),if_neg (by rw[h4];decide),if_pos h5]
theorem BP(hc:src[i]?=some c)(h1:decide ((0:Int)≤Lib.indexByte GA c)=false)(h2:((c.toNat:Int)==59)=false)(h3:((c.toNat:Int)==40)=false)(h4:((c.toNat:Int)==41)=false)(h5:((c.toNat:Int)==34)=false) :
   Ee F p (src.drop i)=(match JC (c::(FF (adv c p) (src.drop (i+1))).1) with
     |none=>.error p
     |some (k,nm,tx)=>.ok ([⟨k,p.1,p.2,nm,tx⟩],(FF (adv c p) (src.drop (i+1))).2)):=by
 rw[Bf hc,Ed,if_neg (by rw[h1];decide),if_neg (by rw[h2];decide),if_neg (by rw[h3];decide),if_neg (by rw[h4];decide),if_neg (by rw[h5];decide)]
end
end Go.SP
namespace Go.SP
theorem LV(F n:Nat)(p:Ps):Is F n p []=.ok []:=by cases n <;> rfl
def SS(t:List AT):Except Ps (List AT)→Except Ps (List AT)
 |.error e=>.error e
 |.ok l=>.ok (t++l)
theorem Zj(x:Except Ps (List AT)):SS [] x=x:=by cases x <;> rfl
theorem I6(F n:Nat)(p:Ps)(c:UInt8)(r:List UInt8):Is F (n+1) p (c::r)=(match Ee F p (c::r) with
   |.error e=>.error e
   |.ok (t,r',p')=>match Is F n p' r' with
     |.error e=>.error e
     |.ok l=>.ok (t++l)):=rfl
theorem W7{F n j:Nat}{q e:Ps}{src:List UInt8}{c:UInt8}(hc:src[j]?=some c)(he:Ee F q (src.drop j)=.error e):Is F (n+1) q (src.drop j)=.error e:=by
 rw[Bf hc] at he ⊢
 rw[I6,he]
theorem T9{F n j:Nat}{q p1:Ps}{src r1:List UInt8}{c:UInt8}{toks ot:List AT}{x:Except Ps (List AT)}(hc:src[j]?=some c)(hs:Ee F q (src.drop j)=.ok (ot,r1,p1))
   (hm:x=SS toks (Is F (n+1) q (src.drop j))):x=SS (toks++ot) (Is F n p1 r1):=by
 rw[Bf hc] at hs hm
 rw[hm,I6,hs]
 simp only[]
 cases Is F n p1 r1 with
 |error e=>rfl
 |ok l=>simp[SS]
theorem O3{F:Nat}{p p1:Ps}{l r:List UInt8}{ot:List AT}(h:Ee F p l=.ok (ot,r,p1)):ot.length≤1:=by
 cases l with
 |nil=>cases h
 |cons c r =>
   rw[Ed] at h
   repeat' split at h
   all_goals first
     |(simp only[Except.ok.injEq,Prod.mk.injEq] at h;rw[← h.1];simp)
     |cases h
end Go.SP
namespace Go.Proofs.YthofplgbhecdcaaGreatDoor
open Go.SW Go.SP Go.RowKit
def rD:Ea:=⟨[],[],[],[],[],[],[],[]⟩
theorem HD:rD.Ok Tryz.prog:=⟨trivial,trivial,trivial,trivial,trivial,trivial,trivial,trivial⟩
theorem NG(w:World)(s:List UInt8)(hlen:s.length≤100000)(hD:ER (Bj s)=true) :
  BF Tryz.prog 128 #[S s,.int .i64 10,.int .i64 63] w fun v w'=>((∃n,Ie s=some n∧v=.tuple #[.int .i64 n,.nilIface])∨(Ie s=none∧∃z,v=.tuple #[.int .i64 z,.iface 228 (.int .i64 1)]))∧AV w w':=by
 rcases KK s with hn|⟨r,rfl⟩
 ·
  rw[I4 hn] at hD
  obtain⟨h1,h2⟩:=GI hD
  refine (PU w s hlen h1 h2).mono ?_
  rintro v w' ⟨⟨hl,rfl⟩|⟨hg,z,rfl⟩,hE⟩
  · exact⟨.inl ⟨_,by rw[Pt hn hD,if_pos hl],rfl⟩,hE⟩
  · exact⟨.inr ⟨by rw[Pt hn hD,if_neg (by omega)],z,rfl⟩,hE⟩
 ·
  rw[IQ] at hD
  obtain⟨h1,h2⟩:=GI hD
  refine (P2 w r hlen h1 h2).mono ?_
  rintro v w' ⟨⟨hl,rfl⟩|⟨hg,z,rfl⟩,hE⟩
  · exact⟨.inl ⟨_,by rw[ON hD,if_pos hl],rfl⟩,hE⟩
  · exact⟨.inr ⟨by rw[ON hD,if_neg (by omega)],z,rfl⟩,hE⟩
theorem O2(w:World)(hG:Gl w)(s:List UInt8)(hlen:s.length≤100000)(hD:ER (Bj s)=true) :
  BF Tryz.prog 111 #[S s,.int .i64 10,.int .i64 63] w fun v w'=>((∃n,Ie s=some n∧v=.tuple #[.int .i64 n,.nilIface])∨(Ie s=none∧∃z T u,v=.tuple #[.int .i64 z,.iface T u]))∧AV w w':=by
 have hX:=AV.refl w
 refine enter Tryz.func111 rfl rfl rfl<|gP [] HD 11 [] (Ar _) (fun _=>A7 rfl (Aw kY rfl rfl) (NG _ s hlen hD) ?_)
 rintro _ w1 ⟨(⟨n,hr,rfl⟩|⟨hr,z,rfl⟩),hE1⟩
 replace hX:=hX.trans hE1
 have sz1:=hE1.size
 exact gL [.sq _] HD 11 [] (Ar _) (fun _=>Aa rfl (Il Gy rfl)<|gL [.sq _,.sq _] HD 13 [] (Ar _) (fun _=>By (Cu rfl (Aj rfl) (Aj rfl))<|⟨.inl ⟨n,hr,rfl⟩,hX⟩))
 replace hX:=hX.trans hE1
 have sz2:=hE1.size
 refine gL [.sq _] HD 11 [] (Ar _) (fun _=>Aa rfl (KS Gy rfl)<|gL [.sq _,.sq _] HD 10 [] (Ar _) (fun _=>A7 rfl (Aw fR rfl rfl) (PR _ (hG.ext hX) _ s _ _ hlen) ?_))
 rintro _ w2 ⟨⟨eT,eV,rfl⟩,hE2⟩
 replace hX:=hX.trans hE2
 have sz3:=hE2.size
 exact gL [.sq _,.sq _] HD 6 [] (Ar _) (fun _=>By (Cu rfl (Aj rfl) (Aj rfl))<|⟨.inr ⟨hr,z,_,_,rfl⟩,hX⟩)
theorem WW(w:World)(hG:Gl w)(s:List UInt8)(hlen:s.length≤100000) :
  BF Tryz.prog 86 #[S s] w fun v w'=>((∃n,Ie s=some n∧v=.tuple #[.int .i64 n,.int .i64 0])∨(Ie s=none∧∃e:Int,(e==0)=false∧v=.tuple #[.int .i64 0,.int .i64 e]))∧AV w w':=by
 have hX:=AV.refl w
 refine enter Tryz.func86 rfl rfl rfl<|gP [] HD 10 [] (Ar _) (fun _=>A7 rfl (Aw XR rfl rfl) (G3 _ s [45]) ?_)
 rintro _ w1 ⟨rfl,hE1⟩
 replace hX:=hX.trans hE1
 have sz1:=hE1.size
 refine A7 rfl (Aw TI rfl rfl) (JM _ (Bj s) (by have:=FO s;omega)) ?_
 rintro _ w2 ⟨rfl,hE2⟩
 replace hX:=hX.trans hE2
 have sz2:=hE2.size
 refine gL [.sq _,.sq _] HD 3 [] (Ar _) (fun _=>sP 9 rfl (fun h1=>?_) (fun h1=>?_))
 replace h1:=FL h1
 exact gP [.sq _] HD 9 [] (Ar _) (fun _=>By (Cu rfl (Aj rfl) (Aj rfl))<|⟨.inr ⟨by rw[Ie,h1];rfl,2,dC,rfl⟩,hX⟩)
 replace h1:=Gn h1
 refine gP [.sq _] HD 6 [] (Ar _) (fun _=>A7 rfl (Aw jZ rfl rfl) (O2 _ (hG.ext hX) s hlen h1) ?_)
 rintro _ w3 ⟨(⟨n,hr,rfl⟩|⟨hr,z,eT,eV,rfl⟩),hE3⟩
 replace hX:=hX.trans hE3
 have sz3:=hE3.size
 exact gL [.sq _] HD 11 [] (Ar _) (fun _=>Aa rfl (Il Gy rfl)<|gL [.sq _,.sq _] HD 13 [] (Ar _) (fun _=>By (Cu rfl (Aj rfl) (Aj rfl))<|⟨.inl ⟨n,hr,rfl⟩,hX⟩))
 replace hX:=hX.trans hE3
 have sz4:=hE3.size
 exact gL [.sq _] HD 11 [] (Ar _) (fun _=>Aa rfl (KS Gy rfl)<|gL [.sq _,.sq _] HD 11 [] (Ar _) (fun _=>By (Cu rfl (Aj rfl) (Aj rfl))<|⟨.inr ⟨hr,4,dC,rfl⟩,hX⟩))
def mV:Prop:=∀(w:World)(s a b:List UInt8),Gl w→s.length≤100000→HS s=some (a,b)→BF Tryz.prog 113 #[S s,.int .i64 64] w fun v w'=>v=.tuple #[.float .f64 (Mh (Oy s) a b),.nilIface]∧AV w w'
def sG:Ea:=⟨[],[],[9],[],[],[],[],[]⟩
theorem Db:sG.Ok Tryz.prog:=⟨trivial,trivial,(And.intro Im trivial),trivial,trivial,trivial,trivial,trivial⟩
theorem gI:Extern.findNext Tryz.f133=none:=kR
theorem kH:Extern.find Tryz.f133=some Extern.MathFloatBits.float64bits:=kR
theorem Td(w:World)(f:Nat) :
  BF Tryz.prog 132 #[.float .f64 f] w fun v w'=>v=.bool (!(Op.floatEq .f64 f f))∧AV w w':=by
 have hX:=AV.refl w
 exact enter Tryz.func132 rfl rfl rfl<|gP [] Db 9 [] (Ar _) (fun _=>Aa rfl (gX rfl rfl)<|gL [.sq _] Db 4 [] (Ar _) (fun _=>By (AI rfl (Aj rfl))<|⟨rfl,hX⟩))
theorem bV(w:World)(f:Nat) :
  BF Tryz.prog 114 #[.float .f64 f] w fun v w'=>v=.int .u64 ((if Op.floatEq .f64 f f then f else 9221120237041090560:Nat):Int)∧AV w w':=by
 have hX:=AV.refl w
 refine enter Tryz.func114 rfl rfl rfl<|gP [] Db 9 [] (Ar _) (fun _=>A7 rfl (Aw gU rfl rfl) (Td _ f) ?_)
 rintro _ w1 ⟨rfl,hE1⟩
 replace hX:=hX.trans hE1
 have sz1:=hE1.size
 refine gL [.sq _,.sq _] Db 2 [] (Ar _) (fun _=>sP 4 rfl (fun h1=>?_) (fun h1=>?_))
 refine gP [.sq _] Db 8 [] (Ar _) (fun _=>By (AI rfl (Aj rfl))<|⟨?_,hX⟩)
 have hq:=h1
 simp at hq
 simp[hq]
 refine gP [.sq _] Db 6 [] (Ar _) (fun _=>Aa rfl (YT Tryz.func133 rfl rfl gI kH rfl rfl rfl)<|gL [.sq _] Db 4 [] (Ar _) (fun _=>By (AI rfl (Aj rfl))<|⟨?_,hX⟩))
 have hq:=h1
 simp at hq
 simp[hq]
theorem Om(hPF:mV)(w:World)(hG:Gl w)(s:List UInt8)(hlen:s.length≤100000) :
  BF Tryz.prog 87 #[S s] w fun v w'=>((∃x:Nat,IT s=some x∧v=.tuple #[.int .u64 (x:Int),.int .i64 0])∨(IT s=none∧∃e:Int,(e==0)=false∧v=.tuple #[.int .u64 0,.int .i64 e]))∧AV w w':=by
 have hcl1:=RP (Bj s) [46]
 have hcl2:=RL (Bj s) [46]
 have hwl:=FO s
 have hX:=AV.refl w
 refine enter Tryz.func87 rfl rfl rfl<|gP [] Db 9 [] (Ar _) (fun _=>A7 rfl (Aw XR rfl rfl) (G3 _ s [45]) ?_)
 rintro _ w1 ⟨rfl,hE1⟩
 replace hX:=hX.trans hE1
 have sz1:=hE1.size
 refine A7 rfl (Aw fB rfl rfl) (Xu _ (hG.ext hX) (Bj s) [46] (by have:=FO s;omega)) ?_
 rintro _ w2 ⟨rfl,hE2⟩
 replace hX:=hX.trans hE2
 have sz2:=hE2.size
 refine gL [.sq _] Db 16 [] (Ar _) (fun _=>sL 19 rfl (fun h1=>?_) (fun h1=>?_))
 replace h1:=FL h1
 refine gL [.sq _,.bk _,.sq _] Db 22 [] (Ar _) (fun _=>By (Cu rfl (Aj rfl) (Aj rfl))<|⟨.inr ⟨?_,2,dC,rfl⟩,hX⟩)
 rw[IT,HS,if_neg]
 simp[h1]
 replace h1:=Gn h1
 refine gL [.sq _,.bk _,.sq _] Db 1 [] (Ar _) (fun _=>BG rfl rfl rfl<|A7 rfl (Aw TI rfl rfl) (JM _ (Lib.cut (Bj s) [46]).1 (by have:=RP (Bj s) [46];have:=FO s;omega)) ?_)
 rintro _ w3 ⟨rfl,hE3⟩
 replace hX:=hX.trans hE3
 have sz3:=hE3.size
 refine gL [.sq _,.bk _,.sq _] Db 3 [] (Ar _) (fun _=>sL 24 rfl (fun h2=>?_) (fun h2=>?_))
 replace h2:=FL h2
 refine gL [.sq _,.bk _,.sq _] Db 17 [] (Ar _) (fun _=>By (Cu rfl (Aj rfl) (Aj rfl))<|⟨.inr ⟨?_,2,dC,rfl⟩,hX⟩)
 rw[IT,HS,if_neg]
 simp[h1,h2]
 replace h2:=Gn h2
 refine gL [.sq _,.bk _,.sq _] Db 1 [] (Ar _) (fun _=>BG rfl rfl rfl<|A7 rfl (Aw TI rfl rfl) (JM _ (Lib.cut (Bj s) [46]).2.1 (by have:=RL (Bj s) [46];have:=FO s;omega)) ?_)
 rintro _ w4 ⟨rfl,hE4⟩
 replace hX:=hX.trans hE4
 have sz4:=hE4.size
 refine gL [.sq _,.bk _,.sq _] Db 5 [] (Ar _) (fun _=>sP 16 rfl (fun h3=>?_) (fun h3=>?_))
 replace h3:=FL h3
 refine gP [.bk _,.sq _] Db 10 [] (Ar _) (fun _=>By (Cu rfl (Aj rfl) (Aj rfl))<|⟨.inr ⟨?_,2,dC,rfl⟩,hX⟩)
 rw[IT,HS,if_neg]
 simp[h1,h2,h3]
 replace h3:=Gn h3
 refine gP [.bk _,.sq _] Db 12 [] (Ar _) (And.intro ⟨oM,oM⟩<|fun _=>sP 29 rfl (fun h4=>?_) (fun h4=>?_))
 refine gP [.bk _,.sq _] Db 10 [] (Ar _) (fun _=>By (Cu rfl (Aj rfl) (Aj rfl))<|⟨.inr ⟨?_,4,dC,rfl⟩,hX⟩)
 rw[IT,HS,if_neg]
 have h9:=h4
 simp at h9
 simp[h1,h2,h3] <;> omega
 refine gP [.bk _,.sq _] Db 5 [] (Ar _) (fun _=>?_)
 have hform:HS s=some ((Lib.cut (Bj s) [46]).1,(Lib.cut (Bj s) [46]).2.1):=by
  unfold HS
  rw[if_pos]
  have h9:=h4;simp at h9
  simp[h1,h2,h3] <;> omega
 refine gP [.sq _] Db 2 [] (Ar _) (fun _=>A7 rfl (Aw hZ rfl rfl) (hPF _ s _ _ (hG.ext hX) hlen hform) ?_)
 rintro _ w5 ⟨rfl,hE5⟩
 replace hX:=hX.trans hE5
 have sz5:=hE5.size
 refine gL [.sq _] Db 11 [] (Ar _) (fun _=>Aa rfl (Il Gy rfl)<|gL [.sq _,.sq _] Db 8 [] (Ar _) (fun _=>A7 rfl (Aw kL rfl rfl) (bV _ _) ?_))
 rintro _ w6 ⟨rfl,hE6⟩
 replace hX:=hX.trans hE6
 have sz6:=hE6.size
 exact gL [.sq _] Db 5 [] (Ar _) (fun _=>By (Cu rfl (Aj rfl) (Aj rfl))<|⟨.inl ⟨_,by rw[IT,hform],rfl⟩,hX⟩)
theorem TB(w:World)(x:Nat) :
  BF Tryz.prog 88 #[.int .u64 (x:Int)] w fun v w'=>v=S (N3 x)∧AV w w':=by
 have hX:=AV.refl w
 refine enter Tryz.func88 rfl rfl rfl<|gP [] Db 17 [] (Ar _) (fun _=>?_)
 refine Eh (fun k σ ds w'=>∃(j:Nat)(acc:List UInt8)(ra:Option Addr)(rc:Nat),k=j∧ds=[]∧σ=(E3 0 (.int .u64 (x:Int)) 3 (.slice ra acc.length rc) 4 (.int .i64 (8*(j:Int)-8)))∧j≤8∧N3 x=acc++OQ x j∧acc.length+j=8∧Ck w' 5 1 ra rc acc.length (bC acc)∧(∀y,rb ra=some y→w.heap.size≤y)∧AV w w') 8 (E3 0 (.int .u64 (x:Int)) 3 (.slice none 0 0) 4 (.int .i64 (8*((8:Nat):Int)-8))) lE ⟨8,[],none,0,rfl,rfl,rfl,Nat.le_refl _,rfl,rfl,G9 _ _ _,(fun y hy=>by cases hy),hX⟩ ?_
 rintro j _ _ wl ⟨_,acc,ra,rc,rfl,rfl,rfl,hj,hm,hal,hrow,hlow,hX⟩
 have szl:=hX.size
 have hlowl:∀y,rb ra=some y→y<wl.heap.size:=fun y hy=>hrow.lt hy
 refine gP [] Db 7 [] (Ar _) (fun _=>sP 6 rfl (fun h1=>?_) (fun h1=>?_))
 refine gP [.sq _] Db 9 [] (Ar _) (fun _=>?_)
 obtain⟨j,rfl⟩:∃j1,j=j1+1:=⟨j-1,by have:=of_decide_eq_true h1;omega⟩
 refine Aa rfl (Vk ((x / 2 ^ (8*j):Nat):Int) rfl rfl oM (by rw[show (8*((j+1:Nat):Int)-8).toNat=8*j by omega,show min (8*j) IntKind.u64.bits=8*j by simp[IntKind.bits];omega];exact S8 _ _))<|Aa rfl (Dh (m:=((UInt8.ofNat (x / 2 ^ (8*j))).toNat:Int)) rfl aJ (jC _))<|Cj rfl rfl Pl sF rfl rfl rfl rfl rfl fun b1 w1 hb1 hE1 hs1 hz1=>?_
 replace hrow:=hrow.ext hE1
 replace hX:=hX.trans hE1
 refine Be rfl YL rfl rfl rfl rfl hrow hb1 rfl rfl oM oM fun ra2 rc2 w2 hr2 hG=>?_
 have hlow2:∀y,rb ra2=some y→w.heap.size≤y:=Ca hG hlow oM
 replace hX:=hX.grow hG hlow
 refine gL [.bk _,.sq _] Db 9 [] (Ar _) (And.intro ⟨oM,oM⟩<|fun _=>?_)
 have hl2:acc.length+1=(acc++[UInt8.ofNat (x / 2 ^ (8*j))]).length:=by simp
 refine HA j (E3 0 (.int .u64 (x:Int)) 3 (.slice ra2 (acc++[UInt8.ofNat (x / 2 ^ (8*j))]).length rc2) 4 (.int .i64 (8*(j:Int)-8))) oM (tS rfl (hl2▸rfl) (congrArg (fun z:Int=>some (Value.int .i64 z)) (show (8*((j+1:Nat):Int)-8)-8=8*(j:Int)-8 by omega))) ⟨j,acc++[UInt8.ofNat (x / 2 ^ (8*j))],ra2,rc2,rfl,rfl,rfl,oM,by rw[hm];simp[OQ],by rw[← hl2];omega,by rw[← hl2,bC_app];exact hr2,hlow2,hX⟩
 refine gP [.sq _] Db 3 [] (Ar _) (fun _=>Oc<|gQ [.bk _,.sq _] Db 5 [] (Ar _) (fun _=>Aa rfl (Yn rfl R4 hrow)<|gL [.sq _] Db 4 [] (Ar _) (fun _=>By (AI rfl (Aj rfl)) ?_)))
 have hj0:j=0:=by have:=of_decide_eq_false h1;omega
 subst hj0
 exact⟨by rw[hm];simp[OQ],hX⟩
def pZ:Ea:=⟨[],[],[9],[],[(25,true,2)],[(79,[.int .i64 0,.int .i64 0,.int .i64 0,.int .i64 0,.string ⟨#[]⟩]),(74,[.int .i64 0,.int .i64 0])],[(79,[(0,1),(1,2),(3,1),(4,1)]),(74,[(0,2)])],[]⟩
theorem Br:pZ.Ok Tryz.prog:=⟨trivial,trivial,(And.intro Im trivial),trivial,(And.intro Hw trivial),(And.intro FU (And.intro ZW trivial)),(And.intro VK (And.intro eY trivial)),trivial⟩
theorem Fg(hPF:mV)(w:World)(hG:Gl w)(s:List UInt8)(hlen:s.length≤100000)(hne:s≠[])(at1:Ps) :
  BQ Tryz.prog 62 #[S s,.agg #[.int .i64 at1.1,.int .i64 at1.2]] w (fun v w'=>∃k nm tx,JC s=some (k,nm,tx)∧v=.agg #[.int .i64 k,.int .i64 at1.1,.int .i64 at1.2,.int .i64 nm,S tx]∧AV w w') (fun c w'=>JC s=none∧c=QI 74 at1∧AV w w'):=by
 have hne1:(1:Int)≤s.length:=by
  cases s with
  |nil=>exact absurd rfl hne
  |cons a r=>simp only[List.length_cons];omega
 have hX:=AV.refl w
 refine IF Tryz.func62 rfl rfl rfl<|gP [] Br 2 [] (Ar _) (fun _=>En rfl rfl rfl fun b1 w1 hb1 hE1 hs1 hz1=>?_)
 replace hX:=hX.trans hE1
 refine CO rfl FU fun b2 w2 hb2 hE2 hs2 hz2=>?_
 replace hb1:=hb1.ext hE2
 replace hX:=hX.trans hE2
 refine gL [.sq _] Br 6 [] (Ar _) (fun _=>A7 rfl (Aw nK rfl rfl) (WW _ (hG.ext hX) s hlen) ?_)
 rintro _ w3 ⟨(⟨n,hr,rfl⟩|⟨hr,er,her,rfl⟩),hE3⟩
 replace hb1:=hb1.ext hE3
 replace hb2:=hb2.ext hE3
 replace hX:=hX.trans hE3
 have sz1:=hE3.size
 refine gL [.sq _,.sq _] Br 19 [0,0] (kB hb1 (Ar _)) (y2<|fun _=>A4 rfl rfl rfl Hh rfl hb2 rfl rfl fun w4 hb3 hC1=>?_)
 replace hb1:=hb1.chg hC1 oM
 replace hX:=hX.chg hC1 oM
 have sz2:=hC1.size
 exact gL [.sq _,.sq _] Br 4 [] (Ar _) (fun _=>By (AI rfl (Ac rfl Hh hb3 rfl))<|⟨2,n,[],by rw[JC,hr],rfl,hX⟩)
 replace hb1:=hb1.ext hE3
 replace hb2:=hb2.ext hE3
 replace hX:=hX.trans hE3
 have sz3:=hE3.size
 refine gL [.sq _,.sq _] Br 13 [] (Ar _) (fun _=>kP 16 false rfl her<|gP [.sq _] Br 7 [] (Ar _) (fun _=>A7 rfl (Aw mT rfl rfl) (Om hPF _ (hG.ext hX) s hlen) ?_))
 rintro _ w5 ⟨(⟨x,hf,rfl⟩|⟨hf,ef,hef,rfl⟩),hE4⟩
 replace hb1:=hb1.ext hE4
 replace hb2:=hb2.ext hE4
 replace hX:=hX.trans hE4
 have sz4:=hE4.size
 refine gL [.sq _,.sq _] Br 15 [] (Ar _) (fun _=>?_)
 have hr1:=hb1
 refine Ei mixed (A8 w5 [b1]) [(true,0),(true,1),(false,2),(true,3),(false,4)] kR kR rfl rfl fun w6 hE5 hz3=>?_
 have hKp:A8 w5 [b1] w6:=A8.cons hr1 hE5 (A8.nil _ _)
 refine⟨hKp,?_⟩
 replace hb1:=hb1.ext hE5
 replace hb2:=hb2.ext hE5
 replace hX:=hX.trans hE5
 refine A2 rfl (fun _ hS=>Dt rfl Hw (hr1.keep hS (.head _)) rfl)<|A2 rfl (fun _ hS=>A0 rfl)<|EZ<|A7 rfl (Aw mW rfl rfl) (TB _ x) ?_
 rintro _ w7 ⟨rfl,hE6⟩
 replace hb1:=hb1.ext hE6
 replace hb2:=hb2.ext hE6
 replace hX:=hX.trans hE6
 replace hKp:=hKp.ext hE6
 have sz5:=hE6.size
 refine Ab (Hq hKp<|A2 rfl (fun _ hS=>DK rfl VK FU rfl)<|EZ<|A4 rfl rfl rfl Hh rfl hb2 rfl rfl fun w8 hb4 hC2=>?_)
 replace hb1:=hb1.chg hC2 oM
 replace hX:=hX.chg hC2 oM
 replace hKp:=hKp.chg hC2 nM
 have sz6:=hC2.size
 exact Ab (Hq hKp<|Em<|gQ [.sq _,.sq _] Br 3 [] (Ar _) (fun _=>By (AI rfl (Ac rfl Hh hb4 rfl))<|⟨3,0,N3 x,by rw[JC,hr];simp only[hf],rfl,hX⟩))
 replace hb1:=hb1.ext hE4
 replace hb2:=hb2.ext hE4
 replace hX:=hX.trans hE4
 have sz7:=hE4.size
 refine gL [.sq _,.sq _] Br 13 [] (Ar _) (fun _=>kP 26 false rfl hef<|gP [.sq _] Br 6 [] (Ar _) (fun _=>A7 rfl (Aw XR rfl rfl) (G3 _ s [45]) ?_))
 rintro _ w9 ⟨rfl,hE7⟩
 replace hb1:=hb1.ext hE7
 replace hb2:=hb2.ext hE7
 replace hX:=hX.trans hE7
 have sz8:=hE7.size
 refine gL [.sq _] Br 11 [] (Ar _) (fun _=>sL 37 rfl (fun h1=>?_) (fun h1=>?_))
 exact gL [.sq _,.bk _,.sq _] Br 17 [0,0] (kB hb1 (Ar _)) (y2<|fun _=>Aa rfl (BY rfl J3)<|Ct (BM rfl) (And.intro rfl<|⟨by rw[CI hr hf,h1];rfl,rfl,hX⟩))
 refine gL [.sq _,.bk _,.sq _] Br 3 [] (Ar _) (fun _=>sL 40 rfl (fun h2=>?_) (fun h2=>?_))
 refine gL [.sq _,.bk _,.sq _] Br 1 [] (Ar _) (fun _=>BG rfl rfl rfl<|A7 rfl (Aw HV rfl rfl) (CN _ (Bj s) (by have:=FO s;omega) Gc dC dC) ?_)
 rintro _ w10 ⟨rfl,hE8⟩
 replace hb1:=hb1.ext hE8
 replace hb2:=hb2.ext hE8
 replace hX:=hX.trans hE8
 have sz9:=hE8.size
 refine gL [.sq _,.bk _,.sq _] Br 5 [] (Ar _) (fun _=>sP 33 rfl (fun h3=>?_) (fun h3=>?_))
 refine gP [.bk _,.sq _] Br 7 [0,0] (kB hb1 (Ar _)) (y2<|fun _=>Aa rfl (BY rfl J3)<|Ct (BM rfl) (And.intro rfl ?_))
 have hw9:(!(Bj s==[]))=true:=h2
 exact⟨by rw[CI hr hf,h1,hw9,h3];rfl,rfl,hX⟩
 refine gP [.bk _,.sq _] Br 4 [] (Ar _) (fun _=>Aa rfl (HZ rfl rfl Im ⟨dC,hne1⟩)<|A7 rfl (Aw HV rfl rfl) (CN _ (s.take 1) (by simp only[List.length_take];omega) F3 dC dC) ?_)
 rintro _ w11 ⟨rfl,hE9⟩
 replace hb1:=hb1.ext hE9
 replace hb2:=hb2.ext hE9
 replace hX:=hX.trans hE9
 have sz10:=hE9.size
 refine Aa rfl (A0 rfl)<|sL 49 rfl (fun h4=>?_) (fun h4=>?_)
 refine gL [.sq _,.bk _,.sq _] Br 1 [] (Ar _) (fun _=>BG rfl rfl rfl<|A7 rfl (Aw HV rfl rfl) (CN _ (s) oM (F3++E0++Gc) dC dC) ?_)
 rintro _ w12 ⟨rfl,hE10⟩
 replace hb1:=hb1.ext hE10
 replace hb2:=hb2.ext hE10
 replace hX:=hX.trans hE10
 have sz11:=hE10.size
 refine gL [.sq _,.bk _,.sq _] Br 4 [] (Ar _) (fun _=>sP 45 rfl (fun h5=>?_) (fun h5=>?_))
 refine gP [.bk _,.sq _] Br 6 [0,0] (kB hb1 (Ar _)) (y2<|fun _=>A4 rfl rfl rfl Hh rfl hb2 rfl rfl fun w13 hb5 hC3=>?_)
 replace hb1:=hb1.chg hC3 oM
 replace hX:=hX.chg hC3 oM
 have sz12:=hC3.size
 refine gL [.sq _,.bk _,.sq _] Br 5 [] (Ar _) (fun _=>By (AI rfl (Ac rfl Hh hb5 rfl)) ?_)
 have hw9:(!(Bj s==[]))=true:=h2
 exact⟨6,0,s,by rw[CI hr hf,h1,hw9,h3,h4,h5];rfl,rfl,hX⟩
 refine gP [.bk _,.sq _] Br 4 [] (Ar _) (fun _=>Aa rfl (HZ rfl rfl Im ⟨dC,hne1⟩)<|A7 rfl (Aw HV rfl rfl) (CN _ (s.take 1) (by simp only[List.length_take];omega) (E0++Gv) dC dC) ?_)
 rintro _ w14 ⟨rfl,hE11⟩
 replace hb1:=hb1.ext hE11
 replace hb2:=hb2.ext hE11
 replace hX:=hX.trans hE11
 have sz13:=hE11.size
 refine Aa rfl (A0 rfl)<|sL 60 rfl (fun h6=>?_) (fun h6=>?_)
 refine gL [.sq _,.bk _,.sq _] Br 1 [] (Ar _) (fun _=>BG rfl rfl rfl<|A7 rfl (Aw HV rfl rfl) (CN _ (s) oM (F3++E0++Gc++Gv) dC dC) ?_)
 rintro _ w15 ⟨rfl,hE12⟩
 replace hb1:=hb1.ext hE12
 replace hb2:=hb2.ext hE12
 replace hX:=hX.trans hE12
 have sz14:=hE12.size
 refine gL [.sq _,.bk _,.sq _] Br 4 [] (Ar _) (fun _=>sP 56 rfl (fun h7=>?_) (fun h7=>?_))
 refine gP [.bk _,.sq _] Br 6 [0,0] (kB hb1 (Ar _)) (y2<|fun _=>A4 rfl rfl rfl Hh rfl hb2 rfl rfl fun w16 hb6 hC4=>?_)
 replace hb1:=hb1.chg hC4 oM
 replace hX:=hX.chg hC4 oM
 have sz15:=hC4.size
 refine gL [.sq _,.bk _,.sq _] Br 5 [] (Ar _) (fun _=>By (AI rfl (Ac rfl Hh hb6 rfl)) ?_)
 have hw9:(!(Bj s==[]))=true:=h2
 exact⟨5,0,s,by rw[CI hr hf,h1,hw9,h3,h4,h5,h6,h7];rfl,rfl,hX⟩
 refine gP [.bk _,.sq _] Br 7 [0,0] (kB hb1 (Ar _)) (y2<|fun _=>Aa rfl (BY rfl J3)<|Ct (BM rfl) (And.intro rfl ?_))
 have hw9:(!(Bj s==[]))=true:=h2
 exact⟨by rw[CI hr hf,h1,hw9,h3,h4,h5,h6,h7];rfl,rfl,hX⟩
 refine gL [.sq _,.bk _,.sq _] Br 13 [0,0] (kB hb1 (Ar _)) (y2<|fun _=>Aa rfl (BY rfl J3)<|Ct (BM rfl) (And.intro rfl ?_))
 have hw9:(!(Bj s==[]))=true:=h2
 exact⟨by rw[CI hr hf,h1,hw9,h3,h4,h5,h6];rfl,rfl,hX⟩
 refine gL [.sq _,.bk _,.sq _] Br 10 [] (Ar _) (fun _=>Aa rfl (HZ rfl rfl Im ⟨dC,hne1⟩)<|A7 rfl (Aw HV rfl rfl) (CN _ (s.take 1) (by simp only[List.length_take];omega) (E0++Gv) dC dC) ?_)
 rintro _ w17 ⟨rfl,hE13⟩
 replace hb1:=hb1.ext hE13
 replace hb2:=hb2.ext hE13
 replace hX:=hX.trans hE13
 have sz16:=hE13.size
 refine Aa rfl (A0 rfl)<|sL 60 rfl (fun h8=>?_) (fun h8=>?_)
 refine gL [.sq _,.bk _,.sq _] Br 1 [] (Ar _) (fun _=>BG rfl rfl rfl<|A7 rfl (Aw HV rfl rfl) (CN _ (s) oM (F3++E0++Gc++Gv) dC dC) ?_)
 rintro _ w18 ⟨rfl,hE14⟩
 replace hb1:=hb1.ext hE14
 replace hb2:=hb2.ext hE14
 replace hX:=hX.trans hE14
 have sz17:=hE14.size
 refine gL [.sq _,.bk _,.sq _] Br 4 [] (Ar _) (fun _=>sP 56 rfl (fun h9=>?_) (fun h9=>?_))
 refine gP [.bk _,.sq _] Br 6 [0,0] (kB hb1 (Ar _)) (y2<|fun _=>A4 rfl rfl rfl Hh rfl hb2 rfl rfl fun w19 hb7 hC5=>?_)
 replace hb1:=hb1.chg hC5 oM
 replace hX:=hX.chg hC5 oM
 have sz18:=hC5.size
 refine gL [.sq _,.bk _,.sq _] Br 5 [] (Ar _) (fun _=>By (AI rfl (Ac rfl Hh hb7 rfl)) ?_)
 have hw9:(!(Bj s==[]))=true:=h2
 exact⟨5,0,s,by rw[CI hr hf,h1,hw9,h3,h4,h8,h9];rfl,rfl,hX⟩
 refine gP [.bk _,.sq _] Br 7 [0,0] (kB hb1 (Ar _)) (y2<|fun _=>Aa rfl (BY rfl J3)<|Ct (BM rfl) (And.intro rfl ?_))
 have hw9:(!(Bj s==[]))=true:=h2
 exact⟨by rw[CI hr hf,h1,hw9,h3,h4,h8,h9];rfl,rfl,hX⟩
 refine gL [.sq _,.bk _,.sq _] Br 13 [0,0] (kB hb1 (Ar _)) (y2<|fun _=>Aa rfl (BY rfl J3)<|Ct (BM rfl) (And.intro rfl ?_))
 have hw9:(!(Bj s==[]))=true:=h2
 exact⟨by rw[CI hr hf,h1,hw9,h3,h4,h8];rfl,rfl,hX⟩
 refine gL [.sq _,.bk _,.sq _] Br 11 [] (Ar _) (fun _=>Aa rfl (HZ rfl rfl Im ⟨dC,hne1⟩)<|A7 rfl (Aw HV rfl rfl) (CN _ (s.take 1) (by simp only[List.length_take];omega) F3 dC dC) ?_)
 rintro _ w20 ⟨rfl,hE15⟩
 replace hb1:=hb1.ext hE15
 replace hb2:=hb2.ext hE15
 replace hX:=hX.trans hE15
 have sz19:=hE15.size
 refine Aa rfl (A0 rfl)<|sL 49 rfl (fun h10=>?_) (fun h10=>?_)
 refine gL [.sq _,.bk _,.sq _] Br 1 [] (Ar _) (fun _=>BG rfl rfl rfl<|A7 rfl (Aw HV rfl rfl) (CN _ (s) oM (F3++E0++Gc) dC dC) ?_)
 rintro _ w21 ⟨rfl,hE16⟩
 replace hb1:=hb1.ext hE16
 replace hb2:=hb2.ext hE16
 replace hX:=hX.trans hE16
 have sz20:=hE16.size
 refine gL [.sq _,.bk _,.sq _] Br 4 [] (Ar _) (fun _=>sP 45 rfl (fun h11=>?_) (fun h11=>?_))
 refine gP [.bk _,.sq _] Br 6 [0,0] (kB hb1 (Ar _)) (y2<|fun _=>A4 rfl rfl rfl Hh rfl hb2 rfl rfl fun w22 hb8 hC6=>?_)
 replace hb1:=hb1.chg hC6 oM
 replace hX:=hX.chg hC6 oM
 have sz21:=hC6.size
 refine gL [.sq _,.bk _,.sq _] Br 5 [] (Ar _) (fun _=>By (AI rfl (Ac rfl Hh hb8 rfl)) ?_)
 have hw9:(!(Bj s==[]))=false:=h2
 exact⟨6,0,s,by rw[CI hr hf,h1,hw9,h10,h11];rfl,rfl,hX⟩
 refine gP [.bk _,.sq _] Br 4 [] (Ar _) (fun _=>Aa rfl (HZ rfl rfl Im ⟨dC,hne1⟩)<|A7 rfl (Aw HV rfl rfl) (CN _ (s.take 1) (by simp only[List.length_take];omega) (E0++Gv) dC dC) ?_)
 rintro _ w23 ⟨rfl,hE17⟩
 replace hb1:=hb1.ext hE17
 replace hb2:=hb2.ext hE17
 replace hX:=hX.trans hE17
 have sz22:=hE17.size
 refine Aa rfl (A0 rfl)<|sL 60 rfl (fun h12=>?_) (fun h12=>?_)
 refine gL [.sq _,.bk _,.sq _] Br 1 [] (Ar _) (fun _=>BG rfl rfl rfl<|A7 rfl (Aw HV rfl rfl) (CN _ (s) oM (F3++E0++Gc++Gv) dC dC) ?_)
 rintro _ w24 ⟨rfl,hE18⟩
 replace hb1:=hb1.ext hE18
 replace hb2:=hb2.ext hE18
 replace hX:=hX.trans hE18
 have sz23:=hE18.size
 refine gL [.sq _,.bk _,.sq _] Br 4 [] (Ar _) (fun _=>sP 56 rfl (fun h13=>?_) (fun h13=>?_))
 refine gP [.bk _,.sq _] Br 6 [0,0] (kB hb1 (Ar _)) (y2<|fun _=>A4 rfl rfl rfl Hh rfl hb2 rfl rfl fun w25 hb9 hC7=>?_)
 replace hb1:=hb1.chg hC7 oM
 replace hX:=hX.chg hC7 oM
 have sz24:=hC7.size
 refine gL [.sq _,.bk _,.sq _] Br 5 [] (Ar _) (fun _=>By (AI rfl (Ac rfl Hh hb9 rfl)) ?_)
 have hw9:(!(Bj s==[]))=false:=h2
 exact⟨5,0,s,by rw[CI hr hf,h1,hw9,h10,h11,h12,h13];rfl,rfl,hX⟩
 refine gP [.bk _,.sq _] Br 7 [0,0] (kB hb1 (Ar _)) (y2<|fun _=>Aa rfl (BY rfl J3)<|Ct (BM rfl) (And.intro rfl ?_))
 have hw9:(!(Bj s==[]))=false:=h2
 exact⟨by rw[CI hr hf,h1,hw9,h10,h11,h12,h13];rfl,rfl,hX⟩
 refine gL [.sq _,.bk _,.sq _] Br 13 [0,0] (kB hb1 (Ar _)) (y2<|fun _=>Aa rfl (BY rfl J3)<|Ct (BM rfl) (And.intro rfl ?_))
 have hw9:(!(Bj s==[]))=false:=h2
 exact⟨by rw[CI hr hf,h1,hw9,h10,h11,h12];rfl,rfl,hX⟩
 refine gL [.sq _,.bk _,.sq _] Br 10 [] (Ar _) (fun _=>Aa rfl (HZ rfl rfl Im ⟨dC,hne1⟩)<|A7 rfl (Aw HV rfl rfl) (CN _ (s.take 1) (by simp only[List.length_take];omega) (E0++Gv) dC dC) ?_)
 rintro _ w26 ⟨rfl,hE19⟩
 replace hb1:=hb1.ext hE19
 replace hb2:=hb2.ext hE19
 replace hX:=hX.trans hE19
 have sz25:=hE19.size
 refine Aa rfl (A0 rfl)<|sL 60 rfl (fun h14=>?_) (fun h14=>?_)
 refine gL [.sq _,.bk _,.sq _] Br 1 [] (Ar _) (fun _=>BG rfl rfl rfl<|A7 rfl (Aw HV rfl rfl) (CN _ (s) oM (F3++E0++Gc++Gv) dC dC) ?_)
 rintro _ w27 ⟨rfl,hE20⟩
 replace hb1:=hb1.ext hE20
 replace hb2:=hb2.ext hE20
 replace hX:=hX.trans hE20
 have sz26:=hE20.size
 refine gL [.sq _,.bk _,.sq _] Br 4 [] (Ar _) (fun _=>sP 56 rfl (fun h15=>?_) (fun h15=>?_))
 refine gP [.bk _,.sq _] Br 6 [0,0] (kB hb1 (Ar _)) (y2<|fun _=>A4 rfl rfl rfl Hh rfl hb2 rfl rfl fun w28 hb10 hC8=>?_)
 replace hb1:=hb1.chg hC8 oM
 replace hX:=hX.chg hC8 oM
 have sz27:=hC8.size
 refine gL [.sq _,.bk _,.sq _] Br 5 [] (Ar _) (fun _=>By (AI rfl (Ac rfl Hh hb10 rfl)) ?_)
 have hw9:(!(Bj s==[]))=false:=h2
 exact⟨5,0,s,by rw[CI hr hf,h1,hw9,h10,h14,h15];rfl,rfl,hX⟩
 refine gP [.bk _,.sq _] Br 7 [0,0] (kB hb1 (Ar _)) (y2<|fun _=>Aa rfl (BY rfl J3)<|Ct (BM rfl) (And.intro rfl ?_))
 have hw9:(!(Bj s==[]))=false:=h2
 exact⟨by rw[CI hr hf,h1,hw9,h10,h14,h15];rfl,rfl,hX⟩
 refine gL [.sq _,.bk _,.sq _] Br 13 [0,0] (kB hb1 (Ar _)) (y2<|fun _=>Aa rfl (BY rfl J3)<|Ct (BM rfl) (And.intro rfl ?_))
 have hw9:(!(Bj s==[]))=false:=h2
 exact⟨by rw[CI hr hf,h1,hw9,h10,h14];rfl,rfl,hX⟩
def sI:Ea:=⟨[],[],[],[],[(37,false,1),(9,false,1),(3,false,1)],[],[],[]⟩
theorem EJ:sI.Ok Tryz.prog:=⟨trivial,trivial,trivial,trivial,(And.intro D5 (And.intro U6 (And.intro PX trivial))),trivial,trivial,trivial⟩
theorem VZ(hPF:mV)(w0 w:World)(hG:Gl w0)(hX0:AV w0 w)(b:Nat)(hb0:w0.heap.size≤b)(src:List UInt8)(i:Nat)(p:Ps)(toks:List AT)(ta:Option Addr)(tc:Nat)(hsc:AQ w b [S src,.int .i64 ((i:Nat):Int),.int .i64 p.1,.int .i64 p.2,(.slice ta toks.length tc)] 77)(hrow:Ck w 79 5 ta tc toks.length (Fy toks))(hlow:∀x,rb ta=some x→w0.heap.size≤x∧x≠b)(c:UInt8)(hc:src[i]?=some c)(hp:Pk i p)(hlen:src.length≤65536)(htl:toks.length≤i) :
  BQ Tryz.prog 28 #[.pointer (some ⟨b,0,none⟩)] w (fun v w'=>∃(ot:List AT)(i1:Nat)(p1:Ps)(ta1:Option Addr)(P6:Nat),Ee (src.length+1) p (src.drop i)=.ok (ot,src.drop i1,p1)∧v=.tuple #[]∧AQ w' b [S src,.int .i64 ((i1:Nat):Int),.int .i64 p1.1,.int .i64 p1.2,(.slice ta1 (toks++ot).length P6)] 77∧Ck w' 79 5 ta1 P6 (toks++ot).length (Fy (toks++ot))∧(∀x,rb ta1=some x→w0.heap.size≤x∧x≠b)∧AV w0 w'∧i<i1∧i1≤src.length∧Pk i1 p1) (fun cc w'=>∃e,Ee (src.length+1) p (src.drop i)=.error e∧cc=QI 74 e∧AV w0 w'):=by
 have hbl:=hsc.lt
 have hilt:=Cn hc
 have hlowl:∀x,rb ta=some x→x<w.heap.size:=fun x hx=>hrow.lt hx
 have hX:=hX0
 refine IF Tryz.func28 rfl rfl rfl<|Cc ?_
 have hr1:=hsc
 refine Ei mixed (A8 w [b]) [(true,0),(true,1),(true,2),(true,3),(true,4),(true,5),(true,6),(true,7),(false,8),(false,9),(true,10)] kR kR rfl rfl fun w1 hE1 hz1=>?_
 have hKp:A8 w [b] w1:=A8.cons hr1 hE1 (A8.nil _ _)
 refine⟨hKp,?_⟩
 replace hsc:=hsc.ext hE1
 replace hrow:=hrow.ext hE1
 replace hX:=hX.trans hE1
 refine A2 rfl (fun _ hS=>A0 rfl)<|A2 rfl (fun _ hS=>B6 rfl)<|A2 rfl (fun _ hS=>BO rfl MN)<|A2 rfl (fun _ hS=>Dt rfl Hw (hr1.keep hS (.head _)) rfl)<|A2 rfl (fun _ hS=>A0 rfl)<|A2 rfl (fun _ hS=>B6 rfl)<|A2 rfl (fun _ hS=>BO rfl Hr)<|A2 rfl (fun _ hS=>Al rfl PX (hr1.keep hS (.head _)) rfl)<|EZ<|CO rfl Su fun b1 w2 hb1 hE2 hs1 hz2=>?_
 replace hsc:=hsc.ext hE2
 replace hrow:=hrow.ext hE2
 replace hX:=hX.trans hE2
 replace hKp:=hKp.ext hE2
 refine Ab (Hq hKp<|EZ<|A4 rfl rfl rfl Hw rfl hb1 rfl rfl fun w3 hb2 hC1=>?_)
 replace hsc:=hsc.chg hC1 oM
 replace hrow:=Ck.chg hrow hC1 (fun e=>by have:=hlow _ e;have:=hlowl _ e;omega)
 replace hX:=hX.chg hC1 oM
 replace hKp:=hKp.chg hC1 nM
 have sz1:=hC1.size
 refine Ab (Hq hKp<|A2 rfl (fun _ hS=>Dm rfl)<|Em<|gQ [.sq _] EJ 4 [] (Ar _) (fun _=>A7 rfl (Aw MU rfl rfl) (FM _ b src i p (.slice ta toks.length tc) hsc c hc oM hp) ?_))
 rintro _ w4 ⟨rfl,hb3,hE3⟩
 replace hrow:=Ck.exb hrow hE3 (fun e=>by have:=hlow _ e;omega)
 replace hb2:=hb2.exb hE3 oM
 replace hX:=hE3.ext hX hb0
 have sz2:=hE3.size
 have hp1:=Pk.adv (c:=c) hp
 refine gL [.sq _] EJ 7 [] (Ar _) (fun _=>A7 rfl (Aw Vv rfl rfl) (Fx _ GA _) ?_)
 rintro _ w5 ⟨rfl,hE4⟩
 replace hrow:=hrow.ext hE4
 replace hb2:=hb2.ext hE4
 replace hb3:=hb3.ext hE4
 replace hX:=hX.trans hE4
 have sz3:=hE4.size
 refine gL [.sq _,.bk _] EJ 4 [] (Ar _) (fun _=>sP 53 rfl (fun h1=>?_) (fun h1=>?_))
 exact gP [.bk _] EJ 3 [] (Ar _) (fun _=>Gu (DT rfl)<|⟨[],i+1,adv c p,ta,tc,R9 hc h1,rfl,by rw[List.append_nil];exact hb3,by rw[List.append_nil];exact hrow,hlow,hX,oM,by have:=Cn hc;omega,hp1⟩)
 refine gP [.bk _] EJ 8 [] (Ar _) (fun _=>sP 57 rfl (fun h2=>?_) (fun h2=>?_))
 refine gP [.bk _] EJ 2 [] (Ar _) (fun _=>?_)
 refine Eh (fun k σ ds w'=>∃(j:Nat)(q:Ps),k=src.length-j∧ds=[]∧σ=(AL SW.e0 0 (.pointer (some ⟨b,0,none⟩)))∧i<j∧j≤src.length∧Pk j q∧NQ (adv c p) (src.drop (i+1))=NQ q (src.drop j)∧AQ w' b [S src,.int .i64 ((j:Nat):Int),.int .i64 q.1,.int .i64 q.2,(.slice ta toks.length tc)] 77∧AQ w' b1 [.int .i64 p.1,.int .i64 p.2] 25∧Ck w' 79 5 ta tc toks.length (Fy toks)∧AV w0 w') (src.length-(i+1)) (AL SW.e0 0 (.pointer (some ⟨b,0,none⟩))) lE ⟨i+1,adv c p,rfl,rfl,rfl,oM,by have:=Cn hc;omega,hp1,rfl,hb3,hb2,hrow,hX⟩ ?_
 rintro _ _ _ wl ⟨j,q,rfl,rfl,rfl,hij,hjl,hq,hm,hscl,hl2,hrow,hX⟩
 have szl:=hX.size
 have lt2:=hl2.lt
 have lts:=hscl.lt
 refine gP [] EJ 2 [] (Ar _) (fun _=>?_)
 have hr2:=hscl
 have hr3:=hl2
 refine Ei mixed (A8 wl [b,b1]) [(true,0),(false,1),(true,2),(true,3),(true,4),(true,5),(true,6),(true,7),(true,8),(true,9),(true,10),(true,11),(true,12),(true,13)] kR kR rfl rfl fun w6 hE5 hz3=>?_
 have hKp:A8 wl [b,b1] w6:=A8.cons hr2 hE5 (A8.cons hr3 hE5 (A8.nil _ _))
 refine⟨hKp,?_⟩
 replace hscl:=hscl.ext hE5
 replace hl2:=hl2.ext hE5
 replace hrow:=hrow.ext hE5
 replace hX:=hX.trans hE5
 refine A2 rfl (fun _ hS=>A0 rfl)<|EZ<|A7 rfl (Aw Rt rfl rfl) (Iw _ b src j q (.slice ta toks.length tc) hscl) ?_
 rintro _ w7 ⟨rfl,hE6⟩
 replace hscl:=hscl.ext hE6
 replace hl2:=hl2.ext hE6
 replace hrow:=hrow.ext hE6
 replace hX:=hX.trans hE6
 replace hKp:=hKp.ext hE6
 have sz4:=hE6.size
 refine Ab (Hq hKp<|A2 rfl (fun _ hS=>A0 rfl)<|O8 62 rfl (fun h3=>?_) (fun h3=>?_))
 have hjlt:j<src.length:=by have:=of_decide_eq_true h3;omega
 obtain⟨c1,hc1⟩:=Ks hjlt
 refine CC rfl rfl rfl h3 (fun _ hS=>A0 rfl)<|CC rfl rfl rfl h3 (fun _ hS=>B6 rfl)<|CC rfl rfl rfl h3 (fun _ hS=>BO rfl J0)<|CC rfl rfl rfl h3 (fun _ hS=>Al rfl U6 (hr2.keep hS (.head _)) rfl)<|CC rfl rfl rfl h3 (fun _ hS=>A0 rfl)<|CC rfl rfl rfl h3 (fun _ hS=>B6 rfl)<|CC rfl rfl rfl h3 (fun _ hS=>BO rfl Hr)<|CC rfl rfl rfl h3 (fun _ hS=>Al rfl PX (hr2.keep hS (.head _)) rfl)<|CC rfl rfl rfl h3 (fun _ hS=>DB (c:=c1) rfl rfl Im oM (by rw[Int.toNat_natCast];exact hc1))<|CC rfl rfl rfl h3 (fun _ hS=>Xm rfl rfl) ?_
 refine A2 rfl (fun _ hS=>MO rfl h3 rfl)<|Em<|D3<|sP 73 rfl (fun h4=>?_) (fun h4=>?_)
 refine gP [.sq _] EJ 6 [] (Ar _) (fun _=>A7 rfl (Aw MU rfl rfl) (FM _ b src j q (.slice ta toks.length tc) hscl c1 hc1 oM hq) ?_)
 rintro _ w8 ⟨rfl,hb4,hE7⟩
 replace hl2:=hl2.exb hE7 oM
 replace hrow:=Ck.exb hrow hE7 (fun e=>by have:=hlow _ e;omega)
 replace hX:=hE7.ext hX hb0
 have sz5:=hE7.size
 have hp2:=Pk.adv (c:=c1) hq
 refine gL [.bk _] EJ 2 [] (Ar _) (fun _=>HA (src.length-(j+1)) (AL SW.e0 0 (.pointer (some ⟨b,0,none⟩))) (by have:=Cn hc1;omega) lE ⟨j+1,adv c1 q,rfl,rfl,rfl,oM,by have:=Cn hc1;omega,hp2,hm.trans (VE hc1 h4),hb4,hl2,hrow,hX⟩)
 exact gP [.sq _] EJ 3 [] (Ar _) (fun _=>Oc<|gQ [.bk _,.bk _] EJ 2 [] (Ar _) (fun _=>Gu (DT rfl)<|⟨[],j,q,ta,tc,by rw[Ph hc h1 h2,hm,Pc (.inr ⟨c1,hc1,h4⟩)],rfl,by rw[List.append_nil];exact hscl,by rw[List.append_nil];exact hrow,hlow,hX,hij,hjl,hq⟩))
 refine CA rfl rfl rfl h3<|CA rfl rfl rfl h3<|CA rfl rfl rfl h3<|CA rfl rfl rfl h3<|CA rfl rfl rfl h3<|CA rfl rfl rfl h3<|CA rfl rfl rfl h3<|CA rfl rfl rfl h3<|CA rfl rfl rfl h3<|CA rfl rfl rfl h3 ?_
 exact A2 rfl (fun _ hS=>N7 rfl h3 rfl)<|Em<|gQ [.sq _,.sq _] EJ 4 [] (Ar _) (fun _=>Oc<|gQ [.bk _,.bk _] EJ 2 [] (Ar _) (fun _=>Gu (DT rfl)<|⟨[],j,q,ta,tc,by rw[Ph hc h1 h2,hm,Pc (.inl (by have:=of_decide_eq_false h3;omega))],rfl,by rw[List.append_nil];exact hscl,by rw[List.append_nil];exact hrow,hlow,hX,hij,hjl,hq⟩))
 refine gP [.bk _] EJ 8 [] (Ar _) (fun _=>sP 76 rfl (fun h5=>?_) (fun h5=>?_))
 refine FW rfl rfl ?_
 have hr4:=hb2
 refine Es mixed (A8 w5 [b1]) (rd [0,1,2,3,5,6] (.br 4 (.br 7 (.br 8 (.rd 9 (.rd 10 (.br 11 .fin .fin))) .fin) .fin) (.br 7 (.br 4 (.br 8 (.rd 9 (.rd 10 (.br 11 .fin .fin))) .fin) .fin) .fin))) kR kR kR fun w9 hE8 hz4=>?_
 have hKp:A8 w5 [b1] w9:=A8.cons hr4 hE8 (A8.nil _ _)
 refine⟨hKp,?_⟩
 replace hrow:=hrow.ext hE8
 replace hb2:=hb2.ext hE8
 replace hb3:=hb3.ext hE8
 replace hX:=hX.trans hE8
 refine Av rfl rfl (fun _ hS=>A0 rfl)<|Av rfl rfl (fun _ hS=>A0 rfl)<|Av rfl rfl (fun _ hS=>B6 rfl)<|Av rfl rfl (fun _ hS=>BO rfl De)<|Av rfl rfl (fun _ hS=>Dt rfl Hw (hr4.keep hS (.head _)) rfl)<|Av rfl rfl (fun _ hS=>DK rfl VK FU rfl)<|Am rfl ?_ ?_
 refine Aa rfl (Al rfl D5 hb3 rfl)<|Ab (An hKp<|Am rfl ?_ Ae)
 refine Cj rfl rfl Ht FU rfl rfl rfl rfl rfl fun b2 w10 hb5 hE9 hs2 hz5=>?_
 replace hrow:=hrow.ext hE9
 replace hb2:=hb2.ext hE9
 replace hb3:=hb3.ext hE9
 replace hX:=hX.trans hE9
 replace hKp:=hKp.ext hE9
 refine Ab (An hKp<|Am rfl ?_ Ae)
 refine Be rfl Je rfl rfl rfl rfl hrow hb5 rfl rfl oM oM fun ta2 GB w11 hr2 hG2=>?_
 have hlow2:∀x,rb ta2=some x→w0.heap.size≤x∧x≠b:=Ca hG2 hlow oM
 replace hb3:=hb3.grow hG2 (fun e=>by have:=hlow _ e.symm;have:=hlowl _ e.symm;omega)
 replace hX:=hX.grow hG2 (fun x hx=>(hlow x hx).1)
 replace hKp:=hKp.grow hG2 (by simp only[List.mem_cons,List.not_mem_nil,or_false];intro c hc e;have:=hlow _ e.symm;have:=hlowl _ e.symm;omega)
 have sz6:=hG2.size
 refine Ab (An hKp<|Av rfl rfl (fun _ hS=>B6 rfl)<|Av rfl rfl (fun _ hS=>BO rfl De)<|Am rfl ?_ Ae)
 refine A4 rfl rfl rfl D5 rfl hb3 rfl rfl fun w12 hb6 hC2=>?_
 replace hr2:=Ck.chg hr2 hC2 (fun e=>by have:=hlow2 _ e;omega)
 replace hX:=hX.chg hC2 oM
 replace hKp:=hKp.chg hC2 nM
 have sz7:=hC2.size
 exact Ab (An hKp<|BC<|DX<|Gu (DT rfl)<|⟨[⟨0,p.1,p.2,0,[]⟩],i+1,adv c p,ta2,GB,Sm hc h1 h2 h5,rfl,by rw[List.length_append];exact hb6,by rw[List.length_append,BH];exact hr2,hlow2,hX,oM,by first|omega|(have:=Cn hc;omega),hp1⟩)
 refine Am rfl ?_ ?_
 refine Cj rfl rfl Ht FU rfl rfl rfl rfl rfl fun b3 w13 hb7 hE10 hs3 hz6=>?_
 replace hrow:=hrow.ext hE10
 replace hb2:=hb2.ext hE10
 replace hb3:=hb3.ext hE10
 replace hX:=hX.trans hE10
 replace hKp:=hKp.ext hE10
 refine Ab (An hKp<|Am rfl ?_ Ae)
 refine Aa rfl (Al rfl D5 hb3 rfl)<|Ab (An hKp<|Am rfl ?_ Ae)
 refine Be rfl Je rfl rfl rfl rfl hrow hb7 rfl rfl oM oM fun ta2 GB w14 hr2 hG2=>?_
 have hlow2:∀x,rb ta2=some x→w0.heap.size≤x∧x≠b:=Ca hG2 hlow oM
 replace hb3:=hb3.grow hG2 (fun e=>by have:=hlow _ e.symm;have:=hlowl _ e.symm;omega)
 replace hX:=hX.grow hG2 (fun x hx=>(hlow x hx).1)
 replace hKp:=hKp.grow hG2 (by simp only[List.mem_cons,List.not_mem_nil,or_false];intro c hc e;have:=hlow _ e.symm;have:=hlowl _ e.symm;omega)
 have sz8:=hG2.size
 refine Ab (An hKp<|Av rfl rfl (fun _ hS=>B6 rfl)<|Av rfl rfl (fun _ hS=>BO rfl De)<|Am rfl ?_ Ae)
 refine A4 rfl rfl rfl D5 rfl hb3 rfl rfl fun w15 hb8 hC3=>?_
 replace hr2:=Ck.chg hr2 hC3 (fun e=>by have:=hlow2 _ e;omega)
 replace hX:=hX.chg hC3 oM
 replace hKp:=hKp.chg hC3 nM
 have sz9:=hC3.size
 exact Ab (An hKp<|BC<|DX<|Gu (DT rfl)<|⟨[⟨0,p.1,p.2,0,[]⟩],i+1,adv c p,ta2,GB,Sm hc h1 h2 h5,rfl,by rw[List.length_append];exact hb8,by rw[List.length_append,BH];exact hr2,hlow2,hX,oM,by first|omega|(have:=Cn hc;omega),hp1⟩)
 exact Ae
 refine gP [.bk _] EJ 8 [] (Ar _) (fun _=>sP 90 rfl (fun h6=>?_) (fun h6=>?_))
 refine FW rfl rfl ?_
 have hr5:=hb2
 refine Es mixed (A8 w5 [b1]) (rd [0,1,2,3,5,6] (.br 4 (.br 7 (.br 8 (.rd 9 (.rd 10 (.br 11 .fin .fin))) .fin) .fin) (.br 7 (.br 4 (.br 8 (.rd 9 (.rd 10 (.br 11 .fin .fin))) .fin) .fin) .fin))) kR kR kR fun w16 hE11 hz7=>?_
 have hKp:A8 w5 [b1] w16:=A8.cons hr5 hE11 (A8.nil _ _)
 refine⟨hKp,?_⟩
 replace hrow:=hrow.ext hE11
 replace hb2:=hb2.ext hE11
 replace hb3:=hb3.ext hE11
 replace hX:=hX.trans hE11
 refine Av rfl rfl (fun _ hS=>A0 rfl)<|Av rfl rfl (fun _ hS=>A0 rfl)<|Av rfl rfl (fun _ hS=>B6 rfl)<|Av rfl rfl (fun _ hS=>BO rfl De)<|Av rfl rfl (fun _ hS=>Dt rfl Hw (hr5.keep hS (.head _)) rfl)<|Av rfl rfl (fun _ hS=>DK rfl VK FU rfl)<|Am rfl ?_ ?_
 refine Aa rfl (Al rfl D5 hb3 rfl)<|Ab (An hKp<|Am rfl ?_ Ae)
 refine Cj rfl rfl Ht FU rfl rfl rfl rfl rfl fun b4 w17 hb9 hE12 hs4 hz8=>?_
 replace hrow:=hrow.ext hE12
 replace hb2:=hb2.ext hE12
 replace hb3:=hb3.ext hE12
 replace hX:=hX.trans hE12
 replace hKp:=hKp.ext hE12
 refine Ab (An hKp<|Am rfl ?_ Ae)
 refine Be rfl Je rfl rfl rfl rfl hrow hb9 rfl rfl oM oM fun ta2 GB w18 hr2 hG2=>?_
 have hlow2:∀x,rb ta2=some x→w0.heap.size≤x∧x≠b:=Ca hG2 hlow oM
 replace hb3:=hb3.grow hG2 (fun e=>by have:=hlow _ e.symm;have:=hlowl _ e.symm;omega)
 replace hX:=hX.grow hG2 (fun x hx=>(hlow x hx).1)
 replace hKp:=hKp.grow hG2 (by simp only[List.mem_cons,List.not_mem_nil,or_false];intro c hc e;have:=hlow _ e.symm;have:=hlowl _ e.symm;omega)
 have sz10:=hG2.size
 refine Ab (An hKp<|Av rfl rfl (fun _ hS=>B6 rfl)<|Av rfl rfl (fun _ hS=>BO rfl De)<|Am rfl ?_ Ae)
 refine A4 rfl rfl rfl D5 rfl hb3 rfl rfl fun w19 hb10 hC4=>?_
 replace hr2:=Ck.chg hr2 hC4 (fun e=>by have:=hlow2 _ e;omega)
 replace hX:=hX.chg hC4 oM
 replace hKp:=hKp.chg hC4 nM
 have sz11:=hC4.size
 exact Ab (An hKp<|BC<|DX<|Gu (DT rfl)<|⟨[⟨1,p.1,p.2,0,[]⟩],i+1,adv c p,ta2,GB,QK hc h1 h2 h5 h6,rfl,by rw[List.length_append];exact hb10,by rw[List.length_append,BH];exact hr2,hlow2,hX,oM,by first|omega|(have:=Cn hc;omega),hp1⟩)
 refine Am rfl ?_ ?_
 refine Cj rfl rfl Ht FU rfl rfl rfl rfl rfl fun b5 w20 hb11 hE13 hs5 hz9=>?_
 replace hrow:=hrow.ext hE13
 replace hb2:=hb2.ext hE13
 replace hb3:=hb3.ext hE13
 replace hX:=hX.trans hE13
 replace hKp:=hKp.ext hE13
 refine Ab (An hKp<|Am rfl ?_ Ae)
 refine Aa rfl (Al rfl D5 hb3 rfl)<|Ab (An hKp<|Am rfl ?_ Ae)
 refine Be rfl Je rfl rfl rfl rfl hrow hb11 rfl rfl oM oM fun ta2 GB w21 hr2 hG2=>?_
 have hlow2:∀x,rb ta2=some x→w0.heap.size≤x∧x≠b:=Ca hG2 hlow oM
 replace hb3:=hb3.grow hG2 (fun e=>by have:=hlow _ e.symm;have:=hlowl _ e.symm;omega)
 replace hX:=hX.grow hG2 (fun x hx=>(hlow x hx).1)
 replace hKp:=hKp.grow hG2 (by simp only[List.mem_cons,List.not_mem_nil,or_false];intro c hc e;have:=hlow _ e.symm;have:=hlowl _ e.symm;omega)
 have sz12:=hG2.size
 refine Ab (An hKp<|Av rfl rfl (fun _ hS=>B6 rfl)<|Av rfl rfl (fun _ hS=>BO rfl De)<|Am rfl ?_ Ae)
 refine A4 rfl rfl rfl D5 rfl hb3 rfl rfl fun w22 hb12 hC5=>?_
 replace hr2:=Ck.chg hr2 hC5 (fun e=>by have:=hlow2 _ e;omega)
 replace hX:=hX.chg hC5 oM
 replace hKp:=hKp.chg hC5 nM
 have sz13:=hC5.size
 exact Ab (An hKp<|BC<|DX<|Gu (DT rfl)<|⟨[⟨1,p.1,p.2,0,[]⟩],i+1,adv c p,ta2,GB,QK hc h1 h2 h5 h6,rfl,by rw[List.length_append];exact hb12,by rw[List.length_append,BH];exact hr2,hlow2,hX,oM,by first|omega|(have:=Cn hc;omega),hp1⟩)
 exact Ae
 refine gP [.bk _] EJ 8 [] (Ar _) (fun _=>sP 104 rfl (fun h7=>?_) (fun h7=>?_))
 refine FW rfl rfl ?_
 have hr6:=hb2
 refine Es mixed (A8 w5 [b1]) (rd [0,1,2,3,5,6] (.br 4 (.br 7 (.br 8 (.br 9 (.rd 10 (.rd 11 (.br 12 .fin .fin))) .fin) .fin) .fin) (.br 7 (.br 4 (.br 8 (.br 9 (.rd 10 (.rd 11 (.br 12 .fin .fin))) .fin) .fin) (.br 8 (.br 4 (.br 9 (.rd 10 (.rd 11 (.br 12 .fin .fin))) .fin) .fin) .fin)) .fin))) kR kR kR fun w23 hE14 hz10=>?_
 have hKp:A8 w5 [b1] w23:=A8.cons hr6 hE14 (A8.nil _ _)
 refine⟨hKp,?_⟩
 replace hrow:=hrow.ext hE14
 replace hb2:=hb2.ext hE14
 replace hb3:=hb3.ext hE14
 replace hX:=hX.trans hE14
 refine Av rfl rfl (fun _ hS=>A0 rfl)<|Av rfl rfl (fun _ hS=>A0 rfl)<|Av rfl rfl (fun _ hS=>B6 rfl)<|Av rfl rfl (fun _ hS=>BO rfl De)<|Av rfl rfl (fun _ hS=>A0 rfl)<|Av rfl rfl (fun _ hS=>Dt rfl Hw (hr6.keep hS (.head _)) rfl)<|Am rfl ?_ ?_
 refine Aa rfl (Al rfl D5 hb3 rfl)<|Ab (An hKp<|Am rfl ?_ Ae)
 refine Cf rfl (Aw dW rfl rfl) (RH _ b src (i+1) (adv c p) (.slice ta toks.length tc) hb3 p (by have:=Cn hc;omega) oM hp1) ?_ (fun cc wp hc1=>And.intro rfl (let ⟨e,he,hcc,hE⟩:=hc1;⟨e,by rw[Ik hc h1 h2 h5 h6 h7,he],hcc,hE.ext hX hb0⟩))
 rintro _ w24 ⟨tx,i1,p1,hstr,rfl,hb13,hE15,hi1,hi2,hp1⟩
 replace hrow:=Ck.exb hrow hE15 (fun e=>by have:=hlow _ e;omega)
 replace hb2:=hb2.exb hE15 oM
 replace hX:=hE15.ext hX hb0
 have sz14:=hE15.size
 replace hKp:=hKp.exb hE15 nM
 refine Ab (An hKp<|Am rfl ?_ Ae)
 refine Cj rfl rfl Ht FU rfl rfl rfl rfl rfl fun b6 w25 hb14 hE16 hs6 hz11=>?_
 replace hrow:=hrow.ext hE16
 replace hb2:=hb2.ext hE16
 replace hb13:=hb13.ext hE16
 replace hX:=hX.trans hE16
 replace hKp:=hKp.ext hE16
 refine Ab (An hKp<|Am rfl ?_ Ae)
 refine Be rfl Je rfl rfl rfl rfl hrow hb14 rfl rfl oM oM fun ta2 GB w26 hr2 hG2=>?_
 have hlow2:∀x,rb ta2=some x→w0.heap.size≤x∧x≠b:=Ca hG2 hlow oM
 replace hb13:=hb13.grow hG2 (fun e=>by have:=hlow _ e.symm;have:=hlowl _ e.symm;omega)
 replace hX:=hX.grow hG2 (fun x hx=>(hlow x hx).1)
 replace hKp:=hKp.grow hG2 (by simp only[List.mem_cons,List.not_mem_nil,or_false];intro c hc e;have:=hlow _ e.symm;have:=hlowl _ e.symm;omega)
 have sz15:=hG2.size
 refine Ab (An hKp<|Av rfl rfl (fun _ hS=>B6 rfl)<|Av rfl rfl (fun _ hS=>BO rfl De)<|Am rfl ?_ Ae)
 refine A4 rfl rfl rfl D5 rfl hb13 rfl rfl fun w27 hb15 hC6=>?_
 replace hr2:=Ck.chg hr2 hC6 (fun e=>by have:=hlow2 _ e;omega)
 replace hX:=hX.chg hC6 oM
 replace hKp:=hKp.chg hC6 nM
 have sz16:=hC6.size
 exact Ab (An hKp<|BC<|DX<|Gu (DT rfl)<|⟨[⟨4,p.1,p.2,0,tx⟩],i1,p1,ta2,GB,by rw[Ik hc h1 h2 h5 h6 h7,hstr],rfl,by rw[List.length_append];exact hb15,by rw[List.length_append,BH];exact hr2,hlow2,hX,oM,by first|omega|(have:=Cn hc;omega),hp1⟩)
 refine Am rfl ?_ ?_
 refine Cf rfl (Aw dW rfl rfl) (RH _ b src (i+1) (adv c p) (.slice ta toks.length tc) hb3 p (by have:=Cn hc;omega) oM hp1) ?_ (fun cc wp hc1=>And.intro rfl (let ⟨e,he,hcc,hE⟩:=hc1;⟨e,by rw[Ik hc h1 h2 h5 h6 h7,he],hcc,hE.ext hX hb0⟩))
 rintro _ w28 ⟨tx,i1,p1,hstr,rfl,hb16,hE17,hi1,hi2,hp1⟩
 replace hrow:=Ck.exb hrow hE17 (fun e=>by have:=hlow _ e;omega)
 replace hb2:=hb2.exb hE17 oM
 replace hX:=hE17.ext hX hb0
 have sz17:=hE17.size
 replace hKp:=hKp.exb hE17 nM
 refine Ab (An hKp<|Am rfl ?_ ?_)
 refine Aa rfl (Al rfl D5 hb16 rfl)<|Ab (An hKp<|Am rfl ?_ Ae)
 refine Cj rfl rfl Ht FU rfl rfl rfl rfl rfl fun b7 w29 hb17 hE18 hs7 hz12=>?_
 replace hrow:=hrow.ext hE18
 replace hb2:=hb2.ext hE18
 replace hb16:=hb16.ext hE18
 replace hX:=hX.trans hE18
 replace hKp:=hKp.ext hE18
 refine Ab (An hKp<|Am rfl ?_ Ae)
 refine Be rfl Je rfl rfl rfl rfl hrow hb17 rfl rfl oM oM fun ta2 GB w30 hr2 hG2=>?_
 have hlow2:∀x,rb ta2=some x→w0.heap.size≤x∧x≠b:=Ca hG2 hlow oM
 replace hb16:=hb16.grow hG2 (fun e=>by have:=hlow _ e.symm;have:=hlowl _ e.symm;omega)
 replace hX:=hX.grow hG2 (fun x hx=>(hlow x hx).1)
 replace hKp:=hKp.grow hG2 (by simp only[List.mem_cons,List.not_mem_nil,or_false];intro c hc e;have:=hlow _ e.symm;have:=hlowl _ e.symm;omega)
 have sz18:=hG2.size
 refine Ab (An hKp<|Av rfl rfl (fun _ hS=>B6 rfl)<|Av rfl rfl (fun _ hS=>BO rfl De)<|Am rfl ?_ Ae)
 refine A4 rfl rfl rfl D5 rfl hb16 rfl rfl fun w31 hb18 hC7=>?_
 replace hr2:=Ck.chg hr2 hC7 (fun e=>by have:=hlow2 _ e;omega)
 replace hX:=hX.chg hC7 oM
 replace hKp:=hKp.chg hC7 nM
 have sz19:=hC7.size
 exact Ab (An hKp<|BC<|DX<|Gu (DT rfl)<|⟨[⟨4,p.1,p.2,0,tx⟩],i1,p1,ta2,GB,by rw[Ik hc h1 h2 h5 h6 h7,hstr],rfl,by rw[List.length_append];exact hb18,by rw[List.length_append,BH];exact hr2,hlow2,hX,oM,by first|omega|(have:=Cn hc;omega),hp1⟩)
 refine Am rfl ?_ ?_
 refine Cj rfl rfl Ht FU rfl rfl rfl rfl rfl fun b8 w32 hb19 hE19 hs8 hz13=>?_
 replace hrow:=hrow.ext hE19
 replace hb2:=hb2.ext hE19
 replace hb16:=hb16.ext hE19
 replace hX:=hX.trans hE19
 replace hKp:=hKp.ext hE19
 refine Ab (An hKp<|Am rfl ?_ Ae)
 refine Aa rfl (Al rfl D5 hb16 rfl)<|Ab (An hKp<|Am rfl ?_ Ae)
 refine Be rfl Je rfl rfl rfl rfl hrow hb19 rfl rfl oM oM fun ta2 GB w33 hr2 hG2=>?_
 have hlow2:∀x,rb ta2=some x→w0.heap.size≤x∧x≠b:=Ca hG2 hlow oM
 replace hb16:=hb16.grow hG2 (fun e=>by have:=hlow _ e.symm;have:=hlowl _ e.symm;omega)
 replace hX:=hX.grow hG2 (fun x hx=>(hlow x hx).1)
 replace hKp:=hKp.grow hG2 (by simp only[List.mem_cons,List.not_mem_nil,or_false];intro c hc e;have:=hlow _ e.symm;have:=hlowl _ e.symm;omega)
 have sz20:=hG2.size
 refine Ab (An hKp<|Av rfl rfl (fun _ hS=>B6 rfl)<|Av rfl rfl (fun _ hS=>BO rfl De)<|Am rfl ?_ Ae)
 refine A4 rfl rfl rfl D5 rfl hb16 rfl rfl fun w34 hb20 hC8=>?_
 replace hr2:=Ck.chg hr2 hC8 (fun e=>by have:=hlow2 _ e;omega)
 replace hX:=hX.chg hC8 oM
 replace hKp:=hKp.chg hC8 nM
 have sz21:=hC8.size
 exact Ab (An hKp<|BC<|DX<|Gu (DT rfl)<|⟨[⟨4,p.1,p.2,0,tx⟩],i1,p1,ta2,GB,by rw[Ik hc h1 h2 h5 h6 h7,hstr],rfl,by rw[List.length_append];exact hb20,by rw[List.length_append,BH];exact hr2,hlow2,hX,oM,by first|omega|(have:=Cn hc;omega),hp1⟩)
 exact Ae
 exact Ae
 refine Kb rfl rfl<|PT (E3 0 (.pointer (some ⟨b,0,none⟩)) 2 (.pointer (some ⟨b1,0,none⟩)) 3 (.int .i64 (i:Int))) (fun w'=>∃(j:Nat)(q:Ps),i<j∧j≤src.length∧Pk j q∧FF (adv c p) (src.drop (i+1))=(Fe src (i+1) j,src.drop j,q)∧AQ w' b [S src,.int .i64 ((j:Nat):Int),.int .i64 q.1,.int .i64 q.2,(.slice ta toks.length tc)] 77∧AQ w' b1 [.int .i64 p.1,.int .i64 p.2] 25∧Ck w' 79 5 ta tc toks.length (Fy toks)∧AV w0 w') ?_ ?_
 refine Eo ?_
 refine Eh (fun k σ ds w'=>∃(j:Nat)(q:Ps),k=src.length-j∧ds=[]∧σ=(E3 0 (.pointer (some ⟨b,0,none⟩)) 2 (.pointer (some ⟨b1,0,none⟩)) 3 (.int .i64 (i:Int)))∧i<j∧j≤src.length∧Pk j q∧FF (adv c p) (src.drop (i+1))=(Fe src (i+1) j++(FF q (src.drop j)).1,(FF q (src.drop j)).2)∧AQ w' b [S src,.int .i64 ((j:Nat):Int),.int .i64 q.1,.int .i64 q.2,(.slice ta toks.length tc)] 77∧AQ w' b1 [.int .i64 p.1,.int .i64 p.2] 25∧Ck w' 79 5 ta tc toks.length (Fy toks)∧AV w0 w') (src.length-(i+1)) (E3 0 (.pointer (some ⟨b,0,none⟩)) 2 (.pointer (some ⟨b1,0,none⟩)) 3 (.int .i64 (i:Int))) lE ⟨i+1,adv c p,rfl,rfl,rfl,oM,by have:=Cn hc;omega,hp1,by rw[TR];rfl,hb3,hb2,hrow,hX⟩ ?_
 rintro _ _ _ wl ⟨j,q,rfl,rfl,rfl,hij,hjl,hq,hm,hscl,hl2,hrow,hX⟩
 have szl:=hX.size
 have lt2:=hl2.lt
 have lts:=hscl.lt
 refine gP [] EJ 2 [] (Ar _) (fun _=>?_)
 have hr7:=hscl
 have hr8:=hl2
 refine Ei mixed (A8 wl [b,b1]) [(true,0),(false,1),(true,2),(true,3),(true,4),(true,5),(true,6),(true,7),(true,8),(true,9),(true,10),(true,11),(false,12),(true,13),(true,14)] kR kR rfl rfl fun w35 hE20 hz14=>?_
 have hKp:A8 wl [b,b1] w35:=A8.cons hr7 hE20 (A8.cons hr8 hE20 (A8.nil _ _))
 refine⟨hKp,?_⟩
 replace hscl:=hscl.ext hE20
 replace hl2:=hl2.ext hE20
 replace hrow:=hrow.ext hE20
 replace hX:=hX.trans hE20
 refine A2 rfl (fun _ hS=>A0 rfl)<|EZ<|A7 rfl (Aw Rt rfl rfl) (Iw _ b src j q (.slice ta toks.length tc) hscl) ?_
 rintro _ w36 ⟨rfl,hE21⟩
 replace hscl:=hscl.ext hE21
 replace hl2:=hl2.ext hE21
 replace hrow:=hrow.ext hE21
 replace hX:=hX.trans hE21
 replace hKp:=hKp.ext hE21
 have sz22:=hE21.size
 refine Ab (Hq hKp<|A2 rfl (fun _ hS=>A0 rfl)<|O8 17 rfl (fun h8=>?_) (fun h8=>?_))
 have hjlt:j<src.length:=by have:=of_decide_eq_true h8;omega
 obtain⟨c1,hc1⟩:=Ks hjlt
 refine CC rfl rfl rfl h8 (fun _ hS=>A0 rfl)<|CC rfl rfl rfl h8 (fun _ hS=>B6 rfl)<|CC rfl rfl rfl h8 (fun _ hS=>BO rfl J0)<|CC rfl rfl rfl h8 (fun _ hS=>Al rfl U6 (hr7.keep hS (.head _)) rfl)<|CC rfl rfl rfl h8 (fun _ hS=>A0 rfl)<|CC rfl rfl rfl h8 (fun _ hS=>B6 rfl)<|CC rfl rfl rfl h8 (fun _ hS=>BO rfl Hr)<|CC rfl rfl rfl h8 (fun _ hS=>Al rfl PX (hr7.keep hS (.head _)) rfl)<|CC rfl rfl rfl h8 (fun _ hS=>DB (c:=c1) rfl rfl Im oM (by rw[Int.toNat_natCast];exact hc1))<|EZ ?_
 refine BG rfl rfl h8<|A7 rfl (Aw Vv rfl rfl) (Fx _ Vh _) ?_
 rintro _ w37 ⟨rfl,hE22⟩
 replace hscl:=hscl.ext hE22
 replace hl2:=hl2.ext hE22
 replace hrow:=hrow.ext hE22
 replace hX:=hX.trans hE22
 replace hKp:=hKp.ext hE22
 have sz23:=hE22.size
 refine Ab (Hq hKp<|CC rfl rfl rfl h8 (fun _ hS=>Tu rfl rfl)<|A2 rfl (fun _ hS=>MO rfl h8 rfl)<|Em<|D3<|sP 29 rfl (fun h9=>?_) (fun h9=>?_))
 refine gP [.sq _] EJ 6 [] (Ar _) (fun _=>A7 rfl (Aw MU rfl rfl) (FM _ b src j q (.slice ta toks.length tc) hscl c1 hc1 oM hq) ?_)
 rintro _ w38 ⟨rfl,hb21,hE23⟩
 replace hl2:=hl2.exb hE23 oM
 replace hrow:=Ck.exb hrow hE23 (fun e=>by have:=hlow _ e;omega)
 replace hX:=hE23.ext hX hb0
 have sz24:=hE23.size
 have hp3:=Pk.adv (c:=c1) hq
 refine gL [.bk _] EJ 2 [] (Ar _) (fun _=>HA (src.length-(j+1)) (E3 0 (.pointer (some ⟨b,0,none⟩)) 2 (.pointer (some ⟨b1,0,none⟩)) 3 (.int .i64 (i:Int))) (by have:=Cn hc1;omega) lE ⟨j+1,adv c1 q,rfl,rfl,rfl,oM,by have:=Cn hc1;omega,hp3,by rw[hm,TX hc1 h9,Ta (by omega) hc1,List.append_assoc];rfl,hb21,hl2,hrow,hX⟩)
 exact gP [.sq _] EJ 3 [] (Ar _) (fun _=>Oc<|OK<|OB lE ⟨j,q,hij,hjl,hq,by rw[hm,Of (p:=q) (src:=src) (j:=j) (.inr ⟨c1,hc1,h9⟩),List.append_nil],hscl,hl2,hrow,hX⟩)
 refine CA rfl rfl rfl h8<|CA rfl rfl rfl h8<|CA rfl rfl rfl h8<|CA rfl rfl rfl h8<|CA rfl rfl rfl h8<|CA rfl rfl rfl h8<|CA rfl rfl rfl h8<|CA rfl rfl rfl h8<|CA rfl rfl rfl h8<|EZ ?_
 exact aX rfl rfl rfl h8<|Ab (Hq hKp<|CA rfl rfl rfl h8<|A2 rfl (fun _ hS=>N7 rfl h8 rfl)<|Em<|gQ [.sq _,.sq _] EJ 4 [] (Ar _) (fun _=>Oc<|OK<|OB lE ⟨j,q,hij,hjl,hq,by rw[hm,Of (p:=q) (src:=src) (j:=j) (.inl (by have:=of_decide_eq_false h8;omega)),List.append_nil],hscl,hl2,hrow,hX⟩))
 rintro wl ⟨j,q,hij,hjl,hq,hm,hscl,hl2,hrow,hX⟩
 have szl:=hX.size
 have lt2:=hl2.lt
 have lts:=hscl.lt
 have hr9:=hl2
 refine Es mixed (A8 wl [b1]) (rd [0,1,2,3,5,6,7,9,10,11,12,15] (.br 4 (.br 8 (.br 13 (.rd 14 (.br 16 (.br 17 (.br 18 (.rd 19 (.rd 20 (.br 21 .fin .fin))) .fin) .fin) .fin)) .fin) (.br 13 (.br 8 (.rd 14 (.br 16 (.br 17 (.br 18 (.rd 19 (.rd 20 (.br 21 .fin .fin))) .fin) .fin) .fin)) .fin) .fin)) (.br 8 (.br 4 (.br 13 (.rd 14 (.br 16 (.br 17 (.br 18 (.rd 19 (.rd 20 (.br 21 .fin .fin))) .fin) .fin) .fin)) .fin) (.br 13 (.rd 14 (.br 4 (.br 16 (.br 17 (.br 18 (.rd 19 (.rd 20 (.br 21 .fin .fin))) .fin) .fin) .fin) (.br 16 (.br 4 (.br 17 (.br 18 (.rd 19 (.rd 20 (.br 21 .fin .fin))) .fin) .fin) (.br 17 (.br 4 (.br 18 (.rd 19 (.rd 20 (.br 21 .fin .fin))) .fin) .fin) .fin)) .fin))) .fin)) (.br 13 (.br 4 (.br 8 (.rd 14 (.br 16 (.br 17 (.br 18 (.rd 19 (.rd 20 (.br 21 .fin .fin))) .fin) .fin) .fin)) .fin) (.br 8 (.rd 14 (.br 4 (.br 16 (.br 17 (.br 18 (.rd 19 (.rd 20 (.br 21 .fin .fin))) .fin) .fin) .fin) (.br 16 (.br 4 (.br 17 (.br 18 (.rd 19 (.rd 20 (.br 21 .fin .fin))) .fin) .fin) (.br 17 (.br 4 (.br 18 (.rd 19 (.rd 20 (.br 21 .fin .fin))) .fin) .fin) .fin)) .fin))) .fin)) .fin)))) kR kR kR fun w39 hE24 hz15=>?_
 have hKp:A8 wl [b1] w39:=A8.cons hr9 hE24 (A8.nil _ _)
 refine⟨hKp,?_⟩
 replace hscl:=hscl.ext hE24
 replace hl2:=hl2.ext hE24
 replace hrow:=hrow.ext hE24
 replace hX:=hX.trans hE24
 refine Av rfl rfl (fun _ hS=>A0 rfl)<|Av rfl rfl (fun _ hS=>A0 rfl)<|Av rfl rfl (fun _ hS=>B6 rfl)<|Av rfl rfl (fun _ hS=>BO rfl De)<|Av rfl rfl (fun _ hS=>A0 rfl)<|Av rfl rfl (fun _ hS=>B6 rfl)<|Av rfl rfl (fun _ hS=>BO rfl J0)<|Av rfl rfl (fun _ hS=>A0 rfl)<|Av rfl rfl (fun _ hS=>A0 rfl)<|Av rfl rfl (fun _ hS=>B6 rfl) ?_
 refine Av rfl rfl (fun _ hS=>BO rfl Hr)<|Av rfl rfl (fun _ hS=>Dt rfl Hw (hr9.keep hS (.head _)) rfl)<|Am rfl ?_ ?_
 refine Aa rfl (Al rfl D5 hscl rfl)<|Ab (An hKp<|Am rfl ?_ ?_)
 refine Aa rfl (Al rfl U6 hscl rfl)<|Ab (An hKp<|Am rfl ?_ Ae)
 refine Aa rfl (Al rfl PX hscl rfl)<|Ab (An hKp<|Av rfl rfl (fun _ hS=>LL rfl rfl rfl Im ⟨oM,oM,oM⟩)<|Am rfl ?_ Ae)
 refine Cf rfl (Aw Mn rfl rfl) (Fg hPF _ (hG.ext hX) (Fe src i j) (by have:=Fi src i j;omega) (by rw[AU hij hc];simp) p) ?_ (fun cc wp hc1=>And.intro rfl (let ⟨he,hcc,hE⟩:=hc1;⟨p,by rw[BP hc h1 h2 h5 h6 h7,hm];simp only[];rw[← AU hij hc,he],hcc,hX.trans hE⟩))
 rintro _ w40 ⟨wk,wn,wt,hw,rfl,hE25⟩
 replace hscl:=hscl.ext hE25
 replace hl2:=hl2.ext hE25
 replace hrow:=hrow.ext hE25
 replace hX:=hX.trans hE25
 replace hKp:=hKp.ext hE25
 have sz25:=hE25.size
 have hst2:Ee (src.length+1) p (src.drop i)=.ok ([⟨wk,p.1,p.2,wn,wt⟩],src.drop j,q):=by rw[BP hc h1 h2 h5 h6 h7,hm];simp only[];rw[← AU hij hc,hw]
 refine Ab (An hKp<|Am rfl ?_ Ae)
 refine Cj rfl rfl Ht FU rfl rfl rfl rfl rfl fun b9 w41 hb22 hE26 hs9 hz16=>?_
 replace hscl:=hscl.ext hE26
 replace hl2:=hl2.ext hE26
 replace hrow:=hrow.ext hE26
 replace hX:=hX.trans hE26
 replace hKp:=hKp.ext hE26
 refine Ab (An hKp<|Am rfl ?_ Ae)
 refine Be rfl Je rfl rfl rfl rfl hrow hb22 rfl rfl oM oM fun ta2 GB w42 hr2 hG2=>?_
 have hlow2:∀x,rb ta2=some x→w0.heap.size≤x∧x≠b:=Ca hG2 hlow oM
 replace hscl:=hscl.grow hG2 (fun e=>by have:=hlow _ e.symm;have:=hlowl _ e.symm;omega)
 replace hl2:=hl2.grow hG2 (fun e=>by have:=hlow _ e.symm;have:=hlowl _ e.symm;omega)
 replace hX:=hX.grow hG2 (fun x hx=>(hlow x hx).1)
 replace hKp:=hKp.grow hG2 (by simp only[List.mem_cons,List.not_mem_nil,or_false];intro c hc e;have:=hlow _ e.symm;have:=hlowl _ e.symm;omega)
 have sz26:=hG2.size
 refine Ab (An hKp<|Av rfl rfl (fun _ hS=>B6 rfl)<|Av rfl rfl (fun _ hS=>BO rfl De)<|Am rfl ?_ Ae)
 refine A4 rfl rfl rfl D5 rfl hscl rfl rfl fun w43 hb23 hC9=>?_
 replace hl2:=hl2.chg hC9 oM
 replace hr2:=Ck.chg hr2 hC9 (fun e=>by have:=hlow2 _ e;omega)
 replace hX:=hX.chg hC9 oM
 replace hKp:=hKp.chg hC9 nM
 have sz27:=hC9.size
 exact Ab (An hKp<|BC<|DX<|Gu (DT rfl)<|⟨[⟨wk,p.1,p.2,wn,wt⟩],j,q,ta2,GB,hst2,rfl,by rw[List.length_append];exact hb23,by rw[List.length_append,BH];exact hr2,hlow2,hX,oM,by first|omega|(have:=Cn hc;omega),hq⟩)
 refine Am rfl ?_ ?_
 refine Aa rfl (Al rfl PX hscl rfl)<|Ab (An hKp<|Am rfl ?_ Ae)
 refine Aa rfl (Al rfl U6 hscl rfl)<|Ab (An hKp<|Av rfl rfl (fun _ hS=>LL rfl rfl rfl Im ⟨oM,oM,oM⟩)<|Am rfl ?_ Ae)
 refine Cf rfl (Aw Mn rfl rfl) (Fg hPF _ (hG.ext hX) (Fe src i j) (by have:=Fi src i j;omega) (by rw[AU hij hc];simp) p) ?_ (fun cc wp hc1=>And.intro rfl (let ⟨he,hcc,hE⟩:=hc1;⟨p,by rw[BP hc h1 h2 h5 h6 h7,hm];simp only[];rw[← AU hij hc,he],hcc,hX.trans hE⟩))
 rintro _ w44 ⟨wk,wn,wt,hw,rfl,hE27⟩
 replace hscl:=hscl.ext hE27
 replace hl2:=hl2.ext hE27
 replace hrow:=hrow.ext hE27
 replace hX:=hX.trans hE27
 replace hKp:=hKp.ext hE27
 have sz28:=hE27.size
 have hst2:Ee (src.length+1) p (src.drop i)=.ok ([⟨wk,p.1,p.2,wn,wt⟩],src.drop j,q):=by rw[BP hc h1 h2 h5 h6 h7,hm];simp only[];rw[← AU hij hc,hw]
 refine Ab (An hKp<|Am rfl ?_ Ae)
 refine Cj rfl rfl Ht FU rfl rfl rfl rfl rfl fun b10 w45 hb24 hE28 hs10 hz17=>?_
 replace hscl:=hscl.ext hE28
 replace hl2:=hl2.ext hE28
 replace hrow:=hrow.ext hE28
 replace hX:=hX.trans hE28
 replace hKp:=hKp.ext hE28
 refine Ab (An hKp<|Am rfl ?_ Ae)
 refine Be rfl Je rfl rfl rfl rfl hrow hb24 rfl rfl oM oM fun ta2 GB w46 hr2 hG2=>?_
 have hlow2:∀x,rb ta2=some x→w0.heap.size≤x∧x≠b:=Ca hG2 hlow oM
 replace hscl:=hscl.grow hG2 (fun e=>by have:=hlow _ e.symm;have:=hlowl _ e.symm;omega)
 replace hl2:=hl2.grow hG2 (fun e=>by have:=hlow _ e.symm;have:=hlowl _ e.symm;omega)
 replace hX:=hX.grow hG2 (fun x hx=>(hlow x hx).1)
 replace hKp:=hKp.grow hG2 (by simp only[List.mem_cons,List.not_mem_nil,or_false];intro c hc e;have:=hlow _ e.symm;have:=hlowl _ e.symm;omega)
 have sz29:=hG2.size
 refine Ab (An hKp<|Av rfl rfl (fun _ hS=>B6 rfl)<|Av rfl rfl (fun _ hS=>BO rfl De)<|Am rfl ?_ Ae)
 refine A4 rfl rfl rfl D5 rfl hscl rfl rfl fun w47 hb25 hC10=>?_
 replace hl2:=hl2.chg hC10 oM
 replace hr2:=Ck.chg hr2 hC10 (fun e=>by have:=hlow2 _ e;omega)
 replace hX:=hX.chg hC10 oM
 replace hKp:=hKp.chg hC10 nM
 have sz30:=hC10.size
 exact Ab (An hKp<|BC<|DX<|Gu (DT rfl)<|⟨[⟨wk,p.1,p.2,wn,wt⟩],j,q,ta2,GB,hst2,rfl,by rw[List.length_append];exact hb25,by rw[List.length_append,BH];exact hr2,hlow2,hX,oM,by first|omega|(have:=Cn hc;omega),hq⟩)
 exact Ae
 refine Am rfl ?_ ?_
 refine Aa rfl (Al rfl U6 hscl rfl)<|Ab (An hKp<|Am rfl ?_ ?_)
 refine Aa rfl (Al rfl D5 hscl rfl)<|Ab (An hKp<|Am rfl ?_ Ae)
 refine Aa rfl (Al rfl PX hscl rfl)<|Ab (An hKp<|Av rfl rfl (fun _ hS=>LL rfl rfl rfl Im ⟨oM,oM,oM⟩)<|Am rfl ?_ Ae)
 refine Cf rfl (Aw Mn rfl rfl) (Fg hPF _ (hG.ext hX) (Fe src i j) (by have:=Fi src i j;omega) (by rw[AU hij hc];simp) p) ?_ (fun cc wp hc1=>And.intro rfl (let ⟨he,hcc,hE⟩:=hc1;⟨p,by rw[BP hc h1 h2 h5 h6 h7,hm];simp only[];rw[← AU hij hc,he],hcc,hX.trans hE⟩))
 rintro _ w48 ⟨wk,wn,wt,hw,rfl,hE29⟩
 replace hscl:=hscl.ext hE29
 replace hl2:=hl2.ext hE29
 replace hrow:=hrow.ext hE29
 replace hX:=hX.trans hE29
 replace hKp:=hKp.ext hE29
 have sz31:=hE29.size
 have hst2:Ee (src.length+1) p (src.drop i)=.ok ([⟨wk,p.1,p.2,wn,wt⟩],src.drop j,q):=by rw[BP hc h1 h2 h5 h6 h7,hm];simp only[];rw[← AU hij hc,hw]
 refine Ab (An hKp<|Am rfl ?_ Ae)
 refine Cj rfl rfl Ht FU rfl rfl rfl rfl rfl fun b11 w49 hb26 hE30 hs11 hz18=>?_
 replace hscl:=hscl.ext hE30
 replace hl2:=hl2.ext hE30
 replace hrow:=hrow.ext hE30
 replace hX:=hX.trans hE30
 replace hKp:=hKp.ext hE30
 refine Ab (An hKp<|Am rfl ?_ Ae)
 refine Be rfl Je rfl rfl rfl rfl hrow hb26 rfl rfl oM oM fun ta2 GB w50 hr2 hG2=>?_
 have hlow2:∀x,rb ta2=some x→w0.heap.size≤x∧x≠b:=Ca hG2 hlow oM
 replace hscl:=hscl.grow hG2 (fun e=>by have:=hlow _ e.symm;have:=hlowl _ e.symm;omega)
 replace hl2:=hl2.grow hG2 (fun e=>by have:=hlow _ e.symm;have:=hlowl _ e.symm;omega)
 replace hX:=hX.grow hG2 (fun x hx=>(hlow x hx).1)
 replace hKp:=hKp.grow hG2 (by simp only[List.mem_cons,List.not_mem_nil,or_false];intro c hc e;have:=hlow _ e.symm;have:=hlowl _ e.symm;omega)
 have sz32:=hG2.size
 refine Ab (An hKp<|Av rfl rfl (fun _ hS=>B6 rfl)<|Av rfl rfl (fun _ hS=>BO rfl De)<|Am rfl ?_ Ae)
 refine A4 rfl rfl rfl D5 rfl hscl rfl rfl fun w51 hb27 hC11=>?_
 replace hl2:=hl2.chg hC11 oM
 replace hr2:=Ck.chg hr2 hC11 (fun e=>by have:=hlow2 _ e;omega)
 replace hX:=hX.chg hC11 oM
 replace hKp:=hKp.chg hC11 nM
 have sz33:=hC11.size
 exact Ab (An hKp<|BC<|DX<|Gu (DT rfl)<|⟨[⟨wk,p.1,p.2,wn,wt⟩],j,q,ta2,GB,hst2,rfl,by rw[List.length_append];exact hb27,by rw[List.length_append,BH];exact hr2,hlow2,hX,oM,by first|omega|(have:=Cn hc;omega),hq⟩)
 refine Am rfl ?_ ?_
 refine Aa rfl (Al rfl PX hscl rfl)<|Ab (An hKp<|Av rfl rfl (fun _ hS=>LL rfl rfl rfl Im ⟨oM,oM,oM⟩)<|Am rfl ?_ ?_)
 refine Aa rfl (Al rfl D5 hscl rfl)<|Ab (An hKp<|Am rfl ?_ Ae)
 refine Cf rfl (Aw Mn rfl rfl) (Fg hPF _ (hG.ext hX) (Fe src i j) (by have:=Fi src i j;omega) (by rw[AU hij hc];simp) p) ?_ (fun cc wp hc1=>And.intro rfl (let ⟨he,hcc,hE⟩:=hc1;⟨p,by rw[BP hc h1 h2 h5 h6 h7,hm];simp only[];rw[← AU hij hc,he],hcc,hX.trans hE⟩))
 rintro _ w52 ⟨wk,wn,wt,hw,rfl,hE31⟩
 replace hscl:=hscl.ext hE31
 replace hl2:=hl2.ext hE31
 replace hrow:=hrow.ext hE31
 replace hX:=hX.trans hE31
 replace hKp:=hKp.ext hE31
 have sz34:=hE31.size
 have hst2:Ee (src.length+1) p (src.drop i)=.ok ([⟨wk,p.1,p.2,wn,wt⟩],src.drop j,q):=by rw[BP hc h1 h2 h5 h6 h7,hm];simp only[];rw[← AU hij hc,hw]
 refine Ab (An hKp<|Am rfl ?_ Ae)
 refine Cj rfl rfl Ht FU rfl rfl rfl rfl rfl fun b12 w53 hb28 hE32 hs12 hz19=>?_
 replace hscl:=hscl.ext hE32
 replace hl2:=hl2.ext hE32
 replace hrow:=hrow.ext hE32
 replace hX:=hX.trans hE32
 replace hKp:=hKp.ext hE32
 refine Ab (An hKp<|Am rfl ?_ Ae)
 refine Be rfl Je rfl rfl rfl rfl hrow hb28 rfl rfl oM oM fun ta2 GB w54 hr2 hG2=>?_
 have hlow2:∀x,rb ta2=some x→w0.heap.size≤x∧x≠b:=Ca hG2 hlow oM
 replace hscl:=hscl.grow hG2 (fun e=>by have:=hlow _ e.symm;have:=hlowl _ e.symm;omega)
 replace hl2:=hl2.grow hG2 (fun e=>by have:=hlow _ e.symm;have:=hlowl _ e.symm;omega)
 replace hX:=hX.grow hG2 (fun x hx=>(hlow x hx).1)
 replace hKp:=hKp.grow hG2 (by simp only[List.mem_cons,List.not_mem_nil,or_false];intro c hc e;have:=hlow _ e.symm;have:=hlowl _ e.symm;omega)
 have sz35:=hG2.size
 refine Ab (An hKp<|Av rfl rfl (fun _ hS=>B6 rfl)<|Av rfl rfl (fun _ hS=>BO rfl De)<|Am rfl ?_ Ae)
 refine A4 rfl rfl rfl D5 rfl hscl rfl rfl fun w55 hb29 hC12=>?_
 replace hl2:=hl2.chg hC12 oM
 replace hr2:=Ck.chg hr2 hC12 (fun e=>by have:=hlow2 _ e;omega)
 replace hX:=hX.chg hC12 oM
 replace hKp:=hKp.chg hC12 nM
 have sz36:=hC12.size
 exact Ab (An hKp<|BC<|DX<|Gu (DT rfl)<|⟨[⟨wk,p.1,p.2,wn,wt⟩],j,q,ta2,GB,hst2,rfl,by rw[List.length_append];exact hb29,by rw[List.length_append,BH];exact hr2,hlow2,hX,oM,by first|omega|(have:=Cn hc;omega),hq⟩)
 refine Am rfl ?_ ?_
 refine Cf rfl (Aw Mn rfl rfl) (Fg hPF _ (hG.ext hX) (Fe src i j) (by have:=Fi src i j;omega) (by rw[AU hij hc];simp) p) ?_ (fun cc wp hc1=>And.intro rfl (let ⟨he,hcc,hE⟩:=hc1;⟨p,by rw[BP hc h1 h2 h5 h6 h7,hm];simp only[];rw[← AU hij hc,he],hcc,hX.trans hE⟩))
 rintro _ w56 ⟨wk,wn,wt,hw,rfl,hE33⟩
 replace hscl:=hscl.ext hE33
 replace hl2:=hl2.ext hE33
 replace hrow:=hrow.ext hE33
 replace hX:=hX.trans hE33
 replace hKp:=hKp.ext hE33
 have sz37:=hE33.size
 have hst2:Ee (src.length+1) p (src.drop i)=.ok ([⟨wk,p.1,p.2,wn,wt⟩],src.drop j,q):=by rw[BP hc h1 h2 h5 h6 h7,hm];simp only[];rw[← AU hij hc,hw]
 refine Ab (An hKp<|Am rfl ?_ ?_)
 refine Aa rfl (Al rfl D5 hscl rfl)<|Ab (An hKp<|Am rfl ?_ Ae)
 refine Cj rfl rfl Ht FU rfl rfl rfl rfl rfl fun b13 w57 hb30 hE34 hs13 hz20=>?_
 replace hscl:=hscl.ext hE34
 replace hl2:=hl2.ext hE34
 replace hrow:=hrow.ext hE34
 replace hX:=hX.trans hE34
 replace hKp:=hKp.ext hE34
 refine Ab (An hKp<|Am rfl ?_ Ae)
 refine Be rfl Je rfl rfl rfl rfl hrow hb30 rfl rfl oM oM fun ta2 GB w58 hr2 hG2=>?_
 have hlow2:∀x,rb ta2=some x→w0.heap.size≤x∧x≠b:=Ca hG2 hlow oM
 replace hscl:=hscl.grow hG2 (fun e=>by have:=hlow _ e.symm;have:=hlowl _ e.symm;omega)
 replace hl2:=hl2.grow hG2 (fun e=>by have:=hlow _ e.symm;have:=hlowl _ e.symm;omega)
 replace hX:=hX.grow hG2 (fun x hx=>(hlow x hx).1)
 replace hKp:=hKp.grow hG2 (by simp only[List.mem_cons,List.not_mem_nil,or_false];intro c hc e;have:=hlow _ e.symm;have:=hlowl _ e.symm;omega)
 have sz38:=hG2.size
 refine Ab (An hKp<|Av rfl rfl (fun _ hS=>B6 rfl)<|Av rfl rfl (fun _ hS=>BO rfl De)<|Am rfl ?_ Ae)
 refine A4 rfl rfl rfl D5 rfl hscl rfl rfl fun w59 hb31 hC13=>?_
 replace hl2:=hl2.chg hC13 oM
 replace hr2:=Ck.chg hr2 hC13 (fun e=>by have:=hlow2 _ e;omega)
 replace hX:=hX.chg hC13 oM
 replace hKp:=hKp.chg hC13 nM
 have sz39:=hC13.size
 exact Ab (An hKp<|BC<|DX<|Gu (DT rfl)<|⟨[⟨wk,p.1,p.2,wn,wt⟩],j,q,ta2,GB,hst2,rfl,by rw[List.length_append];exact hb31,by rw[List.length_append,BH];exact hr2,hlow2,hX,oM,by first|omega|(have:=Cn hc;omega),hq⟩)
 refine Am rfl ?_ ?_
 refine Cj rfl rfl Ht FU rfl rfl rfl rfl rfl fun b14 w60 hb32 hE35 hs14 hz21=>?_
 replace hscl:=hscl.ext hE35
 replace hl2:=hl2.ext hE35
 replace hrow:=hrow.ext hE35
 replace hX:=hX.trans hE35
 replace hKp:=hKp.ext hE35
 refine Ab (An hKp<|Am rfl ?_ Ae)
 refine Aa rfl (Al rfl D5 hscl rfl)<|Ab (An hKp<|Am rfl ?_ Ae)
 refine Be rfl Je rfl rfl rfl rfl hrow hb32 rfl rfl oM oM fun ta2 GB w61 hr2 hG2=>?_
 have hlow2:∀x,rb ta2=some x→w0.heap.size≤x∧x≠b:=Ca hG2 hlow oM
 replace hscl:=hscl.grow hG2 (fun e=>by have:=hlow _ e.symm;have:=hlowl _ e.symm;omega)
 replace hl2:=hl2.grow hG2 (fun e=>by have:=hlow _ e.symm;have:=hlowl _ e.symm;omega)
 replace hX:=hX.grow hG2 (fun x hx=>(hlow x hx).1)
 replace hKp:=hKp.grow hG2 (by simp only[List.mem_cons,List.not_mem_nil,or_false];intro c hc e;have:=hlow _ e.symm;have:=hlowl _ e.symm;omega)
 have sz40:=hG2.size
 refine Ab (An hKp<|Av rfl rfl (fun _ hS=>B6 rfl)<|Av rfl rfl (fun _ hS=>BO rfl De)<|Am rfl ?_ Ae)
 refine A4 rfl rfl rfl D5 rfl hscl rfl rfl fun w62 hb33 hC14=>?_
 replace hl2:=hl2.chg hC14 oM
 replace hr2:=Ck.chg hr2 hC14 (fun e=>by have:=hlow2 _ e;omega)
 replace hX:=hX.chg hC14 oM
 replace hKp:=hKp.chg hC14 nM
 have sz41:=hC14.size
 exact Ab (An hKp<|BC<|DX<|Gu (DT rfl)<|⟨[⟨wk,p.1,p.2,wn,wt⟩],j,q,ta2,GB,hst2,rfl,by rw[List.length_append];exact hb33,by rw[List.length_append,BH];exact hr2,hlow2,hX,oM,by first|omega|(have:=Cn hc;omega),hq⟩)
 exact Ae
 exact Ae
 exact Ae
 refine Am rfl ?_ ?_
 refine Aa rfl (Al rfl PX hscl rfl)<|Ab (An hKp<|Am rfl ?_ ?_)
 refine Aa rfl (Al rfl D5 hscl rfl)<|Ab (An hKp<|Am rfl ?_ Ae)
 refine Aa rfl (Al rfl U6 hscl rfl)<|Ab (An hKp<|Av rfl rfl (fun _ hS=>LL rfl rfl rfl Im ⟨oM,oM,oM⟩)<|Am rfl ?_ Ae)
 refine Cf rfl (Aw Mn rfl rfl) (Fg hPF _ (hG.ext hX) (Fe src i j) (by have:=Fi src i j;omega) (by rw[AU hij hc];simp) p) ?_ (fun cc wp hc1=>And.intro rfl (let ⟨he,hcc,hE⟩:=hc1;⟨p,by rw[BP hc h1 h2 h5 h6 h7,hm];simp only[];rw[← AU hij hc,he],hcc,hX.trans hE⟩))
 rintro _ w63 ⟨wk,wn,wt,hw,rfl,hE36⟩
 replace hscl:=hscl.ext hE36
 replace hl2:=hl2.ext hE36
 replace hrow:=hrow.ext hE36
 replace hX:=hX.trans hE36
 replace hKp:=hKp.ext hE36
 have sz42:=hE36.size
 have hst2:Ee (src.length+1) p (src.drop i)=.ok ([⟨wk,p.1,p.2,wn,wt⟩],src.drop j,q):=by rw[BP hc h1 h2 h5 h6 h7,hm];simp only[];rw[← AU hij hc,hw]
 refine Ab (An hKp<|Am rfl ?_ Ae)
 refine Cj rfl rfl Ht FU rfl rfl rfl rfl rfl fun b15 w64 hb34 hE37 hs15 hz22=>?_
 replace hscl:=hscl.ext hE37
 replace hl2:=hl2.ext hE37
 replace hrow:=hrow.ext hE37
 replace hX:=hX.trans hE37
 replace hKp:=hKp.ext hE37
 refine Ab (An hKp<|Am rfl ?_ Ae)
 refine Be rfl Je rfl rfl rfl rfl hrow hb34 rfl rfl oM oM fun ta2 GB w65 hr2 hG2=>?_
 have hlow2:∀x,rb ta2=some x→w0.heap.size≤x∧x≠b:=Ca hG2 hlow oM
 replace hscl:=hscl.grow hG2 (fun e=>by have:=hlow _ e.symm;have:=hlowl _ e.symm;omega)
 replace hl2:=hl2.grow hG2 (fun e=>by have:=hlow _ e.symm;have:=hlowl _ e.symm;omega)
 replace hX:=hX.grow hG2 (fun x hx=>(hlow x hx).1)
 replace hKp:=hKp.grow hG2 (by simp only[List.mem_cons,List.not_mem_nil,or_false];intro c hc e;have:=hlow _ e.symm;have:=hlowl _ e.symm;omega)
 have sz43:=hG2.size
 refine Ab (An hKp<|Av rfl rfl (fun _ hS=>B6 rfl)<|Av rfl rfl (fun _ hS=>BO rfl De)<|Am rfl ?_ Ae)
 refine A4 rfl rfl rfl D5 rfl hscl rfl rfl fun w66 hb35 hC15=>?_
 replace hl2:=hl2.chg hC15 oM
 replace hr2:=Ck.chg hr2 hC15 (fun e=>by have:=hlow2 _ e;omega)
 replace hX:=hX.chg hC15 oM
 replace hKp:=hKp.chg hC15 nM
 have sz44:=hC15.size
 exact Ab (An hKp<|BC<|DX<|Gu (DT rfl)<|⟨[⟨wk,p.1,p.2,wn,wt⟩],j,q,ta2,GB,hst2,rfl,by rw[List.length_append];exact hb35,by rw[List.length_append,BH];exact hr2,hlow2,hX,oM,by first|omega|(have:=Cn hc;omega),hq⟩)
 refine Am rfl ?_ ?_
 refine Aa rfl (Al rfl U6 hscl rfl)<|Ab (An hKp<|Av rfl rfl (fun _ hS=>LL rfl rfl rfl Im ⟨oM,oM,oM⟩)<|Am rfl ?_ ?_)
 refine Aa rfl (Al rfl D5 hscl rfl)<|Ab (An hKp<|Am rfl ?_ Ae)
 refine Cf rfl (Aw Mn rfl rfl) (Fg hPF _ (hG.ext hX) (Fe src i j) (by have:=Fi src i j;omega) (by rw[AU hij hc];simp) p) ?_ (fun cc wp hc1=>And.intro rfl (let ⟨he,hcc,hE⟩:=hc1;⟨p,by rw[BP hc h1 h2 h5 h6 h7,hm];simp only[];rw[← AU hij hc,he],hcc,hX.trans hE⟩))
 rintro _ w67 ⟨wk,wn,wt,hw,rfl,hE38⟩
 replace hscl:=hscl.ext hE38
 replace hl2:=hl2.ext hE38
 replace hrow:=hrow.ext hE38
 replace hX:=hX.trans hE38
 replace hKp:=hKp.ext hE38
 have sz45:=hE38.size
 have hst2:Ee (src.length+1) p (src.drop i)=.ok ([⟨wk,p.1,p.2,wn,wt⟩],src.drop j,q):=by rw[BP hc h1 h2 h5 h6 h7,hm];simp only[];rw[← AU hij hc,hw]
 refine Ab (An hKp<|Am rfl ?_ Ae)
 refine Cj rfl rfl Ht FU rfl rfl rfl rfl rfl fun b16 w68 hb36 hE39 hs16 hz23=>?_
 replace hscl:=hscl.ext hE39
 replace hl2:=hl2.ext hE39
 replace hrow:=hrow.ext hE39
 replace hX:=hX.trans hE39
 replace hKp:=hKp.ext hE39
 refine Ab (An hKp<|Am rfl ?_ Ae)
 refine Be rfl Je rfl rfl rfl rfl hrow hb36 rfl rfl oM oM fun ta2 GB w69 hr2 hG2=>?_
 have hlow2:∀x,rb ta2=some x→w0.heap.size≤x∧x≠b:=Ca hG2 hlow oM
 replace hscl:=hscl.grow hG2 (fun e=>by have:=hlow _ e.symm;have:=hlowl _ e.symm;omega)
 replace hl2:=hl2.grow hG2 (fun e=>by have:=hlow _ e.symm;have:=hlowl _ e.symm;omega)
 replace hX:=hX.grow hG2 (fun x hx=>(hlow x hx).1)
 replace hKp:=hKp.grow hG2 (by simp only[List.mem_cons,List.not_mem_nil,or_false];intro c hc e;have:=hlow _ e.symm;have:=hlowl _ e.symm;omega)
 have sz46:=hG2.size
 refine Ab (An hKp<|Av rfl rfl (fun _ hS=>B6 rfl)<|Av rfl rfl (fun _ hS=>BO rfl De)<|Am rfl ?_ Ae)
 refine A4 rfl rfl rfl D5 rfl hscl rfl rfl fun w70 hb37 hC16=>?_
 replace hl2:=hl2.chg hC16 oM
 replace hr2:=Ck.chg hr2 hC16 (fun e=>by have:=hlow2 _ e;omega)
 replace hX:=hX.chg hC16 oM
 replace hKp:=hKp.chg hC16 nM
 have sz47:=hC16.size
 exact Ab (An hKp<|BC<|DX<|Gu (DT rfl)<|⟨[⟨wk,p.1,p.2,wn,wt⟩],j,q,ta2,GB,hst2,rfl,by rw[List.length_append];exact hb37,by rw[List.length_append,BH];exact hr2,hlow2,hX,oM,by first|omega|(have:=Cn hc;omega),hq⟩)
 refine Am rfl ?_ ?_
 refine Cf rfl (Aw Mn rfl rfl) (Fg hPF _ (hG.ext hX) (Fe src i j) (by have:=Fi src i j;omega) (by rw[AU hij hc];simp) p) ?_ (fun cc wp hc1=>And.intro rfl (let ⟨he,hcc,hE⟩:=hc1;⟨p,by rw[BP hc h1 h2 h5 h6 h7,hm];simp only[];rw[← AU hij hc,he],hcc,hX.trans hE⟩))
 rintro _ w71 ⟨wk,wn,wt,hw,rfl,hE40⟩
 replace hscl:=hscl.ext hE40
 replace hl2:=hl2.ext hE40
 replace hrow:=hrow.ext hE40
 replace hX:=hX.trans hE40
 replace hKp:=hKp.ext hE40
 have sz48:=hE40.size
 have hst2:Ee (src.length+1) p (src.drop i)=.ok ([⟨wk,p.1,p.2,wn,wt⟩],src.drop j,q):=by rw[BP hc h1 h2 h5 h6 h7,hm];simp only[];rw[← AU hij hc,hw]
 refine Ab (An hKp<|Am rfl ?_ ?_)
 refine Aa rfl (Al rfl D5 hscl rfl)<|Ab (An hKp<|Am rfl ?_ Ae)
 refine Cj rfl rfl Ht FU rfl rfl rfl rfl rfl fun b17 w72 hb38 hE41 hs17 hz24=>?_
 replace hscl:=hscl.ext hE41
 replace hl2:=hl2.ext hE41
 replace hrow:=hrow.ext hE41
 replace hX:=hX.trans hE41
 replace hKp:=hKp.ext hE41
 refine Ab (An hKp<|Am rfl ?_ Ae)
 refine Be rfl Je rfl rfl rfl rfl hrow hb38 rfl rfl oM oM fun ta2 GB w73 hr2 hG2=>?_
 have hlow2:∀x,rb ta2=some x→w0.heap.size≤x∧x≠b:=Ca hG2 hlow oM
 replace hscl:=hscl.grow hG2 (fun e=>by have:=hlow _ e.symm;have:=hlowl _ e.symm;omega)
 replace hl2:=hl2.grow hG2 (fun e=>by have:=hlow _ e.symm;have:=hlowl _ e.symm;omega)
 replace hX:=hX.grow hG2 (fun x hx=>(hlow x hx).1)
 replace hKp:=hKp.grow hG2 (by simp only[List.mem_cons,List.not_mem_nil,or_false];intro c hc e;have:=hlow _ e.symm;have:=hlowl _ e.symm;omega)
 have sz49:=hG2.size
 refine Ab (An hKp<|Av rfl rfl (fun _ hS=>B6 rfl)<|Av rfl rfl (fun _ hS=>BO rfl De)<|Am rfl ?_ Ae)
 refine A4 rfl rfl rfl D5 rfl hscl rfl rfl fun w74 hb39 hC17=>?_
 replace hl2:=hl2.chg hC17 oM
 replace hr2:=Ck.chg hr2 hC17 (fun e=>by have:=hlow2 _ e;omega)
 replace hX:=hX.chg hC17 oM
 replace hKp:=hKp.chg hC17 nM
 have sz50:=hC17.size
 exact Ab (An hKp<|BC<|DX<|Gu (DT rfl)<|⟨[⟨wk,p.1,p.2,wn,wt⟩],j,q,ta2,GB,hst2,rfl,by rw[List.length_append];exact hb39,by rw[List.length_append,BH];exact hr2,hlow2,hX,oM,by first|omega|(have:=Cn hc;omega),hq⟩)
 refine Am rfl ?_ ?_
 refine Cj rfl rfl Ht FU rfl rfl rfl rfl rfl fun b18 w75 hb40 hE42 hs18 hz25=>?_
 replace hscl:=hscl.ext hE42
 replace hl2:=hl2.ext hE42
 replace hrow:=hrow.ext hE42
 replace hX:=hX.trans hE42
 replace hKp:=hKp.ext hE42
 refine Ab (An hKp<|Am rfl ?_ Ae)
 refine Aa rfl (Al rfl D5 hscl rfl)<|Ab (An hKp<|Am rfl ?_ Ae)
 refine Be rfl Je rfl rfl rfl rfl hrow hb40 rfl rfl oM oM fun ta2 GB w76 hr2 hG2=>?_
 have hlow2:∀x,rb ta2=some x→w0.heap.size≤x∧x≠b:=Ca hG2 hlow oM
 replace hscl:=hscl.grow hG2 (fun e=>by have:=hlow _ e.symm;have:=hlowl _ e.symm;omega)
 replace hl2:=hl2.grow hG2 (fun e=>by have:=hlow _ e.symm;have:=hlowl _ e.symm;omega)
 replace hX:=hX.grow hG2 (fun x hx=>(hlow x hx).1)
 replace hKp:=hKp.grow hG2 (by simp only[List.mem_cons,List.not_mem_nil,or_false];intro c hc e;have:=hlow _ e.symm;have:=hlowl _ e.symm;omega)
 have sz51:=hG2.size
 refine Ab (An hKp<|Av rfl rfl (fun _ hS=>B6 rfl)<|Av rfl rfl (fun _ hS=>BO rfl De)<|Am rfl ?_ Ae)
 refine A4 rfl rfl rfl D5 rfl hscl rfl rfl fun w77 hb41 hC18=>?_
 replace hl2:=hl2.chg hC18 oM
 replace hr2:=Ck.chg hr2 hC18 (fun e=>by have:=hlow2 _ e;omega)
 replace hX:=hX.chg hC18 oM
 replace hKp:=hKp.chg hC18 nM
 have sz52:=hC18.size
 exact Ab (An hKp<|BC<|DX<|Gu (DT rfl)<|⟨[⟨wk,p.1,p.2,wn,wt⟩],j,q,ta2,GB,hst2,rfl,by rw[List.length_append];exact hb41,by rw[List.length_append,BH];exact hr2,hlow2,hX,oM,by first|omega|(have:=Cn hc;omega),hq⟩)
 exact Ae
 exact Ae
 exact Ae
 exact Ae
theorem Rs(w:World)(c2 c3 c4:Nat) :
  CallsD Tryz.prog 26 [.pointer (some ⟨c2,0,none⟩),.pointer (some ⟨c3,0,none⟩),.pointer (some ⟨c4,0,none⟩)].toArray .returning w fun r m w'=>∃x,r=.returned x∧m=.returning∧(AV w w'):=by
 have hX:=AV.refl w
 refine DA (R:=fun w'=>AV w w') Tryz.func26 rfl rfl rfl rfl MP<|Eo<|Cc<|CJ<|Aa rfl (QA eG rfl)<|Ab<|D3<|FW rfl rfl<|CJ<|Aa rfl (Dm rfl) ?_
 exact Ab<|DX<|Gu (DT rfl)<|hX
theorem Tf(w0 w:World)(hX0:AV w0 w)(c2 c3 c4:Nat)(v2 x3 y3 v4:Value)(hc2:AQ w c2 [v2] 37)(hc3:AQ w c3 [x3,y3] 25)(hc4:AQ w c4 [v4] 26)(g2:w0.heap.size≤c2)(g3:w0.heap.size≤c3)(g4:w0.heap.size≤c4)(n23:c2≠c3)(n24:c2≠c4)(n34:c3≠c4)(e:Int×Int) :
  CallsD Tryz.prog 26 [.pointer (some ⟨c2,0,none⟩),.pointer (some ⟨c3,0,none⟩),.pointer (some ⟨c4,0,none⟩)].toArray (.panicking (QI 74 e)) w fun r m w'=>∃x,r=.returned x∧m=.panicking [{v:=.iface 74 (.agg #[.int .i64 e.1,.int .i64 e.2]),recovered:=true}]∧(AV w0 w'∧AQ w' c2 [.slice none 0 0] 37∧AQ w' c3 [.int .i64 e.1,.int .i64 e.2] 25∧AQ w' c4 [.int .i64 10] 26):=by
 have l2:=hc2.lt
 have l3:=hc3.lt
 have l4:=hc4.lt
 have hX:=hX0
 have szx:=hX.size
 refine DA (R:=fun w'=>AV w0 w'∧AQ w' c2 [.slice none 0 0] 37∧AQ w' c3 [.int .i64 e.1,.int .i64 e.2] 25∧AQ w' c4 [.int .i64 10] 26) Tryz.func26 rfl rfl rfl rfl Q2<|Eo<|Cc<|CJ<|Aa rfl (PQ eG rfl)<|Ab<|D3<|Kb rfl rfl<|Cc<|CJ ?_
 refine Aa rfl (Tx rfl nP)<|Aa rfl (Un rfl rfl)<|Aa rfl (Un rfl rfl)<|Ab<|D3<|FW rfl rfl<|Cc<|CJ<|CO rfl ZW fun b1 w1 hb1 hE1 hs1 hz1=>?_
 replace hc2:=hc2.ext hE1
 replace hc3:=hc3.ext hE1
 replace hc4:=hc4.ext hE1
 replace hX:=hX.trans hE1
 refine A4 rfl rfl rfl pI rfl hb1 rfl rfl fun w2 hb2 hC1=>?_
 replace hc2:=hc2.chg hC1 oM
 replace hc3:=hc3.chg hC1 oM
 replace hc4:=hc4.chg hC1 oM
 replace hX:=hX.chg hC1 oM
 have sz1:=hC1.size
 refine Ab<|D3 ?_
 have hr1:=hb2
 refine Ei mixed (A8 w2 [b1]) [(true,0),(true,1),(false,2),(false,3),(false,4)] kR kR rfl rfl fun w3 hE2 hz2=>?_
 have hKp:A8 w2 [b1] w3:=A8.cons hr1 hE2 (A8.nil _ _)
 refine⟨hKp,?_⟩
 replace hc2:=hc2.ext hE2
 replace hc3:=hc3.ext hE2
 replace hc4:=hc4.ext hE2
 replace hb2:=hb2.ext hE2
 replace hX:=hX.trans hE2
 refine A2 rfl (fun _ hS=>BO rfl iJ)<|A2 rfl (fun _ hS=>Dt rfl Hw (hr1.keep hS (.head _)) rfl)<|EZ<|A4 rfl rfl rfl D5 rfl hc2 rfl rfl fun w4 hb3 hC2=>?_
 replace hc3:=hc3.chg hC2 oM
 replace hc4:=hc4.chg hC2 oM
 replace hb2:=hb2.chg hC2 oM
 replace hX:=hX.chg hC2 oM
 replace hKp:=hKp.chg hC2 nM
 have sz2:=hC2.size
 refine Ab (Hq hKp<|EZ<|A4 rfl rfl rfl Hw rfl hc3 rfl rfl fun w5 hb4 hC3=>?_)
 replace hb3:=hb3.chg hC3 oM
 replace hc4:=hc4.chg hC3 oM
 replace hb2:=hb2.chg hC3 oM
 replace hX:=hX.chg hC3 oM
 replace hKp:=hKp.chg hC3 nM
 have sz3:=hC3.size
 refine Ab (Hq hKp<|EZ<|A4 rfl rfl rfl VW rfl hc4 rfl rfl fun w6 hb5 hC4=>?_)
 replace hb3:=hb3.chg hC4 oM
 replace hb4:=hb4.chg hC4 oM
 replace hb2:=hb2.chg hC4 oM
 replace hX:=hX.chg hC4 oM
 replace hKp:=hKp.chg hC4 nM
 have sz4:=hC4.size
 exact Ab (Hq hKp<|Em<|DX<|Gu (DT rfl)<|⟨hX,hb3,hb4,hb5⟩)
def mC(w w':World)(v:Value):Except (Int×Int×Int) (List AT)→Prop
 |.error e=>v=.tuple #[.slice none 0 0,.agg #[.int .i64 e.1,.int .i64 e.2.1],.int .i64 e.2.2]∧AV w w'
 |.ok toks=>∃ta tc,v=.tuple #[.slice ta toks.length tc,.agg #[.int .i64 0,.int .i64 0],.int .i64 0]∧(Ck w' 79 5 ta tc toks.length (Fy toks)∧∀b,rb ta=some b→w.heap.size≤b)∧AV w w'
theorem Pr(hPF:mV)(w:World)(hG:Gl w)(src:List UInt8) :
  BF Tryz.prog 8 #[S src] w fun v w'=>mC w w' v (LQ src):=by
 have hX:=AV.refl w
 refine fK (l:=[S src]) Tryz.func8 rfl rfl rfl<|Cc<|CJ<|CO rfl rV fun b1 w1 hb1 hE1 hs1 hz1=>?_
 replace hX:=hX.trans hE1
 refine CO rfl Su fun b2 w2 hb2 hE2 hs2 hz2=>?_
 replace hb1:=hb1.ext hE2
 replace hX:=hX.trans hE2
 refine CO rfl pQ fun b3 w3 hb3 hE3 hs3 hz3=>?_
 replace hb1:=hb1.ext hE3
 replace hb2:=hb2.ext hE3
 replace hX:=hX.trans hE3
 refine Ab<|D3<|Cc<|Cc<|CJ<|Aa rfl (A0 rfl)<|Aa rfl (MF rfl Im)<|Aa rfl (Xz rfl rfl)<|Ab<|D3 ?_
 refine NY rfl (fun h1=>?_) (fun h1=>?_)
 refine Cc<|CJ<|Aa rfl (DK rfl bM Su rfl)<|A4 rfl rfl rfl D5 rfl hb1 rfl rfl fun w4 hb4 hC1=>?_
 replace hb2:=hb2.chg hC1 oM
 replace hb3:=hb3.chg hC1 oM
 replace hX:=hX.chg hC1 oM
 have sz1:=hC1.size
 refine A4 rfl rfl rfl Hw rfl hb2 rfl rfl fun w5 hb5 hC2=>?_
 replace hb4:=hb4.chg hC2 oM
 replace hb3:=hb3.chg hC2 oM
 replace hX:=hX.chg hC2 oM
 have sz2:=hC2.size
 refine A4 rfl rfl rfl VW rfl hb3 rfl rfl fun w6 hb6 hC3=>?_
 replace hb4:=hb4.chg hC3 oM
 replace hb5:=hb5.chg hC3 oM
 replace hX:=hX.chg hC3 oM
 have sz3:=hC3.size
 exact Ab<|D3<|JX<|Vu<|fun tmps hσ=>BW hσ (Ex rfl (B2 rfl D5 hb4 rfl) (Ac rfl Hw hb5 rfl) (B2 rfl VW hb6 rfl)) ⟨_,rfl,by rw[LQ,if_pos h1];exact⟨rfl,hX⟩⟩
 refine HW<|D3<|Cc<|CJ<|Aa rfl (Tv rfl)<|OL rfl ?_
 have hlen:src.length≤65536:=by have:=of_decide_eq_false h1;omega
 refine Ab<|D3<|Cc ?_
 have hb1B:=hb1
 have hb2B:=hb2
 have hb3B:=hb3
 have hX0:=hX
 refine CJ<|Aa rfl (A0 rfl)<|Aa rfl (DK rfl bM Su rfl)<|Aa rfl (DK rfl sB rI rfl)<|En rfl rfl rfl fun b4 w7 hb7 hE4 hs4 hz4=>?_
 replace hb1:=hb1.ext hE4
 replace hb2:=hb2.ext hE4
 replace hb3:=hb3.ext hE4
 replace hX:=hX.trans hE4
 refine Aa rfl (Dm rfl)<|Ab<|D3<|Cc<|Eo ?_
 refine Eh (fun k σ ds w'=>∃(j n:Nat)(q:Ps)(toks:List AT)(ta:Option Addr)(tc:Nat),k=src.length-j∧ds=[{target:=.fn (.func 26) ([.pointer (some ⟨b1,0,none⟩),.pointer (some ⟨b2,0,none⟩),.pointer (some ⟨b3,0,none⟩)]:List Value).toArray,args:=#[]}]∧σ=(E4 2 (.pointer (some ⟨b1,0,none⟩)) 3 (.pointer (some ⟨b2,0,none⟩)) 4 (.pointer (some ⟨b3,0,none⟩)) 5 (.pointer (some ⟨b4,0,none⟩)))∧j≤src.length∧src.length≤j+n∧Pk j q∧toks.length≤j∧Is (src.length+1) src.length (1,1) src=SS toks (Is (src.length+1) n q (src.drop j))∧AQ w' b4 [S src,.int .i64 ((j:Nat):Int),.int .i64 q.1,.int .i64 q.2,(.slice ta toks.length tc)] 77∧Ck w' 79 5 ta tc toks.length (Fy toks)∧(∀x,rb ta=some x→w3.heap.size≤x∧x≠b4)∧AV w3 w') src.length (E4 2 (.pointer (some ⟨b1,0,none⟩)) 3 (.pointer (some ⟨b2,0,none⟩)) 4 (.pointer (some ⟨b3,0,none⟩)) 5 (.pointer (some ⟨b4,0,none⟩))) lE ⟨0,src.length,(1,1),[],none,0,rfl,rfl,rfl,oM,oM,⟨dC,dC,dC,dC⟩,by simp,(Zj _).symm,hb7,G9 _ _ _,(fun x hx=>by cases hx),hE4⟩ ?_
 rintro _ _ _ wl ⟨j,n,q,toks,ta,tc,rfl,rfl,rfl,hjl,hn,hq,htl,hm,hscl,hrow,hlow,hXB⟩
 have szl:=hXB.size
 have lts:=hscl.lt
 replace hX:=hX0.trans hXB
 have hb1Bl:=hb1B.ext hXB
 have hb2Bl:=hb2B.ext hXB
 have hb3Bl:=hb3B.ext hXB
 refine Cc<|Cc<|CJ<|Aa rfl (A0 rfl)<|A7 rfl (Aw Rt rfl rfl) (Iw _ b4 src j q (.slice ta toks.length tc) hscl) ?_
 rintro _ w8 ⟨rfl,hE5⟩
 replace hb1Bl:=hb1Bl.ext hE5
 replace hb2Bl:=hb2Bl.ext hE5
 replace hb3Bl:=hb3Bl.ext hE5
 replace hscl:=hscl.ext hE5
 replace hrow:=hrow.ext hE5
 replace hX:=hX.trans hE5
 replace hXB:=hXB.trans hE5
 have sz4:=hE5.size
 refine Ab<|D3<|NY rfl (fun h2=>?_) (fun h2=>?_)
 refine HW<|D3<|Eo<|CJ<|Aa rfl (A0 rfl) ?_
 obtain⟨c,hc⟩:=Ks (show j<src.length by have:=of_decide_eq_true h2;omega)
 obtain⟨n,rfl⟩:∃n1,n=n1+1:=⟨n-1,by have:=Cn hc;omega⟩
 refine Cf rfl (Aw lT rfl rfl) (VZ hPF w3 _ (hG.ext hX0) hXB b4 oM src j q toks ta tc hscl hrow hlow c hc hq hlen htl) ?_ (fun cc wp hcc tmps hσ=>by obtain⟨e,he,rfl,hE⟩:=hcc;have sz:=hE.size;exact FI (by simp) cY (Tf w wp (hX0.trans hE) b1 b2 b3 _ _ _ _ (hb1B.ext hE) (hb2B.ext hE) (hb3B.ext hE) oM oM oM oM oM oM e) (fun wz hz=>by rw[KA];obtain⟨h1,h2,h3,h4⟩:=hz;exact BW hσ (Ex rfl (B2 rfl D5 h2 rfl) (Ac rfl Hw h3 rfl) (B2 rfl VW h4 rfl)) ⟨_,rfl,by rw[LQ,if_neg (by rw[decide_eq_true_eq];omega),hm,W7 hc he,SS];exact⟨rfl,h1⟩⟩))
 rintro _ w9 ⟨ot,i1,p1,ta1,P6,hst,rfl,hsc2,hrow2,hlow2,hX2,hi1,hi2,hp1⟩
 have hot:(toks++ot).length≤i1:=by have:=O3 hst;rw[List.length_append];omega
 have hm2:=T9 hc hst hm
 refine Ab<|DX<|HA (src.length-i1) (E4 2 (.pointer (some ⟨b1,0,none⟩)) 3 (.pointer (some ⟨b2,0,none⟩)) 4 (.pointer (some ⟨b3,0,none⟩)) 5 (.pointer (some ⟨b4,0,none⟩))) oM lE ⟨i1,n,p1,toks++ot,ta1,P6,rfl,rfl,rfl,hi2,oM,hp1,hot,hm2,hsc2,hrow2,hlow2,hX2⟩
 refine Lh<|Vq<|Oc<|OK<|D3<|Cc<|CJ<|Aa rfl (A0 rfl)<|Aa rfl (B6 rfl)<|Aa rfl (BO rfl De) ?_
 refine Aa rfl (Al rfl D5 hscl rfl)<|Aa rfl (DK rfl bM Su rfl)<|A4 rfl rfl rfl D5 rfl hb1Bl rfl rfl fun w10 hb8 hC4=>?_
 replace hb2Bl:=hb2Bl.chg hC4 oM
 replace hb3Bl:=hb3Bl.chg hC4 oM
 replace hscl:=hscl.chg hC4 oM
 replace hrow:=Ck.chg hrow hC4 (fun e=>by have:=hlow _ e;omega)
 replace hX:=hX.chg hC4 oM
 clear hXB
 have sz5:=hC4.size
 refine A4 rfl rfl rfl Hw rfl hb2Bl rfl rfl fun w11 hb9 hC5=>?_
 replace hb8:=hb8.chg hC5 oM
 replace hb3Bl:=hb3Bl.chg hC5 oM
 replace hscl:=hscl.chg hC5 oM
 replace hrow:=Ck.chg hrow hC5 (fun e=>by have:=hlow _ e;omega)
 replace hX:=hX.chg hC5 oM
 have sz6:=hC5.size
 refine A4 rfl rfl rfl VW rfl hb3Bl rfl rfl fun w12 hb10 hC6=>?_
 replace hb8:=hb8.chg hC6 oM
 replace hb9:=hb9.chg hC6 oM
 replace hscl:=hscl.chg hC6 oM
 replace hrow:=Ck.chg hrow hC6 (fun e=>by have:=hlow _ e;omega)
 replace hX:=hX.chg hC6 oM
 have sz7:=hC6.size
 refine Ab<|D3<|JX ?_
 intro tmps hσ
 refine FI (by simp) cY (Rs _ b1 b2 b3) fun wz hz=>?_
 have hlx:LQ src=.ok toks:=by rw[LQ,if_neg (by rw[decide_eq_true_eq];omega),hm,Jn (by have:=of_decide_eq_false h2;omega),LV];simp[SS]
 refine BW hσ (Ex rfl (B2 rfl D5 (hb8.ext hz) rfl) (Ac rfl Hw (hb9.ext hz) rfl) (B2 rfl VW (hb10.ext hz) rfl)) ⟨_,rfl,?_⟩
 rw[hlx]
 exact⟨ta,tc,rfl,⟨hrow.ext hz,fun x hx=>by have:=hlow x hx;omega⟩,hX.trans hz⟩
end Go.Proofs.YthofplgbhecdcaaGreatDoor
namespace Go.SP
open Go.SW Go.RowKit
def GZ(l:List UInt8):Prop:=∀c∈l,48≤c.toNat∧c.toNat≤57
def FV(b:List UInt8):Bool→List UInt8→Prop
 |false,rest=>∃a2,rest=a2++46::b∧GZ a2
 |true,rest=>GZ rest∧rest.length≤b.length
theorem FV.cons{b r:List UInt8}{dot:Bool}{c:UInt8}(h:FV b dot (c::r)):(c=46∧dot=false∧r=b)∨((48≤c.toNat∧c.toNat≤57)∧FV b dot r):=by
 cases dot with
 |false =>
   obtain⟨a2,h1,h2⟩:=h
   cases a2 with
   |nil=>left;simp at h1;exact⟨h1.1,rfl,h1.2⟩
   |cons d a3 =>
     right
     simp at h1
     exact⟨h1.1▸h2 d (.head _),a3,h1.2,fun x hx=>h2 x (.tail _ hx)⟩
 |true=>exact .inr ⟨h.1 c (.head _),fun x hx=>h.1 x (.tail _ hx),by have:=h.2;simp only[List.length_cons] at this;omega⟩
theorem FV.nil{b:List UInt8}{dot:Bool}(h:FV b dot []):dot=true:=by
 cases dot with
 |false=>obtain⟨a2,h1,_⟩:=h;cases a2 <;> cases h1
 |true=>rfl
def J4(l:List UInt8):List UInt8:=l.filter (fun c=>c != 46)
theorem Tl{l:List UInt8}(h:GZ l):J4 l=l:=by
 unfold J4
 rw[List.filter_eq_self]
 intro c hc
 have:=h c hc
 have h2:c≠46:=fun e=>by subst e;revert this;decide
 simpa using h2
theorem IB{c:UInt8}{l:List UInt8}(h:48≤c.toNat∧c.toNat≤57):J4 (c::l)=c::J4 l:=by
 unfold J4
 rw[List.filter_cons_of_pos]
 have h2:c≠46:=fun e=>by subst e;revert h;decide
 simpa using h2
theorem OR(l:List UInt8):J4 (46::l)=J4 l:=by
 unfold J4
 rw[List.filter_cons_of_neg]
 simp
theorem VR{a b:List UInt8}(ha:GZ a)(hb:GZ b):J4 (a++46::b)=a++b:=by
 induction a with
 |nil=>rw[List.nil_append,OR,Tl hb,List.nil_append]
 |cons c a ih=>rw[List.cons_append,IB (ha c (.head _)),ih fun x hx=>ha x (.tail _ hx)];rfl
theorem NK(n:Nat)(c:UInt8)(l:List UInt8):CW n (c::l)=CW (n*10+(c.toNat-48)) l:=by conv=>lhs;unfold CW
theorem Z8(n:Nat):CW n []=n:=by conv=>lhs;unfold CW
theorem Pp:∀(l:List UInt8)(n:Nat),n≤CW n l
 | [],n=>Nat.le_refl _
 |c::l,n=>by
   have:=Pp l (n*10+(c.toNat-48))
   rw[NK]
   omega
theorem Vz:∀(l:List UInt8)(n:Nat),GZ l→CW n l<(n+1)*10 ^ l.length
 | [],n,_=>by
   rw[Z8,List.length_nil,Nat.pow_zero]
   omega
 |c::l,n,h=>by
   have h1:=h c (.head _)
   have:=Vz l (n*10+(c.toNat-48)) fun x hx=>h x (.tail _ hx)
   rw[NK,List.length_cons,Nat.pow_succ]
   refine Nat.lt_of_lt_of_le this ?_
   have h2:n*10+(c.toNat-48)+1≤(n+1)*10:=oM
   calc (n*10+(c.toNat-48)+1)*10 ^ l.length≤(n+1)*10*10 ^ l.length:=Nat.mul_le_mul_right _ h2
     _=(n+1)*(10 ^ l.length*10):=by rw[Nat.mul_assoc,Nat.mul_comm 10]
theorem Nc{l:List UInt8}(h:GZ l)(hl:l.length≤15):CW 0 l<1000000000000000:=by
 have h1:=Vz l 0 h
 have h2:10 ^ l.length≤10 ^ 15:=Nat.pow_le_pow_right dC hl
 have h3:(10:Nat) ^ 15=1000000000000000:=dC
 omega
theorem mG:∀n:Fin 58,46≤n.val→IntKind.u8.wrap (BitVec.ofInt 8 (n.val:Int) ||| BitVec.ofInt 8 32).toNat=(n.val:Int):=dC
theorem aD{z:List UInt8}(h:(Lib.cut z [46]).2.2=true):z=(Lib.cut z [46]).1++46::(Lib.cut z [46]).2.1:=by
 unfold Lib.cut at h ⊢
 split at h
 · rename_i h0
   rw[if_pos h0]
   rcases Lib.index_spec z [46] with ⟨h1,_⟩|⟨i,h1,h2,h3,_⟩
   · omega
   · simp only[h1,Int.toNat_natCast,List.length_cons,List.length_nil]
     unfold Lib.occAt at h3
     cases hd:z.drop i with
     |nil=>rw[hd] at h3;cases h3
     |cons c t =>
       rw[hd] at h3
       have hc:c=46:=by
         have h4:(46:UInt8)=c:=by simpa[List.isPrefixOf] using h3
         exact h4.symm
       have ht:z.drop (i+(0+1))=t:=by
         rw[← List.drop_drop,hd];rfl
       rw[ht,← hc,← hd,List.take_append_drop]
 · cases h
theorem PN{s a b:List UInt8}(h:HS s=some (a,b)):GZ a∧GZ b∧a≠[]∧b≠[]∧a.length+b.length≤15∧Bj s=a++46::b:=by
 unfold HS at h
 simp only at h
 split at h
 · rename_i hc
   simp only[Bool.and_eq_true,decide_eq_true_eq] at hc
   obtain⟨h1,h2,h3,h4⟩:=hc
   simp only[Option.some.injEq,Prod.mk.injEq] at h
   obtain⟨rfl,rfl⟩:=h
   have d1:=GI h2
   have d2:=GI h3
   exact⟨d1.2,d2.2,by simpa using d1.1,by simpa using d2.1,oM,aD h1⟩
 · cases h
end Go.SP
namespace Go.SP
theorem Kc{s r:List UInt8}{j:Nat}{c:UInt8}(h:s.drop j=c::r):s.drop (j+1)=r:=by
 rw[← List.drop_drop,h];rfl
theorem Q9{s r:List UInt8}{j:Nat}{c:UInt8}(h:s.drop j=c::r):s[j]?=some c:=by
 have:(s.drop j)[0]?=some c:=by rw[h];rfl
 simpa using this
theorem Wr(o:Nat){s a b:List UInt8}(ha:GZ a)(hne:a≠[])(hs:s.drop o=a++46::b):∃c,s[((o:Int)+1).toNat]?=some c∧46≤c.toNat∧c.toNat≤57:=by
 have e:((o:Int)+1).toNat=o+1:=oM
 rw[e]
 rcases a with _|⟨x,_|⟨y,a⟩⟩
 · exact absurd rfl hne
 · exact⟨46,Q9 (r:=b) (Kc (c:=x) (by simpa using hs)),dC,dC⟩
 · have:=ha y (.tail _ (.head _))
   exact⟨y,Q9 (r:=a++46::b) (Kc (c:=x) (by simpa using hs)),oM,oM⟩
end Go.SP
namespace Go.SP
open Ieee
theorem WY{k:Nat}{d e:Datum}(h1:d.isNaN=false)(h2:e.isNaN=false∧e.isInfinity=false∧e.isZero=false):∃r,d.quotient k e=some r:=by
 obtain⟨h2,h3,h4⟩:=h2
 cases d with
 |nan s t=>cases h1
 |infinity s=>cases e with
   |nan s t=>cases h2
   |infinity s=>cases h3
   |number s m p=>exact⟨_,rfl⟩
 |number s m p=>cases e with
   |nan s t=>cases h2
   |infinity s=>cases h3
   |number s' m' p' =>
     cases m' with
     |zero=>cases h4
     |succ m'=>exact⟨_,rfl⟩
theorem W5{x:Nat}(h:x % 9223372036854775808≤9218868437227405312):(double.read x).isNaN=false:=by
 unfold Format.read
 simp only[show double.signWeight=9223372036854775808 from by decide,show double.infRung=9218868437227405312 from by decide]
 split
 · rfl
 · split
   · rfl
   · split
     · rfl
     · omega
theorem Qw(m:Nat):FloatKind.f64.nearest (m:Int)≤9218868437227405312:=by
 unfold FloatKind.nearest FloatKind.encode
 have hn:decide ((m:Int)<0)=false:=by simp
 rw[hn]
 show double.nearest false m 0≤_
 unfold Format.nearest
 split
 · decide
 · simp only[Format.word,Bool.false_eq_true,if_false]
   exact Nat.le_trans (Nat.min_le_right _ _) dC
theorem X4{x:Nat}(h:x≤9218868437227405312):Op.negFloat .f64 x % 9223372036854775808=x:=by
 have e:(9223372036854775808:Nat)=2 ^ 63:=dC
 have e2:(FloatKind.f64.format.exponentBits+FloatKind.f64.format.fractionBits)=63:=dC
 unfold Op.negFloat
 rw[e,e2,Nat.xor_mod_two_pow,Nat.mod_self,Nat.xor_zero,Nat.mod_eq_of_lt (by omega)]
theorem Z1:∀n:Fin 15,(double.read (Gt.getD n.val 0)).isNaN=false∧(double.read (Gt.getD n.val 0)).isInfinity=false∧(double.read (Gt.getD n.val 0)).isZero=false:=by decide +kernel
theorem RQ(neg:Bool)(m n:Nat)(hn:n<15):∃r,FloatKind.f64.format.div (if neg then Op.negFloat .f64 (FloatKind.f64.nearest (m:Int)) else FloatKind.f64.nearest (m:Int)) (Gt.getD n 0)=some r:=by
 have h1:=Qw m
 have h2:(double.read (if neg then Op.negFloat .f64 (FloatKind.f64.nearest (m:Int)) else FloatKind.f64.nearest (m:Int))).isNaN=false:=by
   apply W5
   cases neg with
   |true=>rw[if_pos rfl,X4 h1];exact h1
   |false=>rw[if_neg (by decide),Nat.mod_eq_of_lt (by omega)];exact h1
 obtain⟨r,hr⟩:=WY (k:=double.fractionBits+2) h2 (Z1 ⟨n,hn⟩)
 exact⟨double.write r,congrArg (Option.map double.write) hr⟩
end Go.SP
namespace Go.SP
theorem QY{n:Nat}(h:n<15):Gt[n]?=some (Gt.getD n 0):=by
 have hl:n<Gt.length:=h
 rw[List.getD_eq_getElem?_getD,List.getElem?_eq_getElem hl]
 rfl
end Go.SP
namespace Go.Proofs.YthofplgbhecdcaaGreatDoor
open Go.SW Go.SP Go.RowKit
def mU:Ea:=⟨[],[],[9],[],[],[],[],[]⟩
theorem C5:mU.Ok Tryz.prog:=⟨trivial,trivial,(And.intro Im trivial),trivial,trivial,trivial,trivial,trivial⟩
theorem Xg(w:World)(c:UInt8)(r:List UInt8)(hc:48≤c.toNat∧c.toNat≤57) :
  BF Tryz.prog 191 #[S (c::r),S [105,110,102,105,110,105,116,121]] w fun v w'=>v=.int .i64 0∧AV w w':=by
 have hX:=AV.refl w
 refine enter Tryz.func191 rfl rfl rfl<|gP [] C5 11 [] (Ar _) (fun _=>Aa rfl (cK rfl rfl)<|gL [.sq _] C5 10 [] (Ar _) (fun _=>?_))
 refine Eh (fun k σ ds w'=>k=1∧ds=[]∧σ=(E4 0 (S (c::r)) 1 (S [105,110,102,105,110,105,116,121]) 5 (.int .i64 (if (((c::r).length:Nat):Int)<(([105,110,102,105,110,105,116,121]:List UInt8).length:Int) then (((c::r).length:Nat):Int) else (([105,110,102,105,110,105,116,121]:List UInt8).length:Int))) 6 (.int .i64 0))∧AV w w') 1 (E4 0 (S (c::r)) 1 (S [105,110,102,105,110,105,116,121]) 5 (.int .i64 (if (((c::r).length:Nat):Int)<(([105,110,102,105,110,105,116,121]:List UInt8).length:Int) then (((c::r).length:Nat):Int) else (([105,110,102,105,110,105,116,121]:List UInt8).length:Int))) 6 (.int .i64 0)) lE ⟨rfl,rfl,rfl,hX⟩ ?_
 rintro _ _ _ wl ⟨rfl,rfl,rfl,hX⟩
 refine gP [] C5 8 [] (Ar _) (fun _=>sP 15 rfl (fun h1=>?_) (fun h1=>?_))
 refine gP [.sq _] C5 9 [] (Ar _) (fun _=>Aa rfl (DB (c:=c) rfl rfl Im dC rfl)<|gL [.sq _,.bk _,.sq _] C5 9 [] (Ar _) (fun _=>sL 23 rfl (fun h2=>?_) (fun h2=>?_)))
 ·
  exfalso
  have h9:=of_decide_eq_true h2;omega
 refine gL [.sq _,.sq _,.bk _,.sq _] C5 13 [] (Ar _) (fun _=>Aa rfl (DB (c:=105) rfl rfl Im dC rfl)<|gL [.sq _,.bk _,.sq _] C5 3 [] (Ar _) (fun _=>sP 33 rfl (fun h3=>?_) (fun h3=>?_)))
 exact gP [.bk _,.sq _] C5 10 [] (Ar _) (fun _=>Wf<|gQ [.bk _,.sq _] C5 2 [] (Ar _) (fun _=>By (AI rfl (Aj rfl))<|⟨rfl,hX⟩))
 ·
  exfalso
  exact absurd (show (c.toNat:Int)=105 by simpa using h3) oM
 ·
  exfalso
  have h9:=of_decide_eq_false h1;revert h9;simp only[List.length_cons,List.length_nil];split <;> omega
theorem Rh(w:World)(c:UInt8)(r:List UInt8)(hc:48≤c.toNat∧c.toNat≤57) :
  BF Tryz.prog 177 #[S (c::r)] w fun v w'=>v=.tuple #[.float .f64 0,.int .i64 0,.bool false]∧AV w w':=by
 have hX:=AV.refl w
 refine enter Tryz.func177 rfl rfl rfl<|gP [] C5 15 [] (Ar _) (fun _=>sP 10 rfl (fun h1=>?_) (fun h1=>?_))
 ·
  exfalso
  have h9:=(beq_iff_eq).1 h1;simp only[List.length_cons] at h9;omega
 refine gP [.sq _] C5 17 [] (Ar _) (fun _=>Aa rfl (DB (c:=c) rfl rfl Im dC rfl)<|gL [.sq _,.sq _] C5 18 [] (Ar _) (fun _=>sP 13 rfl (fun h2=>?_) (fun h2=>?_)))
 ·
  exfalso
  have h9:=(beq_iff_eq).1 h2;omega
 refine gP [.sq _,.sq _,.sq _,.bk _,.sq _,.bk _,.sq _,.bk _,.sq _,.bk _,.sq _] C5 6 [] (Ar _) (fun _=>sP 13 rfl (fun h3=>?_) (fun h3=>?_))
 ·
  exfalso
  have h9:=(beq_iff_eq).1 h3;omega
 refine gP [.sq _,.sq _,.bk _,.sq _,.bk _,.sq _,.bk _,.sq _,.bk _,.sq _] C5 11 [] (Ar _) (fun _=>sP 16 rfl (fun h4=>?_) (fun h4=>?_))
 ·
  exfalso
  have h9:=(beq_iff_eq).1 h4;omega
 refine gP [.sq _,.sq _,.sq _,.bk _,.sq _,.bk _,.sq _,.bk _,.sq _,.bk _,.sq _] C5 6 [] (Ar _) (fun _=>sP 16 rfl (fun h5=>?_) (fun h5=>?_))
 ·
  exfalso
  have h9:=(beq_iff_eq).1 h5;omega
 refine gP [.sq _,.sq _,.bk _,.sq _,.bk _,.sq _,.bk _,.sq _,.bk _,.sq _] C5 10 [] (Ar _) (fun _=>sP 19 rfl (fun h6=>?_) (fun h6=>?_))
 ·
  exfalso
  have h9:=(beq_iff_eq).1 h6;omega
 refine gP [.sq _,.sq _,.bk _,.sq _,.bk _,.sq _,.bk _,.sq _,.bk _,.sq _] C5 6 [] (Ar _) (fun _=>sP 19 rfl (fun h7=>?_) (fun h7=>?_))
 ·
  exfalso
  have h9:=(beq_iff_eq).1 h7;omega
 exact gP [.sq _,.bk _,.sq _,.bk _,.sq _,.bk _,.sq _,.bk _,.sq _] C5 20 [] (Ar _) (fun _=>By (Ex rfl (Aj rfl) (Aj rfl) (Aj rfl))<|⟨rfl,hX⟩)
theorem Sc(w:World)(c:UInt8)(r:List UInt8)(hc:48≤c.toNat∧c.toNat≤57) :
  BF Tryz.prog 177 #[S (45::c::r)] w fun v w'=>v=.tuple #[.float .f64 0,.int .i64 0,.bool false]∧AV w w':=by
 have hX:=AV.refl w
 refine enter Tryz.func177 rfl rfl rfl<|gP [] C5 15 [] (Ar _) (fun _=>sP 10 rfl (fun h1=>?_) (fun h1=>?_))
 ·
  exfalso
  have h9:=(beq_iff_eq).1 h1;simp only[List.length_cons] at h9;omega
 refine gP [.sq _] C5 17 [] (Ar _) (fun _=>Aa rfl (DB (c:=45) rfl rfl Im dC rfl)<|gL [.sq _,.sq _] C5 34 [] (Ar _) (fun _=>Aa rfl (DB (c:=45) rfl rfl Im dC rfl)<|gL [.sq _,.sq _,.bk _,.sq _,.bk _,.sq _,.bk _,.sq _] C5 15 [] (Ar _) (fun _=>Aa rfl (Mj rfl rfl Im)<|gL [.bk _,.sq _,.bk _,.sq _,.bk _,.sq _] C5 8 [] (Ar _) (fun _=>A7 rfl (Aw jF rfl rfl) (Xg _ c r hc) ?_))))
 rintro _ w1 ⟨rfl,hE1⟩
 replace hX:=hX.trans hE1
 have sz1:=hE1.size
 exact gL [.sq _,.sq _,.bk _,.sq _,.bk _,.sq _] C5 43 [] (Ar _) (fun _=>By (Ex rfl (Aj rfl) (Aj rfl) (Aj rfl))<|⟨rfl,hX⟩)
theorem Ub(w:World)(c:UInt8)(hc:46≤c.toNat∧c.toNat≤57) :
  BF Tryz.prog 166 #[.int .u8 c.toNat] w fun v w'=>v=.int .u8 c.toNat∧AV w w':=by
 have hX:=AV.refl w
 exact enter Tryz.func166 rfl rfl rfl<|gP [] C5 8 [] (Ar _) (fun _=>Aa rfl (Zu (c.toNat:Int) rfl rfl (mG ⟨c.toNat,oM⟩ hc.1))<|gL [.sq _] C5 4 [] (Ar _) (fun _=>By (AI rfl (Aj rfl))<|⟨rfl,hX⟩))
end Go.Proofs.YthofplgbhecdcaaGreatDoor
