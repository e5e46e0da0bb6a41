/- What it rests on, part 2. -/
import Derived.Test.YthofplgbhecdcaaGreatDoorGf1
import Derived.Laws.MakeOwn
import Derived.Lib.Join
import Derived.Lib.ItoaNum
set_option linter.unusedVariables false
set_option linter.unusedSimpArgs false
namespace Go.SW
open Go.RowKit
structure Ea where
 fl:List (Nat×Nat×Nat)
 sl:List (Nat×Nat×Nat)
 st:List Nat
 bo:List Nat
 ti:List (Nat×Bool×Nat)
 zr:List (Nat×List Value)
 pl:List (Nat×List (Nat×Nat))
 pt:List (Nat×Nat)
def fQ(P:Program):List (Nat×Nat×Nat)→Prop
 | []=>True
 |(T,i,o)::l=>FA P T i=some o∧fQ P l
def iX(P:Program):List (Nat×Nat×Nat)→Prop
 | []=>True
 |(T,e,k)::l=>JV P T=some (e,k)∧iX P l
def cG(P:Program)(d:TypeDesc):List Nat→Prop
 | []=>True
 |T::l=>P.underlying T=some d∧cG P d l
def gB(P:Program):List (Nat×Bool×Nat)→Prop
 | []=>True
 |(T,a,k)::l=>Bb P T=some (a,k)∧gB P l
def kJ(P:Program):List (Nat×List Value)→Prop
 | []=>True
 |(T,z)::l=>HU P T=some z∧kJ P l
def iH(P:Program):List (Nat×List (Nat×Nat))→Prop
 | []=>True
 |(T,z)::l=>NB P T=some z∧iH P l
def gR(P:Program):List (Nat×Nat)→Prop
 | []=>True
 |(T,e)::l=>P.underlying T=some (.pointer e)∧gR P l
structure Ea.Ok(P:Program)(t:Ea):Prop where
 fl:fQ P t.fl
 sl:iX P t.sl
 st:cG P .string t.st
 bo:cG P .bool t.bo
 ti:gB P t.ti
 zr:kJ P t.zr
 pl:iH P t.pl
 pt:gR P t.pt
def pE:List (Nat×Nat×Nat)→Nat→Nat→Option Nat
 | [],_,_=>none
 |(T,i,o)::l,T',i'=>bif Nat.beq T T'&&Nat.beq i i' then some o else pE l T' i'
def Vs:List (Nat×Nat×Nat)→Nat→Option (Nat×Nat)
 | [],_=>none
 |(T,e,k)::l,T'=>bif Nat.beq T T' then some (e,k) else Vs l T'
def lK:List Nat→Nat→Bool
 | [],_=>false
 |T::l,T'=>bif Nat.beq T T' then true else lK l T'
def fD:List (Nat×Bool×Nat)→Nat→Option (Bool×Nat)
 | [],_=>none
 |(T,a,k)::l,T'=>bif Nat.beq T T' then some (a,k) else fD l T'
def Xe{α:Type}:List (Nat×α)→Nat→Option α
 | [],_=>none
 |(T,z)::l,T'=>bif Nat.beq T T' then some z else Xe l T'
theorem Y0{P:Program}:∀{l:List (Nat×Nat×Nat)}{T i o:Nat},fQ P l→pE l T i=some o→FA P T i=some o
 | [],_,_,_,_,h=>by cases h
 |(T,i,o)::l,T',i',o',ha,h=>by
   unfold pE at h
   cases hb:(Nat.beq T T'&&Nat.beq i i') with
   |true =>
     rw[hb] at h
     simp only[Bool.and_eq_true] at hb
     have e1:=Nat.eq_of_beq_eq_true hb.1
     have e2:=Nat.eq_of_beq_eq_true hb.2
     subst e1 e2
     cases h
     exact ha.1
   |false=>rw[hb] at h;exact Y0 ha.2 h
theorem K3{P:Program}:∀{l:List (Nat×Nat×Nat)}{T e k:Nat},iX P l→Vs l T=some (e,k)→JV P T=some (e,k)
 | [],_,_,_,_,h=>by cases h
 |(T,e,k)::l,T',e',k',ha,h=>by
   unfold Vs at h
   cases hb:Nat.beq T T' with
   |true=>rw[hb] at h;have e1:=Nat.eq_of_beq_eq_true hb;subst e1;cases h;exact ha.1
   |false=>rw[hb] at h;exact K3 ha.2 h
theorem PS{P:Program}{d:TypeDesc}:∀{l:List Nat}{T:Nat},cG P d l→lK l T=true→P.underlying T=some d
 | [],_,_,h=>by cases h
 |T::l,T',ha,h=>by
   unfold lK at h
   cases hb:Nat.beq T T' with
   |true=>have e1:=Nat.eq_of_beq_eq_true hb;subst e1;exact ha.1
   |false=>rw[hb] at h;exact PS ha.2 h
theorem G1{P:Program}:∀{l:List (Nat×Bool×Nat)}{T k:Nat}{a:Bool},gB P l→fD l T=some (a,k)→Bb P T=some (a,k)
 | [],_,_,_,_,h=>by cases h
 |(T,a,k)::l,T',k',a',ha,h=>by
   unfold fD at h
   cases hb:Nat.beq T T' with
   |true=>rw[hb] at h;have e1:=Nat.eq_of_beq_eq_true hb;subst e1;cases h;exact ha.1
   |false=>rw[hb] at h;exact G1 ha.2 h
theorem Qj{P:Program}:∀{l:List (Nat×List Value)}{T:Nat}{z:List Value},kJ P l→Xe l T=some z→HU P T=some z
 | [],_,_,_,h=>by cases h
 |(T,z)::l,T',z',ha,h=>by
   unfold Xe at h
   cases hb:Nat.beq T T' with
   |true=>rw[hb] at h;have e1:=Nat.eq_of_beq_eq_true hb;subst e1;cases h;exact ha.1
   |false=>rw[hb] at h;exact Qj ha.2 h
theorem XG{P:Program}:∀{l:List (Nat×List (Nat×Nat))}{T:Nat}{z:List (Nat×Nat)},iH P l→Xe l T=some z→NB P T=some z
 | [],_,_,_,h=>by cases h
 |(T,z)::l,T',z',ha,h=>by
   unfold Xe at h
   cases hb:Nat.beq T T' with
   |true=>rw[hb] at h;have e1:=Nat.eq_of_beq_eq_true hb;subst e1;cases h;exact ha.1
   |false=>rw[hb] at h;exact XG ha.2 h
theorem Y9{P:Program}:∀{l:List (Nat×Nat)}{T e:Nat},gR P l→Xe l T=some e→P.underlying T=some (.pointer e)
 | [],_,_,_,h=>by cases h
 |(T,e)::l,T',e',ha,h=>by
   unfold Xe at h
   cases hb:Nat.beq T T' with
   |true=>rw[hb] at h;have e1:=Nat.eq_of_beq_eq_true hb;subst e1;cases h;exact ha.1
   |false=>rw[hb] at h;exact Y9 ha.2 h
def kX:BinOp→Option Addr→Option Value
 |.eql,some _=>some (.bool false)
 |.eql,none=>some (.bool true)
 |.neq,some _=>some (.bool true)
 |.neq,none=>some (.bool false)
 |_,_=>none
def kT:BinOp→Value→Value→Option Value
 |.eql,.int k a,.int k' b=>bif k==k' then some (.bool (a==b)) else none
 |.neq,.int k a,.int k' b=>bif k==k' then some (.bool (a != b)) else none
 |.lss,.int k a,.int k' b=>bif k==k' then some (.bool (decide (a<b))) else none
 |.leq,.int k a,.int k' b=>bif k==k' then some (.bool (decide (a≤b))) else none
 |.gtr,.int k a,.int k' b=>bif k==k' then some (.bool (decide (b<a))) else none
 |.geq,.int k a,.int k' b=>bif k==k' then some (.bool (decide (b≤a))) else none
 |.eql,.string ⟨⟨a⟩⟩,.string ⟨⟨b⟩⟩=>some (.bool (a==b))
 |.neq,.string ⟨⟨a⟩⟩,.string ⟨⟨b⟩⟩=>some (.bool (!(a==b)))
 |_,_,_=>none
def pv(tb:Ea)(σ:Bo):Op→Option Value
 |.move x=>ev σ x
 |.assign x=>ev σ x
 |.pick c x y=>match ev σ c with
   |some (.bool true)=>ev σ x
   |some (.bool false)=>ev σ y
   |_=>none
 |.unOp .not _ x=>match ev σ x with
   |some (.bool b)=>some (.bool (!b))
   |_=>none
 |.binOp o T x y _=>match ev σ x,ev σ y with
   |some (.pointer a),some (.pointer none)=>match Xe tb.pt T with
     |some _=>kX o a
     |none=>none
   |some (.slice a _ _),some (.slice none _ _)=>match Vs tb.sl T,o with
     |some _,.eql=>some (.bool a.isNone)
     |_,_=>none
   |some a,some b=>kT o a b
   |_,_=>none
 |.fieldAddr T x i=>match ev σ x,pE tb.fl T i with
   |some (.pointer (some ⟨b,o,none⟩)),some d=>some (.pointer (some ⟨b,o+d,none⟩))
   |_,_=>none
 |.nilCheck x=>match ev σ x with
   |some (.pointer (some a))=>some (.pointer (some a))
   |_=>none
 |.extract x i=>match ev σ x with
   |some (.tuple ⟨vs⟩)=>vs[i]?
   |_=>none
 |.build T ⟨parts⟩=>match GG σ parts,Xe tb.pl T,Xe tb.zr T with
   |some pv,some pl,some z=>match Kr pl z pv with
     |some out=>some (.agg ⟨out⟩)
     |none=>none
   |_,_,_=>none
 |.call ⟨.builtin .len,⟨[x]⟩,⟨[T]⟩⟩=>match ev σ x with
   |some (.slice _ n _)=>match Vs tb.sl T with
     |some _=>some (.int .i64 n)
     |none=>none
   |some (.string ⟨⟨s⟩⟩)=>match lK tb.st T with
     |true=>some (.int .i64 s.length)
     |false=>none
   |_=>none
 |_=>none
section
variable{P:Program}{σ:Bo}{w:World}{ty:TypeId}
theorem iI{o:BinOp}{t t':TypeId}{x y:Operand}{a b v:Value}(hx:ev σ x=some a)(hy:ev σ y=some b)(h:kT o a b=some v):AO P σ (.binOp o t x y t') ty w v w:=by
 unfold kT at h
 split at h
 all_goals first
   |(
     rename_i k a k' b
     cases hk:(k==k') with
     |false=>rw[hk] at h;cases h
     |true =>
       rw[hk] at h
       have e:k=k':=by simpa using hk
       subst e
       cases h
       first|exact iS hx hy|exact Xm hx hy|exact Tu hx hy|exact X2 hx hy|exact Xz hx hy|exact Yv hx hy)
   |(cases h;first|exact iT hx hy|exact gZ hx hy)
   |cases h
theorem iV{o:BinOp}{t t' e:TypeId}{x y:Operand}{a:Option Addr}{v:Value}(ht:P.underlying t=some (.pointer e))(hx:ev σ x=some (.pointer a))(hy:ev σ y=some (.pointer none))(h:kX o a=some v):AO P σ (.binOp o t x y t') ty w v w:=by
 have h1:(Op.equal t (.pointer a) (.pointer none)).run P w=.ok a.isNone w:=by
   show (Op.equalIn (Op.maxDepth-1+1) t _ _).run P w=_
   cases a <;> simp[Op.equalIn,run_underlying ht]
 unfold kX at h
 split at h
 all_goals first
   |(cases h;exact fun ρ _ _ _ _ hρ=>by simp[execOp,hρ _ _ hx,hρ _ _ hy,eqGuard,binOp,h1])
   |cases h
theorem aT{t t' e:TypeId}{x y:Operand}{a:Option Addr}{n c n' c' k:Nat}(ht:JV P t=some (e,k))(hx:ev σ x=some (.slice a n c))(hy:ev σ y=some (.slice none n' c')):AO P σ (.binOp .eql t x y t') ty w (.bool a.isNone) w:=by
 obtain⟨i,hu,_,_⟩:=Ho ht
 have h1:(Op.equal t (.slice a n c) (.slice none n' c')).run P w=.ok a.isNone w:=by
   show (Op.equalIn (Op.maxDepth-1+1) t _ _).run P w=_
   cases a <;> simp[Op.equalIn,run_underlying hu]
 exact fun ρ _ _ _ _ hρ=>by simp[execOp,hρ _ _ hx,hρ _ _ hy,eqGuard,binOp,h1]
theorem Pv{tb:Ea}(ht:tb.Ok P):∀{op:Op}{v:Value},pv tb σ op=some v→AO P σ op ty w v w:=by
 intro op v h
 unfold pv at h
 split at h
 · exact A0 h
 · exact Dm h
 · split at h
   · rename_i hc;exact MO hc rfl h
   · rename_i hc;exact N7 hc rfl h
   · cases h
 · split at h
   · rename_i hx;cases h;exact Uq hx
   · cases h
 · split at h
   · rename_i hx hy
     split at h
     · rename_i hp;exact iV (Y9 ht.pt hp) hx hy h
     · cases h
   · rename_i hx hy
     split at h
     · rename_i q hp;cases h;exact aT (K3 (e:=q.1) (k:=q.2) ht.sl hp) hx hy
     · cases h
   · rename_i hx hy;exact iI hx hy h
   · cases h
 · split at h
   · rename_i hx hf;cases h;exact BO hx (Y0 ht.fl hf)
   · cases h
 · split at h
   · rename_i hx;cases h;exact B6 hx
   · cases h
 · split at h
   · rename_i hx;exact Un hx h
   · cases h
 · split at h
   · rename_i hp hl hz
     split at h
     · rename_i hf;cases h;exact DK hp (XG ht.pl hl) (Qj ht.zr hz) hf
     · cases h
   · cases h
 · split at h
   · rename_i hx
     split at h
     · rename_i e hs;cases h;exact LX hx (K3 (e:=e.1) (k:=e.2) ht.sl hs)
     · cases h
   · rename_i hx
     split at h <;> rename_i hs
     · cases h;exact MF hx (PS ht.st hs)
     · cases h
   · cases h
 · cases h
end
end Go.SW
namespace Go.SW
open Go.RowKit
inductive Fr where
 |sq (y:Code)
 |bk (i:Nat)
inductive M5 where
 |code (c:Code)
 |ops (all l:List Oper)
 |out (e:Exit)
def nth{α:Type}:List α→Nat→Option α
 | [],_=>none
 |x::_,0=>some x
 |_::l,i+1=>nth l i
theorem F6{α:Type}:∀(l:List α)(i:Nat),nth l i=l[i]?
 | [],_=>by simp[nth]
 |x::_,0=>by simp[nth]
 |_::l,i+1=>by simp[nth,F6 l i]
def gd(all:List Oper)(σ:Bo)(g:Option (Nat×Bool)):Option Bool:=match g with
 |none=>some true
 |some (j,want)=>match nth all j with
   |some q=>match q.dst with
     |some dj=>match σ dj with
       |some (.bool true)=>some want
       |some (.bool false)=>some (!want)
       |some (.tuple ⟨[]⟩)=>some false
       |_=>none
     |none=>none
   |none=>none
section
variable(P:Program)(n:Nat)(Q:Bk)(ds:List Deferred)(X:Cx)(R:List RB)(B:List FB)(Fs:List (World→Fq→Prop))(tb:Ea)
def MT:List Fr→Bk
 | []=>Q
 |.sq y::fs=>oV P n y (MT fs)
 |.bk i::fs=>blk i (MT fs)
def AF(k:M5)(fs:List Fr)(σ:Bo)(H:List HB):Prop:=∀w f,AX X w f H R B Fs→match k with
 |.code c=>HK P n c (MT P n Q fs) σ ds w
 |.ops all l=>H3 P n all.toArray (MT P n Q fs) l σ ds w
 |.out e=>(MT P n Q fs).q e σ ds w
def ex:Nat→List Nat→M5→List Fr→Bo→List HB→Prop
 |0,_,k,fs,σ,H=>True→AF P n Q ds X R B Fs k fs σ H
 |m+1,hs,.code c,fs,σ,H=>(match c with
   |.skip=>ex m hs (.out .normal) fs σ H
   |.ret=>ex m hs (.out .ret) fs σ H
   |.exit i=>ex m hs (.out (.exit i)) fs σ H
   |.seq a b=>ex m hs (.code a) (.sq b::fs) σ H
   |.block i a=>ex m hs (.code a) (.bk i::fs) σ H
   |.region _ ⟨l⟩ false=>ex m hs (.ops l l) fs σ H
   |.cond x a b=>(match ev σ x with
     |some (.bool true)=>ex m hs (.code a) fs σ H
     |some (.bool false)=>ex m hs (.code b) fs σ H
     |_=>False)
   |_=>False)
 |m+1,hs,.out e,fs,σ,H=>(match fs with
   | []=>False
   |.sq y::fs=>(match e with
     |.normal=>ex m hs (.code y) fs σ H
     |.ret=>ex m hs (.out .ret) fs σ H
     |.exit i=>ex m hs (.out (.exit i)) fs σ H
     |_=>False)
   |.bk i::fs=>(match e with
     |.normal=>ex m hs (.out .normal) fs σ H
     |.ret=>ex m hs (.out .ret) fs σ H
     |.exit j=>(match Nat.beq j i with
       |true=>ex m hs (.out .normal) fs σ H
       |false=>ex m hs (.out (.exit j)) fs σ H)
     |_=>False))
 |m+1,hs,.ops all [],fs,σ,H=>ex m hs (.out .normal) fs σ H
 |m+1,hs,.ops all (⟨dst,op,ty,pos,af,g⟩::r),fs,σ,H=>(match gd all σ g with
   |none=>False
   |some false=>(match dst with
     |some d=>(match Nat.blt d n with
       |true=>ex m hs (.ops all r) fs (AL σ d undef) H
       |false=>False)
     |none=>False)
   |some true=>(match dst with
     |none=>(match op with
       |.store T x y=>(match hs with
         | []=>False
         |h::hs=>(match ev σ x,ev σ y,HM H h,fD tb.ti T with
           |some (.pointer (some ⟨b,o,none⟩)),some v,some ⟨b',l,T',nw⟩,some (a,k)=>(match HP v with
             |some vs=>(match Nat.beq vs.length k&&Ms vs,Ou l o vs with
               |true,some l'=>(match PA H h ⟨b',l',T',nw⟩ with
                 |some H'=>b'=b∧ex m hs (.ops all r) fs σ H'
                 |none=>False)
               |_,_=>False)
             |none=>False)
           |_,_,_,_=>False))
       |_=>False)
     |some d=>(match Nat.blt d n with|false=>False|true=>(match op with
       |.alloc T=>(match Xe tb.zr T with
         |some z=>∀b,ex m hs (.ops all r) fs (AL σ d (.pointer (some ⟨b,0,none⟩))) (⟨b,z,T,true⟩::H)
         |none=>False)
       |.box T x=>(match ev σ x with
         |some v=>(match HP v with
           |some l=>∀b,ex m hs (.ops all r) fs (AL σ d (.pointer (some ⟨b,0,none⟩))) (⟨b,l,T,true⟩::H)
           |none=>False)
         |none=>False)
       |.buildSlice T len ⟨parts⟩=>(match Vs tb.sl T,GG σ parts with
         |some (e,k),some pv=>(match Xe tb.zr e with
           |some z=>(match (Nat.beq z.length k&&Nat.blt 0 k)&&(Nat.blt 0 len&&Nat.ble (len*k) 16777216),Kr (Kw k 0 len) (Gh len z) pv with
             |true,some l=>∀b,ex m hs (.ops all r) fs (AL σ d (.slice (some ⟨b,0,none⟩) len len)) (⟨b,l,e,true⟩::H)
             |_,_=>False)
           |none=>False)
         |_,_=>False)
       |.load T x=>(match hs with
         | []=>False
         |h::hs=>(match ev σ x,fD tb.ti T with
           |some (.pointer (some ⟨b,o,none⟩)),some (a,k)=>(match Nat.blt h 100 with
             |true=>(match HM H h with
               |some ⟨b',l,_,_⟩=>(match a with
                 |false=>(match nth l o with
                   |some v=>b'=b∧ex m hs (.ops all r) fs (AL σ d v) H
                   |none=>False)
                 |true=>(match U0 l o k with
                   |some vs=>b'=b∧ex m hs (.ops all r) fs (AL σ d (.agg ⟨vs⟩)) H
                   |none=>False))
               |none=>False)
             |false=>(match hs with
               | []=>False
               |q::hs=>(match nth B (h-100) with
                 |some ⟨b',off,l⟩=>(match a with
                   |false=>(match nth l q with
                     |some v=>(b'=b∧off+q=o)∧ex m hs (.ops all r) fs (AL σ d v) H
                     |none=>False)
                   |true=>(match U0 l q k with
                     |some vs=>(b'=b∧off+q=o)∧ex m hs (.ops all r) fs (AL σ d (.agg ⟨vs⟩)) H
                     |none=>False))
                 |none=>False)))
           |_,_=>False))
       |.indexAddr T x y=>(match ev σ x,ev σ y,Vs tb.sl T with
         |some (.slice (some ⟨b,o,none⟩) len _),some (.int _ i),some (_,k)=>(0≤i∧i<len)∧ex m hs (.ops all r) fs (AL σ d (.pointer (some ⟨b,o+i.toNat*k,none⟩))) H
         |_,_,_=>False)
       |.index T x y=>(match ev σ x,ev σ y,lK tb.st T with
         |some (.string ⟨⟨s⟩⟩),some (.int _ i),true=>(0≤i∧i<s.length)∧∀c,s[i.toNat]?=some c→ex m hs (.ops all r) fs (AL σ d (.int .u8 c.toNat)) H
         |_,_,_=>False)
       |.binOp .add T x y T'=>(match ev σ x,ev σ y with
         |some (.int .i64 a),some (.int .i64 b)=>QB (a+b)∧ex m hs (.ops all r) fs (AL σ d (.int .i64 (a+b))) H
         |some (.string ⟨⟨a⟩⟩),some (.string ⟨⟨b⟩⟩)=>a.length+b.length≤9223372036854775807∧ex m hs (.ops all r) fs (AL σ d (S (a++b))) H
         |_,_=>False)
       |.binOp .sub T x y T'=>(match ev σ x,ev σ y with
         |some (.int .i64 a),some (.int .i64 b)=>QB (a-b)∧ex m hs (.ops all r) fs (AL σ d (.int .i64 (a-b))) H
         |_,_=>False)
       |op=>(match pv tb σ op with
         |some v=>ex m hs (.ops all r) fs (AL σ d v) H
         |none=>False)))))
end
theorem JS{n:Nat}{σ:Bo}{ds:List Deferred}{all:List Oper}{a:Act}{dst:Option Tmp}{op:Op}{ty:TypeId}{pos:String}{af:Array Edge}{g:Option (Nat×Bool)}{b:Bool}(ha:St n σ ds a)(h:gd all σ g=some b) :
   Region.wanted ⟨dst,op,ty,pos,af,g⟩ (yielded all.toArray a.tmps)=b:=by
 unfold gd at h
 split at h
 · cases h;rfl
 · rename_i j want
   split at h
   · rename_i q hq
     rw[F6] at hq
     split at h
     · rename_i dj hd
       have hj:(all.toArray[j]?).bind (·.dst)=some dj:=by simp[hq,hd]
       split at h
       · rename_i hv;cases h;rw[GU ha hj hv];cases b <;> rfl
       · rename_i hv;cases h;rw[GU ha hj hv];cases want <;> rfl
       · rename_i hv;cases h;exact Wm ha hj hv
       · cases h
     · cases h
   · cases h
section
variable{P:Program}{n:Nat}{Q:Bk}{ds:List Deferred}{X:Cx}{R:List RB}{B:List FB}{Fs:List (World→Fq→Prop)}{tb:Ea}
theorem BD{Q:Bk}{σ:Bo}{w:World}{all r:List Oper}{dst:Option Tmp}{op:Op}{ty:TypeId}{pos:String}{af:Array Edge}{g:Option (Nat×Bool)}(hg:gd all σ g=some true)
   (h:H3 P n all.toArray Q (⟨dst,op,ty,pos,af,none⟩::r) σ ds w):H3 P n all.toArray Q (⟨dst,op,ty,pos,af,g⟩::r) σ ds w:=fun a ha=>by
 have h1:=h a ha
 unfold wpList at h1 ⊢
 rw[if_pos (by simp[Region.wanted])] at h1
 rw[if_pos (JS ha hg)]
 exact h1
theorem MQ{Q:Bk}{σ:Bo}{w:World}{all r:List Oper}{d:Nat}{op:Op}{ty:TypeId}{pos:String}{af:Array Edge}{g:Option (Nat×Bool)}(hg:gd all σ g=some false)(hd:Nat.blt d n=true)
   (h:H3 P n all.toArray Q r (AL σ d undef) ds w):H3 P n all.toArray Q (⟨some d,op,ty,pos,af,g⟩::r) σ ds w:=fun a ha=>by
 unfold wpList
 rw[if_neg (by rw[JS ha hg];simp)]
 exact h _ (ha.put hd undef)
theorem AX.getB{w:World}{f:Fq}{H:List HB}{i b off:Nat}{l:List Value}(h:AX X w f H R B Fs)(hg:nth B i=some ⟨b,off,l⟩):Cs w f b off l:=by
 rw[F6] at hg
 exact h.fro _ (List.mem_of_getElem? hg)
theorem PZ:∀{l:List Value}{q k:Nat}{vs:List Value},U0 l q k=some vs→vs.length=k∧∀j v,vs[j]?=some v→l[q+j]?=some v:=by
 intro l q k vs h
 obtain⟨h1,h2⟩:=KV h
 refine⟨h2,fun j v hj=>?_⟩
 rw[← h1] at hj
 have hlt:j<k:=by
   rcases Nat.lt_or_ge j k with h|h
   · exact h
   · rw[List.getElem?_take,if_neg (by omega)] at hj;cases hj
 rwa[List.getElem?_take,if_pos hlt,List.getElem?_drop] at hj
theorem JB{σ:Bo}{w:World}{ty T:TypeId}{x:Operand}{b o k:Nat}{v:Value}(hx:ev σ x=some (.pointer (some ⟨b,o,none⟩)))(hT:Bb P T=some (false,k))(hc:w.cell? ⟨b,o,none⟩=some v):AO P σ (.load T x) ty w v w:=fun ρ _ _ _ _ hρ=>by
 simp[execOp,hρ _ _ hx,Instr.loadAt,Instr.sureAddr,loadVar,Fc hT,run_load,hc]
theorem Lo{σ:Bo}{w:World}{ty T:TypeId}{x:Operand}{b o k:Nat}{vs:List Value}(hx:ev σ x=some (.pointer (some ⟨b,o,none⟩)))(hT:Bb P T=some (true,k))(hk:vs.length=k)(hc:∀j v,vs[j]?=some v→w.cell? ⟨b,o+j,none⟩=some v) :
   AO P σ (.load T x) ty w (.agg vs.toArray) w:=fun ρ _ _ _ _ hρ=>by
 have h1:=run_loadCells_list (P:=P) w ⟨b,o,none⟩ vs (fun j v hj=>by rw[EO];exact hc j v hj)
 rw[hk] at h1
 simp[execOp,hρ _ _ hx,Instr.loadAt,Instr.sureAddr,loadVar,Fc hT,IM hT,h1]
theorem Ju(ht:tb.Ok P):∀(m:Nat)(hs:List Nat)(k:M5)(fs:List Fr)(σ:Bo)(H:List HB),ex P n Q ds X R B Fs tb m hs k fs σ H→AF P n Q ds X R B Fs k fs σ H
 |0,_,_,_,_,_,h=>h trivial
 |m+1,hs,.code c,fs,σ,H,h=>by
   have ih:=Ju ht m
   intro w f hM
   unfold ex at h
   split at h
   · exact HW (ih _ _ _ _ _ h w f hM)
   · exact JX (ih _ _ _ _ _ h w f hM)
   · exact Lh (ih _ _ _ _ _ h w f hM)
   · exact Cc (ih _ _ _ _ _ h w f hM)
   · exact Eo (ih _ _ _ _ _ h w f hM)
   · exact CJ (ih _ _ _ _ _ h w f hM)
   · split at h
     · rename_i hx;exact FW hx rfl (ih _ _ _ _ _ h w f hM)
     · rename_i hx;exact Kb hx rfl (ih _ _ _ _ _ h w f hM)
     · exact h.elim
   · exact h.elim
 |m+1,hs,.out e,fs,σ,H,h=>by
   have ih:=Ju ht m
   intro w f hM
   unfold ex at h
   split at h
   · exact h.elim
   · split at h
     · exact D3 (ih _ _ _ _ _ h w f hM)
     · exact Vu (ih _ _ _ _ _ h w f hM)
     · exact Vq (ih _ _ _ _ _ h w f hM)
     · exact h.elim
   · split at h
     · exact DX (ih _ _ _ _ _ h w f hM)
     · exact UR (ih _ _ _ _ _ h w f hM)
     · split at h
       · rename_i hb
         have e:=Nat.eq_of_beq_eq_true hb
         subst e
         exact OK (ih _ _ _ _ _ h w f hM)
       · rename_i hb;exact cW hb (ih _ _ _ _ _ h w f hM)
     · exact h.elim
 |m+1,hs,.ops all [],fs,σ,H,h=>by
   intro w f hM
   unfold ex at h
   exact Ab (Ju ht m _ _ _ _ _ h w f hM)
 |m+1,hs,.ops all (⟨dst,op,ty,pos,af,g⟩::r),fs,σ,H,h=>by
   have ih:=Ju ht m
   intro w f hM
   unfold ex at h
   split at h
   · exact h.elim
   · rename_i hg
     split at h
     · split at h
       · rename_i hd;exact MQ hg hd (ih _ _ _ _ _ h w f hM)
       · exact h.elim
     · exact h.elim
   · rename_i hg
     refine BD hg ?_
     split at h
     · split at h
       · split at h
         · exact h.elim
         · split at h
           · rename_i hx hy hH hT
             split at h
             · rename_i vs hv
               split at h
               · rename_i hk hp
                 split at h
                 · rename_i H' hs'
                   obtain⟨rfl,h⟩:=h
                   simp only[Bool.and_eq_true] at hk
                   exact A4 hx hy hv (G1 ht.ti hT) hk.1 (hM.blk _ (Cb hH)) hk.2 hp fun w' hb hC=>ih _ _ _ _ _ h w' f (hM.chg hH hs' hb hC)
                 · exact h.elim
               · exact h.elim
             · exact h.elim
           · exact h.elim
       · exact h.elim
     · split at h
       · exact h.elim
       rename_i hd
       split at h
       · split at h
         · rename_i z hz
           exact Aa hd (Ss (Qj ht.zr hz)) (ih _ _ _ _ _ (h _) _ f hM.alloc)
         · exact h.elim
       · split at h
         · rename_i v hx
           split at h
           · rename_i l hl
             have e:=GQ hl
             subst e
             exact Aa hd (Y7 hx) (ih _ _ _ _ _ (h _) _ f hM.alloc)
           · exact h.elim
         · exact h.elim
       · split at h
         · rename_i hs' hp
           split at h
           · rename_i z hz
             split at h
             · rename_i hc hf
               simp only[Bool.and_eq_true] at hc
               exact Aa hd (dH hp (K3 ht.sl hs') (Qj ht.zr hz) hc.1.1 hc.1.2 hc.2.1 hc.2.2 hf) (ih _ _ _ _ _ (h _) _ f hM.alloc)
             · exact h.elim
           · exact h.elim
         · exact h.elim
       · split at h
         · exact h.elim
         · split at h
           · rename_i hx hT
             split at h
             · split at h
               · rename_i hH
                 split at h
                 · split at h
                   · rename_i v hv
                     obtain⟨rfl,h⟩:=h
                     rw[F6] at hv
                     exact Aa hd (Al hx (G1 ht.ti hT) (hM.blk _ (Cb hH)) hv) (ih _ _ _ _ _ h w f hM)
                   · exact h.elim
                 · split at h
                   · rename_i vs hv
                     obtain⟨rfl,h⟩:=h
                     exact Aa hd (Dt hx (G1 ht.ti hT) (hM.blk _ (Cb hH)) hv) (ih _ _ _ _ _ h w f hM)
                   · exact h.elim
               · exact h.elim
             · split at h
               · exact h.elim
               · split at h
                 · rename_i hB
                   have hc:=hM.getB hB
                   split at h
                   · split at h
                     · rename_i v hv
                       obtain⟨⟨rfl,rfl⟩,h⟩:=h
                       rw[F6] at hv
                       exact Aa hd (JB hx (G1 ht.ti hT) (hc _ v hv).2) (ih _ _ _ _ _ h w f hM)
                     · exact h.elim
                   · split at h
                     · rename_i vs hv
                       obtain⟨⟨rfl,rfl⟩,h⟩:=h
                       obtain⟨hk,hg2⟩:=PZ hv
                       exact Aa hd (Lo hx (G1 ht.ti hT) hk (fun j v hj=>by have:=(hc _ v (hg2 j v hj)).2;rwa[← Nat.add_assoc] at this)) (ih _ _ _ _ _ h w f hM)
                     · exact h.elim
                 · exact h.elim
           · exact h.elim
       · split at h
         · rename_i hx hy hT
           exact Aa hd (MK hx hy (K3 ht.sl hT) h.1) (ih _ _ _ _ _ h.2 w f hM)
         · exact h.elim
       · split at h
         · rename_i s _ i hx hy hT
           obtain⟨h1,h⟩:=h
           have hlt:i.toNat<s.length:=oM
           exact Aa hd (DB hx hy (PS ht.st hT) h1.1 (List.getElem?_eq_getElem hlt)) (ih _ _ _ _ _ (h _ (List.getElem?_eq_getElem hlt)) w f hM)
         · exact h.elim
       · split at h
         · rename_i hx hy
           exact Aa hd (Nj hx hy h.1) (ih _ _ _ _ _ h.2 w f hM)
         · rename_i hx hy
           exact Aa hd (JN hx hy h.1) (ih _ _ _ _ _ h.2 w f hM)
         · exact h.elim
       · split at h
         · rename_i hx hy
           exact Aa hd (He hx hy h.1) (ih _ _ _ _ _ h.2 w f hM)
         · exact h.elim
       · split at h
         · rename_i v hv
           exact Aa hd (Pv ht hv) (ih _ _ _ _ _ h w f hM)
         · exact h.elim
end
structure CM(M:Nat→Prop)(w:World)(f:Fq)(w':World)(f':Fq):Prop where
 stp:Mx M w w'
 old:∀b,b<w.heap.size→f' b=f b
 val:∀b,w'.heap.size≤b→f' b=0
theorem CM.fle{M:Nat→Prop}{w w':World}{f f':Fq}(h:CM M w f w' f')(hv:∀b,w.heap.size≤b→f b=0)(hm:∀b,M b→f b=0):Jf w f w' f':=fun b=>by
 rcases Nat.lt_or_ge b w.heap.size with hb|hb
 · refine⟨by rw[h.old b hb];exact Nat.le_refl _,fun o ho=>El (h.stp.block b hb fun hh=>?_) o⟩
   rw[hm b hh] at ho;omega
 · refine⟨by rw[hv b hb];exact Nat.zero_le _,fun o ho=>?_⟩
   rw[hv b hb] at ho;omega
theorem CM.refl(M:Nat→Prop){w:World}{f:Fq}(hv:∀b,w.heap.size≤b→f b=0):CM M w f w f:=⟨Mx.refl _ _,fun _ _=>rfl,hv⟩
theorem CM.mono{M M':Nat→Prop}{w w':World}{f f':Fq}(h:CM M w f w' f')(hm:∀b,M b→M' b):CM M' w f w' f':=⟨h.stp.mono hm,h.old,h.val⟩
theorem CM.of_ext{w w':World}{f:Fq}(h:AV w w')(hv:∀b,w.heap.size≤b→f b=0):CM (fun _=>False) w f w' f:=⟨Mx.of_ext h,fun _ _=>rfl,fun b hb=>hv b (Nat.le_trans h.size hb)⟩
theorem AX.exm{X:Cx}{w:World}{f:Fq}{H:List HB}{R:List RB}{B:List FB}{Fs:List (World→Fq→Prop)}(h:AX X w f H R B Fs):CM X.M X.w0 X.f0 w f:=⟨h.stp,h.old,h.val⟩
section
variable{X:Cx}{w w':World}{f f':Fq}{H:List HB}{R:List RB}{B:List FB}{Fs:List (World→Fq→Prop)}
theorem AX.call0(h:AX X w f H R B Fs)(he:CM (fun _=>False) w f w' f'):AX X w' f' H R B Fs :=
 have hF:=he.fle h.val (fun _ h=>h.elim)
 h.step (he.stp.mono fun _ h=>h.elim) hF he.old he.val (fun b hb=>he.stp.block b (h.lt hb) fun h=>h) (fun b hb=>he.stp.block b (h.mi b hb).1 fun h=>h)
theorem AX.callI{I':World→Fq→Prop}(h:AX X w f H R B Fs)(he:CM X.MI w f w' f')(hI:I' w' f')(hst:Gr X.MI I'):AX {X with I:=I' } w' f' H R B Fs :=
 have hF:=he.fle h.val (fun b hb=>(h.mi b hb).2.1)
 have hown:∀b,b∈CP H R→w'.heap[b]?=w.heap[b]?:=fun b hb=>he.stp.block b (h.lt hb) (h.own b hb).2.2
 {stp:=⟨he.stp.os.trans h.stp.os,he.stp.tape.trans h.stp.tape,he.stp.output.trans h.stp.output,Nat.le_trans h.stp.size he.stp.size,fun k hk hm=>(he.stp.block k (Nat.lt_of_lt_of_le hk h.stp.size) fun hh=>by
       rcases (h.mi k hh).2.2 with h1|h1
       · exact absurd hk (Nat.not_lt.2 h1)
       · exact hm h1).trans (h.stp.block k hk hm)⟩,
   old:=fun b hb=>(he.old b (Nat.lt_of_lt_of_le hb h.stp.size)).trans (h.old b hb),val:=he.val,ent:=h.ent.trans hF,res:=hI,stab:=hst,
   mi:=fun b hb=>⟨Nat.lt_of_lt_of_le (h.mi b hb).1 he.stp.size,(he.old b (h.mi b hb).1).trans (h.mi b hb).2.1,(h.mi b hb).2.2⟩,
   blk:=fun e hh=>(hown e.b (List.mem_append.2 (.inl (List.mem_map.2 ⟨e,hh,rfl⟩)))).trans (h.blk e hh),
   row:=fun r hr=>by
     refine⟨(h.row r hr).1,(h.row r hr).2.imp id ?_⟩
     rintro⟨b,l,h1,h2,h3⟩
     exact⟨b,l,h1,(hown b (List.mem_append.2 (.inr (List.mem_filterMap.2 ⟨r,hr,by rw[h1];rfl⟩)))).trans h2,h3⟩,
   nd:=h.nd,
   own:=fun b hb=>⟨(he.old b (h.lt hb)).trans (h.own b hb).1,(h.own b hb).2⟩,hnw:=h.hnw,rnw:=h.rnw,
   fro:=fun e hh=>(h.fro e hh).mono hF,fac:=fun φ hφ=>h.mono φ hφ _ _ _ _ (h.fac φ hφ) hF,mono:=h.mono}
theorem AX.more{B':List FB}{F':List (World→Fq→Prop)}(h:AX X w f H R B Fs)(hB:∀e,e∈B'→Cs w f e.b e.off e.l)(hF:∀φ,φ∈F'→φ w f)(hm:∀φ,φ∈F'→G0 φ):AX X w f H R (B'++B) (F'++Fs) :=
 {h with
   fro:=fun e he=>(List.mem_append.1 he).elim (hB e) (h.fro e),
   fac:=fun φ hφ=>(List.mem_append.1 hφ).elim (hF φ) (h.fac φ),
   mono:=fun φ hφ=>(List.mem_append.1 hφ).elim (hm φ) (h.mono φ)}
theorem AX.less{H':List HB}{R':List RB}{B':List FB}{F':List (World→Fq→Prop)}(h:AX X w f H R B Fs)(hH:H'.Sublist H)(hR:R'.Sublist R)(hB:∀e,e∈B'→e∈B)(hF:∀φ,φ∈F'→φ∈Fs):AX X w f H' R' B' F' :=
 have hs:(CP H' R').Sublist (CP H R):=List.Sublist.append (hH.map _) (hR.filterMap _)
 {h with
   blk:=fun e he=>h.blk e (hH.subset he),row:=fun r hr=>h.row r (hR.subset hr),nd:=hs.nodup h.nd,own:=fun b hb=>h.own b (hs.subset hb),hnw:=fun e he=>h.hnw e (hH.subset he),rnw:=fun r hr=>h.rnw r (hR.subset hr),
   fro:=fun e he=>h.fro e (hB e he),fac:=fun φ hφ=>h.fac φ (hF φ hφ),mono:=fun φ hφ=>h.mono φ (hF φ hφ)}
theorem AX.fact{i:Nat}{φ:World→Fq→Prop}(h:AX X w f H R B Fs)(hi:nth Fs i=some φ):φ w f:=by
 rw[F6] at hi
 exact h.fac _ (List.mem_of_getElem? hi)
end
section
variable{P:Program}{n:Nat}{Q:Bk}{ds:List Deferred}{X:Cx}{R:List RB}{B:List FB}{Fs:List (World→Fq→Prop)}{tb:Ea}{fs:List Fr}{σ:Bo}{H:List HB}
theorem go{k:M5}(ht:tb.Ok P)(m:Nat)(hs:List Nat)(h:ex P n Q ds X R B Fs tb m hs k fs σ H):AF P n Q ds X R B Fs k fs σ H:=Ju ht m hs k fs σ H h
theorem y{α:Type}{a:α}{p:Prop}(h:p):a=a∧p:=⟨rfl,h⟩
theorem y2{α β:Type}{a:α}{b:β}{p:Prop}(h:p):(a=a∧b=b)∧p:=⟨⟨rfl,rfl⟩,h⟩
def jH:M5→Bool
 |.out _=>false
 |_=>true
theorem AF.le{k:M5}{σ':Bo}(hk:jH k=true)(hl:Le σ' σ)(h:AF P n Q ds X R B Fs k fs σ' H):AF P n Q ds X R B Fs k fs σ H:=fun w f hM=>by
 have:=h w f hM
 cases k with
 |code c=>exact N1 hl this
 |ops all l=>exact fun a ha=>this a (ha.le hl)
 |out e=>cases hk
theorem AZ{k:M5}{b:Bool}(t:Nat)(hk:jH k=true)(hx:σ t=some (.bool b))(h1:b=true→AF P n Q ds X R B Fs k fs (AL σ t (.bool true)) H)(h2:b=false→AF P n Q ds X R B Fs k fs (AL σ t (.bool false)) H):AF P n Q ds X R B Fs k fs σ H:=by
 cases b with
 |true=>exact AF.le hk (AD (le_refl _) hx) (h1 rfl)
 |false=>exact AF.le hk (AD (le_refl _) hx) (h2 rfl)
theorem qM{k:M5}{b:Bool}(t:Nat)(c:Bool)(hk:jH k=true)(hx:σ t=some (.bool b))(hb:b=c)(h1:AF P n Q ds X R B Fs k fs (AL σ t (.bool c)) H):AF P n Q ds X R B Fs k fs σ H:=by
 subst hb
 exact AF.le hk (AD (le_refl _) hx) h1
theorem CB{k:M5}{α:Type}(p:α→Prop)(B':α→List FB)(F':α→List (World→Fq→Prop))(hφ:∀w f,AX X w f H R B Fs→∃x,p x∧(∀e,e∈B' x→Cs w f e.b e.off e.l)∧∀φ,φ∈F' x→φ w f)(hm:∀x φ,φ∈F' x→G0 φ)
   (h:∀x,p x→AF P n Q ds X R (B' x++B) (F' x++Fs) k fs σ H):AF P n Q ds X R B Fs k fs σ H:=fun w f hM=>by
 obtain⟨x,hp,hB,hF⟩:=hφ w f hM
 exact h x hp w f (hM.more hB hF (hm x))
theorem Ky{k:M5}{p:Prop}(hφ:∀w f,AX X w f H R B Fs→p)(h:p→AF P n Q ds X R B Fs k fs σ H):AF P n Q ds X R B Fs k fs σ H:=fun w f hM=>h (hφ w f hM) w f hM
theorem Mo:∀fs:List Fr,(MT P n Q fs).p=Q.p
 | []=>rfl
 |.sq _::fs=>Mo fs
 |.bk _::fs=>Mo fs
theorem tM{all r:List Oper}{op:Op}{ty:TypeId}{pos:String}{af:Array Edge}{g:Option (Nat×Bool)}{d:Nat}{fid:FuncId}{args:Array Value}{α:Type}{val:α→Value}{q:α→Prop}{F':α→List (World→Fq→Prop)}(hg:gd all σ g=some true)(hd:Nat.blt d n=true)(he:∀w,Enters P σ op ty w fid args)
   (hc:∀w f,AX X w f H R B Fs→BF P fid args w fun v w'=>∃x f',v=val x∧q x∧CM (fun _=>False) w f w' f'∧∀φ,φ∈F' x→φ w' f') (hm:∀x φ,φ∈F' x→G0 φ)
   (h:∀x,q x→AF P n Q ds X R B (F' x++Fs) (.ops all r) fs (AL σ d (val x)) H):AF P n Q ds X R B Fs (.ops all (⟨some d,op,ty,pos,af,g⟩::r)) fs σ H:=fun w f hM=>by
 refine BD hg (A7 hd (he w) (hc w f hM) ?_)
 rintro v w' ⟨x,f',rfl,hq,hE,hF⟩
 exact h x hq w' f' ((hM.call0 hE).more (B':=[]) (fun _ h=>by cases h) hF (hm x))
theorem tU{all r:List Oper}{op:Op}{ty:TypeId}{pos:String}{af:Array Edge}{g:Option (Nat×Bool)}{d:Nat}{fid:FuncId}{args:Array Value}{α:Type}{val:α→Value}{q:α→Prop}{I':α→World→Fq→Prop}{F':α→List (World→Fq→Prop)}{XX:List PanicEntry→World→Prop}
   (hg:gd all σ g=some true) (hd:Nat.blt d n=true) (he:∀w,Enters P σ op ty w fid args)
   (hc:∀w f,AX X w f H R B Fs→BQ P fid args w (fun v w'=>∃x f',v=val x∧q x∧CM X.MI w f w' f'∧I' x w' f'∧∀φ,φ∈F' x→φ w' f') XX) (hst:∀x,Gr X.MI (I' x)) (hm:∀x φ,φ∈F' x→G0 φ)
   (hp:∀w f c w',AX X w f H R B Fs→XX c w'→Q.p c σ ds w')
   (h:∀x,q x→AF P n Q ds {X with I:=I' x} R B (F' x++Fs) (.ops all r) fs (AL σ d (val x)) H):AF P n Q ds X R B Fs (.ops all (⟨some d,op,ty,pos,af,g⟩::r)) fs σ H:=fun w f hM=>by
 refine BD hg (Cf hd (he w) (hc w f hM) ?_ ?_)
 · rintro v w' ⟨x,f',rfl,hq,hE,hI,hF⟩
   exact h x hq w' f' ((hM.callI hE hI (hst x)).more (B':=[]) (fun _ h=>by cases h) hF (hm x))
 · intro c w' hX
   rw[Mo]
   exact hp w f c w' hM hX
theorem Fh{all r:List Oper}{op:Op}{ty:TypeId}{pos:String}{af:Array Edge}{g:Option (Nat×Bool)}{d:Nat}{v:Value}(hg:gd all σ g=some true)(hd:Nat.blt d n=true)(hr:∀w f,AX X w f H R B Fs→AO P σ op ty w v w)
   (h:AF P n Q ds X R B Fs (.ops all r) fs (AL σ d v) H):AF P n Q ds X R B Fs (.ops all (⟨some d,op,ty,pos,af,g⟩::r)) fs σ H:=fun w f hM=>BD hg (Aa hd (hr w f hM) (h w f hM))
theorem pM{all r:List Oper}{op:Op}{ty:TypeId}{pos:String}{af:Array Edge}{g:Option (Nat×Bool)}{dst:Option Tmp}{v:Value}(hg:gd all σ g=some true)(hr:∀w,jM P σ op ty w v w)
   (h:∀w f,AX X w f H R B Fs→Q.p [{v,recovered:=false}] σ ds w):AF P n Q ds X R B Fs (.ops all (⟨dst,op,ty,pos,af,g⟩::r)) fs σ H:=fun w f hM=>BD hg (Ct (hr w) (by rw[Mo];exact h w f hM))
def pH(P:Program)(n:Nat){α:Type}(m:α→Nat)(p:α→Prop)(s:α→Bo)(X:α→Cx)(H:α→List HB)(R:α→List RB)(B:α→List FB)(Fs:α→List (World→Fq→Prop))(ds:List Deferred)(k:Nat)(Q:Bk):Bk :=
 {q:=fun e σ ds' w=>match e with
     |.normal=>∃x,m x<k∧p x∧ds'=ds∧Le (s x) σ∧∃f,AX (X x) w f (H x) (R x) (B x) (Fs x)
     |e=>Q.q e σ ds' w,
   p:=Q.p}
theorem H9{c:Code}{α:Type}(m:α→Nat)(p:α→Prop)(s:α→Bo)(X':α→Cx)(H':α→List HB)(R':α→List RB)(B':α→List FB)(F':α→List (World→Fq→Prop))(x0:α)(h0:p x0)(hl:Le (s x0) σ)
   (hM:∀w f,AX X w f H R B Fs→AX (X' x0) w f (H' x0) (R' x0) (B' x0) (F' x0))
   (body:∀x,p x→AF P n (pH P n m p s X' H' R' B' F' ds (m x) (MT P n Q fs)) ds (X' x) (R' x) (B' x) (F' x) (.code c) [] (s x) (H' x)):AF P n Q ds X R B Fs (.code (.loop c)) fs σ H:=fun w f hm=>by
 refine Eh (fun k σ ds' w=>∃x,m x=k∧p x∧ds'=ds∧σ=s x∧∃f,AX (X' x) w f (H' x) (R' x) (B' x) (F' x)) (m x0) (s x0) hl ⟨x0,rfl,h0,rfl,rfl,f,hM w f hm⟩ ?_
 rintro k σ ds' w ⟨x,rfl,hp,rfl,rfl,f,hm⟩
 have:=body x hp w f hm
 intro a ha
 refine wp_mono (this a ha) fun e a' w' he=>?_
 cases e with
 |normal =>
   obtain⟨σ',ds',hs,y,hy,hpy,rfl,hly,f',hm'⟩:=he
   exact⟨σ',_,hs,m y,s y,hy,hly,y,rfl,hpy,rfl,rfl,f',hm'⟩
 |panic c=>exact he
 |outgrown=>exact he
 |ret=>exact he
 |exit i=>exact he
 |goto i=>exact he
theorem Eb{α:Type}{m:α→Nat}{p:α→Prop}{s:α→Bo}{X':α→Cx}{H':α→List HB}{R':α→List RB}{B':α→List FB}{F':α→List (World→Fq→Prop)}{k:Nat}(x:α)(hk:m x<k)(hp:p x)(hl:Le (s x) σ)
   (hM:∀w f,AX X w f H R B Fs→∃f,AX (X' x) w f (H' x) (R' x) (B' x) (F' x)):AF P n (pH P n m p s X' H' R' B' F' ds k Q) ds X R B Fs (.out .normal) [] σ H :=
 fun w f hm=>⟨x,hk,hp,rfl,hl,hM w f hm⟩
theorem Hc{α:Type}{m:α→Nat}{p:α→Prop}{s:α→Bo}{X':α→Cx}{H':α→List HB}{R':α→List RB}{B':α→List FB}{F':α→List (World→Fq→Prop)}{k i:Nat}(h:AF P n Q ds X R B Fs (.out (.exit i)) fs σ H):AF P n (pH P n m p s X' H' R' B' F' ds k (MT P n Q fs)) ds X R B Fs (.out (.exit i)) [] σ H:=fun w f hm=>h w f hm
theorem cU{α:Type}{m:α→Nat}{p:α→Prop}{s:α→Bo}{X':α→Cx}{H':α→List HB}{R':α→List RB}{B':α→List FB}{F':α→List (World→Fq→Prop)}{k:Nat}(h:AF P n Q ds X R B Fs (.out .ret) fs σ H):AF P n (pH P n m p s X' H' R' B' F' ds k (MT P n Q fs)) ds X R B Fs (.out .ret) [] σ H:=fun w f hm=>h w f hm
theorem NT{fid:FuncId}{fn:Func}{c:Code}{l:List Value}{R0:Value→World→Prop}{XX:List PanicEntry→World→Prop}{w:World}{f:Fq}(hf:P.funcs[fid]?=some fn)(hb:fn.body=some c)(hn:fn.ntmps=n)(hl:Nat.ble l.length n=true)(hM:AX X w f H R B Fs)
   (h:AF P n (FN P fn R0 XX) [] X R B Fs (.code c) [] (Io l 0) H):BQ P fid l.toArray w R0 XX:=IF hf hb hn hl (h w f hM)
theorem Dg{fid:FuncId}{fn:Func}{c:Code}{l:List Value}{R0:Value→World→Prop}{w:World}{f:Fq}(hf:P.funcs[fid]?=some fn)(hb:fn.body=some c)(hn:fn.ntmps=n)(hl:Nat.ble l.length n=true)(hM:AX X w f H R B Fs)
   (h:AF P n (FN P fn R0 fun _ _=>False) [] X R B Fs (.code c) [] (Io l 0) H):BF P fid l.toArray w R0:=enter hf hb hn hl (h w f hM)
theorem AY{fn:Func}{R0:Value→World→Prop}{XX:List PanicEntry→World→Prop}{v:Value}(hv:∀w f,AX X w f H R B Fs→UO P fn σ w v)(h:∀w f,AX X w f H R B Fs→R0 v w):AF P n (FN P fn R0 XX) [] X R B Fs (.out .ret) [] σ H:=fun w f hM=>By (hv w f hM) (h w f hM)
theorem aG{fn:Func}{R0:Value→World→Prop}{XX:List PanicEntry→World→Prop}{v:Value}(hv:∀w f,AX X w f H R B Fs→UO P fn σ w v)(h:∀w f,AX X w f H R B Fs→R0 v w):AF P n (FN P fn R0 XX) [] X R B Fs (.out .normal) [] σ H:=fun w f hM=>Gu (hv w f hM) (h w f hM)
end
def Ow:List RB→Nat→Option RB
 | [],_=>none
 |x::_,0=>some x
 |_::l,i+1=>Ow l i
def QZ:List RB→Nat→RB→Option (List RB)
 | [],_,_=>none
 |_::H,0,e=>some (e::H)
 |x::H,i+1,e=>match QZ H i e with
   |some r=>some (x::r)
   |none=>none
def Qz:List RB→Nat→Option (List RB)
 | [],_=>none
 |_::H,0=>some H
 |x::H,i+1=>match Qz H i with
   |some r=>some (x::r)
   |none=>none
theorem DO:∀{R:List RB}{i:Nat}{r:RB},Ow R i=some r→r∈R
 | [],_,_,h=>by cases h
 |_::_,0,_,h=>by cases h;exact .head _
 |_::R,i+1,r,h=>.tail _ (DO (R:=R) h)
theorem Rc:∀{R R':List RB}{i:Nat},Qz R i=some R'→R'.Sublist R
 | [],_,_,h=>by cases h
 |_::_,_,0,h=>by cases h;exact List.sublist_cons_self _ _
 |x::R,R',i+1,h=>by
   unfold Qz at h
   cases hr:Qz R i with
   |none=>rw[hr] at h;cases h
   |some r=>rw[hr] at h;cases h;exact (Rc hr).cons_cons x
def Jo(R:List RB):List Nat:=R.filterMap fun r=>rb r.a
theorem Sv:∀{R R':List RB}{i:Nat}{r r':RB},Ow R i=some r→QZ R i r'=some R'→(∀x,x∈R'→x=r'∨x∈R)∧∀N,(rb r'.a=rb r.a∨∃k,rb r'.a=some k∧k∉N∧k∉Jo R)→(N++Jo R).Nodup→(N++Jo R').Nodup∧(∀b,b∈Jo R'→some b=rb r'.a∨b∈Jo R)∧∀x,x∈R'→x=r'∨(x∈R∧(rb x.a=none∨rb x.a≠rb r.a))
 | [],_,_,_,_,h,_=>by cases h
 |x::R,R',0,r,r',hg,hs=>by
   cases hg;cases hs
   refine⟨fun y hy=>by rcases List.mem_cons.1 hy with h|h;exact .inl h;exact .inr (.tail _ h),fun N hk hn=>?_⟩
   have e1:Jo (x::R)=(match rb x.a with|some b=>b::Jo R|none=>Jo R):=by
     unfold Jo;rw[List.filterMap_cons];cases rb x.a <;> rfl
   have e2:Jo (r'::R)=(match rb r'.a with|some b=>b::Jo R|none=>Jo R):=by
     unfold Jo;rw[List.filterMap_cons];cases rb r'.a <;> rfl
   have hsub:(N++Jo R).Nodup:=by
     rw[e1] at hn
     cases hx:rb x.a with
     |none=>rw[hx] at hn;exact hn
     |some b=>rw[hx] at hn;exact (List.Sublist.append (List.Sublist.refl N) (List.sublist_cons_self b _)).nodup hn
   have hother:∀y,y∈R→rb y.a=none∨rb y.a≠rb x.a:=fun y hy=>by
     cases hb:rb y.a with
     |none=>exact .inl rfl
     |some b =>
       refine .inr fun e=>?_
       rw[e1,← e] at hn
       have h2:=(List.nodup_append.1 hn).2.1
       exact (List.nodup_cons.1 h2).1 (List.mem_filterMap.2 ⟨y,hy,hb⟩)
   refine⟨?_,?_,?_⟩
   · rcases hk with hk|⟨k,hk,hkN,hkR⟩
     · rw[e2,hk,← e1];exact hn
     · rw[e2,hk]
       have hkR':k∉Jo R:=fun h=>hkR (by rw[e1];cases rb x.a with|none=>exact h|some b=>exact .tail _ h)
       exact List.nodup_append.2 ⟨(List.nodup_append.1 hsub).1,List.nodup_cons.2 ⟨hkR',(List.nodup_append.1 hsub).2.1⟩,fun a ha b hb e=>by
         rcases List.mem_cons.1 hb with rfl|hb
         · exact hkN (e▸ha)
         · exact (List.nodup_append.1 hsub).2.2 a ha b hb e⟩
   · intro b hb
     rw[e2] at hb
     cases hr:rb r'.a with
     |none=>rw[hr] at hb;right;rw[e1];cases rb x.a with|none=>exact hb|some c=>exact .tail _ hb
     |some c =>
       rw[hr] at hb
       rcases List.mem_cons.1 hb with rfl|hb
       · exact .inl rfl
       · right;rw[e1];cases rb x.a with|none=>exact hb|some c=>exact .tail _ hb
   · intro y hy
     rcases List.mem_cons.1 hy with h|h
     · exact .inl h
     · exact .inr ⟨.tail _ h,hother y h⟩
 |x::R,R',i+1,r,r',hg,hs=>by
   unfold QZ at hs
   cases hr:QZ R i r' with
   |none=>rw[hr] at hs;cases hs
   |some R1 =>
     rw[hr] at hs;cases hs
     obtain⟨h1,h2⟩:=Sv (R:=R) hg hr
     refine⟨fun y hy=>by
       rcases List.mem_cons.1 hy with rfl|hy
       · exact .inr (.head _)
       · rcases h1 y hy with h|h
         · exact .inl h
         · exact .inr (.tail _ h),fun N hk hn=>?_⟩
     have ex:∀L:List RB,Jo (x::L)=(match rb x.a with|some b=>b::Jo L|none=>Jo L):=fun L=>by
       unfold Jo;rw[List.filterMap_cons];cases rb x.a <;> rfl
     cases hx:rb x.a with
     |none =>
       rw[ex,hx] at hn
       obtain⟨a1,a2,a3⟩:=h2 N (by rw[ex,hx] at hk;exact hk) hn
       refine⟨by rw[ex,hx];exact a1,fun b hb=>by rw[ex,hx] at hb;rw[ex,hx];exact a2 b hb,fun y hy=>?_⟩
       rcases List.mem_cons.1 hy with rfl|hy
       · exact .inr ⟨.head _,.inl hx⟩
       · rcases a3 y hy with h|h
         · exact .inl h
         · exact .inr ⟨.tail _ h.1,h.2⟩
     |some c =>
       rw[ex,hx] at hn
       simp only at hn
       have hn':((N++[c])++Jo R).Nodup:=by simpa using hn
       obtain⟨a1,a2,a3⟩:=h2 (N++[c]) (by
         rw[ex,hx] at hk
         rcases hk with hk|⟨k,hk,hkN,hkR⟩
         · exact .inl hk
         · exact .inr ⟨k,hk,fun h=>by
             rcases List.mem_append.1 h with h|h
             · exact hkN h
             · exact hkR (by rw[List.mem_singleton] at h;subst h;exact .head _),fun h=>hkR (.tail _ h)⟩) hn'
       have hrc:rb r.a≠some c:=fun e=>by
         have:c∈Jo R:=List.mem_filterMap.2 ⟨r,DO hg,e⟩
         exact (List.nodup_append.1 hn').2.2 c (List.mem_append.2 (.inr (.head _))) c this rfl
       refine⟨by rw[ex,hx];simpa using a1,fun b hb=>?_,fun y hy=>?_⟩
       · rw[ex,hx] at hb
         rcases List.mem_cons.1 hb with rfl|hb
         · right;rw[ex,hx];exact .head _
         · rcases a2 b hb with h|h
           · exact .inl h
           · right;rw[ex,hx];exact .tail _ h
       · rcases List.mem_cons.1 hy with rfl|hy
         · exact .inr ⟨.head _,.inr (by rw[hx];exact fun e=>hrc e.symm)⟩
         · rcases a3 y hy with h|h
           · exact .inl h
           · exact .inr ⟨.tail _ h.1,h.2⟩
section
variable{X:Cx}{w w':World}{f:Fq}{H:List HB}{R R':List RB}{B:List FB}{Fs:List (World→Fq→Prop)}
theorem AX.grow{i:Nat}{r:RB}{a':Option Addr}{c' n':Nat}{xs':List Value}(h:AX X w f H R B Fs)(hg:Ow R i=some r)(hs:QZ R i ⟨r.e,r.size,a',c',n',xs'⟩=some R')(hr:Ck w' r.e r.size a' c' n' xs')(hG:G4 r.a w a' w'):AX X w' f H R' B Fs:=by
 have hmemr:∀b,rb r.a=some b→b∈CP H R:=fun b hb=>List.mem_append.2 (.inr (List.mem_filterMap.2 ⟨r,DO hg,hb⟩))
 have hF:Jf w f w' f:=fun k=>⟨Nat.le_refl _,fun o ho=>by
   have hk:k<w.heap.size:=by
     rcases Nat.lt_or_ge k w.heap.size with hh|hh
     · exact hh
     · have:=h.val k hh;omega
   exact El (hG.block k hk fun e=>by have:=(h.own k (hmemr k e.symm)).1;omega) o⟩
 have hmi:∀k,X.MI k→w'.heap[k]?=w.heap[k]?:=fun k hk=>hG.block k (h.mi k hk).1 fun e=>(h.own k (hmemr k e.symm)).2.2 hk
 have hnew:w.heap.size∉CP H R:=fun hh=>Nat.lt_irrefl _ (h.lt hh)
 obtain⟨h1,h2⟩:=Sv hg hs
 obtain⟨a1,a2,a3⟩:=h2 (H.map HB.b) (by
   rcases hG.own with ho|ho
   · exact .inl ho
   · exact .inr ⟨_,ho,fun hh=>hnew (List.mem_append.2 (.inl hh)),fun hh=>hnew (List.mem_append.2 (.inr hh))⟩) h.nd
 have hblk:∀e,e∈H→w'.heap[e.b]?=w.heap[e.b]?:=fun e he=>hG.block e.b (h.blk e he).lt fun hh=>by
   exact (List.nodup_append.1 h.nd).2.2 e.b (List.mem_map.2 ⟨e,he,rfl⟩) e.b (List.mem_filterMap.2 ⟨r,DO hg,hh.symm⟩) rfl
 exact {stp:=⟨hG.os.trans h.stp.os,hG.tape.trans h.stp.tape,hG.output.trans h.stp.output,Nat.le_trans h.stp.size hG.size,fun k hk hm=>(hG.block k (Nat.lt_of_lt_of_le hk h.stp.size) fun e=>by have:=h.rnw r (DO hg) k e.symm;omega).trans (h.stp.block k hk hm)⟩,
         old:=h.old,val:=fun k hk=>h.val k (Nat.le_trans hG.size hk),ent:=h.ent.trans hF,res:=h.stab _ _ _ _ h.res hF hmi,stab:=h.stab,
         mi:=fun k hk=>⟨Nat.lt_of_lt_of_le (h.mi k hk).1 hG.size,(h.mi k hk).2⟩,
         blk:=fun e he=>(hblk e he).trans (h.blk e he),
         row:=fun x hx=>by
           rcases a3 x hx with rfl|⟨hx,hne⟩
           · exact hr
           · exact (h.row x hx).grow hG hne,
         nd:=a1,
         own:=fun b hb=>by
           rcases List.mem_append.1 hb with hb|hb
           · exact h.own b (List.mem_append.2 (.inl hb))
           · rcases a2 b hb with hb|hb
             · rcases hG.own with ho|ho
               · exact h.own b (hmemr b (by rw[← ho];exact hb.symm))
               · have:b=w.heap.size:=Option.some.inj (hb.trans ho)
                 subst this
                 exact⟨h.val _ (Nat.le_refl _),.inl h.stp.size,fun hm=>Nat.lt_irrefl _ (h.mi _ hm).1⟩
             · exact h.own b (List.mem_append.2 (.inr hb)),
         hnw:=h.hnw,
         rnw:=fun x hx b hb=>by
           rcases a3 x hx with rfl|⟨hx,_⟩
           · rcases hG.own with ho|ho
             · exact h.rnw r (DO hg) b (by rw[← ho];exact hb)
             · have:b=w.heap.size:=Option.some.inj (hb.symm.trans ho)
               subst this;exact h.stp.size
           · exact h.rnw x hx b hb,
         fro:=fun x hx=>(h.fro x hx).mono hF,fac:=fun φ hφ=>h.mono φ hφ _ _ _ _ (h.fac φ hφ) hF,mono:=h.mono}
theorem AX.rowNil(h:AX X w f H R B Fs)(e:TypeId)(size:Nat):AX X w f H (⟨e,size,none,0,0,[]⟩::R) B Fs :=
 {h with
   row:=fun r hr=>by
     rcases List.mem_cons.1 hr with rfl|hr
     · exact G9 _ _ _
     · exact h.row r hr,
   rnw:=fun r hr b hb=>by
     rcases List.mem_cons.1 hr with rfl|hr
     · cases hb
     · exact h.rnw r hr b hb}
theorem AX.done{i b:Nat}{e:TypeId}{size c n:Nat}{xs:List Value}(h:AX X w f H R B Fs)(hg:Ow R i=some ⟨e,size,some ⟨b,0,none⟩,c,n,xs⟩)(hs:Qz R i=some R'):∃f',AX X w f' H R' (⟨b,0,xs⟩::B) Fs:=by
 have hr:=h.row _ (DO hg)
 have hown:=h.own b (List.mem_append.2 (.inr (List.mem_filterMap.2 ⟨_,DO hg,rfl⟩)))
 have hnw:=h.rnw _ (DO hg) b rfl
 have hlt:b<w.heap.size:=hr.lt rfl
 let f':Fq:=fun k=>if k=b then n*size else f k
 have hF:Jf w f w f':=fun k=>by
   show f k≤(if k=b then n*size else f k)∧_
   split
   · rename_i hk;subst hk;rw[hown.1];exact⟨Nat.zero_le _,fun o ho=>by omega⟩
   · exact⟨Nat.le_refl _,fun _ _=>rfl⟩
 have hne:∀k,k≠b→f' k=f k:=fun k hk=>if_neg hk
 have hsub:=Rc hs
 have hbR:b∉CP H R':=by
   have:∀(R R':List RB)(i:Nat)(N:List Nat),Ow R i=some ⟨e,size,some ⟨b,0,none⟩,c,n,xs⟩→Qz R i=some R'→(N++Jo R).Nodup→b∉N++Jo R':=by
     intro R
     induction R with
     |nil=>intro R' i N hg;cases hg
     |cons x R ih =>
       intro R' i N hg hs hn
       cases i with
       |zero =>
         cases hg;cases hs
         have e1:Jo (⟨e,size,some ⟨b,0,none⟩,c,n,xs⟩::R)=b::Jo R:=rfl
         rw[e1] at hn
         intro hb
         rcases List.mem_append.1 hb with hb|hb
         · exact (List.nodup_append.1 hn).2.2 b hb b (.head _) rfl
         · exact (List.nodup_cons.1 (List.nodup_append.1 hn).2.1).1 hb
       |succ i =>
         unfold Qz at hs
         cases hr:Qz R i with
         |none=>rw[hr] at hs;cases hs
         |some R1 =>
           rw[hr] at hs;cases hs
           have ex:∀L:List RB,Jo (x::L)=(match rb x.a with|some b=>b::Jo L|none=>Jo L):=fun L=>by
             unfold Jo;rw[List.filterMap_cons];cases rb x.a <;> rfl
           rw[ex] at hn ⊢
           cases hx:rb x.a with
           |none=>rw[hx] at hn;exact ih R1 i N hg hr hn
           |some k =>
             rw[hx] at hn
             have:=ih R1 i (N++[k]) hg hr (by simpa using hn)
             simpa using this
   exact this R R' i (H.map HB.b) hg hs h.nd
 refine⟨f',{stp:=h.stp,old:=fun k hk=>(hne k oM).trans (h.old k hk),val:=fun k hk=>(hne k oM).trans (h.val k hk),ent:=h.ent.trans hF,res:=h.stab _ _ _ _ h.res hF (fun _ _=>rfl),stab:=h.stab,
               mi:=fun k hk=>⟨(h.mi k hk).1,(hne k (fun e=>hown.2.2 (e▸hk))).trans (h.mi k hk).2.1,(h.mi k hk).2.2⟩,
               blk:=h.blk,row:=fun r hr=>h.row r (hsub.subset hr),nd:=(List.Sublist.append (List.Sublist.refl _) (hsub.filterMap _)).nodup h.nd,
               own:=fun k hk=>by
                 have hk2:k∈CP H R:=(List.Sublist.append (List.Sublist.refl (H.map (·.b))) (hsub.filterMap _)).subset hk
                 exact⟨(hne k (fun e=>hbR (e▸hk))).trans (h.own k hk2).1,(h.own k hk2).2⟩,
               hnw:=h.hnw,rnw:=fun r hr=>h.rnw r (hsub.subset hr),
               fro:=fun x hx=>by
                 rcases List.mem_cons.1 hx with rfl|hx
                 · intro j v hj
                   have hj:xs[j]?=some v:=hj
                   obtain⟨hl,_⟩:=List.getElem?_eq_some_iff.1 hj
                   rcases hr.2 with ⟨h0,_⟩|⟨b',l,ha,hb,hnc,_,hll,ht⟩
                   · cases h0
                   · cases ha
                     have hxl:xs.length=n*size:=hr.1
                     have ht:l.take (n*size)=xs:=ht
                     refine⟨?_,?_⟩
                     · show 0+j<(if b=b then n*size else f b)
                       rw[if_pos rfl];omega
                     · show w.cell? ⟨b,0+j,none⟩=some v
                       rw[hb.cell,Nat.zero_add]
                       rw[← ht,List.getElem?_take] at hj
                       split at hj
                       · exact hj
                       · cases hj
                 · exact (h.fro x hx).mono hF,
               fac:=fun φ hφ=>h.mono φ hφ _ _ _ _ (h.fac φ hφ) hF,mono:=h.mono}⟩
end
def A1:List (World→Fq→Prop)→World→Fq→Prop
 | [],_,_=>True
 |φ::l,w,f=>φ w f∧A1 l w f
def Af:List (World→Fq→Prop)→Prop
 | []=>True
 |φ::l=>G0 φ∧Af l
theorem A1.mem:∀{l:List (World→Fq→Prop)}{w:World}{f:Fq},A1 l w f→∀φ,φ∈l→φ w f
 | [],_,_,_,_,h=>by cases h
 |_::_,_,_,h,φ,hφ=>by
   rcases List.mem_cons.1 hφ with rfl|hφ
   · exact h.1
   · exact A1.mem h.2 φ hφ
theorem Af.mem:∀{l:List (World→Fq→Prop)},Af l→∀φ,φ∈l→G0 φ
 | [],_,_,h=>by cases h
 |_::_,h,φ,hφ=>by
   rcases List.mem_cons.1 hφ with rfl|hφ
   · exact h.1
   · exact Af.mem h.2 φ hφ
def BV{α:Type}(val:α→Value)(q:α→Prop)(F':α→List (World→Fq→Prop))(w:World)(f:Fq)(v:Value)(w':World):Prop:=∃x f',v=val x∧q x∧CM (fun _=>False) w f w' f'∧A1 (F' x) w' f'
def Fl{α:Type}(val:α→Value)(q:α→Prop)(MI:Nat→Prop)(I':α→World→Fq→Prop)(F':α→List (World→Fq→Prop))(w:World)(f:Fq)(v:Value)(w':World):Prop:=∃x f',v=val x∧q x∧CM MI w f w' f'∧I' x w' f'∧A1 (F' x) w' f'
def Vl(w:World)(f:Fq):Prop:=∀b,w.heap.size≤b→f b=0
abbrev X0(w:World)(f:Fq):Cx:=⟨fun _=>False,fun _=>False,fun _ _=>True,w,f⟩
theorem C7{w:World}{f:Fq}{Fs:List (World→Fq→Prop)}(hv:Vl w f)(hF:A1 Fs w f)(hm:Af Fs):AX (X0 w f) w f [] [] [] Fs where
 stp:=Mx.refl _ _
 old _ _:=rfl
 val:=hv
 ent:=Jf.refl _ _
 res:=trivial
 stab _ _ _ _ _ _ _:=trivial
 mi _ h:=h.elim
 blk _ h:=by cases h
 row _ h:=by cases h
 nd:=List.nodup_nil
 own _ h:=by cases h
 hnw _ h:=by cases h
 rnw _ h:=by cases h
 fro _ h:=by cases h
 fac:=hF.mem
 mono:=hm.mem
theorem AX.vl{X:Cx}{w:World}{f:Fq}{H:List HB}{R:List RB}{B:List FB}{Fs:List (World→Fq→Prop)}(h:AX X w f H R B Fs):Vl w f:=h.val
def Ll:List HB→Nat→Option (List HB)
 | [],_=>none
 |_::H,0=>some H
 |x::H,i+1=>match Ll H i with
   |some r=>some (x::r)
   |none=>none
theorem KT:∀{H H':List HB}{i:Nat},Ll H i=some H'→H'.Sublist H
 | [],_,_,h=>by cases h
 |_::_,_,0,h=>by cases h;exact List.sublist_cons_self _ _
 |x::H,H',i+1,h=>by
   unfold Ll at h
   cases hr:Ll H i with
   |none=>rw[hr] at h;cases h
   |some r=>rw[hr] at h;cases h;exact (KT hr).cons_cons x
theorem Ls:∀{H H':List HB}{i:Nat}{e:HB}{L:List Nat},HM H i=some e→Ll H i=some H'→(H.map HB.b++L).Nodup→e.b∉H'.map HB.b++L
 | [],_,_,_,_,h,_,_=>by cases h
 |x::H,H',0,e,L,hg,hs,hn=>by
   cases hg;cases hs
   exact (List.nodup_cons.1 hn).1
 |x::H,H',i+1,e,L,hg,hs,hn=>by
   unfold Ll at hs
   cases hr:Ll H i with
   |none=>rw[hr] at hs;cases hs
   |some r =>
     rw[hr] at hs;cases hs
     have hn':(x.b::(H.map HB.b++L)).Nodup:=hn
     have ih:=Ls (H:=H) (L:=L) hg hr (List.nodup_cons.1 hn').2
     intro hb
     have hb':e.b∈x.b::(r.map HB.b++L):=hb
     rcases List.mem_cons.1 hb' with h|h
     · exact (List.nodup_cons.1 hn').1 (by rw[← h];exact List.mem_append.2 (.inl (List.mem_map.2 ⟨e,Cb hg,rfl⟩)))
     · exact ih h
section
variable{X:Cx}{w w':World}{f:Fq}{H H':List HB}{R R':List RB}{B:List FB}{Fs:List (World→Fq→Prop)}
theorem AX.doneH{i b:Nat}{l:List Value}{T:TypeId}(h:AX X w f H R B Fs)(hg:HM H i=some ⟨b,l,T,true⟩)(hs:Ll H i=some H'):∃f',AX X w f' H' R (⟨b,0,l⟩::B) Fs:=by
 have hblk:=h.blk _ (Cb hg)
 have hown:=h.own b (List.mem_append.2 (.inl (List.mem_map.2 ⟨_,Cb hg,rfl⟩)))
 have hnw:=h.hnw _ (Cb hg) rfl
 have hlt:b<w.heap.size:=hblk.lt
 let f':Fq:=fun k=>if k=b then l.length else f k
 have hF:Jf w f w f':=fun k=>by
   show f k≤(if k=b then l.length else f k)∧_
   split
   · rename_i hk;subst hk;rw[hown.1];exact⟨Nat.zero_le _,fun o ho=>by omega⟩
   · exact⟨Nat.le_refl _,fun _ _=>rfl⟩
 have hne:∀k,k≠b→f' k=f k:=fun k hk=>if_neg hk
 have hsub:=KT hs
 have hnd:(H.map HB.b++Jo R).Nodup:=h.nd
 have hbR:b∉CP H' R:=Ls (L:=Jo R) hg hs hnd
 have hso:(CP H' R).Sublist (CP H R):=List.Sublist.append (hsub.map _) (List.Sublist.refl _)
 have hnw':X.w0.heap.size≤b:=hnw
 refine⟨f',{stp:=h.stp,old:=fun k hk=>(hne k oM).trans (h.old k hk),val:=fun k hk=>(hne k oM).trans (h.val k hk),ent:=h.ent.trans hF,res:=h.stab _ _ _ _ h.res hF (fun _ _=>rfl),stab:=h.stab,
               mi:=fun k hk=>⟨(h.mi k hk).1,(hne k (fun e=>hown.2.2 (e▸hk))).trans (h.mi k hk).2.1,(h.mi k hk).2.2⟩,
               blk:=fun e he=>h.blk e (hsub.subset he),row:=h.row,nd:=hso.nodup h.nd,
               own:=fun k hk=>⟨(hne k (fun e=>hbR (e▸hk))).trans (h.own k (hso.subset hk)).1,(h.own k (hso.subset hk)).2⟩,
               hnw:=fun e he=>h.hnw e (hsub.subset he),rnw:=h.rnw,
               fro:=fun x hx=>by
                 rcases List.mem_cons.1 hx with rfl|hx
                 · intro j v hj
                   have hj:l[j]?=some v:=hj
                   obtain⟨hl,_⟩:=List.getElem?_eq_some_iff.1 hj
                   refine⟨?_,?_⟩
                   · show 0+j<(if b=b then l.length else f b)
                     rw[if_pos rfl];omega
                   · show w.cell? ⟨b,0+j,none⟩=some v
                     have hblk:AQ w b l T:=hblk
                     rw[hblk.cell,Nat.zero_add,hj]
                 · exact (h.fro x hx).mono hF,
               fac:=fun φ hφ=>h.mono φ hφ _ _ _ _ (h.fac φ hφ) hF,mono:=h.mono}⟩
end
section
variable{P:Program}{n:Nat}{Q:Bk}{ds:List Deferred}{X:Cx}{R R':List RB}{B:List FB}{Fs:List (World→Fq→Prop)}{tb:Ea}{fs:List Fr}{σ:Bo}{H:List HB}
variable{all r:List Oper}{ty T:TypeId}{pos:String}{af:Array Edge}{g:Option (Nat×Bool)}{d:Nat}{x y:Operand}
theorem QJ{k:M5}(e:TypeId)(size:Nat)(h:AF P n Q ds X (⟨e,size,none,0,0,[]⟩::R) B Fs k fs σ H):AF P n Q ds X R B Fs k fs σ H:=fun w f hM=>h w f (hM.rowNil e size)
theorem dR{k:M5}{e:TypeId}{size b c m:Nat}{xs:List Value}(i:Nat)(hg:Ow R i=some ⟨e,size,some ⟨b,0,none⟩,c,m,xs⟩)(hs:Qz R i=some R')(h:AF P n Q ds X R' (⟨b,0,xs⟩::B) Fs k fs σ H):AF P n Q ds X R B Fs k fs σ H:=fun w f hM=>by
 obtain⟨f',hM'⟩:=hM.done hg hs
 exact h w f' hM'
theorem Dl{k:M5}{H':List HB}{b:Nat}{l:List Value}{T:TypeId}(i:Nat)(hg:HM H i=some ⟨b,l,T,true⟩)(hs:Ll H i=some H')(h:AF P n Q ds X R (⟨b,0,l⟩::B) Fs k fs σ H'):AF P n Q ds X R B Fs k fs σ H:=fun w f hM=>by
 obtain⟨f',hM'⟩:=hM.doneH hg hs
 exact h w f' hM'
theorem DH{e:TypeId}{size bytes:Nat}{zl:List Value}{a:Option Addr}{c k cs src:Nat}{xs news:List Value}{Ts:TypeId}{nw:Bool}{R':Option Addr→Nat→List RB}(i j:Nat)(hg:gd all σ g=some true)(hd:Nat.blt d n=true)(hT:Oq P T=some (e,size,bytes,zl))(hzl:Nat.beq zl.length size=true)(hsz:Nat.blt 0 size=true)
   (hs:ev σ x=some (.slice a k c)) (hx:ev σ y=some (.slice (some ⟨src,0,none⟩) 1 cs)) (hR:Ow R i=some ⟨e,size,a,c,k,xs⟩) (hH:HM H j=some ⟨src,news,Ts,nw⟩) (hl:Nat.beq news.length size=true) (h1:Ms news=true)
   (hS:∀a' c',QZ R i ⟨e,size,a',c',k+1,xs++news⟩=some (R' a' c')) (h47:(k+1)*bytes≤140737488355328) (h63:k+1≤9223372036854775807)
   (h:∀a' c',AF P n Q ds X (R' a' c') B Fs (.ops all r) fs (AL σ d (.slice a' (k+1) c')) H) :
   AF P n Q ds X R B Fs (.ops all (⟨some d,.call {callee:=.builtin .append,args:=#[x,y],argTypes:=#[T,T]},ty,pos,af,g⟩::r)) fs σ H:=fun w f hM =>
 BD hg (Be hd hT hzl hsz hs hx (hM.row _ (DO hR)) (hM.blk _ (Cb hH)) hl h1 h47 h63 fun a' c' w' hr hG=>h a' c' w' f (hM.grow hR (hS a' c') hr hG))
theorem WI{e:TypeId}{size bytes:Nat}{zl:List Value}{a:Option Addr}{c k cs src off m:Nat}{xs news:List Value}{R':Option Addr→Nat→List RB}(i j:Nat)(hg:gd all σ g=some true)(hd:Nat.blt d n=true)(hT:Oq P T=some (e,size,bytes,zl))(hzl:Nat.beq zl.length size=true)(hsz:Nat.blt 0 size=true)
   (hs:ev σ x=some (.slice a k c)) (hx:ev σ y=some (.slice (some ⟨src,off,none⟩) m cs)) (hR:Ow R i=some ⟨e,size,a,c,k,xs⟩) (hB:nth B j=some ⟨src,off,news⟩) (hl:news.length=m*size) (h1:∀v∈news,v.oneCell'=true) (hm:0<m)
   (hS:∀a' c',QZ R i ⟨e,size,a',c',k+m,xs++news⟩=some (R' a' c')) (h47:(k+m)*bytes≤140737488355328) (h63:k+m≤9223372036854775807)
   (h:∀a' c',AF P n Q ds X (R' a' c') B Fs (.ops all r) fs (AL σ d (.slice a' (k+m) c')) H) :
   AF P n Q ds X R B Fs (.ops all (⟨some d,.call {callee:=.builtin .append,args:=#[x,y],argTypes:=#[T,T]},ty,pos,af,g⟩::r)) fs σ H:=fun w f hM=>by
 obtain⟨a',c',w',hr,hrw,hG⟩:=V0 (ty:=ty) hT hzl hsz hs hx (hM.row _ (DO hR)) (fun j u hj=>by rw[EO];exact (hM.getB hB j u hj).2) hl h1 hm h47 h63
 exact BD hg (Aa hd hr (h a' c' w' f (hM.grow hR (hS a' c') hrw hG)))
theorem uV{e:TypeId}{k:Nat}(hg:gd all σ g=some true)(hd:Nat.blt d n=true)(hT:JV P T=some (e,k))
   (h:∀b,AF P n Q ds X (⟨e,k,some ⟨b,0,none⟩,0,0,[]⟩::R) B Fs (.ops all r) fs (AL σ d (.slice (some ⟨b,0,none⟩) 0 0)) H) :
   AF P n Q ds X R B Fs (.ops all (⟨some d,.buildSlice T 0 #[],ty,pos,af,g⟩::r)) fs σ H:=fun w f hM=>by
 obtain⟨i,hu,hi,rfl⟩:=Ho hT
 have hr:(Instr.buildSlice T 0 #[]).run P w=.ok (.slice (some ⟨w.heap.size,0,none⟩) 0 0) (w.alloc (.cells #[] e)):=by
   simp[Instr.buildSlice,run_underlying hu,sizeOf,typeInfo,hi,Instr.fill,newRow,show Array.range 0=#[] from rfl]
 refine BD hg (Aa hd (v:=.slice (some ⟨w.heap.size,0,none⟩) 0 0) (w':=w.alloc (.cells #[] e)) (fun ρ _ _ _ _ hρ=>by simp[execOp,hr]) ?_)
 have hM1:=(hM.rowNil e i.size).grow (i:=0) (a':=some ⟨w.heap.size,0,none⟩) (c':=0) (n':=0) (xs':=[]) (w':=w.alloc (.cells #[] e)) rfl rfl
   ⟨by simp,.inr ⟨w.heap.size,[],rfl,M4 w [] _,Nat.le_refl _,Nat.zero_le _,by simp,by simp⟩⟩ ⟨rfl,rfl,rfl,by rw[Hn];omega,fun k hk _=>JH w _ k hk,.inr rfl⟩
 exact h w.heap.size _ f hM1
theorem QR{z:List Value}{size:Nat}(hz:z.length=size)(hs:0<size)(m:Nat):madeCells z.toArray (m*size)=(Gh m z).toArray:=by
 rw[← QF size z hz hs m,← MM m size z hz hs]
 rfl
theorem Lm{z:List Value}{size:Nat}(hz:z.length=size):∀m,(Gh m z).length=m*size
 |0=>by simp[Gh]
 |m+1=>by rw[Gh,List.length_append,Lm hz m,hz,Nat.add_mul];omega
theorem tB{e:TypeId}{size bytes m:Nat}{zl:List Value}{x y:Operand}(hg:gd all σ g=some true)(hd:Nat.blt d n=true)(hT:Oq P T=some (e,size,bytes,zl))(hzl:Nat.beq zl.length size=true)(hsz:Nat.blt 0 size=true)
   (hx:ev σ x=some (.int .i64 (m:Int))) (hy:ev σ y=some (.int .i64 (m:Int))) (hb:bytes*m≤281474976710656) (h63:m≤maxLen)
   (h:∀b,AF P n Q ds X (⟨e,size,some ⟨b,0,none⟩,m,m,Gh m zl⟩::R) B Fs (.ops all r) fs (AL σ d (.slice (some ⟨b,0,none⟩) m m)) H) :
   AF P n Q ds X R B Fs (.ops all (⟨some d,.makeSlice T x y,ty,pos,af,g⟩::r)) fs σ H:=fun w f hM=>by
 unfold Oq at hT
 split at hT
 · rename_i e' hu
   split at hT
   · rename_i i hi
     split at hT
     · rename_i z hz
       injection hT with hT
       obtain⟨rfl,rfl,rfl,rfl⟩:=by simpa using hT
       have hzl':z.cells.toList.length=i.size:=Nat.eq_of_beq_eq_true hzl
       have hsz':0<i.size:=Nat.le_of_ble_eq_true hsz
       have hm63:(m:Int)≤9223372036854775807:=by have:=h63;unfold maxLen at this;omega
       have hbI:(i.bytes:Int)*(m:Int)≤281474976710656:=by
         have:((i.bytes*m:Nat):Int)≤281474976710656:=oM
         rwa[Int.natCast_mul] at this
       have hr:=run_make (P:=P) w T e' i z hu hi hz .i64 .i64 (m:Int) (m:Int) oM oM hbI hm63
       simp only[Int.toNat_natCast] at hr
       have hc:madeCells z.cells (m*i.size)=(Gh m z.cells.toList).toArray:=by
         have:=QR (z:=z.cells.toList) hzl' hsz' m
         simpa using this
       rw[hc] at hr
       refine BD hg (Aa hd (v:=.slice (some ⟨w.heap.size,0,none⟩) m m) (w':=w.alloc (.cells (Gh m z.cells.toList).toArray e')) ?_ ?_)
       · intro ρ _ _ _ _ hρ
         simp[execOp,hρ _ _ hx,hρ _ _ hy,hr]
       · have hM1:=(hM.rowNil e' i.size).grow (i:=0) (a':=some ⟨w.heap.size,0,none⟩) (c':=m) (n':=m) (xs':=Gh m z.cells.toList) (w':=w.alloc (.cells (Gh m z.cells.toList).toArray e')) rfl rfl
           ⟨Lm hzl' m,.inr ⟨w.heap.size,_,rfl,M4 w _ _,Nat.le_refl _,h63,Lm hzl' m,by rw[List.take_of_length_le (by rw[Lm hzl' m];exact Nat.le_refl _)]⟩⟩
           ⟨rfl,rfl,rfl,by rw[Hn];omega,fun k hk _=>JH w _ k hk,.inr rfl⟩
         exact h w.heap.size _ f hM1
     · cases hT
   · cases hT
 · cases hT
theorem OO:∀(vs cs:List Value)(o k:Nat),(EC cs o vs).take k=EC (cs.take k) o vs
 | [],_,_,_=>rfl
 |v::vs,cs,o,k=>by rw[EC,EC,OO vs (cs.set o v) (o+1) k,List.take_set]
theorem qH{e:TypeId}{size b o c m k:Nat}{xs vs:List Value}{v:Value}{ag:Bool}(i:Nat)(xs':List Value)(hg:gd all σ g=some true)(hx:ev σ x=some (.pointer (some ⟨b,o,none⟩)))(hy:ev σ y=some v)(hv:HP v=some vs)(hT:Bb P T=some (ag,k))(hk:Nat.beq vs.length k=true)(h1:Ms vs=true)
   (hR:Ow R i=some ⟨e,size,some ⟨b,0,none⟩,c,m,xs⟩) (hf:o+vs.length≤m*size) (he:EC xs o vs=xs') (hS:QZ R i ⟨e,size,some ⟨b,0,none⟩,c,m,xs'⟩=some R')
   (h:AF P n Q ds X R' B Fs (.ops all r) fs σ H):AF P n Q ds X R B Fs (.ops all (⟨none,.store T x y,ty,pos,af,g⟩::r)) fs σ H:=fun w f hM=>by
 subst he
 have hr:=hM.row _ (DO hR)
 rcases hr.2 with ⟨h0,_⟩|⟨b',l,ha,hb,hmc,hcm,hll,ht⟩
 · cases h0
 · cases ha
   have hxl:xs.length=m*size:=hr.1
   have hll:l.length=c*size:=hll
   have ht:l.take (m*size)=xs:=ht
   have hms:m*size≤c*size:=Nat.mul_le_mul_right _ hmc
   have hb:AQ w b l e:=hb
   refine BD hg (Jm (On hx hy (GQ hv) hT hk hb h1 oM) (h _ f (hM.grow hR hS ?_ ?_)))
   · refine⟨by rw[Gf];exact hxl,.inr ⟨b,EC l o vs,rfl,setRow_heap w b _ _ e _ hb,hmc,hcm,by rw[Gf];exact hll,?_⟩⟩
     rw[OO,ht]
   · exact⟨rfl,rfl,rfl,by simp[World.setRow],fun k hk hne=>setRow_other w b k _ (fun e=>hne (by rw[e];rfl)),.inl rfl⟩
end
def Kp(Hk:List HB)(B:List FB)(J:World→Prop)(w:World):Prop:=(∀e,e∈Hk→AQ w e.b e.l e.T)∧(∀e,e∈B→∀(j:Nat)(v:Value),e.l[j]?=some v→w.cell? ⟨e.b,e.off+j,none⟩=some v)∧J w
def Mg(H:List HB):List Nat→Option (List HB)
 | []=>some []
 |i::l=>match HM H i,Mg H l with
   |some e,some r=>some (e::r)
   |_,_=>none
theorem JZ{H:List HB}:∀{ix:List Nat}{Hk:List HB},Mg H ix=some Hk→∀e,e∈Hk→e∈H
 | [],_,h,e,he=>by cases h;cases he
 |i::ix,Hk,h,e,he=>by
   unfold Mg at h
   split at h
   · rename_i e0 r h1 h2
     cases h
     rcases List.mem_cons.1 he with rfl|he
     · exact Cb h1
     · exact JZ h2 e he
   · cases h
theorem AX.kp{X:Cx}{w:World}{f:Fq}{H Hk:List HB}{R:List RB}{B:List FB}{Fs:List (World→Fq→Prop)}{J:World→Prop}(h:AX X w f H R B Fs)(hs:∀e,e∈Hk→e∈H)(hJ:∀w f,X.I w f→CM X.M X.w0 X.f0 w f→J w):Kp Hk B J w :=
 ⟨fun e he=>h.blk e (hs e he),fun e he j v hj=>(h.fro e he j v hj).2,hJ w f h.res h.exm⟩
section
variable(P:Program)(n:Nat)(Q:Bk)(ds:List Deferred)(X:Cx)(R:List RB)(B:List FB)(Fs:List (World→Fq→Prop))(tb:Ea)(l:List Oper)(Hk:List HB)(B0:List FB)(J:World→Prop)
def Dx(top:Bool)(t:OT)(σ:Bo)(H:List HB):Prop:=∀w f,AX X w f H R B Fs→UT P n l Q (Kp Hk B0 J) top t σ ds w
def WG:Nat→List Nat→OT→Bo→List HB→Prop
 |0,_,t,σ,H=>True→Dx P n Q ds X R B Fs l Hk B0 J true t σ H
 |m+1,hs,.rd i k,σ,H=>(match nth l i with
   |some ⟨some d,op,_,_,_,g⟩=>(match Nat.blt d n with
     |false=>False
     |true=>(match gd l σ g with
       |none=>False
       |some false=>WG m hs k (AL σ d undef) H
       |some true=>(match op with
         |.load T x=>(match hs with
           | []=>False
           |h::hs=>(match ev σ x,fD tb.ti T with
             |some (.pointer (some ⟨b,o,none⟩)),some (a,q)=>(match Nat.blt h 100 with
               |true=>(match HM Hk h with
                 |some ⟨b',c,_,_⟩=>(match a with
                   |false=>(match nth c o with
                     |some v=>b'=b∧WG m hs k (AL σ d v) H
                     |none=>False)
                   |true=>(match U0 c o q with
                     |some vs=>b'=b∧WG m hs k (AL σ d (.agg ⟨vs⟩)) H
                     |none=>False))
                 |none=>False)
               |false=>(match hs with
                 | []=>False
                 |j::hs=>(match nth B0 (h-100) with
                   |some ⟨b',off,c⟩=>(match a with
                     |false=>(match nth c j with
                       |some v=>(b'=b∧off+j=o)∧WG m hs k (AL σ d v) H
                       |none=>False)
                     |true=>(match U0 c j q with
                       |some vs=>(b'=b∧off+j=o)∧WG m hs k (AL σ d (.agg ⟨vs⟩)) H
                       |none=>False))
                   |none=>False)))
             |_,_=>False))
         |.indexAddr T x y=>(match ev σ x,ev σ y,Vs tb.sl T with
           |some (.slice (some ⟨b,o,none⟩) len _),some (.int _ i),some (_,q)=>(0≤i∧i<len)∧WG m hs k (AL σ d (.pointer (some ⟨b,o+i.toNat*q,none⟩))) H
           |_,_,_=>False)
         |.binOp .add T x y T'=>(match ev σ x,ev σ y with
           |some (.int .i64 a),some (.int .i64 b)=>QB (a+b)∧WG m hs k (AL σ d (.int .i64 (a+b))) H
           |some (.string ⟨⟨a⟩⟩),some (.string ⟨⟨b⟩⟩)=>a.length+b.length≤9223372036854775807∧WG m hs k (AL σ d (S (a++b))) H
           |_,_=>False)
         |.binOp .sub T x y T'=>(match ev σ x,ev σ y with
           |some (.int .i64 a),some (.int .i64 b)=>QB (a-b)∧WG m hs k (AL σ d (.int .i64 (a-b))) H
           |_,_=>False)
         |op=>(match pv tb σ op with
           |some v=>WG m hs k (AL σ d v) H
           |none=>False))))
   |_=>False)
 |_+1,_,_,_,_=>False
end
section
variable{P:Program}{n:Nat}{Q:Bk}{ds:List Deferred}{X:Cx}{R:List RB}{B:List FB}{Fs:List (World→Fq→Prop)}{tb:Ea}{l:List Oper}{Hk:List HB}{B0:List FB}{J:World→Prop}{σ:Bo}{H:List HB}{fs:List Fr}
theorem FX{S:World→Prop}{w:World}{op:Op}{ty:TypeId}{pos:String}{af:Array Edge}{g:Option (Nat×Bool)}{d i:Nat}{k:OT}{top:Bool}{v:Value}(hi:nth l i=some ⟨some d,op,ty,pos,af,g⟩)(hd:Nat.blt d n=true)(hg:gd l σ g=some true)(hr:∀w,S w→AO P σ op ty w v w)
   (h:UT P n l Q S true k (AL σ d v) ds w):UT P n l Q S top (.rd i k) σ ds w:=fun a ha =>
 ⟨_,v,(F6 l i).symm.trans hi,.inl ⟨JS ha hg,fun w hS=>hr w hS a.eval _ _ _ _ ha.ev⟩,h _ (ha.put hd v)⟩
theorem cI{S:World→Prop}{w:World}{op:Op}{ty:TypeId}{pos:String}{af:Array Edge}{g:Option (Nat×Bool)}{d i:Nat}{k:OT}{top:Bool}(hi:nth l i=some ⟨some d,op,ty,pos,af,g⟩)(hd:Nat.blt d n=true)(hg:gd l σ g=some false)
   (h:UT P n l Q S true k (AL σ d undef) ds w):UT P n l Q S top (.rd i k) σ ds w:=fun a ha =>
 ⟨_,undef,(F6 l i).symm.trans hi,.inr ⟨JS ha hg,rfl⟩,h _ (ha.put hd undef)⟩
theorem Kp.blk{w:World}{i b:Nat}{c:List Value}{T:TypeId}{nw:Bool}(h:Kp Hk B0 J w)(hg:HM Hk i=some ⟨b,c,T,nw⟩):AQ w b c T:=h.1 _ (Cb hg)
theorem Kp.cel{w:World}{i b off:Nat}{c:List Value}(h:Kp Hk B0 J w)(hg:nth B0 i=some ⟨b,off,c⟩):∀(j:Nat)(v:Value),c[j]?=some v→w.cell? ⟨b,off+j,none⟩=some v:=by
 rw[F6] at hg
 exact h.2.1 _ (List.mem_of_getElem? hg)
theorem Pd(ht:tb.Ok P):∀(m:Nat)(hs:List Nat)(t:OT)(σ:Bo)(H:List HB),WG P n Q ds X R B Fs tb l Hk B0 J m hs t σ H→Dx P n Q ds X R B Fs l Hk B0 J true t σ H
 |0,_,_,_,_,h=>h trivial
 |m+1,hs,.fin,σ,H,h=>h.elim
 |m+1,hs,.br _ _ _,σ,H,h=>h.elim
 |m+1,hs,.rd i k,σ,H,h=>by
   have ih:=Pd ht m
   intro w f hM
   unfold WG at h
   split at h
   · rename_i hi
     split at h
     · exact h.elim
     rename_i hd
     split at h
     · exact h.elim
     · rename_i hg
       exact cI hi hd hg (ih _ _ _ _ h w f hM)
     · rename_i hg
       split at h
       · split at h
         · exact h.elim
         · split at h
           · rename_i hx hT
             split at h
             · split at h
               · rename_i hH
                 split at h
                 · split at h
                   · rename_i v hv
                     obtain⟨rfl,h⟩:=h
                     rw[F6] at hv
                     exact FX hi hd hg (fun w hS=>Al hx (G1 ht.ti hT) (hS.blk hH) hv) (ih _ _ _ _ h w f hM)
                   · exact h.elim
                 · split at h
                   · rename_i vs hv
                     obtain⟨rfl,h⟩:=h
                     exact FX hi hd hg (fun w hS=>Dt hx (G1 ht.ti hT) (hS.blk hH) hv) (ih _ _ _ _ h w f hM)
                   · exact h.elim
               · exact h.elim
             · split at h
               · exact h.elim
               · split at h
                 · rename_i hB
                   split at h
                   · split at h
                     · rename_i v hv
                       obtain⟨⟨rfl,rfl⟩,h⟩:=h
                       rw[F6] at hv
                       exact FX hi hd hg (fun w hS=>JB hx (G1 ht.ti hT) (hS.cel hB _ v hv)) (ih _ _ _ _ h w f hM)
                     · exact h.elim
                   · split at h
                     · rename_i vs hv
                       obtain⟨⟨rfl,rfl⟩,h⟩:=h
                       obtain⟨hk,hg2⟩:=PZ hv
                       exact FX hi hd hg (fun w hS=>Lo hx (G1 ht.ti hT) hk (fun j v hj=>by have:=hS.cel hB _ v (hg2 j v hj);rwa[← Nat.add_assoc] at this)) (ih _ _ _ _ h w f hM)
                     · exact h.elim
                 · exact h.elim
           · exact h.elim
       · split at h
         · rename_i hx hy hT
           exact FX hi hd hg (fun w _=>MK hx hy (K3 ht.sl hT) h.1) (ih _ _ _ _ h.2 w f hM)
         · exact h.elim
       · split at h
         · rename_i hx hy;exact FX hi hd hg (fun w _=>Nj hx hy h.1) (ih _ _ _ _ h.2 w f hM)
         · rename_i hx hy;exact FX hi hd hg (fun w _=>JN hx hy h.1) (ih _ _ _ _ h.2 w f hM)
         · exact h.elim
       · split at h
         · rename_i hx hy;exact FX hi hd hg (fun w _=>He hx hy h.1) (ih _ _ _ _ h.2 w f hM)
         · exact h.elim
       · split at h
         · rename_i v hv;exact FX hi hd hg (fun w _=>Pv ht hv) (ih _ _ _ _ h w f hM)
         · exact h.elim
   · exact h.elim
theorem AA{t:OT}(ht:tb.Ok P)(m:Nat)(hs:List Nat)(h:WG P n Q ds X R B Fs tb l Hk B0 J m hs t σ H):Dx P n Q ds X R B Fs l Hk B0 J true t σ H:=Pd ht m hs t σ H h
theorem SZ(hpi:PI Q):∀fs:List Fr,PI (MT P n Q fs)
 | []=>hpi
 |.sq _::fs=>SZ hpi fs
 |.bk _::fs=>SZ hpi fs
theorem Ml{id:Nat}(J:World→Prop)(hJ:∀w f,X.I w f→CM X.M X.w0 X.f0 w f→J w)(ix:List Nat)(hm:P.follows .mixedOrders=true)(t:OT)(hk:Mg H ix=some Hk)(hok:t.ok l.toArray true (Array.replicate l.length false)=true)(hev:t.even true l.length=true)(hsel:Region.noSelect l.toArray=true)(hpi:PI Q)
   (h:Dx P n (MT P n Q fs) ds X R B Fs l Hk B J true t σ H):AF P n Q ds X R B Fs (.code (.region id l.toArray true)) fs σ H:=fun w f hM=>by
 refine Es hm (Kp Hk B J) t hok hev hsel (fun w' hE hz=>?_) (SZ hpi fs)
 have hM':AX X w' f H R B Fs:=hM.call0 (CM.of_ext hE hM.val)
 exact⟨hM'.kp (JZ hk) hJ,h w' f hM'⟩
theorem B3(h:AF P n Q ds X R B Fs (.out .normal) fs σ H):Dx P n (MT P n Q fs) ds X R B Fs l Hk B0 J true .fin σ H:=fun w f hM=>BC (h w f hM)
theorem Ag{i:Nat}{k o:OT}{x:Oper}{top:Bool}(hi:nth l i=some x)(h:AF P n (Wi P n l Q (Kp Hk B0 J) k) ds X R B Fs (.ops l [x]) [] σ H)(h2:Dx P n Q ds X R B Fs l Hk B0 J false o σ H):Dx P n Q ds X R B Fs l Hk B0 J top (.br i k o) σ H :=
 fun w f hM=>Am ((F6 l i).symm.trans hi) (h w f hM) (h2 w f hM)
theorem Ai:Dx P n Q ds X R B Fs l Hk B0 J false .fin σ H:=fun _ _ _=>Ae
theorem Bh{k:OT}(ix:List Nat)(hJ:∀w f,X.I w f→CM X.M X.w0 X.f0 w f→J w)(hk:Mg H ix=some Hk)(hB:∀e,e∈B0→e∈B)(h:Dx P n Q ds X R B Fs l Hk B0 J true k σ H):AF P n (Wi P n l Q (Kp Hk B0 J) k) ds X R B Fs (.out .normal) [] σ H:=fun w f hM =>
 ⟨⟨fun e he=>hM.blk e (JZ hk e he),fun e he j v hj=>(hM.fro e (hB e he) j v hj).2,hJ w f hM.res hM.exm⟩,h w f hM⟩
theorem Dx.le{t:OT}{σ':Bo}{top:Bool}(hl:Le σ' σ)(h:Dx P n Q ds X R B Fs l Hk B0 J top t σ' H):Dx P n Q ds X R B Fs l Hk B0 J top t σ H:=fun w f hM a ha=>h w f hM a (ha.le hl)
theorem Kk{t:OT}{b:Bool}{top:Bool}(s:Nat)(hx:σ s=some (.bool b))(h1:b=true→Dx P n Q ds X R B Fs l Hk B0 J top t (AL σ s (.bool true)) H)(h2:b=false→Dx P n Q ds X R B Fs l Hk B0 J top t (AL σ s (.bool false)) H):Dx P n Q ds X R B Fs l Hk B0 J top t σ H:=by
 cases b with
 |true=>exact Dx.le (AD (le_refl _) hx) (h1 rfl)
 |false=>exact Dx.le (AD (le_refl _) hx) (h2 rfl)
theorem HN{i:Nat}{k:OT}{d:Nat}{op:Op}{ty:TypeId}{pos:String}{af:Array Edge}{g:Option (Nat×Bool)}{v:Value}(hi:nth l i=some ⟨some d,op,ty,pos,af,g⟩)(hd:Nat.blt d n=true)(hg:gd l σ g=some true)(hr:∀w,Kp Hk B0 J w→AO P σ op ty w v w)
   (h:Dx P n Q ds X R B Fs l Hk B0 J true k (AL σ d v) H):Dx P n Q ds X R B Fs l Hk B0 J true (.rd i k) σ H:=fun w f hM=>FX hi hd hg hr (h w f hM)
theorem B8{all r:List Oper}{op:Op}{ty:TypeId}{pos:String}{af:Array Edge}{g:Option (Nat×Bool)}{d:Nat}{fid:FuncId}{args:Array Value}{α:Type}{val:α→Value}{q:α→Prop}{F':α→List (World→Fq→Prop)}(hg:gd all σ g=some true)(hd:Nat.blt d n=true)(he:∀w,Enters P σ op ty w fid args)
   (hc:∀w f,AX X w f H R B Fs→BF P fid args w (BV val q F' w f)) (hm:∀x,Af (F' x))
   (h:∀x,q x→AF P n Q ds X R B (F' x++Fs) (.ops all r) fs (AL σ d (val x)) H):AF P n Q ds X R B Fs (.ops all (⟨some d,op,ty,pos,af,g⟩::r)) fs σ H :=
 tM hg hd he (fun w f hM=>(hc w f hM).mono fun v w' ⟨x,f',h1,h2,h3,h4⟩=>⟨x,f',h1,h2,h3,h4.mem⟩) (fun x=>(hm x).mem) h
theorem Ov{all r:List Oper}{op:Op}{ty:TypeId}{pos:String}{af:Array Edge}{g:Option (Nat×Bool)}{d:Nat}{fid:FuncId}{args:Array Value}{α:Type}{val:α→Value}{q:α→Prop}{I':α→World→Fq→Prop}{F':α→List (World→Fq→Prop)}{XX:List PanicEntry→World→Prop}
   (hg:gd all σ g=some true) (hd:Nat.blt d n=true) (he:∀w,Enters P σ op ty w fid args)
   (hc:∀w f,AX X w f H R B Fs→BQ P fid args w (Fl val q X.MI I' F' w f) XX) (hst:∀x,Gr X.MI (I' x)) (hm:∀x,Af (F' x))
   (hp:∀w f c w',AX X w f H R B Fs→XX c w'→Q.p c σ ds w')
   (h:∀x,q x→AF P n Q ds {X with I:=I' x} R B (F' x++Fs) (.ops all r) fs (AL σ d (val x)) H):AF P n Q ds X R B Fs (.ops all (⟨some d,op,ty,pos,af,g⟩::r)) fs σ H :=
 tU hg hd he (fun w f hM=>(hc w f hM).mono (fun v w' ⟨x,f',h1,h2,h3,h4,h5⟩=>⟨x,f',h1,h2,h3,h4,h5.mem⟩) fun _ _ h=>h) hst (fun x=>(hm x).mem) hp h
end
end Go.SW
namespace Go.SW
open Go.RowKit Go.SP
structure nF(κ:Type)[BEq κ] where
 enc:κ→Value
 desc:TypeDesc
 same:∀a b,Instr.sameNow desc (enc a) (enc b)=some (a==b)
 chk:∀(P:Program)(k:TypeId)(w:World)(a:κ)(b:Bool),P.underlying k=some desc→(Instr.checkKey b 10000 k (enc a)).run P w=.ok () w
def CE:nF (List UInt8) where
 enc:=S
 desc:=.string
 same a b:=by
   have:Instr.sameNow .string (S a) (S b)=some ((⟨a.toArray⟩:ByteArray)==⟨b.toArray⟩):=rfl
   rw[this,beq_toListBytes,OH,OH]
 chk P k w a b hk:=Kn hk
def Fp:nF Int where
 enc n:=.int .i64 n
 desc:=.int .i64
 same a b:=by simp[Instr.sameNow]
 chk P k w a b hk:=by rw[Instr.checkKey];simp[run_underlying hk]
section
variable{κ:Type}[BEq κ](K:nF κ)
def Ci(w:World)(m:Nat)(l:List (κ×Value)):Prop:=∃(es:List MapEntry)(c:Nat),w.heap[m]?=some (.map es.toArray c)∧es.map (fun e=>(e.key,e.val))=l.reverse.map fun p=>(K.enc p.1,p.2)
def FC:List (κ×Value)→κ→Option Value
 | [],_=>none
 |(k,v)::l,x=>if x==k then some v else FC l x
def Gs(P:Program)(T:TypeId):Option (TypeId×TypeId):=match P.underlying T with
 |some (.map k e)=>some (k,e)
 |_=>none
end
section
variable{κ:Type}[BEq κ]{K:nF κ}
theorem Ci.lt{w:World}{m:Nat}{l:List (κ×Value)}(h:Ci K w m l):m<w.heap.size:=by
 obtain⟨es,c,h1,_⟩:=h
 rcases Nat.lt_or_ge m w.heap.size with h' | h'
 · exact h'
 · rw[Array.getElem?_eq_none h'] at h1;cases h1
theorem Ci.heap{w w':World}{m:Nat}{l:List (κ×Value)}(h:Ci K w m l)(he:w'.heap[m]?=w.heap[m]?):Ci K w' m l:=let ⟨es,c,h1,h2⟩:=h;⟨es,c,he.trans h1,h2⟩
def LS(x:κ):List (κ×Value)→Option Value
 | []=>none
 |(k,v)::l=>if x==k then some v else LS x l
theorem Ni(x:κ):∀(es:List MapEntry)(l:List (κ×Value))(i:Nat),es.map (fun e=>(e.key,e.val))=l.map (fun p=>(K.enc p.1,p.2)) →
   (∀v,LS x l=some v→∃j,Instr.findNow K.desc (K.enc x) es i=some (some (j,v)))∧(LS x l=none→Instr.findNow K.desc (K.enc x) es i=some none)
 | [],[],i,_=>⟨fun v h=>(by cases h),fun _=>rfl⟩
 | [],_::_,_,h=>by simp at h
 |_::_,[],_,h=>by simp at h
 |e::es,p::l,i,h=>by
   simp only[List.map_cons,List.cons.injEq,Prod.mk.injEq] at h
   obtain⟨⟨hk,hv⟩,hr⟩:=h
   have ih:=Ni x es l (i+1) hr
   have hs:Instr.sameNow K.desc (K.enc x) e.key=some (x==p.1):=by rw[hk];exact K.same x p.1
   obtain⟨pk,pv⟩:=p
   unfold Instr.findNow LS
   rw[hs]
   cases hc:x==pk with
   |true=>exact⟨fun v h=>⟨i,by simp at h;simp[hv,h]⟩,fun h=>by simp at h⟩
   |false=>exact⟨fun v h=>ih.1 v (by simpa using h),fun h=>ih.2 (by simpa using h)⟩
theorem US(x:κ):∀(a b:List (κ×Value)),LS x (a++b)=(LS x a).or (LS x b)
 | [],b=>by simp[LS]
 |(k,v)::a,b=>by
   simp only[List.cons_append,LS,US x a b]
   split <;> rfl
def KP[BEq κ]:List (κ×Value)→Prop
 | []=>True
 |(k,_)::l=>FC l k=none∧KP l
variable[LawfulBEq κ]
theorem PO(x:κ):∀l:List (κ×Value),KP l→LS x l.reverse=FC l x
 | [],_=>rfl
 |(k,v)::l,h=>by
   rw[List.reverse_cons,US,PO x l h.2]
   simp only[LS,FC]
   cases hc:x==k with
   |true =>
     have:x=k:=by simpa using hc
     subst this
     rw[h.1];rfl
   |false=>cases FC l x <;> simp
section
variable{P:Program}{n:Nat}{Q:Bk}{ds:List Deferred}{X:Cx}{R:List RB}{B:List FB}{Fs:List (World→Fq→Prop)}{fs:List Fr}{σ:Bo}{H:List HB}{w:World}
variable{all r:List Oper}{ty T k e:TypeId}{pos:String}{af:Array Edge}{g:Option (Nat×Bool)}{d m:Nat}{x y z:Operand}{a:κ}{l:List (κ×Value)}
theorem Kd(h:Gs P T=some (k,e)):P.underlying T=some (.map k e):=by
 unfold Gs at h
 split at h
 · rename_i hu;cases h;exact hu
 · cases h
def zO(P:Program)(e:TypeId):Option Value:=match P.info? e with|some i=>i.zero|none=>none
def eX(P:Program)(e:TypeId)(z:Value):Prop:=zO P e=some z
theorem Ri{z:Value}(h:eX P e z):∃i,P.info? e=some i∧i.zero=some z:=by
 unfold eX zO at h
 split at h
 · rename_i i hi;exact⟨i,hi,h⟩
 · cases h
theorem SU{z:Value}{ok:Bool}(hT:Gs P T=some (k,e))(hk:P.underlying k=some K.desc)(hz:eX P e z)(hm:Ci K w m l)(hd:KP l) :
   (Instr.lookup T (.map (some m)) (K.enc a) ok).run P w=.ok (if ok then .tuple #[(FC l a).getD z,.bool (FC l a).isSome] else (FC l a).getD z) w:=by
 have hu:=Kd hT
 obtain⟨es,c,h1,h2⟩:=hm
 obtain⟨i,hi,hz⟩:=Ri hz
 have hget:(getObj m).run P w=.ok (.map es.toArray c) w:=by simp[getObj,Sem.run,h1]
 obtain⟨f1,f2⟩:=Ni (K:=K) a es l.reverse 0 h2
 rw[PO a l hd] at f1 f2
 have hck:=fun b=>K.chk P k w a b hk
 cases hc:FC l a with
 |some v =>
   obtain⟨j,hj⟩:=f1 v hc
   simp only[Instr.lookup,Sem.run_bind,run_underlying hu,Result.andThen_ok,hget]
   cases ok <;> simp[hck,Instr.findKey,run_underlying hk,hj]
 |none =>
   have hj:=f2 hc
   simp only[Instr.lookup,Sem.run_bind,run_underlying hu,Result.andThen_ok,hget]
   cases ok <;> simp[hck,Instr.findKey,run_underlying hk,hj,zeroValue,typeInfo,hi,hz]
theorem YC{z:Value}{ok:Bool}(hx:ev σ x=some (.map (some m)))(hy:ev σ y=some (K.enc a))(hT:Gs P T=some (k,e))(hk:P.underlying k=some K.desc)(hz:eX P e z)(hm:Ci K w m l)(hd:KP l) :
   AO P σ (.lookup T x y ok) ty w (if ok then .tuple #[(FC l a).getD z,.bool (FC l a).isSome] else (FC l a).getD z) w:=fun ρ _ _ _ _ hρ=>by
 simp only[execOp,hρ _ _ hx,hρ _ _ hy]
 rw[Sem.run_bind,SU hT hk hz hm hd]
 rfl
theorem KJ{z v:Value}(hx:ev σ x=some (.map (some m)))(hy:ev σ y=some (K.enc a))(hT:Gs P T=some (k,e))(hk:P.underlying k=some K.desc)(hz:eX P e z)(hm:Ci K w m l)(hd:KP l)(hl:FC l a=some v):AO P σ (.lookup T x y true) ty w (.tuple #[v,.bool true]) w:=by
 have:=YC (ty:=ty) (ok:=true) hx hy hT hk hz hm hd
 rw[hl] at this
 exact this
theorem KE{z:Value}(hx:ev σ x=some (.map (some m)))(hy:ev σ y=some (K.enc a))(hT:Gs P T=some (k,e))(hk:P.underlying k=some K.desc)(hz:eX P e z)(hm:Ci K w m l)(hd:KP l)(hl:FC l a=none):AO P σ (.lookup T x y true) ty w (.tuple #[z,.bool false]) w:=by
 have:=YC (ty:=ty) (ok:=true) hx hy hT hk hz hm hd
 rw[hl] at this
 exact this
theorem Ns{z v:Value}(hx:ev σ x=some (.map (some m)))(hy:ev σ y=some (K.enc a))(hT:Gs P T=some (k,e))(hk:P.underlying k=some K.desc)(hz:eX P e z)(hm:Ci K w m l)(hd:KP l)(hl:(FC l a).getD z=v):AO P σ (.lookup T x y false) ty w v w:=by
 have:=YC (ty:=ty) (ok:=false) hx hy hT hk hz hm hd
 rw[← hl]
 exact this
theorem Wc{v:Value}(hT:Gs P T=some (k,e))(hk:P.underlying k=some K.desc)(hm:Ci K w m l)(hd:KP l)(hn:FC l a=none):∃w',(Instr.mapUpdate T (.map (some m)) (K.enc a) v).run P w=.ok () w'∧Ci K w' m ((a,v)::l)∧GS m w w':=by
 have hu:=Kd hT
 obtain⟨es,c,h1,h2⟩:=id hm
 have hj:=(Ni (K:=K) a es l.reverse 0 h2).2 (by rw[PO a l hd];exact hn)
 have hget:(getObj m).run P w=.ok (.map es.toArray c) w:=by simp[getObj,Sem.run,h1]
 have hlt:=hm.lt
 have hck:=fun b=>K.chk P k w a b hk
 have hset:(setObj m (.map (es.toArray.push {key:=K.enc a,val:=v,born:=c}) (c+1))).run P w=.ok () {w with heap:=w.heap.setIfInBounds m (.map (es.toArray.push {key:=K.enc a,val:=v,born:=c}) (c+1))}:=by
   simp[setObj,Sem.run,h1]
 refine⟨{w with heap:=w.heap.setIfInBounds m (.map (es.toArray.push {key:=K.enc a,val:=v,born:=c}) (c+1))},?_,?_,?_⟩
 · simp only[Instr.mapUpdate,Sem.run_bind,run_underlying hu,Result.andThen_ok,hget]
   simp only[hck,Result.andThen_ok,Instr.findKey,Sem.run_bind,run_underlying hk,hj]
   simp only[Sem.run_pure,Result.andThen_ok]
   exact hset
 · refine⟨es++[{key:=K.enc a,val:=v,born:=c}],c+1,?_,?_⟩
   · simp[hlt]
   · simp[h2]
 · refine⟨rfl,rfl,rfl,by simp,fun j hjm=>?_⟩
   show (w.heap.setIfInBounds m _)[j]?=_
   rw[Array.getElem?_setIfInBounds_ne (fun e=>hjm e.symm)]
theorem AX.chgI{w w':World}{f:Fq}{b:Nat}{I':World→Fq→Prop}(h:AX X w f H R B Fs)(hb:X.MI b)(hC:GS b w w')(hI:I' w' f)(hst:Gr X.MI I'):AX {X with I:=I' } w' f H R B Fs :=
 h.callI ⟨⟨hC.os,hC.tape,hC.output,by rw[hC.size];exact Nat.le_refl _,fun k _ hm=>hC.block k (fun e=>hm (e▸hb))⟩,fun _ _=>rfl,fun k hk=>h.val k (by rw[hC.size] at hk;exact hk)⟩ hI hst
theorem ZG{v:Value}{I':World→Fq→Prop}(hg:gd all σ g=some true)(hx:ev σ x=some (.map (some m)))(hy:ev σ y=some (K.enc a))(hz:ev σ z=some v)(hT:Gs P T=some (k,e))(hk:P.underlying k=some K.desc)(hmi:X.MI m)(hd:KP l)(hn:FC l a=none)
   (hm:∀w f,X.I w f→Ci K w m l) (hI:∀w f w',X.I w f→AX X w f H R B Fs→GS m w w'→Ci K w' m ((a,v)::l)→I' w' f) (hst:Gr X.MI I')
   (h:AF P n Q ds {X with I:=I' } R B Fs (.ops all r) fs σ H):AF P n Q ds X R B Fs (.ops all (⟨none,.mapUpdate T x y z,ty,pos,af,g⟩::r)) fs σ H:=fun w f hM=>by
 obtain⟨w',h1,h2,h3⟩:=Wc (v:=v) hT hk (hm w f hM.res) hd hn
 refine BD hg (Jm (w':=w') (fun ρ _ _ _ _ hρ=>?_) (h w' f (hM.chgI hmi h3 (hI w f w' hM.res hM h3 h2) hst)))
 simp only[execOp,hρ _ _ hx,hρ _ _ hy,hρ _ _ hz]
 rw[Sem.run_bind,h1]
 rfl
omit [LawfulBEq κ] in
theorem pF(hg:gd all σ g=some true)(hd:Nat.blt d n=true)
   (h:∀m,AF P n Q ds {X with MI:=fun b=>X.MI b∨b=m,I:=fun w f=>X.I w f∧Ci K w m []} R B Fs (.ops all r) fs (AL σ d (.map (some m))) H):AF P n Q ds X R B Fs (.ops all (⟨some d,.makeMap T none,ty,pos,af,g⟩::r)) fs σ H:=fun w f hM=>by
 refine BD hg (Aa (v:=.map (some w.heap.size)) (w':=w.alloc (.map #[] 0)) hd (fun ρ _ _ _ _ hρ=>by simp[execOp,Instr.makeMap]) (h w.heap.size _ f ?_))
 have h1:AX X (w.alloc (.map #[] 0)) f H R B Fs:=hM.call0 (CM.of_ext (Ki w _) hM.val)
 have hnew:∀b,b∈CP H R→b≠w.heap.size:=fun b hb e=>Nat.lt_irrefl _ (e▸hM.lt hb)
 exact {h1 with
         res:=⟨h1.res,[],0,heap_alloc_new w _,rfl⟩,
         stab:=fun w1 f1 w2 f2 hI hF hb=>⟨h1.stab w1 f1 w2 f2 hI.1 hF fun b hm=>hb b (.inl hm),hI.2.heap (hb _ (.inr rfl))⟩,
         mi:=fun b hb=>by
           rcases hb with hb|rfl
           · exact h1.mi b hb
           · exact⟨by rw[Hn];omega,hM.val _ (Nat.le_refl _),.inl hM.stp.size⟩,
         own:=fun b hb=>⟨(h1.own b hb).1,(h1.own b hb).2.1,fun hm=>by
           rcases hm with hm|rfl
           · exact (h1.own b hb).2.2 hm
           · exact hnew _ hb rfl⟩}
end
end
end Go.SW
namespace Go.SW
def fW(P:Program)(T T':TypeId):Bool:=match P.underlying T,P.underlying T' with
 |some _,some .string=>true
 |_,_=>false
end Go.SW
namespace Go.SP
inductive Ty where
 |nil
 |var (n:Int) (r:Ty)
 |con (tx:List UInt8) (k r:Ty)
inductive T1 where
 |var (n:Int)
 |con (tx:List UInt8) (k:Ty)
def T1.cons:T1→Ty→Ty
 |.var n,r=>.var n r
 |.con tx k,r=>.con tx k r
def T1.one(t:T1):Ty:=t.cons .nil
def Ty.app:Ty→Ty→Ty
 |.nil,y=>y
 |.var n r,y=>.var n (r.app y)
 |.con tx k r,y=>.con tx k (r.app y)
def Ty.len:Ty→Nat
 |.nil=>0
 |.var _ r=>r.len+1
 |.con _ _ r=>r.len+1
def Ty.get:Ty→Nat→Option T1
 |.nil,_=>none
 |.var n _,0=>some (.var n)
 |.con tx k _,0=>some (.con tx k)
 |.var _ r,i+1=>r.get i
 |.con _ _ r,i+1=>r.get i
def Ty.snoc(a:Ty)(t:T1):Ty:=a.app t.one
def Ty.hd:Ty→T1
 |.nil=>.var 0
 |.var n _=>.var n
 |.con tx k _=>.con tx k
abbrev BJ:=List (Int×T1)
def Cm:BJ→Int→Option T1
 | [],_=>none
 |(k,t)::s,n=>if k==n then some t else Cm s n
def Iu(b:BJ):Nat→T1→T1
 |0,t=>t
 |k+1,t=>match t with
   |.con tx ks=>.con tx ks
   |.var n=>match Cm b n with
     |none=>.var n
     |some t'=>Iu b k t'
def Ak(b:BJ)(t:T1):T1:=Iu b (b.length+1) t
def D6(b:BJ):Nat→Ty→Bool
 |_,.nil=>true
 |0,_=>false
 |k+1,.var n r=>match Ak b (.var n) with
   |.var _=>D6 b k r
   |.con _ ks=>D6 b k (ks.app r)
 |k+1,.con _ ks r=>D6 b k (ks.app r)
def Fv(b:BJ)(t:T1):Bool:=D6 b 1000 t.one
def CQ(b:BJ)(x:Int):Nat→Ty→Bool
 |_,.nil=>true
 |0,_=>true
 |k+1,.var n r=>match Ak b (.var n) with
   |.var m=>!(m==x)&&CQ b x k r
   |.con _ ks=>CQ b x k (ks.app r)
 |k+1,.con _ ks r=>CQ b x k (ks.app r)
def Cl(b:BJ)(n:Int)(t:T1):Except Int BJ :=
 if Fv b t then (if CQ b n 1000 t.one then .ok ((n,t)::b) else .error 11) else .error 4
def Hj(f:BJ→Ty→Ty→Except Int BJ)(b:BJ)(x y:T1)(r q:Ty):Except Int BJ :=
 match x,y with
 |.var n,.var m=>if n==m then f b r q else (match Cl b n (.var m) with|.error e=>.error e|.ok b'=>f b' r q)
 |.var n,.con ty kb=>(match Cl b n (.con ty kb) with|.error e=>.error e|.ok b'=>f b' r q)
 |.con tx ka,.var m=>(match Cl b m (.con tx ka) with|.error e=>.error e|.ok b'=>f b' r q)
 |.con tx ka,.con ty kb=>if !(tx==ty)||(ka.len:Int) != kb.len then .error 11 else f b (ka.app r) (kb.app q)
def Ty.tl:Ty→Ty
 |.nil=>.nil
 |.var _ r=>r
 |.con _ _ r=>r
def J5:Nat→BJ→Ty→Ty→Except Int BJ
 |_,b,.nil,_=>.ok b
 |0,_,_,_=>.error 4
 |k+1,b,.var n r,y=>Hj (J5 k) b (Ak b (.var n)) (Ak b y.hd) r y.tl
 |k+1,b,.con tx ka r,y=>Hj (J5 k) b (.con tx ka) (Ak b y.hd) r y.tl
def Gz(b:BJ)(x y:T1):Except Int BJ:=J5 10000 b x.one y.one
def AR(b:BJ):Nat→Ty→Ty
 |_,.nil=>.nil
 |0,_=>.nil
 |k+1,.var n r=>match Ak b (.var n) with
   |.var m=>.var m (AR b k r)
   |.con tx ks=>.con tx (AR b k ks) (AR b k r)
 |k+1,.con tx ks r=>.con tx (AR b k ks) (AR b k r)
def CT(b:BJ)(t:T1):Option T1:=if Fv b t then some (AR b 1000 t.one).hd else none
def CR:Ty→List Int→List Int
 |.nil,s=>s
 |.var n r,s=>CR r (if s.contains n then s else s++[n])
 |.con _ k r,s=>CR r (CR k s)
def Aq(t:T1):List Int:=CR t.one []
def DJ:List Int→Int→Option Nat
 | [],_=>none
 |k::l,n=>if k==n then some 0 else (DJ l n).map (· + 1)
def DQ(l:List Int)(by_:Ty):Ty→Ty
 |.nil=>.nil
 |.var n r=>match (DJ l n).bind by_.get with
   |some t=>t.cons (DQ l by_ r)
   |none=>.var n (DQ l by_ r)
 |.con tx k r=>.con tx (DQ l by_ k) (DQ l by_ r)
def C9(t:T1)(l:List Int)(by_:Ty):T1:=(DQ l by_ t.one).hd
def bI:List UInt8:=[105,110,116]
def bF:List UInt8:=[102,108,111,97,116]
def bS:List UInt8:=[115,116,114,105,110,103]
def bU:List UInt8:=[117,110,105,116]
def bB:List UInt8:=[98,111,111,108]
def bX:List UInt8:=[101,120,110]
def G2:List UInt8:=[45,62]
def RD:List UInt8:=[116,117,112,108,101]
def L7:List UInt8:=[114,101,102]
def Dr:List UInt8:=[112,114,101,102]
def c0(tx:List UInt8):T1:=.con tx .nil
def HR:Ty→T1
 |.nil=>.var 0
 |.var n .nil=>.var n
 |.con tx k .nil=>.con tx k
 |.var n r=>.con G2 (.var n (HR r).one)
 |.con tx k r=>.con G2 (.con tx k (HR r).one)
structure Mk where
 args:Ty
 out:T1
 vars:List Int
structure CS where
 sol:BJ
 fresh:Int
 cons:List (List UInt8×Mk)
 datas:List (List UInt8×Int)
 roots:List (List UInt8)
 vars:Int
structure Bd where
 name:List UInt8
 t:T1
 all:List Int
abbrev Bg:=List Bd
abbrev Er:=Int×Int×Int
abbrev RI(α:Type):=Except Er α
def BZ{α:Type}:List (List UInt8×α)→List UInt8→Option α
 | [],_=>none
 |(k,v)::l,n=>if k==n then some v else BZ l n
def AB(s:CS):T1×CS:=(.var (s.fresh+1),{s with fresh:=s.fresh+1})
def F2(s:CS)(a b:T1)(ln co:Int):RI CS:=match Gz s.sol a b with
 |.error e=>.error (ln,co,e)
 |.ok m=>.ok {s with sol:=m}
def FG(s:CS)(t:T1)(ln co:Int):RI T1:=match CT s.sol t with
 |none=>.error (ln,co,4)
 |some f=>.ok f
def B9(s:CS):Bg→List Int
 | []=>[]
 |b::e=>(match CT s.sol b.t with
   |none=>[]
   |some f=>(Aq f).filter fun v=>!b.all.contains v)++B9 s e
def Hi(s:CS)(e:Bg)(name:List UInt8)(t:T1)(value:Bool)(ln co:Int):RI Bg :=
 if value then (match FG s t ln co with
   |.error x=>.error x
   |.ok f=>.ok (⟨name,f,(Aq f).filter fun v=>!(B9 s e).contains v⟩::e))
 else .ok (⟨name,t,[]⟩::e)
def B1:List Int→CS→Ty×CS
 | [],s=>(.nil,s)
 |_::l,s=>((AB s).1.cons (B1 l (AB s).2).1,(B1 l (AB s).2).2)
def Jc(s:CS)(tx:List UInt8)(k:Nat)(ln co:Int):RI (Ty×T1×CS):=match BZ s.cons tx with
 |none=>.error (ln,co,11)
 |some m=>if (m.args.len:Int)==k then .ok (DQ m.vars (B1 m.vars s).1 m.args,C9 m.out m.vars (B1 m.vars s).1,(B1 m.vars s).2) else .error (ln,co,11)
def Nw:Bg→List UInt8→Option Bd
 | [],_=>none
 |b::e,n=>if b.name==n then some b else Nw e n
def HC(s:CS)(e:Bg)(tx:List UInt8)(ln co:Int):RI (T1×CS):=match Nw e tx with
 |none=>.error (ln,co,11)
 |some b=>match FG s b.t ln co with
   |.error x=>.error x
   |.ok f =>
     let vs:=(Aq f).filter fun v=>b.all.contains v
     .ok (C9 f vs (B1 vs s).1,(B1 vs s).2)
def TL(f:Int→Nd→Bool):Nd→Bool
 |.nil=>true
 |.cons op _ _ _ _ k r=>f op k&&TL f r
def C2:Nat→Int→Nd→Bool
 |0,_,_=>false
 |n+1,op,kids =>
   if op==1||op==2||op==3||op==4||op==5||op==7 then true
   else if op==6||op==13 then TL (C2 n) kids else false
abbrev Mt:=CS→Bg→Int→Int→Int→List UInt8→Int→Nd→RI (T1×CS)
def EH(f:Mt)(e:Bg):CS→Nd→RI (Ty×CS)
 |s,.nil=>.ok (.nil,s)
 |s,.cons op ln co tx nm k r=>match f s e op ln co tx nm k with
   |.error x=>.error x
   |.ok (t,s1)=>match EH f e s1 r with
     |.error x=>.error x
     |.ok (l,s2)=>.ok (t.cons l,s2)
def G6(f:Mt)(e:Bg):CS→Ty→Nd→RI CS
 |s,a,.cons op ln co tx nm k r=>match f s e op ln co tx nm k with
   |.error x=>.error x
   |.ok (t,s1)=>match F2 s1 a.hd t ln co with
     |.error x=>.error x
     |.ok s2=>G6 f e s2 a.tl r
 |s,_,.nil=>.ok s
def Ko(f:Mt)(e:Bg):CS→T1→Nd→RI (T1×CS)
 |s,t,.nil=>.ok (t,s)
 |s,t,.cons op ln co tx nm k r=>match f s e op ln co tx nm k with
   |.error x=>.error x
   |.ok (a,s1)=>match F2 (AB s1).2 t (.con G2 (a.cons (AB s1).1.one)) ln co with
     |.error x=>.error x
     |.ok s2=>Ko f e s2 (AB s1).1 r
def FD:CS→Bg→Nd→Ty×Bg×CS
 |s,e,.nil=>(.nil,e,s)
 |s,e,.cons _ _ _ _ _ _ .nil=>(.nil,e,s)
 |s,e,.cons op _ _ tx _ _ r =>
   let e1:=if op==22 then ⟨tx,(AB s).1,[]⟩::e else e
   let (l,e2,s2):=FD (AB s).2 e1 r
   ((AB s).1.cons l,e2,s2)
def Nd.last:Nd→Option N
 |.nil=>none
 |.cons op ln co tx nm k .nil=>some ⟨op,ln,co,tx,nm,k⟩
 |.cons _ _ _ _ _ _ r=>r.last
def Ty.last:Ty→T1
 |.nil=>.var 0
 |.var n .nil=>.var n
 |.con tx k .nil=>.con tx k
 |.var _ r=>r.last
 |.con _ _ r=>r.last
abbrev Ol:=CS→Bg→Int→Int→Int→List UInt8→Int→Nd→RI (T1×Bg×CS)
def G7(f:Ol):CS→Bg→Ty→Nd→RI (Bg×CS)
 |s,e,_,.nil=>.ok (e,s)
 |s,e,a,.cons op ln co tx nm k r=>match f s e op ln co tx nm k with
   |.error x=>.error x
   |.ok (q,e1,s1)=>match F2 s1 a.hd q ln co with
     |.error x=>.error x
     |.ok s2=>G7 f s2 e1 a.tl r
def FH(f:Ol):CS→Bg→Nd→RI (Ty×Bg×CS)
 |s,e,.nil=>.ok (.nil,e,s)
 |s,e,.cons op ln co tx nm k r=>match f s e op ln co tx nm k with
   |.error x=>.error x
   |.ok (q,e1,s1)=>match FH f s1 e1 r with
     |.error x=>.error x
     |.ok (l,e2,s2)=>.ok (q.cons l,e2,s2)
def Dn(f:Ol)(s:CS)(e:Bg)(op ln co:Int)(tx:List UInt8)(kids:Nd):RI (T1×Bg×CS) :=
 if op==21 then .ok ((AB s).1,e,(AB s).2)
 else if op==22 then .ok ((AB s).1,⟨tx,(AB s).1,[]⟩::e,(AB s).2)
 else if op==23 then .ok (c0 bI,e,s)
 else if op==24 then .ok (c0 bS,e,s)
 else if op==25 then .ok (c0 bU,e,s)
 else if op==26 then (match Jc s tx kids.len ln co with
   |.error x=>.error x
   |.ok (args,out,s1)=>match G7 f s1 e args kids with
     |.error x=>.error x
     |.ok (e2,s2)=>.ok (out,e2,s2))
 else if op==27 then (match FH f s e kids with
   |.error x=>.error x
   |.ok (l,e2,s2)=>.ok (.con RD l,e2,s2))
 else .ok (.var 0,e,s)
def C6:Nat→Ol
 |0,_,_,_,ln,co,_,_,_=>.error (ln,co,11)
 |n+1,s,e,op,ln,co,tx,_,kids=>match Dn (C6 n) s e op ln co tx kids with
   |.error x=>.error x
   |.ok (t,e1,s1)=>match FG s1 t ln co with
     |.error x=>.error x
     |.ok _=>.ok (t,e1,s1)
def DN(n:Nat)(f:Mt)(e:Bg)(pt:T1):CS→Option T1→Nd→RI (T1×CS)
 |s,t,.nil=>.ok (t.getD (.var 0),s)
 |s,t,.cons _ _ _ _ _ ks r=>match ks with
   |.cons op ln co tx nm pk (.cons bop bln bco btx bnm bk _)=>(match C6 n s e op ln co tx nm pk with
     |.error x=>.error x
     |.ok (q,inner,s1)=>match F2 s1 pt q ln co with
       |.error x=>.error x
       |.ok s2=>match f s2 inner bop bln bco btx bnm bk with
         |.error x=>.error x
         |.ok (rt,s3)=>match t with
           |some t0=>(match F2 s3 t0 rt bln bco with
             |.error x=>.error x
             |.ok s4=>DN n f e pt s4 (some t0) r)
           |none=>DN n f e pt s3 (some rt) r)
   |_=>.ok (t.getD (.var 0),s)
def H8(f:Mt)(s:CS)(e:Bg)(ln co:Int)(tx:List UInt8)(op0 ln0 co0:Int)(tx0:List UInt8)(nm0:Int)(k0:Nd):RI (T1×CS) :=
 match f (AB s).2 (⟨tx,(AB s).1,[]⟩::e) op0 ln0 co0 tx0 nm0 k0 with
 |.error x=>.error x
 |.ok (t,s1)=>match F2 s1 (AB s).1 t ln co with
   |.error x=>.error x
   |.ok s2=>.ok (t,s2)
def Bp(n:Nat)(f:Mt)(s:CS)(e:Bg)(op ln co:Int)(tx:List UInt8)(kids:Nd):RI (T1×CS) :=
 if op==1 then .ok (c0 bI,s)
 else if op==2 then .ok (c0 bF,s)
 else if op==3 then .ok (c0 bS,s)
 else if op==4 then .ok (c0 bU,s)
 else if op==5 then HC s e tx ln co
 else if op==6 then (match Jc s tx kids.len ln co with
   |.error x=>.error x
   |.ok (args,out,s1)=>match G6 f e s1 args kids with
     |.error x=>.error x
     |.ok s2=>.ok (out,s2))
 else if op==7 then (match kids.last with
   |none=>.ok (.var 0,s)
   |some b =>
     let p:=FD s e kids
     match f p.2.2 p.2.1 b.op b.ln b.co b.tx b.nm b.kids with
     |.error x=>.error x
     |.ok (t,s1)=>.ok (HR (p.1.snoc t),s1))
 else if op==8 then (match kids with
   |.nil=>.ok (.var 0,s)
   |.cons o l c x m k r=>match f s e o l c x m k with
     |.error x=>.error x
     |.ok (t,s1)=>Ko f e s1 t r)
 else if op==9 then (match kids with
   |.cons o l c x m k (.cons o2 l2 c2 x2 m2 k2 _)=>(match f s e o l c x m k with
     |.error x=>.error x
     |.ok (t,s1)=>match (if tx==[95] then .ok e else Hi s1 e tx t (C2 (n+1) o k) ln co) with
       |.error x=>.error x
       |.ok e1=>f s1 e1 o2 l2 c2 x2 m2 k2)
   |_=>.ok (.var 0,s))
 else if op==10 then (match kids with
   |.cons o l c x m k (.cons o2 l2 c2 x2 m2 k2 _)=>(match H8 f s e ln co tx o l c x m k with
     |.error x=>.error x
     |.ok (t,s1)=>match Hi s1 e tx t true ln co with
       |.error x=>.error x
       |.ok e1=>f s1 e1 o2 l2 c2 x2 m2 k2)
   |_=>.ok (.var 0,s))
 else if op==11 then (match kids with
   |.cons o l c x m k (.cons o2 l2 c2 x2 m2 k2 (.cons o3 l3 c3 x3 m3 k3 _))=>(match f s e o l c x m k with
     |.error x=>.error x
     |.ok (t,s1)=>match F2 s1 (c0 bB) t l c with
       |.error x=>.error x
       |.ok s2=>match f s2 e o2 l2 c2 x2 m2 k2 with
         |.error x=>.error x
         |.ok (t2,s3)=>match f s3 e o3 l3 c3 x3 m3 k3 with
           |.error x=>.error x
           |.ok (t3,s4)=>match F2 s4 t2 t3 l3 c3 with
             |.error x=>.error x
             |.ok s5=>.ok (t2,s5))
   |_=>.ok (.var 0,s))
 else if op==12 then (match EH f e s kids with
   |.error x=>.error x
   |.ok (l,s1)=>.ok (l.last,s1))
 else if op==13 then (match EH f e s kids with
   |.error x=>.error x
   |.ok (l,s1)=>.ok (.con RD l,s1))
 else if op==14 then (match kids with
   |.nil=>.ok (.var 0,s)
   |.cons o l c x m k r=>match f s e o l c x m k with
     |.error x=>.error x
     |.ok (t,s1)=>DN n f e t s1 none r)
 else if op==15 then (match kids with
   |.nil=>.ok (.var 0,s)
   |.cons o l c x m k r=>match f s e o l c x m k with
     |.error x=>.error x
     |.ok (t,s1)=>DN n f e (c0 bX) s1 (some t) r)
 else if op==16 then (match kids with
   |.nil=>.ok (.var 0,s)
   |.cons o l c x m k _=>match f s e o l c x m k with
     |.error x=>.error x
     |.ok (t,s1)=>match F2 s1 (c0 bX) t l c with
       |.error x=>.error x
       |.ok s2=>.ok (AB s2))
 else (match kids with
   |.nil=>.ok (.var 0,s)
   |.cons o l c x m k _=>f s e o l c x m k)
def Co:Nat→Mt
 |0,_,_,_,ln,co,_,_,_=>.error (ln,co,11)
 |n+1,s,e,op,ln,co,tx,_,kids=>match Bp n (Co n) s e op ln co tx kids with
   |.error x=>.error x
   |.ok (t,s1)=>match FG s1 t ln co with
     |.error x=>.error x
     |.ok _=>.ok (t,s1)
def Hy:List UInt8:=[32,105,110,116,32,102,108,111,97,116,32,115,116,114,105,110,103,32,117,110,105,116,32,98,111,111,108,32,101,120,110,32]
def P7:List UInt8:=[32,116,117,112,108,101,32,114,101,102,32,112,114,101,102,32]
def Gw(datas:List (List UInt8×Int))(vars:List (List UInt8×T1)):Nd→RI Ty
 |.nil=>.ok .nil
 |.cons op ln co tx _ kids r =>
   let one:RI T1:=if op==31 then (match BZ vars tx with
       |some t=>.ok t
       |none=>.error (ln,co,11))
     else if (if DG Hy ([32]++tx++[32]) then (kids.len:Int)==0
         else if tx==G2 then (kids.len:Int)==2
         else if DG P7 ([32]++tx++[32]) then true
         else match BZ datas tx with|some c=>c==(kids.len:Int)|none=>false)
       then (match Gw datas vars kids with|.error x=>.error x|.ok k=>.ok (.con tx k))
       else .error (ln,co,11)
   match one with
   |.error x=>.error x
   |.ok t=>match Gw datas vars r with
     |.error x=>.error x
     |.ok l=>.ok (t.cons l)
def EE(ln co:Int):Nd→Int→List (List UInt8×T1)→Ty→List Int→RI (Int×List (List UInt8×T1)×Ty×List Int)
 |.nil,v,m,self,nums=>.ok (v,m,self,nums)
 |.cons op _ _ tx _ _ r,v,m,self,nums =>
   if op==31 then (if (BZ m tx).isSome then .error (ln,co,11) else EE ln co r (v-1) ((tx,.var (v-1))::m) (self.snoc (.var (v-1))) (nums++[v-1]))
   else EE ln co r v m self nums
def DU(datas:List (List UInt8×Int))(m:List (List UInt8×T1))(out:T1)(nums:List Int):Nd→List (List UInt8×Mk)→RI (List (List UInt8×Mk))
 |.nil,c=>.ok c
 |.cons op ln co tx _ kids r,c =>
   if op==42 then (if (BZ c tx).isSome then .error (ln,co,11) else match Gw datas m kids with
     |.error x=>.error x
     |.ok args=>DU datas m out nums r ((tx,⟨args,out,nums⟩)::c))
   else DU datas m out nums r c
def G8(s:CS)(ln co:Int)(tx:List UInt8)(kids:Nd):RI CS :=
 if (BZ s.datas tx).isSome||DG Hy ([32]++tx++[32]) then .error (ln,co,11)
 else match EE ln co kids s.vars [] .nil [] with
   |.error x=>.error x
   |.ok (v,m,self,nums) =>
     let datas:=(tx,(nums.length:Int))::s.datas
     match DU datas m (.con tx self) nums kids s.cons with
     |.error x=>.error x
     |.ok cons=>.ok {s with datas:=datas,cons:=cons,vars:=v}
def DP(s:CS)(e:Bg)(op ln co:Int)(tx:List UInt8)(kids:Nd):RI (Option (List UInt8×T1)×Bg×CS) :=
 if op==41 then (match G8 s ln co tx kids with
   |.error x=>.error x
   |.ok s1=>.ok (none,e,s1))
 else match kids with
   |.nil=>.ok (some (tx,.var 0),e,s)
   |.cons o l c x m k r =>
     if op==43 then (if s.roots.contains tx then .error (ln,co,11) else match Gw s.datas [] (.cons o l c x m k .nil) with
         |.error x=>.error x
         |.ok w=>match r with
           |.nil=>.ok (some (tx,.var 0),e,s)
           |.cons o2 l2 c2 x2 m2 k2 _=>match Co (k2.size+1) {s with roots:=tx::s.roots} e o2 l2 c2 x2 m2 k2 with
             |.error x=>.error x
             |.ok (t2,s1)=>match F2 s1 w.hd t2 ln co with
               |.error x=>.error x
               |.ok s2=>.ok (some (tx,.con Dr w),⟨tx,.con Dr w,[]⟩::e,s2))
     else if op==44 then (match Co (k.size+1) s e o l c x m k with
       |.error x=>.error x
       |.ok (t,s1)=>match Hi s1 e tx t (C2 (k.size+1) o k) ln co with
         |.error x=>.error x
         |.ok e1=>.ok (some (tx,t),e1,s1))
     else if op==45 then (match H8 (Co (k.size+1)) s e ln co tx o l c x m k with
       |.error x=>.error x
       |.ok (t,s1)=>match Hi s1 e tx t true ln co with
         |.error x=>.error x
         |.ok e1=>.ok (some (tx,t),e1,s1))
     else (match Co (k.size+1) s e o l c x m k with
       |.error x=>.error x
       |.ok (t,s1)=>.ok (some ([],t),e,s1))
def CY:CS→Bg→Nd→List (List UInt8×T1)→RI (List (List UInt8×T1)×CS)
 |s,_,.nil,out=>.ok (out,s)
 |s,e,.cons op ln co tx _ k r,out=>match DP s e op ln co tx k with
   |.error x=>.error x
   |.ok (none,e1,s1)=>CY s1 e1 r out
   |.ok (some b,e1,s1)=>CY s1 e1 r (out++[b])
def TO:Nat→Nat→List UInt8
 |0,_=>[]
 |k+1,n=>if n<10 then [UInt8.ofNat (48+n)] else TO k (n / 10)++[UInt8.ofNat (48+n % 10)]
def DY(i:Nat):List UInt8:=[39,UInt8.ofNat (97+i % 26)]++(if i<26 then [] else TO 20 (i / 26))
def DM(vs:List Int):Ty→List UInt8
 |.nil=>[]
 |.var n r=>32::((match DJ vs n with|some i=>DY i|none=>[])++DM vs r)
 |.con tx .nil r=>32::(tx++DM vs r)
 |.con tx k r=>32::([40]++tx++DM vs k++[41]++DM vs r)
def OS(t:T1):List UInt8:=(DM (Aq t) t.one).drop 1
def II(s:CS):List (List UInt8×T1)→RI (List (List UInt8×List UInt8))
 | []=>.ok []
 |(n,t)::l=>match FG s t 0 0 with
   |.error x=>.error x
   |.ok f=>match II s l with
     |.error x=>.error x
     |.ok r=>.ok ((n,OS f)::r)
def aI:Int := -1
def jE:List (List UInt8×Ty) :=
 let n:=c0 bI;let f:=c0 bF;let s:=c0 bS;let b:=c0 bB;let u:=c0 bU
 let a:=T1.var aI;let r:=T1.con L7 a.one;let p:=T1.con Dr a.one
 let l2 (x y:T1):Ty:=x.cons y.one
 let l3 (x y z:T1):Ty:=x.cons (y.cons z.one)
 let ad (names:List (List UInt8)) (t:Ty):List (List UInt8×Ty):=names.map fun x=>(x,t)
 ad [[43],[45],[42],[100,105,118],[109,111,100]] (l3 n n n)++ad [[110,101,103]] (l2 n n)++ad [[60],[60,61],[61]] (l3 n n b) ++
 ad [[102,43],[102,45],[102,42],[102,47]] (l3 f f f)++ad [[102,115,113,114,116],[102,110,101,103]] (l2 f f)++ad [[102,60],[102,61],[102,97,104,101,97,100]] (l3 f f b) ++
 ad [[105,116,111,102]] (l2 n f)++ad [[102,116,111,105]] (l2 f n)++ad [[102,98,105,116,115]] (l2 f s)++ad [[110,97,110],[105,110,102]] f.one ++
 ad [[99,97,116]] (l3 s s s)++ad [[108,101,110],[111,114,100],[97,116,111,105]] (l2 s n)++ad [[115,117,98]] (s.cons (l3 n n s))++ad [[115,61],[115,60]] (l3 s s b) ++
 ad [[105,116,111,97],[99,104,114]] (l2 n s)++ad [[112,114,105,110,116]] (l2 s u)++ad [[114,101,97,100]] (l2 u s)++ad [[114,101,102]] (l2 a r)++ad [[103,101,116]] (l2 r a) ++
 ad [[115,101,116]] (l3 r a u)++ad [[110,101,119]] (l2 a p)++ad [[108,111,97,100]] (l2 p a)++ad [[115,116,111,114,101]] (l3 p a u)
def Mv:Bg:=(jE.map fun p=>(⟨p.1,HR p.2,[aI]⟩:Bd)).reverse
def oZ:List (List UInt8×Mk) :=
 [([70,97,105,108],⟨(c0 bS).one,c0 bX,[]⟩),([79,117,116],⟨.nil,c0 bX,[]⟩),([75,101,101,112],⟨.nil,c0 bX,[]⟩),([65,98,111,114,116],⟨.nil,c0 bX,[]⟩),([77,97,116,99,104],⟨.nil,c0 bX,[]⟩),([68,105,118],⟨.nil,c0 bX,[]⟩),
  ([84,114,117,101],⟨.nil,c0 bB,[]⟩),([70,97,108,115,101],⟨.nil,c0 bB,[]⟩)]
def VO:CS:=⟨[],0,oZ,[],[],-1⟩
def Cq(nds:Nd):RI (List (List UInt8×List UInt8)):=match CY VO Mv nds [] with
 |.error x=>.error x
 |.ok (out,s)=>II s out
end Go.SP
namespace Go.SP
open Go.SW Go.RowKit
namespace T1
def op:T1→Int
 |.var _=>0
 |.con _ _=>1
def num:T1→Int
 |.var n=>n
 |.con _ _=>0
def tx:T1→List UInt8
 |.var _=>[]
 |.con t _=>t
def kids:T1→Ty
 |.var _=>.nil
 |.con _ k=>k
end T1
def tC(t:T1)(a:Option Addr)(c:Nat):List Value:=[.int .i64 t.op,.int .i64 t.num,S t.tx,.slice a t.kids.len c]
abbrev tV(t:T1)(a:Option Addr)(c:Nat):Value:=.agg #[.int .i64 t.op,.int .i64 t.num,S t.tx,.slice a t.kids.len c]
def Jd(w:World)(f:Fq):Ty→Nat→Nat→Prop
 |.nil,_,_=>True
 |.var n r,b,off=>(∃a c,Cs w f b off [.int .i64 0,.int .i64 n,S [],.slice a 0 c])∧Jd w f r b (off+4)
 |.con tx k r,b,off=>(∃a c,Cs w f b off [.int .i64 1,.int .i64 0,S tx,.slice a k.len c]∧k.len≤c∧(k=.nil∨∃b' off',a=some ⟨b',off',none⟩∧Jd w f k b' off'))∧Jd w f r b (off+4)
def Ah(w:World)(f:Fq)(k:Ty)(a:Option Addr)(c:Nat):Prop:=k.len≤c∧(k=.nil∨∃b off,a=some ⟨b,off,none⟩∧Jd w f k b off)
theorem Jd.mono{w w':World}{f f':Fq}(hF:Jf w f w' f'):∀(k:Ty)(b off:Nat),Jd w f k b off→Jd w' f' k b off
 |.nil,_,_,_=>trivial
 |.var _ r,b,off,⟨⟨a,c,h1⟩,h2⟩=>⟨⟨a,c,h1.mono hF⟩,Jd.mono hF r b _ h2⟩
 |.con _ k r,b,off,⟨⟨a,c,h1,h2,h3⟩,h4⟩=>⟨⟨a,c,h1.mono hF,h2,h3.imp id fun⟨b',off',h5,h6⟩=>⟨b',off',h5,Jd.mono hF k b' off' h6⟩⟩,Jd.mono hF r b _ h4⟩
theorem Ah.mono{k:Ty}{a:Option Addr}{c:Nat}:G0 (fun w f=>Ah w f k a c):=fun _ _ _ _ h hF=>⟨h.1,h.2.imp id fun⟨b,off,h1,h2⟩=>⟨b,off,h1,Jd.mono hF k b off h2⟩⟩
theorem Ah.nil(w:World)(f:Fq)(a:Option Addr)(c:Nat):Ah w f .nil a c:=⟨Nat.zero_le _,.inl rfl⟩
theorem Jd.cons{w:World}{f:Fq}{t:T1}{r:Ty}{b off:Nat}:Jd w f (t.cons r) b off↔(∃a c,Cs w f b off (tC t a c)∧Ah w f t.kids a c)∧Jd w f r b (off+4):=by
 cases t with
 |var n=>exact⟨fun⟨⟨a,c,h1⟩,h2⟩=>⟨⟨a,c,h1,Ah.nil _ _ _ _⟩,h2⟩,fun⟨⟨a,c,h1,_⟩,h2⟩=>⟨⟨a,c,h1⟩,h2⟩⟩
 |con tx k=>exact⟨fun⟨⟨a,c,h1,h2,h3⟩,h4⟩=>⟨⟨a,c,h1,h2,h3⟩,h4⟩,fun⟨⟨a,c,h1,h2⟩,h4⟩=>⟨⟨a,c,h1,h2.1,h2.2⟩,h4⟩⟩
theorem Jd.app{w:World}{f:Fq}:∀{x y:Ty}{b off:Nat},Jd w f x b off→Jd w f y b (off+x.len*4)→Jd w f (x.app y) b off
 |.nil,_,b,off,_,h=>by simpa[Ty.len,Ty.app] using h
 |.var _ r,y,b,off,h,hy=>⟨h.1,Jd.app h.2 (by rw[show off+4+r.len*4=off+(r.len+1)*4 by omega];exact hy)⟩
 |.con _ _ r,y,b,off,h,hy=>⟨h.1,Jd.app h.2 (by rw[show off+4+r.len*4=off+(r.len+1)*4 by omega];exact hy)⟩
def AW(w:World)(f:Fq)(a:Option Addr)(i:Nat)(r:Ty):Prop:=r=.nil∨∃b off,a=some ⟨b,off,none⟩∧Jd w f r b (off+i*4)
theorem AW.mono{a:Option Addr}{i:Nat}{r:Ty}:G0 (fun w f=>AW w f a i r):=fun _ _ _ _ h hF=>h.imp id fun⟨b,off,h1,h2⟩=>⟨b,off,h1,Jd.mono hF r b _ h2⟩
theorem Ah.at{w:World}{f:Fq}{k:Ty}{a:Option Addr}{c:Nat}(h:Ah w f k a c):AW w f a 0 k:=h.2.imp id fun⟨b,off,h1,h2⟩=>⟨b,off,h1,by simpa using h2⟩
theorem AW.head{w:World}{f:Fq}{a:Option Addr}{i:Nat}{t:T1}{r:Ty}(h:AW w f a i (t.cons r)):∃b off ka kc,a=some ⟨b,off,none⟩∧Cs w f b (off+i*4) (tC t ka kc)∧Ah w f t.kids ka kc∧AW w f a (i+1) r:=by
 rcases h with h|⟨b,off,h1,h2⟩
 · cases t <;> cases h
 · obtain⟨⟨ka,kc,h3,h4⟩,h5⟩:=Jd.cons.1 h2
   exact⟨b,off,ka,kc,h1,h3,h4,.inr ⟨b,off,h1,by rw[show off+(i+1)*4=off+i*4+4 by omega];exact h5⟩⟩
def Ui(w:World)(f:Fq):Nd→Nat→Nat→Prop
 |.nil,_,_=>True
 |.cons op ln co tx nm k r,b,off=>(∃a c,Cs w f b off [.int .i64 op,.int .i64 ln,.int .i64 co,S tx,.int .i64 nm,.slice a k.len c]∧k.len≤c∧(k=.nil∨∃b' off',a=some ⟨b',off',none⟩∧Ui w f k b' off'))∧Ui w f r b (off+6)
def AK(w:World)(f:Fq)(k:Nd)(a:Option Addr)(c:Nat):Prop:=k.len≤c∧(k=.nil∨∃b off,a=some ⟨b,off,none⟩∧Ui w f k b off)
theorem Ui.mono{w w':World}{f f':Fq}(hF:Jf w f w' f'):∀(k:Nd)(b off:Nat),Ui w f k b off→Ui w' f' k b off
 |.nil,_,_,_=>trivial
 |.cons _ _ _ _ _ k r,b,off,⟨⟨a,c,h1,h2,h3⟩,h4⟩=>⟨⟨a,c,h1.mono hF,h2,h3.imp id fun⟨b',off',h5,h6⟩=>⟨b',off',h5,Ui.mono hF k b' off' h6⟩⟩,Ui.mono hF r b _ h4⟩
theorem AK.mono{k:Nd}{a:Option Addr}{c:Nat}:G0 (fun w f=>AK w f k a c):=fun _ _ _ _ h hF=>⟨h.1,h.2.imp id fun⟨b,off,h1,h2⟩=>⟨b,off,h1,Ui.mono hF k b off h2⟩⟩
def Az(w:World)(f:Fq)(a:Option Addr)(i:Nat)(r:Nd):Prop:=r=.nil∨∃b off,a=some ⟨b,off,none⟩∧Ui w f r b (off+i*6)
theorem Az.mono{a:Option Addr}{i:Nat}{r:Nd}:G0 (fun w f=>Az w f a i r):=fun _ _ _ _ h hF=>h.imp id fun⟨b,off,h1,h2⟩=>⟨b,off,h1,Ui.mono hF r b _ h2⟩
theorem AK.at{w:World}{f:Fq}{k:Nd}{a:Option Addr}{c:Nat}(h:AK w f k a c):Az w f a 0 k:=h.2.imp id fun⟨b,off,h1,h2⟩=>⟨b,off,h1,by simpa using h2⟩
def F9(op ln co:Int)(tx:List UInt8)(nm:Int)(a:Option Addr)(n c:Nat):List Value:=[.int .i64 op,.int .i64 ln,.int .i64 co,S tx,.int .i64 nm,.slice a n c]
theorem Az.head{w:World}{f:Fq}{a:Option Addr}{i:Nat}{op ln co nm:Int}{tx:List UInt8}{k r:Nd}(h:Az w f a i (.cons op ln co tx nm k r)):∃b off ka kc,a=some ⟨b,off,none⟩∧Cs w f b (off+i*6) (F9 op ln co tx nm ka k.len kc)∧AK w f k ka kc∧Az w f a (i+1) r:=by
 rcases h with h|⟨b,off,h1,⟨ka,kc,h3,h4⟩,h5⟩
 · cases h
 · exact⟨b,off,ka,kc,h1,h3,h4,.inr ⟨b,off,h1,by rw[show off+(i+1)*6=off+i*6+6 by omega];exact h5⟩⟩
def RA(w:World):Fq:=fun b=>match w.heap[b]? with
 |some (.cells cs _ (0,0))=>cs.size
 |_=>0
theorem Cs.all{w:World}{b:Nat}{l m:List Value}{T:TypeId}{off:Nat}(hb:AQ w b l T)(h:l.drop off=m):Cs w (RA w) b off m:=fun j v hj=>by
 have h1:l[off+j]?=some v:=by rw[← List.getElem?_drop,h,hj]
 obtain⟨hl,_⟩:=List.getElem?_eq_some_iff.1 h1
 refine⟨?_,by rw[hb.cell,h1]⟩
 unfold RA
 unfold AQ at hb
 rw[hb]
 simpa using hl
theorem Cs.le{w:World}{f:Fq}{b off:Nat}{l m:List Value}(h:Cs w f b off (l++m)):Cs w f b off l:=fun j v hj=>h j v (by
 obtain⟨hl,_⟩:=List.getElem?_eq_some_iff.1 hj
 rw[List.getElem?_append_left hl];exact hj)
theorem FZ.toG{U:Nat→Prop}{w:World}{b:Nat}{l:List Value}{T:TypeId}(hb:AQ w b l T):∀(k:Nd)(off:Nat),FZ U w k (l.drop off)→(∀(k':Nd)(a:Option Addr)(n c:Nat),k'.size<k.size→H4 U w a n c k'→AK w (RA w) k' a c)→Ui w (RA w) k b off
 |.nil,_,_,_=>trivial
 |.cons op ln co tx nm kids r,off,⟨a,n,c,l',h1,h2,h3⟩,ih=>by
   have hn:n=kids.len:=h2.1
   have hk:=ih kids a n c (by simp only[Nd.size];omega) h2
   refine⟨⟨a,c,?_,hk⟩,FZ.toG hb r (off+6) ?_ (fun k' a n c hs=>ih k' a n c (by simp only[Nd.size];omega))⟩
   · have:=Cs.all hb h1
     rw[hn] at this
     exact Cs.le (m:=l') this
   · rw[← List.drop_drop,h1];exact h3
theorem H4.toF{U:Nat→Prop}{w:World}:∀(m:Nat)(k:Nd)(a:Option Addr)(n c:Nat),k.size<m→H4 U w a n c k→AK w (RA w) k a c
 |0,_,_,_,_,h,_=>by omega
 |m+1,k,a,n,c,hm,⟨h1,h2,h3⟩=>by
   refine⟨oM,?_⟩
   rcases h3 with h3|⟨b,off,l,T,_,ha,hb,hc⟩
   · left
     cases k with
     |nil=>rfl
     |cons _ _ _ _ _ _ _=>rw[h3] at h1;cases h1
   · exact .inr ⟨b,off,ha,FZ.toG hb k off hc (fun k' a n c hs=>H4.toF m k' a n c oM)⟩
end Go.SP
namespace Go.SP
open Go.SW Go.RowKit
def BN(w:World)(f:Fq)(l:List Int)(a:Option Addr)(c:Nat):Prop:=l.length≤c∧(l=[]∨∃b off,a=some ⟨b,off,none⟩∧Cs w f b off (l.map fun n=>Value.int .i64 n))
theorem BN.mono{l:List Int}{a:Option Addr}{c:Nat}:G0 (fun w f=>BN w f l a c):=fun _ _ _ _ h hF=>⟨h.1,h.2.imp id fun⟨b,off,h1,h2⟩=>⟨b,off,h1,h2.mono hF⟩⟩
theorem Cs.at{w:World}{f:Fq}{b off i:Nat}{l:List Value}{v:Value}(h:Cs w f b off l)(hi:l[i]?=some v):Cs w f b (off+i) [v]:=fun j u hj=>by
 cases j with
 |zero=>simp at hj;subst hj;simpa using h i v hi
 |succ j=>simp at hj
theorem BN.get{w:World}{f:Fq}{l:List Int}{a:Option Addr}{c i:Nat}{n:Int}(h:BN w f l a c)(hi:l[i]?=some n):∃b off,a=some ⟨b,off,none⟩∧Cs w f b (off+i*1) [.int .i64 n]:=by
 rcases h.2 with h|⟨b,off,h1,h2⟩
 · subst h;simp at hi
 · exact⟨b,off,h1,by rw[Nat.mul_one];exact Cs.at h2 (by rw[List.getElem?_map,hi];rfl)⟩
theorem OF{n:Int}:∀{l:List Int},DJ l n=none→l.contains n=false
 | [],_=>rfl
 |k::l,h=>by
   unfold DJ at h
   split at h
   · cases h
   · rename_i hk
     have:DJ l n=none:=by cases hx:DJ l n with|none=>rfl|some i=>rw[hx] at h;cases h
     rw[List.contains_cons,OF this]
     have:¬n=k:=fun e=>hk (by simp[e])
     simp[this]
theorem LZ{n:Int}:∀{l:List Int}{i:Nat},DJ l n=some i→l.contains n=true∧i<l.length∧l[i]?=some n
 | [],_,h=>by cases h
 |k::l,i,h=>by
   unfold DJ at h
   split at h
   · rename_i hk
     have e:k=n:=by simpa using hk
     cases h
     subst e
     simp
   · cases hx:DJ l n with
     |none=>rw[hx] at h;cases h
     |some j =>
       rw[hx] at h
       cases h
       have:=LZ hx
       exact⟨by rw[List.contains_cons,this.1,Bool.or_true],by simp;exact this.2.1,by simpa using this.2.2⟩
theorem Vt{n:Int}:∀{l:List Int}{i:Nat},(l.take i).contains n=false→l[i]?=some n→DJ l n=some i
 | [],i,_,h=>by simp at h
 |k::l,0,_,h=>by simp at h;subst h;simp[DJ]
 |k::l,i+1,hn,h=>by
   simp only[List.take_succ_cons,List.contains_cons,Bool.or_eq_false_iff] at hn
   have hk:(k==n)=false:=by
     have:=hn.1
     cases hh:k==n with
     |false=>rfl
     |true =>
       have e:k=n:=by simpa using hh
       subst e;simp at this
   have:=Vt hn.2 (by simpa using h)
   simp[DJ,hk,this]
theorem NX{n:Int}{l:List Int}(h:l.contains n=false):DJ l n=none:=by
 cases hx:DJ l n with
 |none=>rfl
 |some i=>rw[(LZ hx).1] at h;cases h
def Xc(l:List Int)(n:Int):Int:=match DJ l n with
 |some i=>i
 |none => -1
theorem D2{α:Type}{l:List α}{i:Nat}{x:α}(h:l[i]?=some x):l.take (i+1)=l.take i++[x]:=by
 obtain⟨hl,he⟩:=List.getElem?_eq_some_iff.1 h
 rw[List.take_succ_eq_append_getElem hl,he]
end Go.SP
namespace Go.SP
open Go.SW Go.RowKit
def Ty.size:Ty→Nat
 |.nil=>0
 |.var _ r=>r.size+1
 |.con _ k r=>k.size+r.size+1
def Ty.bnd:Ty→Prop
 |.nil=>True
 |.var _ r=>r.bnd
 |.con tx k r=>(k.len≤200000∧tx.length≤1000000)∧k.bnd∧r.bnd
def T1.bnd(t:T1):Prop:=(t.kids.len≤200000∧t.tx.length≤1000000)∧t.kids.bnd
theorem T1.bnd_cons{t:T1}{r:Ty}:(t.cons r).bnd↔t.bnd∧r.bnd:=by
 cases t with
 |var n=>exact⟨fun h=>⟨⟨⟨Nat.zero_le _,Nat.zero_le _⟩,trivial⟩,h⟩,fun h=>h.2⟩
 |con tx k=>exact⟨fun h=>⟨⟨h.1,h.2.1⟩,h.2.2⟩,fun h=>⟨h.1.1,h.1.2,h.2⟩⟩
theorem T1.len_cons(t:T1)(r:Ty):(t.cons r).len=r.len+1:=by cases t <;> rfl
theorem T1.size_cons(t:T1)(r:Ty):(t.cons r).size=t.kids.size+r.size+1:=by cases t <;> simp[T1.cons,Ty.size,T1.kids]
theorem Ty.len_app:∀x y:Ty,(x.app y).len=x.len+y.len
 |.nil,y=>by simp[Ty.app,Ty.len]
 |.var _ r,y=>by simp[Ty.app,Ty.len,Ty.len_app r y];omega
 |.con _ _ r,y=>by simp[Ty.app,Ty.len,Ty.len_app r y];omega
theorem Ty.app_assoc:∀x y z:Ty,(x.app y).app z=x.app (y.app z)
 |.nil,_,_=>rfl
 |.var _ r,y,z=>by simp[Ty.app,Ty.app_assoc r y z]
 |.con _ _ r,y,z=>by simp[Ty.app,Ty.app_assoc r y z]
theorem Ty.app_nil:∀x:Ty,x.app .nil=x
 |.nil=>rfl
 |.var _ r=>by simp[Ty.app,Ty.app_nil r]
 |.con _ _ r=>by simp[Ty.app,Ty.app_nil r]
theorem T1.one_app(t:T1)(r:Ty):t.one.app r=t.cons r:=by cases t <;> rfl
theorem Ty.len_snoc(x:Ty)(t:T1):(x.snoc t).len=x.len+1:=by unfold Ty.snoc T1.one;rw[Ty.len_app,T1.len_cons];rfl
theorem Ty.snoc_app(x:Ty)(t:T1)(r:Ty):(x.snoc t).app r=x.app (t.cons r):=by unfold Ty.snoc;rw[Ty.app_assoc,T1.one_app]
theorem Ty.cases1(k:Ty)(h:0<k.len):∃t r,k=T1.cons t r:=by
 cases k with
 |nil=>simp[Ty.len] at h
 |var n r=>exact⟨.var n,r,rfl⟩
 |con tx k r=>exact⟨.con tx k,r,rfl⟩
theorem Ty.len0{k:Ty}(h:k.len=0):k=.nil:=by cases k <;> simp_all [Ty.len]
def Bl(w:World)(f:Fq):Ty→List Value→Prop
 |.nil,xs=>xs=[]
 |.var n r,xs=>∃a c xs',xs=[.int .i64 0,.int .i64 n,S [],.slice a 0 c]++xs'∧Bl w f r xs'
 |.con tx k r,xs=>∃a c xs',xs=[.int .i64 1,.int .i64 0,S tx,.slice a k.len c]++xs'∧Ah w f k a c∧Bl w f r xs'
theorem Bl.mono'{w w':World}{f f':Fq}(hF:Jf w f w' f'):∀(k:Ty)(xs:List Value),Bl w f k xs→Bl w' f' k xs
 |.nil,_,h=>h
 |.var _ r,_,⟨a,c,xs',h1,h2⟩=>⟨a,c,xs',h1,Bl.mono' hF r xs' h2⟩
 |.con _ k r,_,⟨a,c,xs',h1,h2,h3⟩=>⟨a,c,xs',h1,Ah.mono _ _ _ _ h2 hF,Bl.mono' hF r xs' h3⟩
theorem Bl.mono{k:Ty}{xs:List Value}:G0 (fun w f=>Bl w f k xs):=fun _ _ _ _ h hF=>Bl.mono' hF k xs h
theorem Bl.snoc{w:World}{f:Fq}{t:T1}{a:Option Addr}{c:Nat}(ht:Ah w f t.kids a c):∀{k:Ty}{xs:List Value},Bl w f k xs→Bl w f (k.snoc t) (xs++tC t a c)
 |.nil,xs,h=>by
   have h:xs=[]:=h
   subst h
   cases t with
   |var n=>exact⟨a,c,[],rfl,rfl⟩
   |con tx k=>exact⟨a,c,[],rfl,ht,rfl⟩
 |.var _ r,_,⟨a',c',xs',h1,h2⟩=>⟨a',c',xs'++tC t a c,by rw[h1,List.append_assoc],Bl.snoc ht h2⟩
 |.con _ k r,_,⟨a',c',xs',h1,h2,h3⟩=>⟨a',c',xs'++tC t a c,by rw[h1,List.append_assoc],h2,Bl.snoc ht h3⟩
theorem Cs.drop{w:World}{f:Fq}{b off:Nat}{l m:List Value}(h:Cs w f b off (l++m)):Cs w f b (off+l.length) m:=fun j v hj=>by
 have:=h (l.length+j) v (by rw[List.getElem?_append_right (by omega)];simpa using hj)
 rwa[← Nat.add_assoc] at this
theorem Bl.toG{w:World}{f:Fq}{b:Nat}:∀{k:Ty}{xs:List Value}{off:Nat},Bl w f k xs→Cs w f b off xs→Jd w f k b off
 |.nil,_,_,_,_=>trivial
 |.var _ r,_,off,⟨a,c,xs',h1,h2⟩,hC=>by
   subst h1
   exact⟨⟨a,c,Cs.le hC⟩,Bl.toG h2 (Cs.drop hC)⟩
 |.con _ k r,_,off,⟨a,c,xs',h1,h2,h3⟩,hC=>by
   subst h1
   exact⟨⟨a,c,Cs.le hC,h2⟩,Bl.toG h3 (Cs.drop hC)⟩
theorem Bl.toF{w:World}{f:Fq}{b c:Nat}{k:Ty}{xs:List Value}(h:Bl w f k xs)(hC:Cs w f b 0 xs)(hc:k.len≤c):Ah w f k (some ⟨b,0,none⟩) c:=⟨hc,.inr ⟨b,0,rfl,Bl.toG h hC⟩⟩
theorem Bl.len{w:World}{f:Fq}:∀{k:Ty}{xs:List Value},Bl w f k xs→xs.length=k.len*4
 |.nil,xs,h=>by have h:xs=[]:=h;subst h;rfl
 |.var _ r,_,⟨a,c,xs',h1,h2⟩=>by subst h1;have:=Bl.len h2;simp[Ty.len,this];omega
 |.con _ k r,_,⟨a,c,xs',h1,h2,h3⟩=>by subst h1;have:=Bl.len h3;simp[Ty.len,this];omega
theorem SA(a b c vs:List Value)(h:b.length=vs.length):EC (a++(b++c)) a.length vs=(a++vs)++c:=by
 rw[M3 vs _ _ (by simp;omega)]
 have h1:(a++(b++c)).take a.length=a:=by simp
 have h2:(a++(b++c)).drop (a.length+vs.length)=c:=by
   rw[← List.drop_drop]
   simp[← h]
 rw[h1,h2]
def lS(P:Program)(fid:FuncId)(m:Nat):Prop:=∀(w:World)(f:Fq)(_:Vl w f)(t:T1)(a:Option Addr)(c:Nat),t.kids.size<m→t.bnd→Ah w f t.kids a c →
 BF P fid #[tV t a c] w (BV (α:=Option Addr×Nat) (fun x=>tV t x.1 x.2) (fun _=>True) (fun x=>[fun w f=>Ah w f t.kids x.1 x.2]) w f)
end Go.SP
namespace Go.SP
open Go.SW Go.RowKit
theorem Zz(t:T1)(a:Option Addr)(c:Nat):∀v∈tC t a c,v.oneCell'=true:=by
 intro v hv
 unfold tC at hv
 simp only[List.mem_cons,List.not_mem_nil,or_false] at hv
 rcases hv with rfl|rfl|rfl|rfl <;> rfl
theorem Jd.cells{w:World}{f:Fq}{b:Nat}:∀{k:Ty}{off:Nat},Jd w f k b off→∃xs,Bl w f k xs∧Cs w f b off xs∧∀v∈xs,v.oneCell'=true
 |.nil,_,_=>⟨[],rfl,(fun j v hj=>by simp at hj),fun v hv=>by cases hv⟩
 |.var n r,off,⟨⟨a,c,h1⟩,h2⟩=>by
   obtain⟨xs,h3,h4,h5⟩:=Jd.cells h2
   refine⟨_++xs,⟨a,c,xs,rfl,h3⟩,?_,?_⟩
   · intro j v hj
     rcases Nat.lt_or_ge j 4 with hj4|hj4
     · exact h1 j v (by rwa[List.getElem?_append_left (by simpa using hj4)] at hj)
     · rw[List.getElem?_append_right (by simpa using hj4)] at hj
       have:=h4 (j-4) v (by simpa using hj)
       rwa[show off+4+(j-4)=off+j by omega] at this
   · intro v hv
     rcases List.mem_append.1 hv with hv|hv
     · exact Zz (.var n) a c v hv
     · exact h5 v hv
 |.con tx k r,off,⟨⟨a,c,h1,hk⟩,h2⟩=>by
   obtain⟨xs,h3,h4,h5⟩:=Jd.cells h2
   refine⟨_++xs,⟨a,c,xs,rfl,hk,h3⟩,?_,?_⟩
   · intro j v hj
     rcases Nat.lt_or_ge j 4 with hj4|hj4
     · exact h1 j v (by rwa[List.getElem?_append_left (by simpa using hj4)] at hj)
     · rw[List.getElem?_append_right (by simpa using hj4)] at hj
       have:=h4 (j-4) v (by simpa using hj)
       rwa[show off+4+(j-4)=off+j by omega] at this
   · intro v hv
     rcases List.mem_append.1 hv with hv|hv
     · exact Zz (.con tx k) a c v hv
     · exact h5 v hv
end Go.SP
namespace Go.SP
open Go.SW Go.RowKit
theorem MV{X:Cx}{w:World}{f:Fq}{H:List HB}{R:List RB}{B:List FB}{Fs:List (World→Fq→Prop)}{e:TypeId}{a:Option Addr}{c m:Nat}{k:Ty}{xs:List Value}(hM:AX X w f H (⟨e,4,a,c,m,xs⟩::R) B Fs)(hL:Bl w f k xs)(h0:0<k.len):∃f',AX X w f' H R B Fs∧Ah w f' k a c:=by
 have hr:=hM.row _ (.head _)
 have hlen:=Bl.len hL
 have hm:m=k.len:=by have:=hr.1;simp only at this;omega
 rcases hr.2 with ⟨_,_,h⟩|⟨b,l,ha,_,hmc,_⟩
 · simp only at h;omega
 · simp only at ha hmc
   subst ha
   obtain⟨f',hM'⟩:=(hM.more (B':=[]) (F':=[fun w f=>Bl w f k xs]) (fun _ h=>by cases h) (A1.mem ⟨hL,trivial⟩) (Af.mem ⟨Bl.mono,trivial⟩)).done (i:=0) rfl rfl
   exact⟨f',hM'.less (List.Sublist.refl _) (List.Sublist.refl _) (fun e he=>.tail _ he) (fun φ h=>.tail _ h),Bl.toF (hM'.fact (i:=0) rfl) (hM'.fro _ (.head _)) oM⟩
end Go.SP
namespace Go.SP
open Go.SW Go.RowKit
theorem Ah.cells{w:World}{f:Fq}{k:Ty}{a:Option Addr}{c:Nat}(h:Ah w f k a c)(h0:0<k.len):∃x:Nat×Nat×List Value,(a=some ⟨x.1,x.2.1,none⟩∧(∀v∈x.2.2,v.oneCell'=true)∧x.2.2.length=k.len*4)∧Cs w f x.1 x.2.1 x.2.2∧Bl w f k x.2.2:=by
 rcases h.2 with h|⟨b,off,h1,h2⟩
 · subst h;cases h0
 · obtain⟨xs,h3,h4,h5⟩:=Jd.cells h2
   exact⟨(b,off,xs),⟨h1,h5,Bl.len h3⟩,h4,h3⟩
def Gj(w:World)(f:Fq):BJ→List (Int×Value)→Prop
 | [],es=>es=[]
 |(n,t)::s,es=>∃a c es',es=(n,tV t a c)::es'∧Ah w f t.kids a c∧Gj w f s es'
theorem Gj.mono{w w':World}{f f':Fq}(hF:Jf w f w' f'):∀(s:BJ)(es:List (Int×Value)),Gj w f s es→Gj w' f' s es
 | [],_,h=>h
 |(_,_)::s,_,⟨a,c,es',h1,h2,h3⟩=>⟨a,c,es',h1,Ah.mono _ _ _ _ h2 hF,Gj.mono hF s es' h3⟩
def Ji:BJ→Prop
 | []=>True
 |(n,t)::s=>Cm s n=none∧(∀m,t=.var m→m≠n∧Cm s m=none)∧t.bnd∧Ji s
def OW:BJ→Prop
 | []=>True
 |(n,t)::s=>Cm s n=none∧(∀m,t=.var m→m≠n∧Cm s m=none)∧OW s
theorem Ji.v:∀{s:BJ},Ji s→OW s
 | [],_=>trivial
 |(_,_)::_,h=>⟨h.1,h.2.1,Ji.v h.2.2.2⟩
theorem Gj.look{w:World}{f:Fq}:∀{s:BJ}{es:List (Int×Value)},Gj w f s es→∀n,(Cm s n=none→FC es n=none)∧∀t,Cm s n=some t→∃a c,FC es n=some (tV t a c)∧Ah w f t.kids a c
 | [],es,h,n=>by
   have h:es=[]:=h
   subst h
   exact⟨fun _=>rfl,fun t h=>by cases h⟩
 |(k,t)::s,es,⟨a,c,es',h1,h2,h3⟩,n=>by
   subst h1
   have ih:=Gj.look h3 n
   simp only[Cm,FC]
   by_cases hk:k=n
   · subst hk
     refine⟨fun h=>by simp at h,fun t' h=>?_⟩
     simp at h
     subst h
     exact⟨a,c,by simp,h2⟩
   · have e1:(k==n)=false:=by simpa using hk
     have e2:(n==k)=false:=by simpa using fun e=>hk e.symm
     rw[e1,e2]
     simpa using ih
theorem Gj.dis{w:World}{f:Fq}:∀{s:BJ}{es:List (Int×Value)},Gj w f s es→Ji s→KP es
 | [],es,h,_=>by have h:es=[]:=h;subst h;trivial
 |(k,t)::s,es,⟨a,c,es',h1,h2,h3⟩,hw=>by
   subst h1
   exact⟨(Gj.look h3 k).1 hw.1,Gj.dis h3 hw.2.2.2⟩
def BL(T:TypeId)(sb mb:Nat)(s:BJ)(fr pr:Int)(w:World)(f:Fq):Prop:=AQ w sb [.map (some mb),.int .i64 fr,.int .i64 pr] T∧∃es,Ci Fp w mb es∧Gj w f s es
theorem BL.stab{T:TypeId}{sb mb:Nat}{s:BJ}{fr pr:Int}{MI:Nat→Prop}(h1:MI sb)(h2:MI mb):Gr MI (BL T sb mb s fr pr):=fun _ _ _ _ ⟨hb,es,hm,hs⟩ hF h=>⟨(h sb h1).trans hb,es,hm.heap (h mb h2),Gj.mono hF s es hs⟩
abbrev Mu(sb mb:Nat):Nat→Prop:=fun b=>b=sb∨b=mb
abbrev XS(T:TypeId)(sb mb:Nat)(s:BJ)(fr pr:Int)(w:World)(f:Fq):Cx:=⟨Mu sb mb,Mu sb mb,BL T sb mb s fr pr,w,f⟩
theorem aM{T:TypeId}{sb mb:Nat}{s:BJ}{fr pr:Int}{w:World}{f:Fq}{Fs:List (World→Fq→Prop)}(hv:Vl w f)(hS:BL T sb mb s fr pr w f)(hf:f sb=0∧f mb=0)(hF:A1 Fs w f)(hm:Af Fs):AX (XS T sb mb s fr pr w f) w f [] [] [] Fs where
 stp:=Mx.refl _ _
 old _ _:=rfl
 val:=hv
 ent:=Jf.refl _ _
 res:=hS
 stab:=BL.stab (.inl rfl) (.inr rfl)
 mi b hb:=by
   rcases hb with rfl|rfl
   · exact⟨hS.1.lt,hf.1,.inr (.inl rfl)⟩
   · obtain⟨_,es,h,_⟩:=hS;exact⟨h.lt,hf.2,.inr (.inr rfl)⟩
 blk _ h:=by cases h
 row _ h:=by cases h
 nd:=List.nodup_nil
 own _ h:=by cases h
 hnw _ h:=by cases h
 rnw _ h:=by cases h
 fro _ h:=by cases h
 fac:=hF.mem
 mono:=hm.mem
def Js:BJ→Int→Option Nat
 | [],_=>none
 |(k,_)::s,n=>if k==n then some 0 else (Js s n).map (· + 1)
def Ez(s:BJ):T1→Nat
 |.con _ _=>0
 |.var n=>match Js s n with
   |none=>0
   |some p=>p+1
theorem S9{n:Int}:∀{s:BJ},Cm s n=none↔Js s n=none
 | []=>by simp[Cm,Js]
 |(k,t)::s=>by
   have:=S9 (n:=n) (s:=s)
   simp only[Cm,Js]
   split <;> simp[this]
theorem IW{n:Int}{t:T1}:∀{s:BJ},OW s→Cm s n=some t→∃p,Js s n=some p∧Ez s t≤p
 | [],_,h=>by cases h
 |(k,t0)::s,hw,h=>by
   simp only[Cm] at h
   split at h
   · rename_i hk
     cases h
     have e:k=n:=by simpa using hk
     subst e
     refine⟨0,by simp[Js],?_⟩
     cases t with
     |con _ _=>simp[Ez]
     |var m =>
       obtain⟨h1,h2⟩:=hw.2.1 m rfl
       have e1:(k==m)=false:=by simpa using fun e=>h1 e.symm
       simp[Ez,Js,e1,S9.1 h2]
   · rename_i hk
     obtain⟨p,h1,h2⟩:=IW hw.2.2 h
     have e1:(k==n)=false:=by simpa using hk
     refine⟨p+1,by simp[Js,e1,h1],?_⟩
     cases t with
     |con _ _=>simp[Ez]
     |var m =>
       have hv:∀s:BJ,Ez s (.var m)=(match Js s m with|none=>0|some p=>p+1):=fun _=>rfl
       rw[hv] at h2 ⊢
       simp only[Js]
       cases hkm:(k==m) with
       |true=>simp
       |false =>
         simp only[Bool.false_eq_true,if_false]
         cases hp:Js s m with
         |none=>simp
         |some q =>
           rw[hp] at h2
           simp only[Option.map_some] at h2 ⊢
           have h3:q+1≤p:=h2
           show q+1+1≤p+1
           exact Nat.succ_le_succ h3
theorem Tn{n:Int}:∀{s:BJ}{p:Nat},Js s n=some p→p<s.length
 | [],_,h=>by cases h
 |(k,t)::s,p,h=>by
   simp only[Js] at h
   split at h
   · cases h;simp
   · cases hp:Js s n with
     |none=>rw[hp] at h;cases h
     |some q=>rw[hp] at h;cases h;have:=Tn hp;simp;exact this
theorem Vn(s:BJ)(t:T1):Ez s t≤s.length:=by
 cases t with
 |con _ _=>simp[Ez]
 |var n =>
   have hv:Ez s (.var n)=(match Js s n with|none=>0|some p=>p+1):=rfl
   rw[hv]
   cases hp:Js s n with
   |none=>simp
   |some p=>exact Tn hp
theorem Lb{s:BJ}(hw:OW s):∀(k j:Nat)(t:T1),Ez s t≤k→Ez s t≤j→Iu s k t=Iu s j t
 |k,j,.con tx ks,_,_=>by cases k <;> cases j <;> rfl
 |k,j,.var n,hk,hj=>by
   cases hl:Cm s n with
   |none =>
     have:∀k,Iu s k (.var n)=.var n:=fun k=>by cases k <;> simp[Iu,hl]
     rw[this,this]
   |some t =>
     obtain⟨p,h1,h2⟩:=IW hw hl
     have hr:Ez s (.var n)=p+1:=by simp[Ez,h1]
     rw[hr] at hk hj
     cases k with
     |zero=>omega
     |succ k =>
       cases j with
       |zero=>omega
       |succ j =>
         simp only[Iu,hl]
         exact Lb hw k j t oM oM
theorem ET{s:BJ}{n:Int}(h:Cm s n=none):Ak s (.var n)=.var n:=by simp[Ak,Iu,h]
theorem GV(s:BJ)(tx:List UInt8)(k:Ty):Ak s (.con tx k)=.con tx k:=rfl
theorem Gi{s:BJ}{n:Int}{t:T1}(hw:OW s)(h:Cm s n=some t):Ak s (.var n)=Ak s t:=by
 obtain⟨p,h1,h2⟩:=IW hw h
 have:=Tn h1
 unfold Ak
 conv=>lhs;rw[Iu];simp only[h]
 exact Lb hw _ _ t oM (by have:=Vn s t;omega)
theorem Jr{s:BJ}{n:Int}{t:T1}(hw:OW s)(h:Cm s n=some t):Ez s t<Ez s (.var n):=by
 obtain⟨p,h1,h2⟩:=IW hw h
 have hv:Ez s (.var n)=p+1:=by simp[Ez,h1]
 rw[hv]
 omega
theorem Uo{s:BJ}{n:Int}{t:T1}(hw:Ji s)(h:Cm s n=some t):Ak s (.var n)=Ak s t:=Gi hw.v h
theorem ZP{s:BJ}{n:Int}{t:T1}(hw:Ji s)(h:Cm s n=some t):Ez s t<Ez s (.var n):=Jr hw.v h
theorem NI{n:Int}{t:T1}:∀{s:BJ},Ji s→Cm s n=some t→t.bnd
 | [],_,h=>by cases h
 |(k,t0)::s,hw,h=>by
   simp only[Cm] at h
   split at h
   · cases h;exact hw.2.2.1
   · exact NI hw.2.2.2 h
theorem ED{t:T1}(h:(t.op==0)=true):∃n,t=.var n:=by
 cases t with
 |var n=>exact⟨n,rfl⟩
 |con _ _=>cases h
theorem FR{t:T1}(h:(t.op==0)=false):∃tx k,t=.con tx k:=by
 cases t with
 |var n=>cases h
 |con tx k=>exact⟨tx,k,rfl⟩
end Go.SP
namespace Go.SW
open Go.RowKit
section
variable{P:Program}{σ:Bo}{w:World}{ty:TypeId}
theorem Uk{f:FuncId}{g:Operand}{args:List Operand}{vs caps:List Value}{ts:Array TypeId}(he:BS P f)(hg:ev σ g=some (.func (.func f) #[] caps.toArray))(ha:Jb σ args=some vs) :
   Enters P σ (.call {callee:=.value g,args:=args.toArray,argTypes:=ts}) ty w f (vs++caps).toArray:=fun ρ _ _ _ _ hρ=>by
 have h:=Fb hρ ha
 have e:=he (vs++caps).toArray w
 simp[execOp,resolve,hρ _ _ hg,Deferred.ofValue,invoke,h]
 simpa using e
theorem P8{f:FuncId}{caps:List Operand}{vs:List Value}(ha:Jb σ caps=some vs):AO P σ (.makeFunc (.func f) #[] caps.toArray) ty w (.func (.func f) #[] vs.toArray) w:=fun ρ _ _ _ _ hρ=>by
 have h:=Fb hρ ha
 simp[execOp,Instr.makeFunc,h]
end
end Go.SW
namespace Go.SP
open Go.SW Go.RowKit
def BA(b:BJ):Nat→Ty→Option Nat
 |k,.nil=>some k
 |0,.var _ _=>none
 |0,.con _ _ _=>none
 |k+1,.var n r=>match Ak b (.var n) with
   |.var _=>BA b k r
   |.con _ ks=>BA b k (ks.app r)
 |k+1,.con _ ks r=>BA b k (ks.app r)
theorem Ev(b:BJ):∀(k:Nat)(t:Ty),D6 b k t=(BA b k t).isSome
 |k,.nil=>by cases k <;> rfl
 |0,.var _ _=>rfl
 |0,.con _ _ _=>rfl
 |k+1,.var n r=>by
   simp only[D6,BA]
   cases Ak b (.var n) with
   |var _=>exact Ev b k r
   |con _ ks=>exact Ev b k _
 |k+1,.con _ ks r=>by simp only[D6,BA];exact Ev b k _
theorem I8(b:BJ):∀(k:Nat)(x y:Ty),BA b k (x.app y)=(BA b k x).bind fun j=>BA b j y
 |k,.nil,y=>by cases k <;> rfl
 |0,.var _ _,y=>rfl
 |0,.con _ _ _,y=>rfl
 |k+1,.var n r,y=>by
   simp only[Ty.app,BA]
   cases Ak b (.var n) with
   |var _=>exact I8 b k r y
   |con _ ks =>
     simp only
     rw[← Ty.app_assoc];exact I8 b k _ y
 |k+1,.con _ ks r,y=>by
   simp only[Ty.app,BA]
   rw[← Ty.app_assoc];exact I8 b k _ y
theorem E1(b:BJ):∀(k:Nat)(x:Ty)(j:Nat),BA b k x=some j→j≤k
 |k,.nil,j,h=>by cases k <;> (cases h;exact Nat.le_refl _)
 |0,.var _ _,_,h=>by cases h
 |0,.con _ _ _,_,h=>by cases h
 |k+1,.var n r,j,h=>by
   simp only[BA] at h
   split at h
   · have:=E1 b k _ j h;omega
   · have:=E1 b k _ j h;omega
 |k+1,.con _ ks r,j,h=>by
   simp only[BA] at h
   have:=E1 b k _ j h;omega
theorem Jj(b:BJ)(k:Nat)(t:T1)(r:Ty):BA b k (t.cons r)=(BA b k t.one).bind fun j=>BA b j r:=by rw[← T1.one_app,I8]
theorem Kh(b:BJ)(k:Nat)(t:T1):BA b (k+1) t.one=BA b k (Ak b t).kids:=by
 cases t with
 |var n =>
   simp only[T1.one,T1.cons,BA]
   cases Ak b (.var n) with
   |var _=>cases k <;> rfl
   |con _ ks=>simp only[Ty.app_nil];rfl
 |con tx ks =>
   simp only[T1.one,T1.cons,BA,GV,Ty.app_nil]
   rfl
theorem Lj(b:BJ)(t:T1):BA b 0 t.one=none:=by cases t <;> rfl
theorem OJ{s:BJ}(hw:Ji s):∀(k:Nat)(t:T1),t.bnd→(Iu s k t).bnd
 |0,t,h=>h
 |k+1,.con _ _,h=>h
 |k+1,.var n,h=>by
   simp only[Iu]
   split
   · exact h
   · rename_i t' hl;exact OJ hw k t' (NI hw hl)
theorem C8{s:BJ}(hw:Ji s){t:T1}(h:t.bnd):(Ak s t).bnd:=OJ hw _ t h
end Go.SP
namespace Go.SP
open Go.SW Go.RowKit
theorem BL.keep{M:Nat→Prop}{T:TypeId}{sb mb:Nat}{s:BJ}{fr pr:Int}{w w':World}{f f':Fq}(h:BL T sb mb s fr pr w f)(hE:CM M w f w' f')(hF:Jf w f w' f')(h1:¬M sb)(h2:¬M mb):BL T sb mb s fr pr w' f':=by
 obtain⟨hb,es,hm,hs⟩:=h
 exact⟨(hE.stp.block sb hb.lt h1).trans hb,es,hm.heap (hE.stp.block mb hm.lt h2),Gj.mono hF s es hs⟩
theorem oT{nb:Nat}{l:List Value}{T:TypeId}{w:World}{f:Fq}{Fs:List (World→Fq→Prop)}(hv:Vl w f)(hb:AQ w nb l T)(hf:f nb=0)(hF:A1 Fs w f)(hm:Af Fs):AX ⟨fun b=>b=nb,fun _=>False,fun _ _=>True,w,f⟩ w f [⟨nb,l,T,false⟩] [] [] Fs where
 stp:=Mx.refl _ _
 old _ _:=rfl
 val:=hv
 ent:=Jf.refl _ _
 res:=trivial
 stab _ _ _ _ _ _ _:=trivial
 mi _ h:=h.elim
 blk e h:=by
   rcases List.mem_cons.1 h with rfl|h
   · exact hb
   · cases h
 row _ h:=by cases h
 nd:=by simp[CP]
 own b h:=by
   have:b=nb:=by simpa[CP] using h
   subst this
   exact⟨hf,.inr rfl,fun h=>h⟩
 hnw e h hn:=by
   rcases List.mem_cons.1 h with rfl|h
   · cases hn
   · cases h
 rnw _ h:=by cases h
 fro _ h:=by cases h
 fac:=hF.mem
 mono:=hm.mem
theorem Zs{M:Nat→Prop}{I:World→Fq→Prop}{w:World}{f:Fq}{Fs:List (World→Fq→Prop)}(hv:Vl w f)(hI:I w f)(hst:Gr M I)(hm:∀b,M b→b<w.heap.size∧f b=0)(hF:A1 Fs w f)(hmo:Af Fs):AX ⟨M,M,I,w,f⟩ w f [] [] [] Fs where
 stp:=Mx.refl _ _
 old _ _:=rfl
 val:=hv
 ent:=Jf.refl _ _
 res:=hI
 stab:=hst
 mi b h:=⟨(hm b h).1,(hm b h).2,.inr h⟩
 blk _ h:=by cases h
 row _ h:=by cases h
 nd:=List.nodup_nil
 own _ h:=by cases h
 hnw _ h:=by cases h
 rnw _ h:=by cases h
 fro _ h:=by cases h
 fac:=hF.mem
 mono:=hmo.mem
def Kl(nb:Nat)(n:Int)(w:World)(_:Fq):Prop:=AQ w nb [.int .i64 n] 3
theorem Kl.stab{MI:Nat→Prop}{nb:Nat}{n:Int}(h:MI nb):Gr MI (Kl nb n):=fun _ _ _ _ hb _ hm=>(hm nb h).trans hb
def mF(P:Program)(fid:FuncId)(T:TypeId)(g:FuncId)(k:Nat):Prop:=∀(w:World)(f:Fq)(_:Vl w f)(sb mb:Nat)(s:BJ)(fr pr:Int)(nb:Nat),BL T sb mb s fr pr w f→Ji s→sb≠nb→mb≠nb→f nb=0→Kl nb (1000-(k:Int)) w f→k≤1000→∀(t:T1)(a:Option Addr)(c:Nat),t.bnd→Ah w f t.kids a c →
 BF P fid #[.pointer (some ⟨sb,0,none⟩),tV t a c,.func (.func g) #[] #[.pointer (some ⟨nb,0,none⟩)]] w (Fl (α:=Int) (fun _=>.bool (BA s k t.one).isSome) (fun x=>∀j,BA s k t.one=some j→x=1000-(j:Int)) (fun b=>b=nb) (fun x=>Kl nb x) (fun _=>[]) w f)
end Go.SP
namespace Go.SW
open Go.RowKit
theorem AX.give{X:Cx}{w:World}{f:Fq}{H H':List HB}{R:List RB}{B:List FB}{Fs:List (World→Fq→Prop)}{i b:Nat}{l:List Value}{T:TypeId}{nw:Bool}(h:AX X w f H R B Fs)(hg:HM H i=some ⟨b,l,T,nw⟩)(hs:Ll H i=some H') :
   AX {X with MI:=fun k=>X.MI k∨k=b,I:=fun w f=>X.I w f∧AQ w b l T} w f H' R B Fs:=by
 have hblk:AQ w b l T:=h.blk _ (Cb hg)
 have hown:=h.own b (List.mem_append.2 (.inl (List.mem_map.2 ⟨_,Cb hg,rfl⟩)))
 have hsub:=KT hs
 have hnd:(H.map HB.b++Jo R).Nodup:=h.nd
 have hbR:b∉CP H' R:=Ls (L:=Jo R) hg hs hnd
 have hso:(CP H' R).Sublist (CP H R):=List.Sublist.append (hsub.map _) (List.Sublist.refl _)
 exact {h with
         res:=⟨h.res,hblk⟩,
         stab:=fun w1 f1 w2 f2 hI hF hb=>⟨h.stab w1 f1 w2 f2 hI.1 hF fun k hm=>hb k (.inl hm),(hb b (.inr rfl)).trans hI.2⟩,
         mi:=fun k hk=>by
           rcases hk with hk|rfl
           · exact h.mi k hk
           · exact⟨hblk.lt,hown.1,hown.2.1⟩,
         blk:=fun e he=>h.blk e (hsub.subset he),nd:=hso.nodup h.nd,
         own:=fun k hk=>⟨(h.own k (hso.subset hk)).1,(h.own k (hso.subset hk)).2.1,fun hm=>by
           rcases hm with hm|rfl
           · exact (h.own k (hso.subset hk)).2.2 hm
           · exact hbR hk⟩,
         hnw:=fun e he=>h.hnw e (hsub.subset he)}
theorem mY{P:Program}{n:Nat}{Q:Bk}{ds:List Deferred}{X:Cx}{R:List RB}{B:List FB}{Fs:List (World→Fq→Prop)}{fs:List Fr}{σ:Bo}{H H':List HB}{k:M5}{b:Nat}{l:List Value}{T:TypeId}{nw:Bool}(i:Nat)(hg:HM H i=some ⟨b,l,T,nw⟩)(hs:Ll H i=some H')
   (h:AF P n Q ds {X with MI:=fun k=>X.MI k∨k=b,I:=fun w f=>X.I w f∧AQ w b l T} R B Fs k fs σ H'):AF P n Q ds X R B Fs k fs σ H:=fun w f hM=>h w f (hM.give hg hs)
end Go.SW
namespace Go.SW
open Go.RowKit
theorem GS.fle{b:Nat}{w w':World}{f:Fq}(h:GS b w w')(hf:f b=0):Jf w f w' f:=fun k=>⟨Nat.le_refl _,fun o ho=>El (h.block k (fun e=>by rw[e,hf] at ho;omega)) o⟩
theorem mN{P:Program}{n:Nat}{Q:Bk}{ds:List Deferred}{X:Cx}{R:List RB}{B:List FB}{Fs:List (World→Fq→Prop)}{fs:List Fr}{σ:Bo}{H:List HB}{k:M5}{α:Type}(I2:α→World→Fq→Prop)(h1:∀w f,X.I w f→∃x,I2 x w f)(hst:∀x,Gr X.MI (I2 x))
   (h:∀x,AF P n Q ds {X with I:=I2 x} R B Fs k fs σ H):AF P n Q ds X R B Fs k fs σ H:=fun w f hM=>by
 obtain⟨x,hx⟩:=h1 w f hM.res
 exact h x w f {hM with res:=hx,stab:=hst x}
end Go.SW
namespace Go.SP
open Go.SW Go.RowKit
theorem Li{s:BJ}{x:Int}:∀(k:Nat)(a b:Ty)(j:Nat),BA s k a=some j→CQ s x k (a.app b)=(CQ s x k a&&CQ s x j b)
 |k,.nil,b,j,h=>by
   have e:j=k:=by cases k <;> (cases h;rfl)
   subst e
   cases j <;> simp[Ty.app,CQ]
 |0,.var _ _,_,_,h=>by cases h
 |0,.con _ _ _,_,_,h=>by cases h
 |k+1,.var n r,b,j,h=>by
   simp only[Ty.app,BA,CQ] at h ⊢
   cases hh:Ak s (.var n) with
   |var m=>rw[hh] at h;simp only at h ⊢;rw[Li k r b j h,Bool.and_assoc]
   |con tx ks=>rw[hh] at h;simp only at h ⊢;rw[← Ty.app_assoc];exact Li k _ b j h
 |k+1,.con tx ks r,b,j,h=>by
   simp only[Ty.app,BA,CQ] at h ⊢
   rw[← Ty.app_assoc];exact Li k _ b j h
theorem Pm{s:BJ}{x:Int}{k:Nat}{t:T1}{r:Ty}{j:Nat}(h:BA s k t.one=some j):CQ s x k (t.cons r)=(CQ s x k t.one&&CQ s x j r):=by rw[← T1.one_app];exact Li k t.one r j h
def Tz(x:Int):T1→Bool
 |.var m=>!(m==x)
 |.con _ _=>true
theorem HY(s:BJ)(x:Int)(k:Nat)(t:T1):CQ s x (k+1) t.one=(Tz x (Ak s t)&&CQ s x k (Ak s t).kids):=by
 cases t with
 |var n =>
   simp only[T1.one,T1.cons,CQ]
   cases Ak s (.var n) with
   |var m=>cases k <;> simp[Tz,T1.kids,CQ]
   |con tx ks=>simp[Tz,T1.kids,Ty.app_nil]
 |con tx ks=>simp[T1.one,T1.cons,CQ,GV,Tz,T1.kids,Ty.app_nil]
def oY(P:Program)(fid:FuncId)(T:TypeId)(g:FuncId)(k:Nat):Prop:=∀(w:World)(f:Fq)(_:Vl w f)(sb mb:Nat)(s:BJ)(fr pr:Int)(xb:Nat)(x:Int),BL T sb mb s fr pr w f→Ji s→AQ w xb [.int .i64 x] 3→∀(t:T1)(a:Option Addr)(c j:Nat),t.bnd→Ah w f t.kids a c→BA s k t.one=some j →
 BF P fid #[.pointer (some ⟨sb,0,none⟩),tV t a c,.func (.func g) #[] #[.pointer (some ⟨xb,0,none⟩)]] w (BV (α:=Unit) (fun _=>.bool (CQ s x k t.one)) (fun _=>True) (fun _=>[]) w f)
def J9(s:BJ)(n:Int)(t:T1):Int×BJ:=match Cl s n t with
 |.error e=>(e,s)
 |.ok s'=>(0,s')
end Go.SP
namespace Go.SP
open Go.SW Go.RowKit
def bD(T:TypeId)(sb mb:Nat)(s:BJ)(fr pr:Int)(es:List (Int×Value))(w:World)(f:Fq):Prop:=AQ w sb [.map (some mb),.int .i64 fr,.int .i64 pr] T∧Ci Fp w mb es∧Gj w f s es
theorem bD.stab{T:TypeId}{sb mb:Nat}{s:BJ}{fr pr:Int}{es:List (Int×Value)}{MI:Nat→Prop}(h1:MI sb)(h2:MI mb):Gr MI (bD T sb mb s fr pr es):=fun _ _ _ _ ⟨hb,hm,hs⟩ hF h=>⟨(h sb h1).trans hb,hm.heap (h mb h2),Gj.mono hF s es hs⟩
theorem W0{s:BJ}{n:Int}{t:T1}(h:Fv s t=false):J9 s n t=(4,s):=by simp[J9,Cl,h]
theorem Zl{s:BJ}{n:Int}{t:T1}(h:Fv s t=true)(h2:CQ s n 1000 t.one=false):J9 s n t=(11,s):=by simp[J9,Cl,h,h2]
theorem XJ{s:BJ}{n:Int}{t:T1}(h:Fv s t=true)(h2:CQ s n 1000 t.one=true):J9 s n t=(0,(n,t)::s):=by simp[J9,Cl,h,h2]
end Go.SP
namespace Go.SW
open Go.RowKit
theorem ZD{P:Program}{n:Nat}{Q:Bk}{ds:List Deferred}{X:Cx}{R:List RB}{B:List FB}{Fs:List (World→Fq→Prop)}{fs:List Fr}{σ:Bo}{H:List HB}{all r:List Oper}{ty T T':TypeId}{pos:String}{af:Array Edge}{g:Option (Nat×Bool)}{x y:Operand}{b off k:Nat}{v:Value}{vs l l':List Value}{ag:Bool}{I':World→Fq→Prop}
   (hg:gd all σ g=some true) (hx:ev σ x=some (.pointer (some ⟨b,off,none⟩))) (hy:ev σ y=some v) (hv:HP v=some vs) (hT:Bb P T=some (ag,k)) (hk:Nat.beq vs.length k=true) (h1:Ms vs=true) (hp:Ou l off vs=some l') (hmi:X.MI b)
   (hb:∀w f,X.I w f→AQ w b l T') (hI:∀w f w',X.I w f→AX X w f H R B Fs→GS b w w'→AQ w' b l' T'→I' w' f) (hst:Gr X.MI I')
   (h:AF P n Q ds {X with I:=I' } R B Fs (.ops all r) fs σ H):AF P n Q ds X R B Fs (.ops all (⟨none,.store T x y,ty,pos,af,g⟩::r)) fs σ H:=fun w f hM =>
 BD hg (A4 hx hy hv hT hk (hb w f hM.res) h1 hp fun w' hb' hC=>h w' f (hM.chgI hmi hC (hI w f w' hM.res hM hC hb') hst))
def mP(P:Program)(n:Nat){α:Type}(p:α→Prop)(s:α→Bo)(X:α→Cx)(H:α→List HB)(R:α→List RB)(B:α→List FB)(Fs:α→List (World→Fq→Prop))(ds:List Deferred)(Q:Bk):Bk :=
 {q:=fun e σ ds' w=>match e with
     |.normal=>∃x,p x∧ds'=ds∧Le (s x) σ∧∃f,AX (X x) w f (H x) (R x) (B x) (Fs x)
     |e=>Q.q e σ ds' w,
   p:=Q.p}
section
variable{P:Program}{n:Nat}{Q:Bk}{ds:List Deferred}{X:Cx}{R:List RB}{B:List FB}{Fs:List (World→Fq→Prop)}{fs:List Fr}{σ:Bo}{H:List HB}
theorem WA{c:Code}{α:Type}(p:α→Prop)(s:α→Bo)(X':α→Cx)(H':α→List HB)(R':α→List RB)(B':α→List FB)(F':α→List (World→Fq→Prop))(h1:AF P n (mP P n p s X' H' R' B' F' ds (MT P n Q fs)) ds X R B Fs (.code c) [] σ H)
   (h2:∀x,p x→AF P n Q ds (X' x) (R' x) (B' x) (F' x) (.out .normal) fs (s x) (H' x)):AF P n Q ds X R B Fs (.code c) fs σ H:=fun w f hM a ha=>by
 refine wp_mono (h1 w f hM a ha) fun e a' w' he=>?_
 cases e with
 |normal =>
   obtain⟨σ',ds',hs,x,hp,rfl,hl,f',hm⟩:=he
   exact⟨s x,_,hs.le hl,h2 x hp w' f' hm⟩
 |panic c=>exact he
 |outgrown=>exact he
 |ret=>exact he
 |exit i=>exact he
 |goto i=>exact he
theorem L2{α:Type}{p:α→Prop}{s:α→Bo}{X':α→Cx}{H':α→List HB}{R':α→List RB}{B':α→List FB}{F':α→List (World→Fq→Prop)}(x:α)(hp:p x)(hl:Le (s x) σ)(hM:∀w f,AX X w f H R B Fs→∃f,AX (X' x) w f (H' x) (R' x) (B' x) (F' x)):AF P n (mP P n p s X' H' R' B' F' ds Q) ds X R B Fs (.out .normal) [] σ H :=
 fun w f hm=>⟨x,hp,rfl,hl,hM w f hm⟩
end
end Go.SW
namespace Go.SP
open Go.SW Go.RowKit
def KO(f:BJ→Ty→Ty→Except Int (Nat×BJ))(b:BJ)(x y:T1)(r q:Ty):Except Int (Nat×BJ) :=
 match x,y with
 |.var n,.var m=>if n==m then f b r q else (match Cl b n (.var m) with|.error e=>.error e|.ok b'=>f b' r q)
 |.var n,.con ty kb=>(match Cl b n (.con ty kb) with|.error e=>.error e|.ok b'=>f b' r q)
 |.con tx ka,.var m=>(match Cl b m (.con tx ka) with|.error e=>.error e|.ok b'=>f b' r q)
 |.con tx ka,.con ty kb=>if !(tx==ty)||(ka.len:Int) != kb.len then .error 11 else f b (ka.app r) (kb.app q)
def GX:Nat→BJ→Ty→Ty→Except Int (Nat×BJ)
 |k,b,.nil,_=>.ok (k,b)
 |0,_,.var _ _,_=>.error 4
 |0,_,.con _ _ _,_=>.error 4
 |k+1,b,.var n r,y=>KO (GX k) b (Ak b (.var n)) (Ak b y.hd) r y.tl
 |k+1,b,.con tx ka r,y=>KO (GX k) b (.con tx ka) (Ak b y.hd) r y.tl
def oP{α β:Type}(g:α→β):Except Int α→Except Int β
 |.error e=>.error e
 |.ok x=>.ok (g x)
def Rp{α β:Type}(g:α→Except Int β):Except Int α→Except Int β
 |.error e=>.error e
 |.ok x=>g x
theorem Sp:∀(k:Nat)(b:BJ)(x y:Ty),J5 k b x y=oP (·.2) (GX k b x y):=by
 intro k
 induction k with
 |zero=>intro b x y;cases x <;> rfl
 |succ k ih =>
   have h1:∀b x y r q,Hj (J5 k) b x y r q=oP (·.2) (KO (GX k) b x y r q):=by
     intro b x y r q
     cases x with
     |var n =>
       cases y with
       |var m =>
         simp only[Hj,KO]
         cases (n==m) with
         |true=>simp only[if_true];exact ih _ _ _
         |false =>
           simp only[Bool.false_eq_true,if_false]
           cases Cl b n (.var m) with
           |error e=>rfl
           |ok b'=>exact ih _ _ _
       |con ty kb =>
         simp only[Hj,KO]
         cases Cl b n (.con ty kb) with
         |error e=>rfl
         |ok b'=>exact ih _ _ _
     |con tx ka =>
       cases y with
       |var m =>
         simp only[Hj,KO]
         cases Cl b m (.con tx ka) with
         |error e=>rfl
         |ok b'=>exact ih _ _ _
       |con ty kb =>
         simp only[Hj,KO]
         split
         · rfl
         · exact ih _ _ _
   intro b x y
   cases x with
   |nil=>rfl
   |var n r=>exact h1 _ _ _ _ _
   |con tx ka r=>exact h1 _ _ _ _ _
theorem T1.hd_cons(t:T1)(r:Ty):(t.cons r).hd=t:=by cases t <;> rfl
theorem T1.tl_cons(t:T1)(r:Ty):(t.cons r).tl=r:=by cases t <;> rfl
theorem bR(k:Nat)(b:BJ)(x:T1)(r y:Ty):GX (k+1) b (x.cons r) y=KO (GX k) b (Ak b x) (Ak b y.hd) r y.tl:=by cases x <;> rfl
theorem kC:∀(k:Nat)(b:BJ)(x y r q:Ty),x.len=y.len→GX k b (x.app r) (y.app q)=Rp (fun z=>GX z.1 z.2 r q) (GX k b x y):=by
 intro k
 induction k with
 |zero =>
   intro b x y r q h
   cases x with
   |nil =>
     have:y=.nil:=Ty.len0 (by simpa[Ty.len] using h.symm)
     subst this
     rfl
   |var n x=>rfl
   |con tx ka x=>rfl
 |succ k ih =>
   have h1:∀b u v x y r q,x.len=y.len→KO (GX k) b u v (x.app r) (y.app q)=Rp (fun z=>GX z.1 z.2 r q) (KO (GX k) b u v x y):=by
     intro b u v x y r q h
     cases u with
     |var n =>
       cases v with
       |var m =>
         simp only[KO]
         cases (n==m) with
         |true=>simp only[if_true];exact ih _ _ _ _ _ h
         |false =>
           simp only[Bool.false_eq_true,if_false]
           cases Cl b n (.var m) with
           |error e=>rfl
           |ok b'=>exact ih _ _ _ _ _ h
       |con ty kb =>
         simp only[KO]
         cases Cl b n (.con ty kb) with
         |error e=>rfl
         |ok b'=>exact ih _ _ _ _ _ h
     |con tx ka =>
       cases v with
       |var m =>
         simp only[KO]
         cases Cl b m (.con tx ka) with
         |error e=>rfl
         |ok b'=>exact ih _ _ _ _ _ h
       |con ty kb =>
         simp only[KO]
         split
         · rfl
         · rename_i hc
           have hl:ka.len=kb.len:=by
             simp only[Bool.or_eq_true,not_or,bne_iff_ne,ne_eq,Decidable.not_not] at hc
             omega
           rw[← Ty.app_assoc,← Ty.app_assoc]
           exact ih _ _ _ _ _ (by rw[Ty.len_app,Ty.len_app,hl,h])
   intro b x y r q h
   cases x with
   |nil =>
     have:y=.nil:=Ty.len0 (by simpa[Ty.len] using h.symm)
     subst this
     rfl
   |var n x =>
     obtain⟨u,y,rfl⟩:=Ty.cases1 y (by rw[← h];simp[Ty.len])
     have e1:(u.cons y).app q=u.cons (y.app q):=by cases u <;> rfl
     rw[e1]
     show KO (GX k) b (Ak b (.var n)) (Ak b (u.cons (y.app q)).hd) (x.app r) (u.cons (y.app q)).tl=Rp _ (KO (GX k) b (Ak b (.var n)) (Ak b (u.cons y).hd) x (u.cons y).tl)
     rw[T1.hd_cons,T1.tl_cons,T1.hd_cons,T1.tl_cons]
     exact h1 _ _ _ _ _ _ _ (by rw[T1.len_cons] at h;simpa[Ty.len] using h)
   |con tx ka x =>
     obtain⟨u,y,rfl⟩:=Ty.cases1 y (by rw[← h];simp[Ty.len])
     have e1:(u.cons y).app q=u.cons (y.app q):=by cases u <;> rfl
     rw[e1]
     show KO (GX k) b (.con tx ka) (Ak b (u.cons (y.app q)).hd) (x.app r) (u.cons (y.app q)).tl=Rp _ (KO (GX k) b (.con tx ka) (Ak b (u.cons y).hd) x (u.cons y).tl)
     rw[T1.hd_cons,T1.tl_cons,T1.hd_cons,T1.tl_cons]
     exact h1 _ _ _ _ _ _ _ (by rw[T1.len_cons] at h;simpa[Ty.len] using h)
theorem R5(k:Nat)(b:BJ)(x y:T1)(r q:Ty)(h:r.len=q.len):GX k b (x.cons r) (y.cons q)=Rp (fun z=>GX z.1 z.2 r q) (GX k b x.one y.one):=by
 rw[← T1.one_app,← T1.one_app]
 exact kC k b x.one y.one r q (by unfold T1.one;rw[T1.len_cons,T1.len_cons])
theorem KL(k:Nat)(b:BJ)(x y:T1):GX (k+1) b x.one y.one=KO (GX k) b (Ak b x) (Ak b y) .nil .nil:=by
 unfold T1.one
 rw[bR,T1.hd_cons,T1.tl_cons]
theorem ZV(b:BJ)(x y:T1):GX 0 b x.one y.one=.error 4:=by cases x <;> rfl
theorem Oo{s:BJ}(hw:OW s):∀(k:Nat)(t:T1)(n:Int),Ez s t≤k→Iu s k t=.var n→Cm s n=none
 |0,.con _ _,_,_,h=>by cases h
 |0,.var m,n,hr,h=>by
   cases h
   cases hl:Cm s m with
   |none=>rfl
   |some t=>have:=Jr hw hl;omega
 |k+1,.con _ _,_,_,h=>by cases h
 |k+1,.var m,n,hr,h=>by
   simp only[Iu] at h
   cases hl:Cm s m with
   |none=>rw[hl] at h;cases h;exact hl
   |some t =>
     rw[hl] at h
     exact Oo hw k t n (by have:=Jr hw hl;omega) h
theorem IK{s:BJ}(hw:OW s){t:T1}{n:Int}(h:Ak s t=.var n):Cm s n=none:=Oo hw _ t n (by have:=Vn s t;omega) h
theorem FT{s:BJ}(hw:Ji s){t:T1}{n:Int}(h:Ak s t=.var n):Cm s n=none:=IK hw.v h
theorem I0{s:BJ}(hw:OW s)(t:T1):Ak s (Ak s t)=Ak s t:=by
 cases h:Ak s t with
 |con tx k=>exact GV s tx k
 |var n=>exact ET (IK hw h)
theorem Mc{s:BJ}(hw:Ji s)(t:T1):Ak s (Ak s t)=Ak s t:=I0 hw.v t
theorem PL{s s':BJ}(hw:Ji s){n:Int}{t:T1}(hn:Cm s n=none)(ht:Ak s t=t)(hb:t.bnd)(h:Cl s n t=.ok s'):Ji s':=by
 unfold Cl at h
 split at h
 · split at h
   · rename_i hs hf
     cases h
     refine⟨hn,fun m hm=>?_,hb,hw⟩
     subst hm
     refine⟨fun e=>?_,FT hw ht⟩
     have:=HY s n 999 (.var m)
     rw[hf,ht,e] at this
     simp[Tz] at this
   · cases h
 · cases h
def dJ(P:Program)(fid:FuncId)(T:TypeId)(k:Nat):Prop:=∀(w:World)(f:Fq)(_:Vl w f)(sb mb:Nat)(s:BJ)(fr:Int),BL T sb mb s fr (10000-(k:Int)) w f→(f sb=0∧f mb=0)→sb≠mb→Ji s→k≤10000→∀(t u:T1)(a:Option Addr)(c:Nat)(a2:Option Addr)(c2:Nat),t.bnd→u.bnd→Ah w f t.kids a c→Ah w f u.kids a2 c2 →
 BF P fid #[.pointer (some ⟨sb,0,none⟩),tV t a c,tV u a2 c2] w (Fl (α:=Int×BJ×Int) (fun x=>.int .i64 x.1) (fun x=>(∀z,GX k s t.one u.one=.ok z→x.1=0∧x.2.1=z.2∧x.2.2=10000-(z.1:Int)∧Ji z.2)∧∀e,GX k s t.one u.one=.error e→x.1=e∧e≠0) (Mu sb mb) (fun x=>BL T sb mb x.2.1 fr x.2.2) (fun _=>[]) w f)
theorem nJ:∀(k:Nat)(b:BJ)(x y:Ty)(z:Nat×BJ),GX k b x y=.ok z→z.1≤k:=by
 intro k
 induction k with
 |zero=>intro b x y z h;cases x <;> cases h;exact Nat.le_refl _
 |succ k ih =>
   have h1:∀b u v r q z,KO (GX k) b u v r q=.ok z→z.1≤k:=by
     intro b u v r q z h
     unfold KO at h
     repeat' split at h
     all_goals first|exact ih _ _ _ _ h|cases h
   intro b x y z h
   cases x with
   |nil=>cases h;exact Nat.le_refl _
   |var n r=>have:=h1 _ _ _ _ _ _ h;omega
   |con tx ka r=>have:=h1 _ _ _ _ _ _ h;omega
end Go.SP
namespace Go.SP
theorem Qn{s:BJ}{n:Int}{t:T1}{e:Int}(h:Cl s n t=.error e):e≠0:=by
 unfold Cl at h
 split at h
 · split at h
   · cases h
   · cases h;decide
 · cases h;decide
end Go.SP
namespace Go.SP
open Go.SW Go.RowKit
theorem Hv(s:BJ)(k:Nat):AR s k .nil=.nil:=by cases k <;> rfl
theorem O9{s:BJ}:∀(k:Nat)(x:Ty)(j:Nat),BA s k x=some j→∀m,k-j≤m→AR s m x=AR s k x:=by
 intro k
 induction k using Nat.strongRecOn with
 |_ k ih =>
   intro x j h m hm
   have key:∀(k' m':Nat)(ks r:Ty),k'<k→BA s k' (ks.app r)=some j→k'-j≤m'→AR s m' ks=AR s k' ks∧AR s m' r=AR s k' r:=by
     intro k' m' ks r hk hr hm'
     rw[I8] at hr
     cases hj:BA s k' ks with
     |none=>rw[hj] at hr;cases hr
     |some j1 =>
       rw[hj] at hr
       have hr:BA s j1 r=some j:=hr
       have h1:=E1 s _ _ _ hj
       have h2:=E1 s _ _ _ hr
       exact⟨ih k' hk ks j1 hj m' oM,(ih j1 oM r j hr m' oM).trans (ih j1 oM r j hr k' oM).symm⟩
   cases x with
   |nil=>rw[Hv,Hv]
   |var n r =>
     cases k with
     |zero=>cases h
     |succ k =>
       simp only[BA] at h
       cases hh:Ak s (.var n) with
       |var q =>
         rw[hh] at h
         have h3:=E1 s _ _ _ h
         obtain⟨m,rfl⟩:∃m',m=m'+1:=⟨m-1,oM⟩
         simp only[AR,hh]
         rw[(key k m .nil r (by omega) h (by omega)).2]
       |con tx ks =>
         rw[hh] at h
         have h3:=E1 s _ _ _ h
         obtain⟨m,rfl⟩:∃m',m=m'+1:=⟨m-1,oM⟩
         simp only[AR,hh]
         have:=key k m ks r oM h oM
         rw[this.1,this.2]
   |con tx ks r =>
     cases k with
     |zero=>cases h
     |succ k =>
       simp only[BA] at h
       have h3:=E1 s _ _ _ h
       obtain⟨m,rfl⟩:∃m',m=m'+1:=⟨m-1,oM⟩
       simp only[AR]
       have:=key k m ks r oM h oM
       rw[this.1,this.2]
theorem MW{s:BJ}(k:Nat)(t:T1):(AR s (k+1) t.one).hd=(match Ak s t with|.var m=>.var m|.con tx ks=>.con tx (AR s k ks)):=by
 cases t with
 |var n =>
   simp only[T1.one,T1.cons,AR]
   cases Ak s (.var n) <;> rfl
 |con tx ks=>rw[GV];rfl
theorem LY{s:BJ}{k:Nat}{t:T1}{r:Ty}{j j2:Nat}(h:BA s k t.one=some j)(h2:BA s j r=some j2):AR s k (t.cons r)=(AR s k t.one).hd.cons (AR s j r):=by
 cases k with
 |zero=>rw[Lj] at h;cases h
 |succ k =>
   have h3:j≤k:=by rw[Kh] at h;exact E1 s _ _ _ h
   have hf:=O9 j r j2 h2 k oM
   rw[MW]
   cases t with
   |var n =>
     simp only[T1.cons,AR]
     cases Ak s (.var n) with
     |var m=>simp only[T1.cons];rw[hf]
     |con tx ks=>simp only[T1.cons];rw[hf]
   |con tx ks=>rw[GV];simp only[T1.cons,AR];rw[hf]
theorem VC{s:BJ}(hw:Ji s):∀(k:Nat)(x:Ty),x.bnd→(AR s k x).bnd∧(AR s k x).len≤x.len:=by
 intro k
 induction k with
 |zero=>intro x _;cases x <;> exact⟨trivial,Nat.zero_le _⟩
 |succ k ih =>
   intro x hx
   cases x with
   |nil=>exact⟨trivial,Nat.le_refl _⟩
   |var n r =>
     have h1:=C8 hw (t:=.var n) ⟨⟨Nat.zero_le _,Nat.zero_le _⟩,trivial⟩
     have h2:=ih r hx
     simp only[AR]
     cases hh:Ak s (.var n) with
     |var m=>exact⟨h2.1,by simp only[Ty.len];omega⟩
     |con tx ks =>
       rw[hh] at h1
       have h3:=ih ks h1.2
       exact⟨⟨⟨Nat.le_trans h3.2 h1.1.1,h1.1.2⟩,h3.1,h2.1⟩,by simp only[Ty.len];omega⟩
   |con tx ks r =>
     have h2:=ih r hx.2.2
     have h3:=ih ks hx.2.1
     exact⟨⟨⟨Nat.le_trans h3.2 hx.1.1,hx.1.2⟩,h3.1,h2.1⟩,by simp only[AR,Ty.len];omega⟩
theorem GK{t:T1}(h:t.bnd):t.one.bnd:=T1.bnd_cons.2 ⟨h,trivial⟩
theorem Yo{x:Ty}(h:x.bnd):x.hd.bnd:=by
 cases x with
 |nil=>exact⟨⟨Nat.zero_le _,Nat.zero_le _⟩,trivial⟩
 |var n r=>exact⟨⟨Nat.zero_le _,Nat.zero_le _⟩,trivial⟩
 |con tx k r=>exact⟨h.1,h.2.1⟩
theorem Z6{s:BJ}(hw:Ji s){t:T1}(h:t.bnd)(k:Nat):(AR s k t.one).hd.bnd:=Yo (VC hw k _ (GK h)).1
def cQ(P:Program)(fid:FuncId)(T:TypeId)(k:Nat):Prop:=∀(w:World)(f:Fq)(_:Vl w f)(sb mb:Nat)(s:BJ)(fr pr:Int),BL T sb mb s fr pr w f→Ji s→∀(t:T1)(a:Option Addr)(c j:Nat),t.bnd→Ah w f t.kids a c→BA s k t.one=some j →
 BF P fid #[.pointer (some ⟨sb,0,none⟩),tV t a c] w (BV (α:=Option Addr×Nat) (fun x=>tV (AR s k t.one).hd x.1 x.2) (fun _=>True) (fun x=>[fun w f=>Ah w f (AR s k t.one).hd.kids x.1 x.2]) w f)
end Go.SP
namespace Go.SP
open Go.SW Go.RowKit
theorem Ah.get{w:World}{f:Fq}{t:T1}:∀{k:Ty}{b off i:Nat},Jd w f k b off→k.get i=some t→∃ka kc,Cs w f b (off+i*4) (tC t ka kc)∧Ah w f t.kids ka kc
 |k,b,off,0,h,hi=>by
   obtain⟨t2,r,rfl⟩:∃t r,k=T1.cons t r:=by
     cases k with
     |nil=>cases hi
     |var n r=>exact⟨.var n,r,rfl⟩
     |con tx q r=>exact⟨.con tx q,r,rfl⟩
   have e:t2=t:=by cases t2 <;> (cases hi;rfl)
   subst e
   obtain⟨b2,off2,ka,kc,h1,h2,h3,_⟩:=AW.head (a:=some ⟨b,off,none⟩) (i:=0) (.inr ⟨b,off,rfl,by simpa using h⟩)
   cases h1
   exact⟨ka,kc,by simpa using h2,h3⟩
 |k,b,off,i+1,h,hi=>by
   obtain⟨t2,r,rfl⟩:∃t r,k=T1.cons t r:=by
     cases k with
     |nil=>cases hi
     |var n r=>exact⟨.var n,r,rfl⟩
     |con tx q r=>exact⟨.con tx q,r,rfl⟩
   have e:r.get i=some t:=by cases t2 <;> exact hi
   obtain⟨b2,off2,ka,kc,h1,_,_,h4⟩:=AW.head (a:=some ⟨b,off,none⟩) (i:=0) (.inr ⟨b,off,rfl,by simpa using h⟩)
   rcases h4 with rfl|⟨b3,off3,h5,h6⟩
   · cases e
   · cases h5
     obtain⟨ka,kc,h7,h8⟩:=Ah.get h6 e
     exact⟨ka,kc,by rw[show off+(i+1)*4=off+(0+1)*4+i*4 by omega];exact h7,h8⟩
theorem Ah.nth{w:World}{f:Fq}{t:T1}{k:Ty}{a:Option Addr}{c i:Nat}(h:Ah w f k a c)(hi:k.get i=some t):∃b off ka kc,a=some ⟨b,off,none⟩∧Cs w f b (off+i*4) (tC t ka kc)∧Ah w f t.kids ka kc:=by
 rcases h.2 with rfl|⟨b,off,h1,h2⟩
 · cases hi
 · obtain⟨ka,kc,h3,h4⟩:=Ah.get h2 hi
   exact⟨b,off,ka,kc,h1,h3,h4⟩
theorem HE{t:T1}:∀{k:Ty}{i:Nat},k.bnd→k.get i=some t→t.bnd
 |.nil,_,_,h=>by cases h
 |.var n r,0,_,h=>by cases h;exact⟨⟨Nat.zero_le _,Nat.zero_le _⟩,trivial⟩
 |.con tx q r,0,hb,h=>by cases h;exact⟨hb.1,hb.2.1⟩
 |.var n r,i+1,hb,h=>HE (k:=r) hb h
 |.con tx q r,i+1,hb,h=>HE (k:=r) hb.2.2 h
theorem Up{k:Ty}{i:Nat}(h:i<k.len):∃t,k.get i=some t:=by
 induction k generalizing i with
 |nil=>simp[Ty.len] at h
 |var n r ih=>cases i with
   |zero=>exact⟨_,rfl⟩
   |succ i=>exact ih (by simp only[Ty.len] at h;omega)
 |con tx q r _ ih=>cases i with
   |zero=>exact⟨_,rfl⟩
   |succ i=>exact ih (by simp only[Ty.len] at h;omega)
theorem YQ{k:Ty}{i:Nat}(h:k.len≤i):k.get i=none:=by
 induction k generalizing i with
 |nil=>rfl
 |var n r ih=>cases i with
   |zero=>simp[Ty.len] at h
   |succ i=>exact ih (by simp only[Ty.len] at h;omega)
 |con tx q r _ ih=>cases i with
   |zero=>simp[Ty.len] at h
   |succ i=>exact ih (by simp only[Ty.len] at h;omega)
theorem Pa(l:List Int)(y:Ty)(t:T1)(r:Ty):DQ l y (t.cons r)=(C9 t l y).cons (DQ l y r):=by
 cases t with
 |var n =>
   simp only[T1.cons,DQ,C9,T1.one]
   cases (DJ l n).bind y.get with
   |none=>rfl
   |some t=>cases t <;> rfl
 |con tx k=>rfl
theorem Ia{l:List Int}{y:Ty}(hy:y.bnd):∀x:Ty,x.bnd→(DQ l y x).bnd∧(DQ l y x).len=x.len
 |.nil,_=>⟨trivial,rfl⟩
 |.var n r,hx=>by
   have h2:=Ia (l:=l) hy r hx
   simp only[DQ]
   cases hg:(DJ l n).bind y.get with
   |none=>exact⟨h2.1,by simp only[Ty.len];omega⟩
   |some t =>
     obtain⟨i,_,hi⟩:=Option.bind_eq_some_iff.1 hg
     exact⟨T1.bnd_cons.2 ⟨HE hy hi,h2.1⟩,by rw[T1.len_cons];simp only[Ty.len];omega⟩
 |.con tx k r,hx=>by
   have h2:=Ia (l:=l) hy r hx.2.2
   have h3:=Ia (l:=l) hy k hx.2.1
   exact⟨⟨⟨by rw[h3.2];exact hx.1.1,hx.1.2⟩,h3.1,h2.1⟩,by simp only[DQ,Ty.len];omega⟩
theorem JF{l:List Int}{y:Ty}(hy:y.bnd){t:T1}(h:t.bnd):(C9 t l y).bnd:=Yo (Ia hy _ (GK h)).1
theorem N0{l:List Int}{y:Ty}{n:Int}:C9 (.var n) l y=((DJ l n).bind y.get).getD (.var n):=by
 simp only[C9,T1.one,T1.cons,DQ]
 cases (DJ l n).bind y.get with
 |none=>rfl
 |some t=>cases t <;> rfl
theorem Yi{l:List Int}{y:Ty}{tx:List UInt8}{k:Ty}:C9 (.con tx k) l y=.con tx (DQ l y k):=rfl
def cN(P:Program)(fid:FuncId)(m:Nat):Prop:=∀(w:World)(f:Fq)(_:Vl w f)(l:List Int)(la:Option Addr)(lc:Nat)(y:Ty)(ya:Option Addr)(yc:Nat),l.length≤1000000→y.len≤200000→y.bnd→BN w f l la lc→Ah w f y ya yc→∀(t:T1)(a:Option Addr)(c:Nat),t.kids.size<m→t.bnd→Ah w f t.kids a c →
 BF P fid #[tV t a c,.slice la l.length lc,.slice ya y.len yc] w (BV (α:=Option Addr×Nat) (fun x=>tV (C9 t l y) x.1 x.2) (fun _=>True) (fun x=>[fun w f=>Ah w f (C9 t l y).kids x.1 x.2]) w f)
end Go.SP
namespace Go.SW
open Go.RowKit
section
variable{X:Cx}{w w':World}{f f':Fq}{H:List HB}{R:List RB}{B:List FB}{Fs:List (World→Fq→Prop)}
theorem AX.callJ{MI':Nat→Prop}{I':World→Fq→Prop}(h:AX X w f H R B Fs)(he:CM X.MI w f w' f')(hI:I' w' f')(hst:Gr MI' I')(hmi:∀b,MI' b→X.MI b∨(w.heap.size≤b∧b<w'.heap.size∧f' b=0)):AX {X with MI:=MI',I:=I' } w' f' H R B Fs :=
 have h1:AX {X with I:=fun _ _=>True} w' f' H R B Fs:=h.callI he trivial (fun _ _ _ _ _ _ _=>trivial)
 {h1 with
   res:=hI,stab:=hst,
   mi:=fun b hb=>by
     rcases hmi b hb with hb|⟨h2,h3,h4⟩
     · exact h1.mi b hb
     · exact⟨h3,h4,.inl (Nat.le_trans h.stp.size h2)⟩,
   own:=fun b hb=>⟨(h1.own b hb).1,(h1.own b hb).2.1,fun hm=>by
     rcases hmi b hm with hm|⟨h2,_,_⟩
     · exact (h1.own b hb).2.2 hm
     · exact Nat.lt_irrefl _ (Nat.lt_of_lt_of_le (h.lt hb) h2)⟩}
end
def O0{α:Type}(val:α→Value)(q:α→Prop)(M:Nat→Prop)(MI':α→Nat→Prop)(I':α→World→Fq→Prop)(F':α→List (World→Fq→Prop))(w:World)(f:Fq)(v:Value)(w':World):Prop:=∃x f',v=val x∧q x∧CM M w f w' f'∧(∀b,MI' x b→M b∨(w.heap.size≤b∧b<w'.heap.size∧f' b=0))∧I' x w' f'∧A1 (F' x) w' f'
section
variable{P:Program}{n:Nat}{Q:Bk}{ds:List Deferred}{X:Cx}{R:List RB}{B:List FB}{Fs:List (World→Fq→Prop)}{fs:List Fr}{σ:Bo}{H:List HB}
variable{all r:List Oper}{ty T:TypeId}{pos:String}{af:Array Edge}{g:Option (Nat×Bool)}{d:Nat}{x y:Operand}
theorem bG{op:Op}{fid:FuncId}{args:Array Value}{α:Type}{val:α→Value}{q:α→Prop}{MI':α→Nat→Prop}{I':α→World→Fq→Prop}{F':α→List (World→Fq→Prop)}{XX:List PanicEntry→World→Prop}
   (hg:gd all σ g=some true) (hd:Nat.blt d n=true) (he:∀w,Enters P σ op ty w fid args)
   (hc:∀w f,AX X w f H R B Fs→BQ P fid args w (O0 val q X.MI MI' I' F' w f) XX) (hst:∀x,Gr (MI' x) (I' x)) (hm:∀x,Af (F' x))
   (hp:∀w f c w',AX X w f H R B Fs→XX c w'→Q.p c σ ds w')
   (h:∀x,q x→AF P n Q ds {X with MI:=MI' x,I:=I' x} R B (F' x++Fs) (.ops all r) fs (AL σ d (val x)) H):AF P n Q ds X R B Fs (.ops all (⟨some d,op,ty,pos,af,g⟩::r)) fs σ H:=fun w f hM=>by
 refine BD hg (Cf hd (he w) (hc w f hM) ?_ ?_)
 · rintro v w' ⟨x,f',rfl,hq,hE,hmi,hI,hF⟩
   exact h x hq w' f' ((hM.callJ hE hI (hst x) hmi).more (B':=[]) (fun _ h=>by cases h) hF.mem (hm x).mem)
 · intro c w' hX
   rw[Mo]
   exact hp w f c w' hM hX
theorem SC{e:TypeId}{size bytes:Nat}{zl:List Value}{a:Option Addr}{c k cs src:Nat}{xs news:List Value}{Ts:TypeId}{nw:Bool}{MI':Option Addr→Nat→Prop}{I':Option Addr→Nat→World→Fq→Prop}(j:Nat)(hg:gd all σ g=some true)(hd:Nat.blt d n=true)(hT:Oq P T=some (e,size,bytes,zl))(hzl:Nat.beq zl.length size=true)(hsz:Nat.blt 0 size=true)
   (hs:ev σ x=some (.slice a k c)) (hx:ev σ y=some (.slice (some ⟨src,0,none⟩) 1 cs)) (hH:HM H j=some ⟨src,news,Ts,nw⟩) (hl:Nat.beq news.length size=true) (h1:Ms news=true) (h47:(k+1)*bytes≤140737488355328) (h63:k+1≤9223372036854775807)
   (hrow:∀w f,X.I w f→Ck w e size a c k xs) (hmi:∀b,rb a=some b→X.MI b) (hMI:∀a' b,MI' a' b→X.MI b∨rb a'=some b) (hI:∀w f w' a' c',X.I w f→AX X w f H R B Fs→Ck w' e size a' c' (k+1) (xs++news)→G4 a w a' w'→I' a' c' w' f) (hst:∀a' c',Gr (MI' a') (I' a' c'))
   (h:∀a' c',AF P n Q ds {X with MI:=MI' a',I:=I' a' c' } R B Fs (.ops all r) fs (AL σ d (.slice a' (k+1) c')) H) :
   AF P n Q ds X R B Fs (.ops all (⟨some d,.call {callee:=.builtin .append,args:=#[x,y],argTypes:=#[T,T]},ty,pos,af,g⟩::r)) fs σ H:=fun w f hM =>
 BD hg (Be hd hT hzl hsz hs hx (hrow w f hM.res) (hM.blk _ (Cb hH)) hl h1 h47 h63 fun a' c' w' hr hG=>h a' c' w' f (hM.callJ ⟨⟨hG.os,hG.tape,hG.output,hG.size,fun b hb hm=>hG.block b hb fun e=>hm (hmi b e.symm)⟩,fun _ _=>rfl,fun b hb=>hM.val b (Nat.le_trans hG.size hb)⟩ (hI w f w' a' c' hM.res hM hr hG) (hst a' c') fun b hb=>by
   rcases hMI a' b hb with hb|hb
   · exact .inl hb
   · rcases hG.own with ho|ho
     · exact .inl (hmi b (ho.symm.trans hb))
     · have e:b=w.heap.size:=Option.some.inj (hb.symm.trans ho)
       subst e
       exact .inr ⟨Nat.le_refl _,hr.lt hb,hM.val _ (Nat.le_refl _)⟩))
end
theorem CM.done{M:Nat→Prop}{w w':World}{f f':Fq}{b:Nat}(h:CM M w f w' f')(hb:w.heap.size≤b)(hl:b<w'.heap.size)(n:Nat):CM M w f w' (fun k=>if k=b then n else f' k) :=
 ⟨h.stp,fun k hk=>by show (if k=b then n else f' k)=f k;rw[if_neg (by omega)];exact h.old k hk,fun k hk=>by show (if k=b then n else f' k)=0;rw[if_neg (by omega)];exact h.val k hk⟩
end Go.SW
namespace Go.SP
open Go.SW Go.RowKit
def HF(l:List Int):List (Int×Value):=l.reverse.map fun n=>(n,.bool true)
theorem P9(n:Int):∀l:List Int,FC (l.map fun n=>(n,Value.bool true)) n=if l.contains n then some (.bool true) else none
 | []=>rfl
 |k::l=>by
   have:=P9 n l
   simp only[List.map,FC,List.contains_cons]
   by_cases hk:n=k
   · subst hk;simp
   · have e:(n==k)=false:=by simpa using hk
     rw[e,this];simp
theorem TU(n:Int)(l:List Int):FC (HF l) n=if l.contains n then some (.bool true) else none:=by
 unfold HF;rw[P9];simp
theorem Sz:∀l:List Int,l.Nodup→KP (l.map fun n=>(n,Value.bool true))
 | [],_=>trivial
 |k::l,h=>by
   have h':=List.nodup_cons.1 h
   refine⟨?_,Sz l h'.2⟩
   rw[P9,if_neg]
   simpa using h'.1
theorem Lx{l:List Int}(h:l.Nodup):KP (HF l):=Sz _ ((List.reverse_perm l).nodup_iff.2 h)
def M6(ob mb:Nat)(a:Option Addr)(b:Nat):Prop:=b=ob∨b=mb∨rb a=some b
structure Ef(T:TypeId)(ob mb:Nat)(sl:Value)(lm:List Int)(a:Option Addr)(c:Nat)(l:List Int)(w:World)(f:Fq):Prop where
 blk:AQ w ob [sl] T
 map:Ci Fp w mb (HF lm)
 row:Ck w 3 1 a c l.length (l.map fun n=>.int .i64 n)
 ne:ob≠mb∧rb a≠some ob∧rb a≠some mb
 nd:lm.Nodup
theorem Ef.stab{T:TypeId}{ob mb:Nat}{sl:Value}{lm:List Int}{a:Option Addr}{c:Nat}{l:List Int}:Gr (M6 ob mb a) (Ef T ob mb sl lm a c l):=fun _ _ _ _ h hF hb =>
 ⟨(hb ob (.inl rfl)).trans h.blk,h.map.heap (hb mb (.inr (.inl rfl))),⟨h.row.1,h.row.2.imp id fun⟨b,q,h1,h2,h3⟩=>⟨b,q,h1,(hb b (.inr (.inr (by rw[h1];rfl)))).trans h2,h3⟩⟩,h.ne,h.nd⟩
abbrev Qt(T:TypeId)(ob mb:Nat)(a:Option Addr)(c:Nat)(l:List Int):World→Fq→Prop:=Ef T ob mb (.slice a l.length c) l a c l
theorem Ef.lt{T:TypeId}{ob mb:Nat}{sl:Value}{lm:List Int}{a:Option Addr}{c:Nat}{l:List Int}{w:World}{f:Fq}(h:Ef T ob mb sl lm a c l w f){b:Nat}(hb:M6 ob mb a b):b<w.heap.size:=by
 rcases hb with rfl|rfl|hb
 · exact h.blk.lt
 · exact h.map.lt
 · exact h.row.lt hb
theorem VP(t:T1)(r:Ty)(l:List Int):CR (t.cons r) l=CR r (CR t.one l):=by cases t <;> rfl
theorem Jv:∀(x:Ty)(l:List Int),(CR x l).length≤x.size+l.length
 |.nil,l=>by simp[CR]
 |.var n r,l=>by
   have:=Jv r (if l.contains n then l else l++[n])
   simp only[CR,Ty.size]
   split at this <;> simp_all <;> omega
 |.con tx k r,l=>by
   have h1:=Jv k l
   have h2:=Jv r (CR k l)
   simp only[CR,Ty.size]
   omega
def eP(P:Program)(fid:FuncId)(T:TypeId)(m:Nat):Prop:=∀(w:World)(f:Fq)(_:Vl w f)(ob mb:Nat)(a:Option Addr)(c:Nat)(l:List Int),Qt T ob mb a c l w f→(∀b,M6 ob mb a b→f b=0)→∀(t:T1)(ta:Option Addr)(tc:Nat),t.kids.size<m→t.kids.size+1+l.length≤1000000→t.bnd→Ah w f t.kids ta tc →
 BF P fid #[tV t ta tc,.map (some mb),.pointer (some ⟨ob,0,none⟩)] w (O0 (α:=Option Addr×Nat) (fun _=>.tuple #[]) (fun _=>True) (M6 ob mb a) (fun x=>M6 ob mb x.1) (fun x=>Qt T ob mb x.1 x.2 (CR t.one l)) (fun _=>[]) w f)
theorem Ef.int{T:TypeId}{ob mb:Nat}{sl:Value}{lm:List Int}{a:Option Addr}{c:Nat}{l:List Int}{w0 w:World}{f0 f:Fq}{M:Nat→Prop}(h:Ef T ob mb sl lm a c l w f)(hE:CM M w0 f0 w f)(hn:∀b,rb a=some b→w0.heap.size≤b):∃f',CM M w0 f0 w f'∧BN w f' l a c:=by
 obtain⟨hl,⟨ha,hc,hz⟩|⟨b,q,ha,hb,hmc,_,hq,ht⟩⟩:=h.row
 · exact⟨f,hE,oM,.inl (by cases l with|nil=>rfl|cons _ _=>simp at hz)⟩
 · refine⟨fun k=>if k=b then l.length else f k,hE.done (hn b (by rw[ha];rfl)) hb.lt _,hmc,.inr ⟨b,0,ha,fun j v hj=>?_⟩⟩
   have hj2:j<l.length:=by have:=(List.getElem?_eq_some_iff.1 hj).1;simpa using this
   refine⟨?_,?_⟩
   · show 0+j<(if b=b then l.length else f b)
     rw[if_pos rfl];omega
   · rw[Nat.zero_add,hb.cell]
     rw[← ht,List.getElem?_take] at hj
     split at hj
     · exact hj
     · cases hj
end Go.SP
namespace Go.SP
open Go.SW Go.RowKit
theorem UD(n:Int)(l:List Int):(FC (HF l) n).getD (.bool false)=.bool (l.contains n):=by
 rw[TU];cases l.contains n <;> rfl
theorem UW{n:Int}{l:List Int}(h:l.contains n=false):FC (HF l) n=none:=by rw[TU,h];rfl
theorem Pu(n:Int)(l:List Int):HF (l++[n])=(n,.bool true)::HF l:=by simp[HF]
section
variable{T:TypeId}{ob mb:Nat}{sl sl':Value}{lm l:List Int}{a a':Option Addr}{c c':Nat}{w w':World}{f f':Fq}{n:Int}
theorem Ef.app(h:Ef T ob mb sl lm a c l w f)(hr:Ck w' 3 1 a' c' (l.length+1) (l.map (fun n=>Value.int .i64 n)++[.int .i64 n]))(hG:G4 a w a' w'):Ef T ob mb sl lm a' c' (l++[n]) w' f' where
 blk:=h.blk.grow hG (fun e=>h.ne.2.1 e.symm)
 map:=h.map.heap (hG.block mb h.map.lt (fun e=>h.ne.2.2 e.symm))
 row:=by simpa using hr
 ne:=⟨h.ne.1,fun e=>hG.own.elim (fun o=>h.ne.2.1 (o.symm.trans e)) (fun o=>absurd h.blk.lt (by rw[← Option.some.inj (o.symm.trans e)];exact Nat.lt_irrefl _)),fun e=>hG.own.elim (fun o=>h.ne.2.2 (o.symm.trans e)) (fun o=>absurd h.map.lt (by rw[← Option.some.inj (o.symm.trans e)];exact Nat.lt_irrefl _))⟩
 nd:=h.nd
theorem Ck.chgB{e:TypeId}{size b:Nat}{a:Option Addr}{c n:Nat}{xs:List Value}(h:Ck w e size a c n xs)(hC:GS b w w')(hne:rb a≠some b):Ck w' e size a c n xs :=
 ⟨h.1,h.2.imp id fun⟨g,q,h1,h2,h3⟩=>⟨g,q,h1,(hC.block g (fun e=>hne (by rw[h1,← e];rfl))).trans h2,h3⟩⟩
theorem Ef.mapped{q:List Int}(h:Ef T ob mb sl l a c q w f)(hC:GS mb w w')(hm:Ci Fp w' mb ((n,.bool true)::HF l))(hn:l.contains n=false):Ef T ob mb sl (l++[n]) a c q w' f' where
 blk:=(hC.block ob h.ne.1).trans h.blk
 map:=by rw[Pu];exact hm
 row:=Ck.chgB h.row hC h.ne.2.2
 ne:=h.ne
 nd:=by
   have h9:n∉l:=by simpa using hn
   exact List.nodup_append.2 ⟨h.nd,List.nodup_cons.2 ⟨by simp,List.nodup_nil⟩,fun x hx y hy e=>by simp at hy;subst hy;subst e;exact h9 hx⟩
theorem Ef.store(h:Ef T ob mb sl lm a c l w f)(hC:GS ob w w')(hb:AQ w' ob [sl'] T):Ef T ob mb sl' lm a c l w' f' where
 blk:=hb
 map:=h.map.heap (hC.block mb (fun e=>h.ne.1 e.symm))
 row:=Ck.chgB h.row hC h.ne.2.1
 ne:=h.ne
 nd:=h.nd
end
theorem M6.or{ob mb:Nat}{a a':Option Addr}{b:Nat}(h:M6 ob mb a' b):M6 ob mb a b∨rb a'=some b:=h.elim (fun h=>.inl (.inl h)) fun h=>h.elim (fun h=>.inl (.inr (.inl h))) .inr
theorem Nq(n:Int)(l:List Int):CR (T1.var n).one l=if l.contains n then l else l++[n]:=rfl
theorem YX(tx:List UInt8)(k:Ty)(l:List Int):CR (T1.con tx k).one l=CR k l:=rfl
end Go.SP
namespace Go.SW
open Go.RowKit
section
variable{P:Program}{σ:Bo}{w:World}{ty T T':TypeId}{x y:Operand}
theorem aU{t t':TypeId}{k:IntKind}{a b:Int}(m:Int)(hx:ev σ x=some (.int k a))(hy:ev σ y=some (.int k b))(hb:b≠0)(h:k.wrap (a.tdiv b)=m):AO P σ (.binOp .quo t x y t') ty w (.int k m) w :=
 fun ρ _ _ _ _ hρ=>by simp[execOp,hρ _ _ hx,hρ _ _ hy,eqGuard,binOp,Op.intDiv,hb,h]
theorem aL{t t':TypeId}{k:IntKind}{a b:Int}(m:Int)(hx:ev σ x=some (.int k a))(hy:ev σ y=some (.int k b))(hb:b≠0)(h:a.tmod b=m):AO P σ (.binOp .rem t x y t') ty w (.int k m) w :=
 fun ρ _ _ _ _ hρ=>by simp[execOp,hρ _ _ hx,hρ _ _ hy,eqGuard,binOp,Op.intDiv,hb,h]
theorem gJ{k:IntKind}{n:Int}{l:List UInt8}(hx:ev σ x=some (.int k n))(hc:fW P T T'=true)(h:Utf8.encode n=⟨l.toArray⟩):AO P σ (.convert T T' x) ty w (S l) w:=by
 unfold fW at hc
 cases hs:P.underlying T with
 |none=>rw[hs] at hc;cases hc
 |some s =>
   cases hd:P.underlying T' with
   |none=>rw[hs,hd] at hc;cases hc
   |some d =>
     rw[hs,hd] at hc
     cases d <;> simp at hc
     exact fun ρ _ _ _ _ hρ=>by
       simp[execOp,hρ _ _ hx,convert,run_underlying hs,run_underlying hd,Conv.intToString,h,S]
end
theorem AX.toRow{X:Cx}{w:World}{f:Fq}{H H':List HB}{R:List RB}{B:List FB}{Fs:List (World→Fq→Prop)}{i b:Nat}{l:List Value}{T:TypeId}(h:AX X w f H R B Fs)(hg:HM H i=some ⟨b,l,T,true⟩)(hs:Ll H i=some H')(size c:Nat)(hl:l.length=c*size)(hc:c≤maxLen):AX X w f H' (⟨T,size,some ⟨b,0,none⟩,c,c,l⟩::R) B Fs:=by
 have hblk:AQ w b l T:=h.blk _ (Cb hg)
 have hmem:b∈CP H R:=List.mem_append.2 (.inl (List.mem_map.2 ⟨_,Cb hg,rfl⟩))
 have hown:=h.own b hmem
 have hsub:=KT hs
 have hnd:(H.map HB.b++Jo R).Nodup:=h.nd
 have hbR:b∉CP H' R:=Ls (L:=Jo R) hg hs hnd
 have hso:(CP H' R).Sublist (CP H R):=List.Sublist.append (hsub.map _) (List.Sublist.refl _)
 have hp:∀k,k∈CP H' (⟨T,size,some ⟨b,0,none⟩,c,c,l⟩::R)→k=b∨k∈CP H' R:=fun k hk=>by
   have hk':k∈H'.map HB.b++b::R.filterMap (fun r=>rb r.a):=hk
   rcases List.mem_append.1 hk' with hk' | hk'
   · exact .inr (List.mem_append.2 (.inl hk'))
   · rcases List.mem_cons.1 hk' with rfl|hk'
     · exact .inl rfl
     · exact .inr (List.mem_append.2 (.inr hk'))
 exact {h with
         blk:=fun e he=>h.blk e (hsub.subset he),
         row:=fun r hr=>by
           rcases List.mem_cons.1 hr with rfl|hr
           · exact⟨hl,.inr ⟨b,l,rfl,hblk,Nat.le_refl _,hc,hl,by rw[← hl];exact List.take_length⟩⟩
           · exact h.row r hr,
         nd:=by
           show (H'.map HB.b++b::R.filterMap (fun r=>rb r.a)).Nodup
           exact List.perm_middle.nodup_iff.2 (List.nodup_cons.2 ⟨hbR,hso.nodup h.nd⟩),
         own:=fun k hk=>by
           rcases hp k hk with rfl|hk
           · exact hown
           · exact h.own k (hso.subset hk),
         hnw:=fun e he=>h.hnw e (hsub.subset he),
         rnw:=fun r hr k hk=>by
           rcases List.mem_cons.1 hr with rfl|hr
           · cases hk;exact h.hnw _ (Cb hg) rfl
           · exact h.rnw r hr k hk}
theorem lW{P:Program}{n:Nat}{Q:Bk}{ds:List Deferred}{X:Cx}{R:List RB}{B:List FB}{Fs:List (World→Fq→Prop)}{fs:List Fr}{σ:Bo}{H H':List HB}{k:M5}{b:Nat}{l:List Value}{T:TypeId}(i size c:Nat)(hg:HM H i=some ⟨b,l,T,true⟩)(hs:Ll H i=some H')(hl:Nat.beq l.length (c*size)=true)(hc:c≤maxLen)
   (h:AF P n Q ds X (⟨T,size,some ⟨b,0,none⟩,c,c,l⟩::R) B Fs k fs σ H'):AF P n Q ds X R B Fs k fs σ H:=fun w f hM=>h w f (hM.toRow hg hs size c (Nat.eq_of_beq_eq_true hl) hc)
theorem Below.exm{w w':World}{f:Fq}(h:Below w.heap.size w w')(hv:∀b,w.heap.size≤b→f b=0)(M:Nat→Prop):CM M w f w' f:=⟨⟨h.os,h.tape,h.output,h.size,fun k hk _=>h.block k hk⟩,fun _ _=>rfl,fun b hb=>hv b (Nat.le_trans h.size hb)⟩
end Go.SW
namespace Go.SP
open Go.SW Go.RowKit
def Ox(vs:List Int)(t:T1):List UInt8:=(DM vs t.one).drop 1
theorem LO(vs:List Int)(t:T1)(r:Ty):DM vs (t.cons r)=32::(Ox vs t++DM vs r):=by
 cases t with
 |var n=>simp[Ox,T1.one,T1.cons,DM]
 |con tx k=>cases k <;> simp[Ox,T1.one,T1.cons,DM]
theorem XU(vs:List Int)(n:Int):Ox vs (.var n)=(match DJ vs n with|some i=>DY i|none=>[]):=by
 simp[Ox,T1.one,T1.cons,DM] <;> cases DJ vs n <;> rfl
theorem Vw(vs:List Int)(tx:List UInt8):Ox vs (.con tx .nil)=tx:=by simp[Ox,T1.one,T1.cons,DM]
theorem YI(vs:List Int)(tx:List UInt8)(k:Ty)(h:k.len≠0):Ox vs (.con tx k)=[40]++(tx++DM vs k)++[41]:=by
 cases k with
 |nil=>exact absurd rfl h
 |var n r=>simp[Ox,T1.one,T1.cons,DM]
 |con tx k r=>simp[Ox,T1.one,T1.cons,DM]
theorem TQ(s:List UInt8)(l:List (List UInt8))(x:List UInt8):Lib.joinTail s (l++[x])=Lib.joinTail s l++(s++x):=by simp[Lib.joinTail]
theorem MX:∀k n,(TO k n).length≤k
 |0,_=>Nat.le_refl _
 |k+1,n=>by
   unfold TO
   split
   · simp
   · have:=MX k (n / 10);simp;omega
theorem Tg(i:Nat):(DY i).length≤22:=by
 unfold DY
 split
 · simp
 · have:=MX 20 (i / 26);simp;omega
theorem Lt(vs:List Int):∀x:Ty,x.bnd→(DM vs x).length≤x.size*1000100
 |.nil,_=>by simp[DM]
 |.var n r,h=>by
   have h2:=Lt vs r h
   rw[show Ty.var n r=(T1.var n).cons r from rfl,LO,T1.size_cons,XU]
   have h3:(match DJ vs n with|some i=>DY i|none=>[]).length≤22:=by
     cases DJ vs n with
     |none=>simp
     |some i=>exact Tg i
   simp only[List.length_cons,List.length_append,T1.kids,Ty.size] at h3 ⊢
   omega
 |.con tx k r,h=>by
   have h2:=Lt vs r h.2.2
   have h3:=Lt vs k h.2.1
   have h4:=h.1.2
   rw[show Ty.con tx k r=(T1.con tx k).cons r from rfl,LO,T1.size_cons]
   have h5:(Ox vs (.con tx k)).length≤tx.length+k.size*1000100+2:=by
     by_cases hk:k.len=0
     · obtain rfl:=Ty.len0 hk
       rw[Vw];exact Nat.le_trans (Nat.le_add_right _ _) (Nat.le_add_right _ _)
     · rw[YI vs tx k hk];simp;omega
   simp only[List.length_cons,List.length_append,T1.kids] at h5 ⊢
   omega
theorem TC(i:Nat):Utf8.encode (97+((i % 26:Nat):Int))=⟨[UInt8.ofNat (97+i % 26)].toArray⟩:=by
 have h:∀j,j<26→Utf8.encode (97+((j:Nat):Int))=⟨[UInt8.ofNat (97+j)].toArray⟩:=dC
 exact h _ (Nat.mod_lt _ oM)
theorem QC:∀(k n:Nat),n<10 ^ (k+1)→TO (k+1) n=Lib.decDigits n
 |0,n,h=>by
   have:n<10:=by simpa using h
   rw[Lib.decDigits,TO,if_pos this,dif_pos this]
 |k+1,n,h=>by
   rw[Lib.decDigits,TO]
   by_cases h1:n<10
   · rw[if_pos h1,dif_pos h1]
   · rw[if_neg h1,dif_neg h1,QC k (n / 10) (by rw[Nat.pow_succ] at h;omega)]
def Ma(vs:List Int)(es:List (Int×Value)):Prop:=KP es∧∀n,FC es n=(DJ vs n).map fun i=>S (DY i)
theorem Ma.get{vs:List Int}{es:List (Int×Value)}(h:Ma vs es)(n:Int):(FC es n).getD (S [])=S (Ox vs (.var n)):=by
 rw[h.2,XU]
 cases DJ vs n <;> rfl
def cZ(P:Program)(fid:FuncId)(m:Nat):Prop:=∀(w:World)(f:Fq)(_:Vl w f)(mb:Nat)(vs:List Int)(es:List (Int×Value)),Ci Fp w mb es→Ma vs es→∀(t:T1)(a:Option Addr)(c:Nat),t.kids.size<m→t.kids.size≤1000000→t.bnd→Ah w f t.kids a c →
 BF P fid #[tV t a c,.map (some mb)] w (BV (α:=Unit) (fun _=>S (Ox vs t)) (fun _=>True) (fun _=>[]) w f)
end Go.SP
namespace Go.SP
open Go.SW Go.RowKit
theorem S1(x n:Int):∀l:List Int,DJ (l++[n]) x=(match DJ l x with|some j=>some j|none=>if n==x then some l.length else none)
 | []=>by simp[DJ]
 |k::l=>by
   have ih:=S1 x n l
   simp only[List.cons_append,DJ]
   by_cases hk:(k==x)=true
   · rw[if_pos hk,if_pos hk]
   · rw[if_neg hk,if_neg hk,ih]
     cases DJ l x with
     |some j=>rfl
     |none=>by_cases hn:(n==x)=true <;> simp[hn]
theorem Ma.nil:Ma [] []:=⟨trivial,fun _=>rfl⟩
theorem Ma.snoc{l:List Int}{es:List (Int×Value)}(h:Ma l es){n:Int}(hn:l.contains n=false):FC es n=none∧Ma (l++[n]) ((n,S (DY l.length))::es):=by
 have h0:FC es n=none:=by rw[h.2,NX hn];rfl
 refine⟨h0,⟨h0,h.1⟩,fun x=>?_⟩
 rw[S1]
 simp only[FC]
 by_cases hx:x=n
 · subst hx;rw[NX hn];simp
 · have e1:(x==n)=false:=by simpa using hx
   have e2:(n==x)=false:=by simpa using fun e:n=x=>hx e.symm
   rw[e1,e2,h.2]
   cases DJ l x <;> simp
theorem Iz:∀(x:Ty)(l:List Int),l.Nodup→(CR x l).Nodup
 |.nil,_,h=>h
 |.var n r,l,h=>by
   simp only[CR]
   apply Iz r
   split
   · exact h
   · rename_i hn
     have h9:n∉l:=by simpa using hn
     exact List.nodup_append.2 ⟨h,List.nodup_cons.2 ⟨by simp,List.nodup_nil⟩,fun x hx y hy e=>by simp at hy;subst hy;subst e;exact h9 hx⟩
 |.con tx k r,l,h=>Iz r _ (Iz k l h)
theorem Uu{l:List Int}(h:l.Nodup){i:Nat}{n:Int}(hi:l[i]?=some n):(l.take i).contains n=false:=by
 have hlt:=(List.getElem?_eq_some_iff.1 hi).1
 have e:l=l.take i++l.drop i:=(List.take_append_drop i l).symm
 have hd:n∈l.drop i:=by
   rw[List.drop_eq_getElem_cons hlt,(List.getElem?_eq_some_iff.1 hi).2];exact .head _
 rw[e] at h
 have:=(List.nodup_append.1 h).2.2
 have hn:n∉l.take i:=fun hm=>this n hm n hd rfl
 simpa using hn
theorem GP(t:T1):(Aq t).length≤t.kids.size+1:=by
 have:=Jv t.one []
 have e:t.one.size=t.kids.size+0+1:=T1.size_cons t .nil
 rw[e] at this
 simpa[Aq] using this
theorem BL.new{T:TypeId}{sb mb:Nat}{w:World}{f:Fq}(h1:AQ w sb [.map (some mb),.int .i64 0,.int .i64 0] T)(h2:Ci Fp w mb []):BL T sb mb [] 0 0 w f:=⟨h1,[],h2,rfl⟩
theorem fF{w:World}{b m:Nat}{l:List Value}{T:TypeId}{es:List (Int×Value)}(h:AQ w b l T)(hm:Ci Fp w m es):b≠m:=fun e=>by
 subst e
 obtain⟨es,c,h3,_⟩:=hm
 have h4:=h.symm.trans h3
 cases h4
structure Ad where
 cb:Nat
 sb:Nat
 mb:Nat
 km:Nat
 dm:Nat
 rm:Nat
def BB(A:Ad)(b:Nat):Prop:=b=A.cb∨b=A.sb∨b=A.mb∨b=A.km∨b=A.dm∨b=A.rm
structure Ad.ok(A:Ad):Prop where
 cs:A.cb≠A.sb
 cm:A.cb≠A.mb∧A.cb≠A.km∧A.cb≠A.dm∧A.cb≠A.rm
 sm:A.sb≠A.mb∧A.sb≠A.km∧A.sb≠A.dm∧A.sb≠A.rm
 mm:A.mb≠A.km∧A.mb≠A.dm∧A.mb≠A.rm∧A.km≠A.dm∧A.km≠A.rm∧A.dm≠A.rm
def ZF(m:Mk)(aa:Option Addr)(ac:Nat)(oa:Option Addr)(oc:Nat)(va:Option Addr)(vc:Nat):List Value:=.slice aa m.args.len ac::(tC m.out oa oc++[.slice va m.vars.length vc])
def Cd(w:World)(f:Fq):List (List UInt8×Mk)→List (List UInt8×Value)→Prop
 | [],es=>es=[]
 |(k,m)::l,es=>∃aa ac oa oc va vc es',es=(k,.agg (ZF m aa ac oa oc va vc).toArray)::es'∧Ah w f m.args aa ac∧Ah w f m.out.kids oa oc∧BN w f m.vars va vc∧Cd w f l es'
theorem Cd.mono{w w':World}{f f':Fq}(hF:Jf w f w' f'):∀(l:List (List UInt8×Mk))(es:List (List UInt8×Value)),Cd w f l es→Cd w' f' l es
 | [],_,h=>h
 |(_,_)::l,_,⟨aa,ac,oa,oc,va,vc,es',h1,h2,h3,h4,h5⟩=>⟨aa,ac,oa,oc,va,vc,es',h1,Ah.mono _ _ _ _ h2 hF,Ah.mono _ _ _ _ h3 hF,BN.mono _ _ _ _ h4 hF,Cd.mono hF l es' h5⟩
theorem Cd.look{w:World}{f:Fq}{n:List UInt8}:∀{l:List (List UInt8×Mk)}{es:List (List UInt8×Value)},Cd w f l es→(BZ l n=none→FC es n=none)∧∀m,BZ l n=some m→∃aa ac oa oc va vc,FC es n=some (.agg (ZF m aa ac oa oc va vc).toArray)∧Ah w f m.args aa ac∧Ah w f m.out.kids oa oc∧BN w f m.vars va vc
 | [],es,h=>by
   have h:es=[]:=h
   subst h
   exact⟨fun _=>rfl,fun t h=>by cases h⟩
 |(k,m)::l,es,⟨aa,ac,oa,oc,va,vc,es',h1,h2,h3,h4,h5⟩=>by
   subst h1
   have ih:=Cd.look (n:=n) h5
   simp only[BZ,FC]
   by_cases hk:k=n
   · subst hk
     refine⟨fun h=>by simp at h,fun t' h=>?_⟩
     simp at h
     subst h
     exact⟨aa,ac,oa,oc,va,vc,by simp,h2,h3,h4⟩
   · have e1:(k==n)=false:=by simpa using hk
     have e2:(n==k)=false:=by simpa using fun e:n=k=>hk e.symm
     rw[e1,e2]
     simpa using ih
structure Au(T TS:TypeId)(A:Ad)(s:CS)(w:World)(f:Fq):Prop where
 blk:AQ w A.cb [.pointer (some ⟨A.sb,0,none⟩),.map (some A.km),.map (some A.dm),.map (some A.rm),.int .i64 s.vars] T
 sol:∃pr,BL TS A.sb A.mb s.sol s.fresh pr w f
 cons:∃es,Ci CE w A.km es∧Cd w f s.cons es
 datas:Ci CE w A.dm (s.datas.map fun p=>(p.1,.int .i64 p.2))
 roots:Ci CE w A.rm (s.roots.map fun k=>(k,.bool true))
theorem Au.stab{T TS:TypeId}{A:Ad}{s:CS}:Gr (BB A) (Au T TS A s):=fun w f w' f' h hF hb =>
 ⟨(
   hb _ (.inl rfl)).trans h.blk,let ⟨pr,hs⟩:=h.sol;⟨pr,BL.stab (MI:=Mu A.sb A.mb) (.inl rfl) (.inr rfl) _ _ _ _ hs hF fun b hm=>hb b (hm.elim (fun e=>.inr (.inl e)) fun e=>.inr (.inr (.inl e)))⟩,
   let ⟨es,h1,h2⟩:=h.cons;⟨es,h1.heap (hb _ (.inr (.inr (.inr (.inl rfl))))),Cd.mono hF _ _ h2⟩,h.datas.heap (hb _ (.inr (.inr (.inr (.inr (.inl rfl)))))),h.roots.heap (hb _ (.inr (.inr (.inr (.inr (.inr rfl))))))⟩
theorem Au.lt{T TS:TypeId}{A:Ad}{s:CS}{w:World}{f:Fq}(h:Au T TS A s w f){b:Nat}(hb:BB A b):b<w.heap.size:=by
 rcases hb with rfl|rfl|rfl|rfl|rfl|rfl
 · exact h.blk.lt
 · obtain⟨_,hs⟩:=h.sol;exact hs.1.lt
 · obtain⟨_,_,_,hm,_⟩:=h.sol;exact hm.lt
 · obtain⟨_,hm,_⟩:=h.cons;exact hm.lt
 · exact h.datas.lt
 · exact h.roots.lt
structure DR(s:CS):Prop where
 sol:Ji s.sol
 cons:∀k m,BZ s.cons k=some m→m.args.len≤200000∧m.args.bnd∧m.out.bnd∧m.vars.length≤200000
 dc:KP (s.cons.map fun p=>(p.1,Value.bool true))
 dd:KP (s.datas.map fun p=>(p.1,Value.int .i64 p.2))
 dr:KP (s.roots.map fun k=>(k,Value.bool true))
 fr:0≤s.fresh
def AN(w:World)(f:Fq):Bg→Option Addr→Prop
 | [],a=>a=none
 |b::e,a=>∃k ta tc va vc ra,a=some ⟨k,0,none⟩∧Cs w f k 0 (S b.name::(tC b.t ta tc++[.slice va b.all.length vc,.pointer ra]))∧Ah w f b.t.kids ta tc∧BN w f b.all va vc∧AN w f e ra
theorem AN.mono'{w w':World}{f f':Fq}(hF:Jf w f w' f'):∀(e:Bg)(a:Option Addr),AN w f e a→AN w' f' e a
 | [],_,h=>h
 |_::e,_,⟨k,ta,tc,va,vc,ra,h1,h2,h3,h4,h5⟩=>⟨k,ta,tc,va,vc,ra,h1,h2.mono hF,Ah.mono _ _ _ _ h3 hF,BN.mono _ _ _ _ h4 hF,AN.mono' hF e ra h5⟩
theorem AN.mono{e:Bg}{a:Option Addr}:G0 (fun w f=>AN w f e a):=fun _ _ _ _ h hF=>AN.mono' hF e a h
def Gg(e:Bg):Prop:=∀b,b∈e→b.t.bnd∧b.all.length≤1000000
def trI(T:TypeId)(e:Er):List PanicEntry:=[{v:=.iface T (.agg #[.int .i64 e.1,.int .i64 e.2.1,.int .i64 e.2.2]),recovered:=false}]
def PanE(T:TypeId)(M:Nat→Prop)(q:Er→Prop)(w:World)(f:Fq)(c:List PanicEntry)(w':World):Prop:=∃er f',c=trI T er∧q er∧CM M w f w' f'
abbrev XC(T TS:TypeId)(A:Ad)(s:CS)(w:World)(f:Fq):Cx:=⟨BB A,BB A,Au T TS A s,w,f⟩
theorem Lz{T TS:TypeId}{A:Ad}{s:CS}{w:World}{f:Fq}{Fs:List (World→Fq→Prop)}(hv:Vl w f)(hC:Au T TS A s w f)(hf:∀b,BB A b→f b=0)(hF:A1 Fs w f)(hm:Af Fs):AX (XC T TS A s w f) w f [] [] [] Fs :=
 Zs (M:=BB A) hv hC Au.stab (fun b hb=>⟨hC.lt hb,hf b hb⟩) hF hm
theorem WN{s:BJ}:∀(k:Nat)(x:Ty)(j:Nat),BA s k x=some j→(AR s k x).size+j≤k:=by
 intro k
 induction k using Nat.strongRecOn with
 |_ k ih =>
   intro x j h
   have key:∀(k':Nat)(ks r:Ty),k'<k→BA s k' (ks.app r)=some j→(AR s k' ks).size+(AR s k' r).size+j≤k':=by
     intro k' ks r hk hr
     rw[I8] at hr
     cases hj:BA s k' ks with
     |none=>rw[hj] at hr;cases hr
     |some j1 =>
       rw[hj] at hr
       have hr:BA s j1 r=some j:=hr
       have h1:=E1 s _ _ _ hj
       have h2:=ih k' hk ks j1 hj
       have h3:=ih j1 oM r j hr
       rw[O9 j1 r j hr k' (by omega)]
       omega
   cases x with
   |nil=>rw[Hv];cases k <;> (cases h;simp[Ty.size])
   |var n r =>
     cases k with
     |zero=>cases h
     |succ k =>
       simp only[BA] at h
       cases hh:Ak s (.var n) with
       |var q =>
         rw[hh] at h
         have:=key k .nil r oM h
         simp only[AR,hh,Ty.size]
         rw[Hv] at this;simp only[Ty.size] at this;omega
       |con tx ks =>
         rw[hh] at h
         have:=key k ks r oM h
         simp only[AR,hh,Ty.size];omega
   |con tx ks r =>
     cases k with
     |zero=>cases h
     |succ k =>
       simp only[BA] at h
       have:=key k ks r oM h
       simp only[AR,Ty.size];omega
theorem YO(s:BJ)(k:Nat)(t:T1):AR s (k+1) t.one=(AR s (k+1) t.one).hd.one:=by
 cases t with
 |var n =>
   simp only[T1.one,T1.cons,AR]
   cases Ak s (.var n) <;> (simp only[Hv];rfl)
 |con tx ks=>simp only[T1.one,T1.cons,AR,Hv];rfl
theorem I7{s:BJ}{t u:T1}(h:CT s t=some u):u.kids.size+1≤1000:=by
 unfold CT at h
 split at h
 · rename_i hs
   rw[Fv,Ev] at hs
   obtain⟨j,hj⟩:=Option.isSome_iff_exists.1 hs
   have h1:=WN 1000 t.one j hj
   have h2:=YO s 999 t
   cases h
   have h3:(AR s 1000 t.one).size=(AR s 1000 t.one).hd.kids.size+0+1:=(congrArg Ty.size h2).trans (T1.size_cons _ .nil)
   omega
 · cases h
theorem Kf{s:BJ}(hw:Ji s){t u:T1}(hb:t.bnd)(h:CT s t=some u):u.bnd:=by
 unfold CT at h
 split at h
 · cases h;exact Z6 hw hb 1000
 · cases h
end Go.SP
namespace Go.SW
open Go.RowKit Go.SP
theorem AX.exmI{X:Cx}{w w':World}{f f':Fq}{H:List HB}{R:List RB}{B:List FB}{Fs:List (World→Fq→Prop)}(h:AX X w f H R B Fs){M:Nat→Prop}(hs:∀b,M b→X.MI b)(he:CM M w f w' f'):CM X.M X.w0 X.f0 w' f' :=
 (h.callI (I':=fun _ _=>True) (he.mono hs) trivial (fun _ _ _ _ _ _ _=>trivial)).exm
section
variable{P:Program}{n:Nat}{Q:Bk}{ds:List Deferred}{X:Cx}{R:List RB}{B:List FB}{Fs:List (World→Fq→Prop)}{fs:List Fr}{σ:Bo}{H:List HB}
variable{all r:List Oper}{ty T:TypeId}{pos:String}{af:Array Edge}{g:Option (Nat×Bool)}{d:Nat}
theorem DZ{op:Op}{fid:FuncId}{args:Array Value}{α:Type}{val:α→Value}{q:α→Prop}{I':α→World→Fq→Prop}{F':α→List (World→Fq→Prop)}{M:Nat→Prop}{pe:Er→Prop}
   (hg:gd all σ g=some true) (hd:Nat.blt d n=true) (he:∀w,Enters P σ op ty w fid args) (hs:∀b,M b→X.MI b)
   (hc:∀w f,AX X w f H R B Fs→BQ P fid args w (Fl val q X.MI I' F' w f) (PanE T M pe w f)) (hst:∀x,Gr X.MI (I' x)) (hm:∀x,Af (F' x))
   (hp:∀er w' f',pe er→CM X.M X.w0 X.f0 w' f'→Q.p (trI T er) σ ds w')
   (h:∀x,q x→AF P n Q ds {X with I:=I' x} R B (F' x++Fs) (.ops all r) fs (AL σ d (val x)) H):AF P n Q ds X R B Fs (.ops all (⟨some d,op,ty,pos,af,g⟩::r)) fs σ H :=
 Ov (XX:=fun c w'=>∃er f',c=trI T er∧pe er∧CM X.M X.w0 X.f0 w' f') hg hd he (fun w f hM=>(hc w f hM).mono (fun _ _ h=>h) fun _ _ ⟨er,f',h1,h2,h3⟩=>⟨er,f',h1,h2,hM.exmI hs h3⟩) hst hm (fun _ _ _ _ _ ⟨er,f',h1,h2,h3⟩=>h1▸hp er _ f' h2 h3) h
theorem MY{op:Op}{fid:FuncId}{args:Array Value}{M:Nat→Prop}{pe:Er→Prop}
   (hg:gd all σ g=some true) (hd:Nat.blt d n=true) (he:∀w,Enters P σ op ty w fid args) (hs:∀b,M b→X.MI b)
   (hc:∀w f,AX X w f H R B Fs→BQ P fid args w (fun _ _=>False) (PanE T M pe w f))
   (hp:∀er w' f',pe er→CM X.M X.w0 X.f0 w' f'→Q.p (trI T er) σ ds w'):AF P n Q ds X R B Fs (.ops all (⟨some d,op,ty,pos,af,g⟩::r)) fs σ H :=
 DZ (α:=Unit) (val:=fun _=>.tuple #[]) (q:=fun _=>False) (I':=fun _ _ _=>True) (F':=fun _=>[]) hg hd he hs (fun w f hM=>(hc w f hM).mono (fun _ _ h=>h.elim) fun _ _ h=>h) (fun _ _ _ _ _ _ _ _=>trivial) (fun _=>trivial) hp (fun _ h=>h.elim)
end
end Go.SW
namespace Go.SP
open Go.SW Go.RowKit
theorem Mu.c{A:Ad}:∀b,Mu A.sb A.mb b→BB A b:=fun _ h=>h.elim (fun e=>.inr (.inl e)) fun e=>.inr (.inr (.inl e))
theorem Au.solved{T TS:TypeId}{A:Ad}{s:CS}{w w':World}{f f':Fq}(h:Au T TS A s w f)(hA:A.ok)(hv:Vl w f)(hz:∀b,Mu A.sb A.mb b→f b=0)(hE:CM (Mu A.sb A.mb) w f w' f'){s':BJ}{fr pr:Int}(hS:BL TS A.sb A.mb s' fr pr w' f'):Au T TS A {s with sol:=s',fresh:=fr} w' f' where
 blk:=(hE.stp.block _ (h.lt (.inl rfl)) (fun e=>e.elim hA.cs hA.cm.1)).trans h.blk
 sol:=⟨pr,hS⟩
 cons:=let ⟨es,h1,h2⟩:=h.cons;⟨es,h1.heap (hE.stp.block _ h1.lt (fun e=>e.elim (fun e=>hA.sm.2.1 e.symm) (fun e=>hA.mm.1 e.symm))),Cd.mono (hE.fle hv hz) _ _ h2⟩
 datas:=h.datas.heap (hE.stp.block _ h.datas.lt (fun e=>e.elim (fun e=>hA.sm.2.2.1 e.symm) (fun e=>hA.mm.2.1 e.symm)))
 roots:=h.roots.heap (hE.stp.block _ h.roots.lt (fun e=>e.elim (fun e=>hA.sm.2.2.2 e.symm) (fun e=>hA.mm.2.2.1 e.symm)))
theorem ZE{P:Program}{n:Nat}{Q:Bk}{ds:List Deferred}{M:Nat→Prop}{w0:World}{f0:Fq}{T TS:TypeId}{A:Ad}{s:CS}{R:List RB}{B:List FB}{Fs:List (World→Fq→Prop)}{fs:List Fr}{σ:Bo}{H:List HB}{k:M5}
   (h:∀pr,AF P n Q ds ⟨M,BB A,fun w f=>Au T TS A s w f∧BL TS A.sb A.mb s.sol s.fresh pr w f,w0,f0⟩ R B Fs k fs σ H):AF P n Q ds ⟨M,BB A,Au T TS A s,w0,f0⟩ R B Fs k fs σ H :=
 mN (X:=⟨M,BB A,Au T TS A s,w0,f0⟩) (fun pr w f=>Au T TS A s w f∧BL TS A.sb A.mb s.sol s.fresh pr w f) (fun w f h=>let ⟨pr,hp⟩:=h.sol;⟨pr,h,hp⟩) (fun pr w f w' f' h hF hb=>⟨Au.stab w f w' f' h.1 hF hb,BL.stab (MI:=Mu A.sb A.mb) (.inl rfl) (.inr rfl) _ _ _ _ h.2 hF fun b hm=>hb b (Mu.c b hm)⟩) h
end Go.SP
namespace Go.SP
open Go.SW Go.RowKit
def EA(fr:Int):Nat→Ty
 |0=>.nil
 |n+1=>.var (fr+1) (EA (fr+1) n)
theorem FK:∀(n:Nat)(fr:Int),(EA fr n).len=n
 |0,_=>rfl
 |n+1,fr=>by simp only[EA,Ty.len];rw[FK n]
theorem IZ:∀(n:Nat)(fr:Int),(EA fr n).bnd
 |0,_=>trivial
 |n+1,fr=>IZ n (fr+1)
theorem Mp:∀(n:Nat)(fr:Int),EA fr (n+1)=(EA fr n).snoc (.var (fr+n+1))
 |0,fr=>by simp[EA,Ty.snoc,Ty.app,T1.one,T1.cons]
 |n+1,fr=>by
   have:=Mp n (fr+1)
   rw[EA,this]
   show _=Ty.var _ _
   congr 2
   simp;omega
theorem BR:∀(l:List Int)(s:CS),B1 l s=(EA s.fresh l.length,{s with fresh:=s.fresh+l.length})
 | [],s=>by simp[B1,EA]
 |_::l,s=>by
   have h:=BR l (AB s).2
   simp only[B1,T1.cons,EA,List.length_cons]
   rw[h]
   simp only[AB,T1.cons]
   have e:s.fresh+1+(l.length:Int)=s.fresh+((l.length+1:Nat):Int):=oM
   rw[e]
theorem DR.fresh{s:CS}(h:DR s){n:Int}(hn:0≤n):DR {s with fresh:=n}:={h with fr:=hn}
end Go.SP
namespace Go.SP
open Go.SW Go.RowKit
theorem Cd.keys{w:World}{f:Fq}{n:List UInt8}:∀{l:List (List UInt8×Mk)}{es:List (List UInt8×Value)},Cd w f l es→(FC (l.map fun p=>(p.1,Value.bool true)) n=none→FC es n=none)
 | [],es,h,_=>by have h:es=[]:=h;subst h;rfl
 |(k,m)::l,es,⟨_,_,_,_,_,_,es',h1,_,_,_,h5⟩,hn=>by
   subst h1
   simp only[List.map,FC] at hn ⊢
   split at hn
   · cases hn
   · rename_i hk;rw[if_neg hk];exact Cd.keys h5 hn
theorem Cd.dis{w:World}{f:Fq}:∀{l:List (List UInt8×Mk)}{es:List (List UInt8×Value)},Cd w f l es→KP (l.map fun p=>(p.1,Value.bool true))→KP es
 | [],es,h,_=>by have h:es=[]:=h;subst h;trivial
 |(k,m)::l,es,⟨_,_,_,_,_,_,es',h1,_,_,_,h5⟩,hd=>by
   subst h1
   exact⟨Cd.keys h5 hd.1,Cd.dis h5 hd.2⟩
theorem sY{P:Program}{n:Nat}{Q:Bk}{ds:List Deferred}{M:Nat→Prop}{w0:World}{f0:Fq}{T TS:TypeId}{A:Ad}{s:CS}{R:List RB}{B:List FB}{Fs:List (World→Fq→Prop)}{fs:List Fr}{σ:Bo}{H:List HB}{k:M5}
   (h:∀es,AF P n Q ds ⟨M,BB A,fun w f=>Au T TS A s w f∧Ci CE w A.km es∧Cd w f s.cons es,w0,f0⟩ R B Fs k fs σ H):AF P n Q ds ⟨M,BB A,Au T TS A s,w0,f0⟩ R B Fs k fs σ H :=
 mN (X:=⟨M,BB A,Au T TS A s,w0,f0⟩) (fun es w f=>Au T TS A s w f∧Ci CE w A.km es∧Cd w f s.cons es) (fun w f h=>let ⟨es,h1,h2⟩:=h.cons;⟨es,h,h1,h2⟩) (fun es w f w' f' h hF hb=>⟨Au.stab w f w' f' h.1 hF hb,h.2.1.heap (hb _ (.inr (.inr (.inr (.inl rfl))))),Cd.mono hF _ _ h.2.2⟩) h
end Go.SP
namespace Go.SW
open Go.RowKit Go.SP
theorem QH{P:Program}{n:Nat}{Q:Bk}{ds:List Deferred}{X:Cx}{R:List RB}{B:List FB}{Fs:List (World→Fq→Prop)}{fs:List Fr}{σ:Bo}{H:List HB}{k:M5}{r:RB}(φ:World→Fq→Prop)(hm:G0 φ)(hr:∀w f,AX X w f H (r::R) B Fs→∃f',AX X w f' H R B Fs∧φ w f')
   (h:AF P n Q ds X R B (φ::Fs) k fs σ H):AF P n Q ds X (r::R) B Fs k fs σ H:=fun w f hM=>by
 obtain⟨f',hM',hφ⟩:=hr w f hM
 exact h w f' (hM'.more (B':=[]) (F':=[φ]) (fun _ h=>by cases h) (A1.mem ⟨hφ,trivial⟩) (Af.mem ⟨hm,trivial⟩))
end Go.SW
namespace Go.SP
open Go.SW Go.RowKit
theorem HL{X:Cx}{w:World}{f:Fq}{H:List HB}{R:List RB}{B:List FB}{Fs:List (World→Fq→Prop)}{e:TypeId}{a:Option Addr}{c m:Nat}{k:Ty}{xs:List Value}(hM:AX X w f H (⟨e,4,a,c,m,xs⟩::R) B Fs)(hL:Bl w f k xs):∃f',AX X w f' H R B Fs∧Ah w f' k a c:=by
 rcases Nat.eq_zero_or_pos k.len with h0|h0
 · obtain rfl:=Ty.len0 h0
   exact⟨f,hM.less (List.Sublist.refl _) (List.sublist_cons_self _ _) (fun _ h=>h) (fun _ h=>h),Ah.nil _ _ _ _⟩
 · exact MV hM hL h0
theorem M1{X:Cx}{w:World}{f:Fq}{H:List HB}{R:List RB}{B:List FB}{Fs:List (World→Fq→Prop)}{a:Option Addr}{c:Nat}{l:List Int}(hM:AX X w f H (⟨3,1,a,c,l.length,l.map fun n=>.int .i64 n⟩::R) B Fs):∃f',AX X w f' H R B Fs∧BN w f' l a c:=by
 have hr:=hM.row _ (.head _)
 rcases hr.2 with ⟨_,_,hz⟩|⟨b,q,ha,hb,hmc,_,hq,ht⟩
 · simp only at hz
   exact⟨f,hM.less (List.Sublist.refl _) (List.sublist_cons_self _ _) (fun _ h=>h) (fun _ h=>h),oM,.inl (by cases l with|nil=>rfl|cons _ _=>simp at hz)⟩
 · simp only at ha
   subst ha
   obtain⟨f',hM'⟩:=hM.done (i:=0) rfl rfl
   refine⟨f',hM'.less (List.Sublist.refl _) (List.Sublist.refl _) (fun _ h=>.tail _ h) (fun _ h=>h),hmc,.inr ⟨b,0,rfl,hM'.fro _ (.head _)⟩⟩
end Go.SP
namespace Go.SW
open Go.RowKit Go.SP
section
variable{κ:Type}[BEq κ]{K:nF κ}[LawfulBEq κ]
theorem Pg(x:κ):∀(es:List MapEntry)(l:List (κ×Value))(i:Nat)(v:Value),es.map (fun e=>(e.key,e.val))=l.map (fun p=>(K.enc p.1,p.2))→LS x l=some v →
   ∃j e,Instr.findNow K.desc (K.enc x) es i=some (some (i+j,v))∧es[j]?=some e∧e.key=K.enc x∧e.val=v
 | [],[],i,v,_,h=>by cases h
 | [],_::_,_,_,h,_=>by simp at h
 |_::_,[],_,_,h,_=>by simp at h
 |e::es,p::l,i,v,h,hl=>by
   simp only[List.map_cons,List.cons.injEq,Prod.mk.injEq] at h
   obtain⟨⟨hk,hv⟩,hr⟩:=h
   have hs:Instr.sameNow K.desc (K.enc x) e.key=some (x==p.1):=by rw[hk];exact K.same x p.1
   obtain⟨pk,pv⟩:=p
   unfold Instr.findNow
   unfold LS at hl
   rw[hs]
   cases hc:x==pk with
   |true =>
     rw[hc] at hl
     have hl:pv=v:=by simpa using hl
     have he:x=pk:=by simpa using hc
     subst he
     exact⟨0,e,by simp[hv,hl],rfl,hk,hv.trans hl⟩
   |false =>
     rw[hc] at hl
     obtain⟨j,e',h1,h2,h3⟩:=Pg x es l (i+1) v hr (by simpa using hl)
     exact⟨j+1,e',by simp only[h1];congr 3;omega,h2,h3⟩
variable{P:Program}{n:Nat}{Q:Bk}{ds:List Deferred}{X:Cx}{R:List RB}{B:List FB}{Fs:List (World→Fq→Prop)}{fs:List Fr}{σ:Bo}{H:List HB}{w:World}
variable{all r:List Oper}{ty T k e:TypeId}{pos:String}{af:Array Edge}{g:Option (Nat×Bool)}{d m:Nat}{x y z:Operand}{a:κ}{l:List (κ×Value)}
theorem TJ{v:Value}(hT:Gs P T=some (k,e))(hk:P.underlying k=some K.desc)(hsb:Instr.sameBits 10000 (K.enc a) (K.enc a)=true)(hm:Ci K w m l)(hd:KP l)(hn:FC l a=some v):∃w',(Instr.mapUpdate T (.map (some m)) (K.enc a) v).run P w=.ok () w'∧Ci K w' m l∧GS m w w':=by
 have hu:=Kd hT
 obtain⟨es,c,h1,h2⟩:=id hm
 obtain⟨j,e',hj,he,hek,hev⟩:=Pg (K:=K) a es l.reverse 0 v h2 (by rw[PO a l hd];exact hn)
 have hget:(getObj m).run P w=.ok (.map es.toArray c) w:=by simp[getObj,Sem.run,h1]
 have hlt:=hm.lt
 have hck:=fun b=>K.chk P k w a b hk
 have hset:∀o,(setObj m o).run P w=.ok () {w with heap:=w.heap.setIfInBounds m o}:=fun o=>by
   simp[setObj,Sem.run,h1]
 rw[Nat.zero_add] at hj
 refine⟨{w with heap:=w.heap.setIfInBounds m (.map (es.toArray.modify j fun e=>{e with key:=K.enc a,val:=v}) c)},?_,?_,?_⟩
 · simp only[Instr.mapUpdate,Sem.run_bind,run_underlying hu,Result.andThen_ok,hget]
   simp only[hck,Result.andThen_ok,Instr.findKey,Sem.run_bind,run_underlying hk,hj]
   simp only[Sem.run_pure,Result.andThen_ok,List.getElem?_toArray,he,Option.map_some,Option.getD_some,hek,Instr.keyThatStays,hsb,if_true]
   exact hset _
 · refine⟨es.modify j fun e=>{e with key:=K.enc a,val:=v},c,?_,?_⟩
   · rw[show (es.modify j fun e=>{e with key:=K.enc a,val:=v}).toArray=es.toArray.modify j fun e=>{e with key:=K.enc a,val:=v} from Array.ext' (by simp)]
     simp[hlt]
   · rw[← h2]
     apply List.ext_getElem?
     intro i
     rw[List.getElem?_map,List.getElem?_map,List.getElem?_modify]
     by_cases hij:j=i
     · subst hij
       rw[he]
       simp[hek,hev]
     · simp[hij]
 · refine⟨rfl,rfl,rfl,by simp,fun i him=>?_⟩
   show (w.heap.setIfInBounds m _)[i]?=_
   rw[Array.getElem?_setIfInBounds_ne (fun e=>him e.symm)]
theorem rA{v:Value}{I':World→Fq→Prop}(hg:gd all σ g=some true)(hx:ev σ x=some (.map (some m)))(hy:ev σ y=some (K.enc a))(hz:ev σ z=some v)(hT:Gs P T=some (k,e))(hk:P.underlying k=some K.desc)(hsb:Instr.sameBits 10000 (K.enc a) (K.enc a)=true)(hmi:X.MI m)(hd:KP l)(hn:FC l a=some v)
   (hm:∀w f,X.I w f→Ci K w m l) (hI:∀w f w',X.I w f→AX X w f H R B Fs→GS m w w'→Ci K w' m l→I' w' f) (hst:Gr X.MI I')
   (h:AF P n Q ds {X with I:=I' } R B Fs (.ops all r) fs σ H):AF P n Q ds X R B Fs (.ops all (⟨none,.mapUpdate T x y z,ty,pos,af,g⟩::r)) fs σ H:=fun w f hM=>by
 obtain⟨w',h1,h2,h3⟩:=TJ (v:=v) hT hk hsb (hm w f hM.res) hd hn
 refine BD hg (Jm (w':=w') (fun ρ _ _ _ _ hρ=>?_) (h w' f (hM.chgI hmi h3 (hI w f w' hM.res hM h3 h2) hst)))
 simp only[execOp,hρ _ _ hx,hρ _ _ hy,hρ _ _ hz]
 rw[Sem.run_bind,h1]
 rfl
omit [LawfulBEq κ] in
theorem YY(hg:gd all σ g=some true)(hd:Nat.blt d n=true)
   (h:∀m,¬X.MI m→AF P n Q ds {X with MI:=fun b=>X.MI b∨b=m,I:=fun w f=>X.I w f∧Ci K w m []} R B Fs (.ops all r) fs (AL σ d (.map (some m))) H):AF P n Q ds X R B Fs (.ops all (⟨some d,.makeMap T none,ty,pos,af,g⟩::r)) fs σ H:=fun w f hM=>by
 refine BD hg (Aa (v:=.map (some w.heap.size)) (w':=w.alloc (.map #[] 0)) hd (fun ρ _ _ _ _ hρ=>by simp[execOp,Instr.makeMap]) (h w.heap.size (fun hm=>Nat.lt_irrefl _ (hM.mi _ hm).1) _ f ?_))
 have h1:AX X (w.alloc (.map #[] 0)) f H R B Fs:=hM.call0 (CM.of_ext (Ki w _) hM.val)
 have hnew:∀b,b∈CP H R→b≠w.heap.size:=fun b hb e=>Nat.lt_irrefl _ (e▸hM.lt hb)
 exact {h1 with
         res:=⟨h1.res,[],0,heap_alloc_new w _,rfl⟩,
         stab:=fun w1 f1 w2 f2 hI hF hb=>⟨h1.stab w1 f1 w2 f2 hI.1 hF fun b hm=>hb b (.inl hm),hI.2.heap (hb _ (.inr rfl))⟩,
         mi:=fun b hb=>by
           rcases hb with hb|rfl
           · exact h1.mi b hb
           · exact⟨by rw[Hn];omega,hM.val _ (Nat.le_refl _),.inl hM.stp.size⟩,
         own:=fun b hb=>⟨(h1.own b hb).1,(h1.own b hb).2.1,fun hm=>by
           rcases hm with hm|rfl
           · exact (h1.own b hb).2.2 hm
           · exact hnew _ hb rfl⟩}
end
end Go.SW
namespace Go.SP
open Go.SW Go.RowKit
def KY(T TS:TypeId)(A:Ad)(s:CS)(m:Nat)(l:List Int)(w:World)(f:Fq):Prop:=Au T TS A s w f∧Ci Fp w m (HF l)
theorem KY.stab{T TS:TypeId}{A:Ad}{s:CS}{m:Nat}{l:List Int}:Gr (fun b=>BB A b∨b=m) (KY T TS A s m l):=fun w f w' f' h hF hb =>
 ⟨Au.stab w f w' f' h.1 hF fun b hm=>hb b (.inl hm),h.2.heap (hb _ (.inr rfl))⟩
theorem Au.chg{T TS:TypeId}{A:Ad}{s:CS}{m:Nat}{w w':World}{f:Fq}(h:Au T TS A s w f)(hC:GS m w w')(hm:¬BB A m)(hf:f m=0):Au T TS A s w' f :=
 Au.stab w f w' f h (GS.fle hC hf) fun b hb=>hC.block b fun e=>hm (e▸hb)
theorem Oz(l:List Int)(v n:Int):(l++[v]).contains n=(l.contains n||v==n):=by
 cases h:(v==n) with
 |true =>
   have:v=n:=by simpa using h
   subst this;simp
 |false =>
   have:¬v=n:=by simpa using h
   simp;intro h2;exact absurd h2.symm this
theorem uD(n:Int):Instr.sameBits 10000 (Fp.enc n) (Fp.enc n)=true:=by
 show Instr.sameBits 10000 (.int .i64 n) (.int .i64 n)=true
 simp[Instr.sameBits]
theorem Ly(l:List Int)(v n:Int)(q:List Int)(b:Bool):(((if l.contains v then l else l++[v]).contains n||q.contains n)||b)=((l.contains n||(v::q).contains n)||b):=by
 have h1:(v::q).contains n=((v==n)||q.contains n):=by
   rw[List.contains_cons];congr 1
   cases h:(v==n) with
   |true =>
     have:v=n:=by simpa using h
     subst this;simp
   |false =>
     have:¬v=n:=by simpa using h
     simpa using fun e:n=v=>this e.symm
 rw[h1]
 split
 · rename_i hc
   cases hv:(v==n) with
   |true =>
     have:v=n:=by simpa using hv
     subst this;rw[hc];simp
   |false=>simp
 · rw[Oz,Bool.or_assoc (l.contains n)]
theorem Pj{l:List Int}{v:Int}(h:l.Nodup):(if l.contains v then l else l++[v]).Nodup:=by
 split
 · exact h
 · rename_i hc
   refine List.nodup_append.2 ⟨h,List.pairwise_singleton _ _,fun a ha b hb e=>?_⟩
   obtain rfl:b=v:=by simpa using hb
   subst e
   exact hc (by simpa using ha)
theorem oN{P:Program}{n:Nat}{Q:Bk}{ds:List Deferred}{M:Nat→Prop}{w0:World}{f0:Fq}{T TS:TypeId}{A:Ad}{s:CS}{mb:Nat}{R:List RB}{B:List FB}{Fs:List (World→Fq→Prop)}{fs:List Fr}{σ:Bo}{H:List HB}
   {all r:List Oper} {ty TM k e:TypeId} {pos:String} {af:Array Edge} {g:Option (Nat×Bool)} {x y z:Operand} {l:List Int} {v:Int} (hg:gd all σ g=some true) (hx:ev σ x=some (.map (some mb))) (hy:ev σ y=some (.int .i64 v)) (hz:ev σ z=some (.bool true))
   (hT:Gs P TM=some (k,e)) (hk:P.underlying k=some (.int .i64)) (hmn:¬BB A mb) (hnd:l.Nodup)
   (h:AF P n Q ds ⟨M,fun b=>BB A b∨b=mb,KY T TS A s mb (if l.contains v then l else l++[v]),w0,f0⟩ R B Fs (.ops all r) fs σ H) :
   AF P n Q ds ⟨M,fun b=>BB A b∨b=mb,KY T TS A s mb l,w0,f0⟩ R B Fs (.ops all (⟨none,.mapUpdate TM x y z,ty,pos,af,g⟩::r)) fs σ H:=by
 cases hc:l.contains v with
 |true =>
   rw[hc] at h
   exact rA (K:=Fp) (a:=v) (l:=HF l) (I':=KY T TS A s mb l) hg hx hy hz hT hk (uD v) (.inr rfl) (Lx hnd) (by rw[TU,hc];rfl) (fun w f h=>h.2) (fun w f w2 h hM hC hm=>⟨h.1.chg hC hmn (hM.mi mb (.inr rfl)).2.1,hm⟩) KY.stab h
 |false =>
   rw[hc] at h
   exact ZG (K:=Fp) (a:=v) (l:=HF l) (I':=KY T TS A s mb (l++[v])) hg hx hy hz hT hk (.inr rfl) (Lx hnd) (UW hc) (fun w f h=>h.2) (fun w f w2 h hM hC hm=>⟨h.1.chg hC hmn (hM.mi mb (.inr rfl)).2.1,by rw[Pu];exact hm⟩) KY.stab h
theorem Gg.cons{e:Bg}(h:Gg e){b:Bd}(h1:b.t.bnd)(h2:b.all.length≤1000000):Gg (b::e):=fun b2 hb=>by
 rcases List.mem_cons.1 hb with rfl|hb
 · exact⟨h1,h2⟩
 · exact h b2 hb
theorem Nd.len_le:∀x:Nd,x.len≤x.size
 |.nil=>Nat.le_refl _
 |.cons _ _ _ _ _ k r=>by have:=Nd.len_le r;simp only[Nd.len,Nd.size];omega
theorem Nd.cases1(x:Nd)(h:0<x.len):∃op ln co tx nm k r,x=.cons op ln co tx nm k r:=by
 cases x with
 |nil=>simp[Nd.len] at h
 |cons op ln co tx nm k r=>exact⟨op,ln,co,tx,nm,k,r,rfl⟩
theorem Nd.len0{x:Nd}(h:x.len=0):x=.nil:=by
 cases x with
 |nil=>rfl
 |cons=>simp[Nd.len] at h
def Nd.wfm:Nd→Nat→Prop
 |.nil,m=>m=0∨m=1
 |.cons op _ _ _ _ k r,m =>
   let X:Prop:=(1≤op∧op≤5)∨(op=6∧k.wfm 0)∨(op=7∧k.wfm 4)∨((op=8∨op=12)∧0<k.len∧k.wfm 0)∨((op=9∨op=10)∧k.wfm 6)∨(op=11∧k.wfm 7)∨(op=13∧k.wfm 0)∨((op=14∨op=15)∧k.wfm 5)∨((op=16∨op=17)∧k.wfm 3)
   match m with
   |0=>X∧r.wfm 0
   |1=>k.wfm 2∧r.wfm 1
   |2=>r.wfm 3
   |3=>X
   |4=>(r=.nil∧X)∨(r≠.nil∧r.wfm 4)
   |5=>X∧r.wfm 1
   |6=>X∧r.wfm 3
   |7=>X∧r.wfm 6
   |_=>False
def GY(op:Int)(k:Nd):Prop:=(1≤op∧op≤5)∨(op=6∧k.wfm 0)∨(op=7∧k.wfm 4)∨((op=8∨op=12)∧0<k.len∧k.wfm 0)∨((op=9∨op=10)∧k.wfm 6)∨(op=11∧k.wfm 7)∨(op=13∧k.wfm 0)∨((op=14∨op=15)∧k.wfm 5)∨((op=16∨op=17)∧k.wfm 3)
section
variable{op ln co nm:Int}{tx:List UInt8}{k r:Nd}
theorem gS:(Nd.cons op ln co tx nm k r).wfm 0↔GY op k∧r.wfm 0:=Iff.rfl
theorem sJ:(Nd.cons op ln co tx nm k r).wfm 1↔k.wfm 2∧r.wfm 1:=Iff.rfl
theorem pR:(Nd.cons op ln co tx nm k r).wfm 2↔r.wfm 3:=Iff.rfl
theorem WC:(Nd.cons op ln co tx nm k r).wfm 3↔GY op k:=Iff.rfl
theorem oO:(Nd.cons op ln co tx nm k r).wfm 4↔(r=.nil∧GY op k)∨(r≠.nil∧r.wfm 4):=Iff.rfl
theorem pP:(Nd.cons op ln co tx nm k r).wfm 6↔GY op k∧r.wfm 3:=Iff.rfl
end
abbrev nV(op ln co:Int)(tx:List UInt8)(nm:Int)(k:Nd)(na:Option Addr)(nc:Nat):Value:=.agg #[.int .i64 op,.int .i64 ln,.int .i64 co,S tx,.int .i64 nm,.slice na k.len nc]
def Zm(P:Program)(fid:FuncId)(n:Nat):Prop:=∀(w:World)(f:Fq)(_:Vl w f)(op ln co nm:Int)(tx:List UInt8)(kids:Nd)(na:Option Addr)(nc:Nat),kids.size<n→kids.size≤1000000→AK w f kids na nc →
 BF P fid #[nV op ln co tx nm kids na nc] w (BV (α:=Unit) (fun _=>.bool (C2 n op kids)) (fun _=>True) (fun _=>[]) w f)
end Go.SP
namespace Go.SW
open Go.RowKit
theorem lE{σ' σ:Bo}(h:Le σ' σ:=by (repeat (first|exact Kv _|refine AD ?_ rfl))):Le σ' σ:=h
theorem vF{σ:Bo}{a0:Nat}{x0:Value}(h0:σ a0=some x0):Le (AL e0 a0 x0) σ:=AD (Kv _) h0
@[reducible] def E2(a0:Nat)(x0:Value)(a1:Nat)(x1:Value):Bo:=AL (AL e0 a0 x0) a1 x1
theorem tS{σ:Bo}{a0 a1 a2:Nat}{x0 x1 x2:Value}(h0:σ a0=some x0)(h1:σ a1=some x1)(h2:σ a2=some x2):Le (AL (AL (AL e0 a0 x0) a1 x1) a2 x2) σ:=AD (AD (AD (Kv _) h0) h1) h2
@[reducible] def E3(a0:Nat)(x0:Value)(a1:Nat)(x1:Value)(a2:Nat)(x2:Value):Bo:=AL (AL (AL e0 a0 x0) a1 x1) a2 x2
theorem tF{σ:Bo}{a0 a1 a2 a3:Nat}{x0 x1 x2 x3:Value}(h0:σ a0=some x0)(h1:σ a1=some x1)(h2:σ a2=some x2)(h3:σ a3=some x3):Le (AL (AL (AL (AL e0 a0 x0) a1 x1) a2 x2) a3 x3) σ:=AD (AD (AD (AD (Kv _) h0) h1) h2) h3
@[reducible] def E4(a0:Nat)(x0:Value)(a1:Nat)(x1:Value)(a2:Nat)(x2:Value)(a3:Nat)(x3:Value):Bo:=AL (AL (AL (AL e0 a0 x0) a1 x1) a2 x2) a3 x3
theorem tK{σ:Bo}{a0 a1 a2 a3 a4:Nat}{x0 x1 x2 x3 x4:Value}(h0:σ a0=some x0)(h1:σ a1=some x1)(h2:σ a2=some x2)(h3:σ a3=some x3)(h4:σ a4=some x4):Le (AL (AL (AL (AL (AL e0 a0 x0) a1 x1) a2 x2) a3 x3) a4 x4) σ:=AD (AD (AD (AD (AD (Kv _) h0) h1) h2) h3) h4
@[reducible] def E5(a0:Nat)(x0:Value)(a1:Nat)(x1:Value)(a2:Nat)(x2:Value)(a3:Nat)(x3:Value)(a4:Nat)(x4:Value):Bo:=AL (AL (AL (AL (AL e0 a0 x0) a1 x1) a2 x2) a3 x3) a4 x4
@[reducible] def E6(a0:Nat)(x0:Value)(a1:Nat)(x1:Value)(a2:Nat)(x2:Value)(a3:Nat)(x3:Value)(a4:Nat)(x4:Value)(a5:Nat)(x5:Value):Bo:=AL (AL (AL (AL (AL (AL e0 a0 x0) a1 x1) a2 x2) a3 x3) a4 x4) a5 x5
theorem tO{σ:Bo}{a0 a1 a2 a3 a4 a5 a6:Nat}{x0 x1 x2 x3 x4 x5 x6:Value}(h0:σ a0=some x0)(h1:σ a1=some x1)(h2:σ a2=some x2)(h3:σ a3=some x3)(h4:σ a4=some x4)(h5:σ a5=some x5)(h6:σ a6=some x6):Le (AL (AL (AL (AL (AL (AL (AL e0 a0 x0) a1 x1) a2 x2) a3 x3) a4 x4) a5 x5) a6 x6) σ:=AD (AD (AD (AD (AD (AD (AD (Kv _) h0) h1) h2) h3) h4) h5) h6
@[reducible] def E7(a0:Nat)(x0:Value)(a1:Nat)(x1:Value)(a2:Nat)(x2:Value)(a3:Nat)(x3:Value)(a4:Nat)(x4:Value)(a5:Nat)(x5:Value)(a6:Nat)(x6:Value):Bo:=AL (AL (AL (AL (AL (AL (AL e0 a0 x0) a1 x1) a2 x2) a3 x3) a4 x4) a5 x5) a6 x6
theorem sQ{σ:Bo}{a0 a1 a2 a3 a4 a5 a6 a7:Nat}{x0 x1 x2 x3 x4 x5 x6 x7:Value}(h0:σ a0=some x0)(h1:σ a1=some x1)(h2:σ a2=some x2)(h3:σ a3=some x3)(h4:σ a4=some x4)(h5:σ a5=some x5)(h6:σ a6=some x6)(h7:σ a7=some x7):Le (AL (AL (AL (AL (AL (AL (AL (AL e0 a0 x0) a1 x1) a2 x2) a3 x3) a4 x4) a5 x5) a6 x6) a7 x7) σ:=AD (AD (AD (AD (AD (AD (AD (AD (Kv _) h0) h1) h2) h3) h4) h5) h6) h7
@[reducible] def E8(a0:Nat)(x0:Value)(a1:Nat)(x1:Value)(a2:Nat)(x2:Value)(a3:Nat)(x3:Value)(a4:Nat)(x4:Value)(a5:Nat)(x5:Value)(a6:Nat)(x6:Value)(a7:Nat)(x7:Value):Bo:=AL (AL (AL (AL (AL (AL (AL (AL e0 a0 x0) a1 x1) a2 x2) a3 x3) a4 x4) a5 x5) a6 x6) a7 x7
theorem dU{σ:Bo}{a0 a1 a2 a3 a4 a5 a6 a7 a8:Nat}{x0 x1 x2 x3 x4 x5 x6 x7 x8:Value}(h0:σ a0=some x0)(h1:σ a1=some x1)(h2:σ a2=some x2)(h3:σ a3=some x3)(h4:σ a4=some x4)(h5:σ a5=some x5)(h6:σ a6=some x6)(h7:σ a7=some x7)(h8:σ a8=some x8):Le (AL (AL (AL (AL (AL (AL (AL (AL (AL e0 a0 x0) a1 x1) a2 x2) a3 x3) a4 x4) a5 x5) a6 x6) a7 x7) a8 x8) σ:=AD (AD (AD (AD (AD (AD (AD (AD (AD (Kv _) h0) h1) h2) h3) h4) h5) h6) h7) h8
@[reducible] def E9(a0:Nat)(x0:Value)(a1:Nat)(x1:Value)(a2:Nat)(x2:Value)(a3:Nat)(x3:Value)(a4:Nat)(x4:Value)(a5:Nat)(x5:Value)(a6:Nat)(x6:Value)(a7:Nat)(x7:Value)(a8:Nat)(x8:Value):Bo:=AL (AL (AL (AL (AL (AL (AL (AL (AL e0 a0 x0) a1 x1) a2 x2) a3 x3) a4 x4) a5 x5) a6 x6) a7 x7) a8 x8
@[reducible] def vE(a0:Nat)(x0:Value)(a1:Nat)(x1:Value)(a2:Nat)(x2:Value)(a3:Nat)(x3:Value)(a4:Nat)(x4:Value)(a5:Nat)(x5:Value)(a6:Nat)(x6:Value)(a7:Nat)(x7:Value)(a8:Nat)(x8:Value)(a9:Nat)(x9:Value):Bo:=AL (AL (AL (AL (AL (AL (AL (AL (AL (AL e0 a0 x0) a1 x1) a2 x2) a3 x3) a4 x4) a5 x5) a6 x6) a7 x7) a8 x8) a9 x9
theorem sA{σ:Bo}{a0 a1 a2 a3 a4 a5 a6 a7 a8 a9 a10:Nat}{x0 x1 x2 x3 x4 x5 x6 x7 x8 x9 x10:Value}(h0:σ a0=some x0)(h1:σ a1=some x1)(h2:σ a2=some x2)(h3:σ a3=some x3)(h4:σ a4=some x4)(h5:σ a5=some x5)(h6:σ a6=some x6)(h7:σ a7=some x7)(h8:σ a8=some x8)(h9:σ a9=some x9)(h10:σ a10=some x10):Le (AL (AL (AL (AL (AL (AL (AL (AL (AL (AL (AL e0 a0 x0) a1 x1) a2 x2) a3 x3) a4 x4) a5 x5) a6 x6) a7 x7) a8 x8) a9 x9) a10 x10) σ:=AD (AD (AD (AD (AD (AD (AD (AD (AD (AD (AD (Kv _) h0) h1) h2) h3) h4) h5) h6) h7) h8) h9) h10
@[reducible] def oA(a0:Nat)(x0:Value)(a1:Nat)(x1:Value)(a2:Nat)(x2:Value)(a3:Nat)(x3:Value)(a4:Nat)(x4:Value)(a5:Nat)(x5:Value)(a6:Nat)(x6:Value)(a7:Nat)(x7:Value)(a8:Nat)(x8:Value)(a9:Nat)(x9:Value)(a10:Nat)(x10:Value):Bo:=AL (AL (AL (AL (AL (AL (AL (AL (AL (AL (AL e0 a0 x0) a1 x1) a2 x2) a3 x3) a4 x4) a5 x5) a6 x6) a7 x7) a8 x8) a9 x9) a10 x10
@[reducible] def tR(a0:Nat)(x0:Value)(a1:Nat)(x1:Value)(a2:Nat)(x2:Value)(a3:Nat)(x3:Value)(a4:Nat)(x4:Value)(a5:Nat)(x5:Value)(a6:Nat)(x6:Value)(a7:Nat)(x7:Value)(a8:Nat)(x8:Value)(a9:Nat)(x9:Value)(a10:Nat)(x10:Value)(a11:Nat)(x11:Value):Bo:=AL (AL (AL (AL (AL (AL (AL (AL (AL (AL (AL (AL e0 a0 x0) a1 x1) a2 x2) a3 x3) a4 x4) a5 x5) a6 x6) a7 x7) a8 x8) a9 x9) a10 x10) a11 x11
theorem nH{σ:Bo}{a0 a1 a2 a3 a4 a5 a6 a7 a8 a9 a10 a11 a12 a13 a14 a15:Nat}{x0 x1 x2 x3 x4 x5 x6 x7 x8 x9 x10 x11 x12 x13 x14 x15:Value}(h0:σ a0=some x0)(h1:σ a1=some x1)(h2:σ a2=some x2)(h3:σ a3=some x3)(h4:σ a4=some x4)(h5:σ a5=some x5)(h6:σ a6=some x6)(h7:σ a7=some x7)(h8:σ a8=some x8)(h9:σ a9=some x9)(h10:σ a10=some x10)(h11:σ a11=some x11)(h12:σ a12=some x12)(h13:σ a13=some x13)(h14:σ a14=some x14)(h15:σ a15=some x15):Le (AL (AL (AL (AL (AL (AL (AL (AL (AL (AL (AL (AL (AL (AL (AL (AL e0 a0 x0) a1 x1) a2 x2) a3 x3) a4 x4) a5 x5) a6 x6) a7 x7) a8 x8) a9 x9) a10 x10) a11 x11) a12 x12) a13 x13) a14 x14) a15 x15) σ:=AD (AD (AD (AD (AD (AD (AD (AD (AD (AD (AD (AD (AD (AD (AD (AD (Kv _) h0) h1) h2) h3) h4) h5) h6) h7) h8) h9) h10) h11) h12) h13) h14) h15
@[reducible] def lM(a0:Nat)(x0:Value)(a1:Nat)(x1:Value)(a2:Nat)(x2:Value)(a3:Nat)(x3:Value)(a4:Nat)(x4:Value)(a5:Nat)(x5:Value)(a6:Nat)(x6:Value)(a7:Nat)(x7:Value)(a8:Nat)(x8:Value)(a9:Nat)(x9:Value)(a10:Nat)(x10:Value)(a11:Nat)(x11:Value)(a12:Nat)(x12:Value)(a13:Nat)(x13:Value)(a14:Nat)(x14:Value)(a15:Nat)(x15:Value):Bo:=AL (AL (AL (AL (AL (AL (AL (AL (AL (AL (AL (AL (AL (AL (AL (AL e0 a0 x0) a1 x1) a2 x2) a3 x3) a4 x4) a5 x5) a6 x6) a7 x7) a8 x8) a9 x9) a10 x10) a11 x11) a12 x12) a13 x13) a14 x14) a15 x15
theorem mR{α:Type}{F' Fs:List α}(ix:List Nat)(h:ix.map (nth Fs)=F'.map some:=by rfl):∀φ,φ∈F'→φ∈Fs:=fun φ hφ=>by
 have h1:some φ∈ix.map (nth Fs):=by rw[h];exact List.mem_map.2 ⟨φ,hφ,rfl⟩
 obtain⟨i,_,hi⟩:=List.mem_map.1 h1
 rw[F6] at hi
 exact List.mem_of_getElem? hi
theorem sK{α:Type}{a:α}{l l':List α}(h:l.Sublist l'):(a::l).Sublist (a::l'):=.cons_cons _ h
theorem sD{α:Type}{a:α}{l l':List α}(h:l.Sublist l'):l.Sublist (a::l'):=.cons _ h
theorem sZ{α:Type}:([]:List α).Sublist []:=.slnil
theorem sR{α:Type}{l:List α}:l.Sublist l:=List.Sublist.refl _
theorem nE{α:Type _}{p:α→Prop}:∀e,e∈([]:List α)→p e:=fun _ h=>by cases h
theorem Fu{α:Sort _}{β:α→Sort _}{γ:(a:α)→β a→Sort _}{δ:(a:α)→(b:β a)→γ a b→Sort _}:∀(a:α)(b:β a)(c:γ a b)(_:δ a b c),True:=fun _ _ _ _=>trivial
@[reducible] def rd:List Nat→OT→OT
 | [],t=>t
 |i::l,t=>.rd i (rd l t)
section
variable{X:Cx}{w:World}{f:Fq}{H:List HB}{R:List RB}{B:List FB}{Fs:List (World→Fq→Prop)}
theorem AX.mz(h:AX X w f H R B Fs):∀b,X.MI b→f b=0:=fun b hb=>(h.mi b hb).2.1
theorem AX.f0{a0:World→Fq→Prop}(h:AX X w f H R B (a0::Fs)):a0 w f:=h.fac _ (List.mem_of_getElem? (i:=0) rfl)
theorem AX.f1{a0 a1:World→Fq→Prop}(h:AX X w f H R B (a0::a1::Fs)):a1 w f:=h.fac _ (List.mem_of_getElem? (i:=1) rfl)
theorem AX.f2{a0 a1 a2:World→Fq→Prop}(h:AX X w f H R B (a0::a1::a2::Fs)):a2 w f:=h.fac _ (List.mem_of_getElem? (i:=2) rfl)
theorem AX.f3{a0 a1 a2 a3:World→Fq→Prop}(h:AX X w f H R B (a0::a1::a2::a3::Fs)):a3 w f:=h.fac _ (List.mem_of_getElem? (i:=3) rfl)
theorem AX.f4{a0 a1 a2 a3 a4:World→Fq→Prop}(h:AX X w f H R B (a0::a1::a2::a3::a4::Fs)):a4 w f:=h.fac _ (List.mem_of_getElem? (i:=4) rfl)
theorem AX.f5{a0 a1 a2 a3 a4 a5:World→Fq→Prop}(h:AX X w f H R B (a0::a1::a2::a3::a4::a5::Fs)):a5 w f:=h.fac _ (List.mem_of_getElem? (i:=5) rfl)
theorem AX.f6{a0 a1 a2 a3 a4 a5 a6:World→Fq→Prop}(h:AX X w f H R B (a0::a1::a2::a3::a4::a5::a6::Fs)):a6 w f:=h.fac _ (List.mem_of_getElem? (i:=6) rfl)
theorem AX.f7{a0 a1 a2 a3 a4 a5 a6 a7:World→Fq→Prop}(h:AX X w f H R B (a0::a1::a2::a3::a4::a5::a6::a7::Fs)):a7 w f:=h.fac _ (List.mem_of_getElem? (i:=7) rfl)
theorem AX.f8{a0 a1 a2 a3 a4 a5 a6 a7 a8:World→Fq→Prop}(h:AX X w f H R B (a0::a1::a2::a3::a4::a5::a6::a7::a8::Fs)):a8 w f:=h.fac _ (List.mem_of_getElem? (i:=8) rfl)
theorem AX.f9{a0 a1 a2 a3 a4 a5 a6 a7 a8 a9:World→Fq→Prop}(h:AX X w f H R B (a0::a1::a2::a3::a4::a5::a6::a7::a8::a9::Fs)):a9 w f:=h.fac _ (List.mem_of_getElem? (i:=9) rfl)
theorem AX.f10{a0 a1 a2 a3 a4 a5 a6 a7 a8 a9 a10:World→Fq→Prop}(h:AX X w f H R B (a0::a1::a2::a3::a4::a5::a6::a7::a8::a9::a10::Fs)):a10 w f:=h.fac _ (List.mem_of_getElem? (i:=10) rfl)
theorem AX.f12{a0 a1 a2 a3 a4 a5 a6 a7 a8 a9 a10 a11 a12:World→Fq→Prop}(h:AX X w f H R B (a0::a1::a2::a3::a4::a5::a6::a7::a8::a9::a10::a11::a12::Fs)):a12 w f:=h.fac _ (List.mem_of_getElem? (i:=12) rfl)
theorem AX.f13{a0 a1 a2 a3 a4 a5 a6 a7 a8 a9 a10 a11 a12 a13:World→Fq→Prop}(h:AX X w f H R B (a0::a1::a2::a3::a4::a5::a6::a7::a8::a9::a10::a11::a12::a13::Fs)):a13 w f:=h.fac _ (List.mem_of_getElem? (i:=13) rfl)
theorem AX.f16{a0 a1 a2 a3 a4 a5 a6 a7 a8 a9 a10 a11 a12 a13 a14 a15 a16:World→Fq→Prop}(h:AX X w f H R B (a0::a1::a2::a3::a4::a5::a6::a7::a8::a9::a10::a11::a12::a13::a14::a15::a16::Fs)):a16 w f:=h.fac _ (List.mem_of_getElem? (i:=16) rfl)
theorem AX.b0{a0:FB}(h:AX X w f H R (a0::B) Fs):Cs w f a0.b a0.off a0.l:=h.fro _ (List.mem_of_getElem? (i:=0) rfl)
theorem AX.b1{a0 a1:FB}(h:AX X w f H R (a0::a1::B) Fs):Cs w f a1.b a1.off a1.l:=h.fro _ (List.mem_of_getElem? (i:=1) rfl)
theorem AX.b2{a0 a1 a2:FB}(h:AX X w f H R (a0::a1::a2::B) Fs):Cs w f a2.b a2.off a2.l:=h.fro _ (List.mem_of_getElem? (i:=2) rfl)
theorem AX.b3{a0 a1 a2 a3:FB}(h:AX X w f H R (a0::a1::a2::a3::B) Fs):Cs w f a3.b a3.off a3.l:=h.fro _ (List.mem_of_getElem? (i:=3) rfl)
theorem AX.b4{a0 a1 a2 a3 a4:FB}(h:AX X w f H R (a0::a1::a2::a3::a4::B) Fs):Cs w f a4.b a4.off a4.l:=h.fro _ (List.mem_of_getElem? (i:=4) rfl)
theorem AX.b5{a0 a1 a2 a3 a4 a5:FB}(h:AX X w f H R (a0::a1::a2::a3::a4::a5::B) Fs):Cs w f a5.b a5.off a5.l:=h.fro _ (List.mem_of_getElem? (i:=5) rfl)
theorem AX.b6{a0 a1 a2 a3 a4 a5 a6:FB}(h:AX X w f H R (a0::a1::a2::a3::a4::a5::a6::B) Fs):Cs w f a6.b a6.off a6.l:=h.fro _ (List.mem_of_getElem? (i:=6) rfl)
theorem AX.b7{a0 a1 a2 a3 a4 a5 a6 a7:FB}(h:AX X w f H R (a0::a1::a2::a3::a4::a5::a6::a7::B) Fs):Cs w f a7.b a7.off a7.l:=h.fro _ (List.mem_of_getElem? (i:=7) rfl)
theorem AX.k0{a0:HB}(h:AX X w f (a0::H) R B Fs):AQ w a0.b a0.l a0.T:=h.blk _ (List.mem_of_getElem? (i:=0) rfl)
theorem qG{a0:HB}{H:List HB}:a0∈a0::H:=List.mem_of_getElem? (i:=0) rfl
theorem AX.k1{a0 a1:HB}(h:AX X w f (a0::a1::H) R B Fs):AQ w a1.b a1.l a1.T:=h.blk _ (List.mem_of_getElem? (i:=1) rfl)
theorem lC{a0 a1:HB}{H:List HB}:a1∈a0::a1::H:=List.mem_of_getElem? (i:=1) rfl
theorem AX.k2{a0 a1 a2:HB}(h:AX X w f (a0::a1::a2::H) R B Fs):AQ w a2.b a2.l a2.T:=h.blk _ (List.mem_of_getElem? (i:=2) rfl)
theorem Vy{a0 a1 a2:HB}{H:List HB}:a2∈a0::a1::a2::H:=List.mem_of_getElem? (i:=2) rfl
theorem AX.k3{a0 a1 a2 a3:HB}(h:AX X w f (a0::a1::a2::a3::H) R B Fs):AQ w a3.b a3.l a3.T:=h.blk _ (List.mem_of_getElem? (i:=3) rfl)
theorem V7{a0 a1 a2 a3:HB}{H:List HB}:a3∈a0::a1::a2::a3::H:=List.mem_of_getElem? (i:=3) rfl
theorem AX.k4{a0 a1 a2 a3 a4:HB}(h:AX X w f (a0::a1::a2::a3::a4::H) R B Fs):AQ w a4.b a4.l a4.T:=h.blk _ (List.mem_of_getElem? (i:=4) rfl)
theorem ZA{a0 a1 a2 a3 a4:HB}{H:List HB}:a4∈a0::a1::a2::a3::a4::H:=List.mem_of_getElem? (i:=4) rfl
theorem pK{a0 a1 a2 a3 a4 a5:HB}{H:List HB}:a5∈a0::a1::a2::a3::a4::a5::H:=List.mem_of_getElem? (i:=5) rfl
end
section
variable{P:Program}{σ:Bo}{ty:TypeId}
theorem eC{f:FuncId}{g:Operand}{args:List Operand}{vs:List Value}{ts:Array TypeId}(he:BS P f)(hg:ev σ g=some (.func (.func f) #[] #[]))(ha:Jb σ args=some vs) :
   ∀w,Enters P σ (.call {callee:=.value g,args:=args.toArray,argTypes:=ts}) ty w f vs.toArray:=fun _=>Aw he hg ha
theorem Dz{fn:Func}{d:Nat}{v:Value}{X:Cx}{H:List HB}{R:List RB}{B:List FB}{Fs:List (World→Fq→Prop)}(hr:fn.results=#[.tmp d])(h:σ d=some v):∀w f,AX X w f H R B Fs→UO P fn σ w v:=fun _ _ _=>AI hr (Aj h)
end
end Go.SW
