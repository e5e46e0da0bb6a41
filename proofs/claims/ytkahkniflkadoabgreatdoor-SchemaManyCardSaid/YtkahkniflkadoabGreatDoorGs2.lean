/- What it rests on, part 2. -/
import Derived.Test.YtkahkniflkadoabGreatDoorGs1
import Derived.Laws.MakeOwn
import Derived.Lib.Join
import Derived.Lib.ItoaNum
set_option linter.unusedVariables false
set_option linter.unusedSimpArgs false
namespace Go.SW
open Go.RowKit
structure C1(M:Nat→Prop)(w:World)(f:Fq)(w':World)(f':Fq):Prop where
 stp:L0 M w w'
 old:∀b,b<w.heap.size→f' b=f b
 val:∀b,w'.heap.size≤b→f' b=0
variable {af:Array Edge}{args:Array Value}{σ':Bc}{fid:FuncId}{H':List HB}{XX:List PanicEntry→World→Prop}{l:List Value}{d i:Nat}{M M':Nat→Prop}{g:Option (Nat×Bool)}{dst:Option Tmp}{pos:String}{ty:TypeId}{R0:Value→World→Prop}{I' φ:World→Fq→Prop}
theorem C1.fle{w w':World}{f f':Fq}(h:C1 M w f w' f')(hv:∀b,w.heap.size≤b→f b=0)(hm:∀b,M b→f b=0):Hh w f w' f':=λb=>by
 rcases Nat.lt_or_ge b w.heap.size with hb|hb
 · refine⟨by rw[h.old b hb];exact Nat.le_refl _,λo ho=>Dg (h.stp.block b hb λhh=>?_) o⟩
   rw[hm b hh] at ho;omega
 · refine⟨by rw[hv b hb];exact Nat.zero_le _,λo ho=>?_⟩
   rw[hv b hb] at ho;omega
theorem C1.refl(M:Nat→Prop){w:World}{f:Fq}(hv:∀b,w.heap.size≤b→f b=0):C1 M w f w f:=⟨L0.refl _ _,λ_ _=>rfl,hv⟩
theorem C1.mono{w w':World}{f f':Fq}(h:C1 M w f w' f')(hm:∀b,M b→M' b):C1 M' w f w' f':=⟨h.stp.mono hm,h.old,h.val⟩
theorem C1.of_ext{w w':World}{f:Fq}(h:AR w w')(hv:∀b,w.heap.size≤b→f b=0):C1 (λ_=>False) w f w' f:=⟨L0.of_ext h,λ_ _=>rfl,λb hb=>hv b (Nat.le_trans h.size hb)⟩
theorem AN.exm{X:Cx}{w:World}{f:Fq}{H:List HB}{R:List RB}{B:List FB}{Fs:List (World→Fq→Prop)}(h:AN X w f H R B Fs):C1 X.M X.w0 X.f0 w f:=⟨h.stp,h.old,h.val⟩
section
variable{X:Cx}{w w':World}{f f':Fq}{H:List HB}{R:List RB}{B:List FB}{Fs:List (World→Fq→Prop)}
theorem AN.call0(h:AN X w f H R B Fs)(he:C1 (λ_=>False) w f w' f'):AN X w' f' H R B Fs :=
 have hF:=he.fle h.val (λ_ h=>h.elim)
 h.step (he.stp.mono λ_ h=>h.elim) hF he.old he.val (λb hb=>he.stp.block b (h.lt hb) λh=>h) (λb hb=>he.stp.block b (h.mi b hb).1 λh=>h)
theorem AN.callI(h:AN X w f H R B Fs)(he:C1 X.MI w f w' f')(hI:I' w' f')(hst:EL X.MI I'):AN {X with I:=I' } w' f' H R B Fs :=
 have hF:=he.fle h.val (λb hb=>(h.mi b hb).2.1);have hown:∀b,b∈C4 H R→w'.heap[b]?=w.heap[b]?:=λb hb=>he.stp.block b (h.lt hb) (h.own b hb).2.2
 {stp:=⟨he.stp.os.trans h.stp.os,he.stp.tape.trans h.stp.tape,he.stp.output.trans h.stp.output,Nat.le_trans h.stp.size he.stp.size,λk hk hm=>(he.stp.block k (Nat.lt_of_lt_of_le hk h.stp.size) λhh=>by
       rcases (h.mi k hh).2.2 with h1|h1
       · exact absurd hk (Nat.not_lt.2 h1)
       · exact hm h1).trans (h.stp.block k hk hm)⟩,
   old:=λb hb=>(he.old b (Nat.lt_of_lt_of_le hb h.stp.size)).trans (h.old b hb),val:=he.val,ent:=h.ent.trans hF,res:=hI,stab:=hst,
   mi:=λb hb=>⟨Nat.lt_of_lt_of_le (h.mi b hb).1 he.stp.size,(he.old b (h.mi b hb).1).trans (h.mi b hb).2.1,(h.mi b hb).2.2⟩,
   blk:=λe hh=>(hown e.b (List.mem_append.2 (.inl (List.mem_map.2 ⟨e,hh,rfl⟩)))).trans (h.blk e hh),
   row:=λr hr=>by
     refine⟨(h.row r hr).1,(h.row r hr).2.imp id ?_⟩;rintro⟨b,l,h1,h2,h3⟩;exact⟨b,l,h1,(hown b (List.mem_append.2 (.inr (List.mem_filterMap.2 ⟨r,hr,by rw[h1];rfl⟩)))).trans h2,h3⟩,
   nd:=h.nd,
   own:=λb hb=>⟨(he.old b (h.lt hb)).trans (h.own b hb).1,(h.own b hb).2⟩,hnw:=h.hnw,rnw:=h.rnw,
   fro:=λe hh=>(h.fro e hh).mono hF,fac:=λφ hφ=>h.mono φ hφ _ _ _ _ (h.fac φ hφ) hF,mono:=h.mono}
theorem AN.more{B':List FB}{F':List (World→Fq→Prop)}(h:AN X w f H R B Fs)(hB:∀e,e∈B'→Cs w f e.b e.off e.l)(hF:∀φ,φ∈F'→φ w f)(hm:∀φ,φ∈F'→F6 φ):AN X w f H R (B'++B) (F'++Fs) :=
 {h with
   fro:=λe he=>(List.mem_append.1 he).elim (hB e) (h.fro e),
   fac:=λφ hφ=>(List.mem_append.1 hφ).elim (hF φ) (h.fac φ),
   mono:=λφ hφ=>(List.mem_append.1 hφ).elim (hm φ) (h.mono φ)}
theorem AN.less{R':List RB}{B':List FB}{F':List (World→Fq→Prop)}(h:AN X w f H R B Fs)(hH:H'.Sublist H)(hR:R'.Sublist R)(hB:∀e,e∈B'→e∈B)(hF:∀φ,φ∈F'→φ∈Fs):AN X w f H' R' B' F' :=
 have hs:(C4 H' R').Sublist (C4 H R):=List.Sublist.append (hH.map _) (hR.filterMap _)
 {h with
   blk:=λe he=>h.blk e (hH.subset he),row:=λr hr=>h.row r (hR.subset hr),nd:=hs.nodup h.nd,own:=λb hb=>h.own b (hs.subset hb),hnw:=λe he=>h.hnw e (hH.subset he),rnw:=λr hr=>h.rnw r (hR.subset hr),
   fro:=λe he=>h.fro e (hB e he),fac:=λφ hφ=>h.fac φ (hF φ hφ),mono:=λφ hφ=>h.mono φ (hF φ hφ)}
theorem AN.fact(h:AN X w f H R B Fs)(hi:nth Fs i=some φ):φ w f:=by
 rw[Ef] at hi;exact h.fac _ (List.mem_of_getElem? hi)
end
section
variable{P:Program}{n:Nat}{Q:AU}{ds:List Deferred}{X:Cx}{R:List RB}{B:List FB}{Fs:List (World→Fq→Prop)}{tb:VK}{fs:List Fr}{σ:Bc}{H:List HB}
theorem go{k:JS}(ht:tb.Ok P)(m:Nat)(hs:List Nat)(h:ex P n Q ds X R B Fs tb m hs k fs σ H):A3 P n Q ds X R B Fs k fs σ H:=Iy ht m hs k fs σ H h
theorem y{α:Type}{a:α}{p:Prop}(h:p):a=a∧p:=⟨rfl,h⟩
theorem y2{α β:Type}{a:α}{b:β}{p:Prop}(h:p):(a=a∧b=b)∧p:=⟨⟨rfl,rfl⟩,h⟩
def fK:JS→Bool
 |.out _=>false
 |_=>true
theorem A3.le{k:JS}(hk:fK k=true)(hl:Le σ' σ)(h:A3 P n Q ds X R B Fs k fs σ' H):A3 P n Q ds X R B Fs k fs σ H:=λw f hM=>by
 have:=h w f hM
 cases k with
 |code c=>exact Ng hl this
 |ops all l=>exact λa ha=>this a (ha.le hl)
 |out e=>cases hk
theorem AL{k:JS}{b:Bool}(t:Nat)(hk:fK k=true)(hx:σ t=some (.bool b))(h1:b=true→A3 P n Q ds X R B Fs k fs (AA σ t (.bool true)) H)(h2:b=false→A3 P n Q ds X R B Fs k fs (AA σ t (.bool false)) H):A3 P n Q ds X R B Fs k fs σ H:=by
 cases b with
 |true=>exact A3.le hk (A6 (le_refl _) hx) (h1 rfl)
 |false=>exact A3.le hk (A6 (le_refl _) hx) (h2 rfl)
theorem sW{k:JS}{b:Bool}(t:Nat)(c:Bool)(hk:fK k=true)(hx:σ t=some (.bool b))(hb:b=c)(h1:A3 P n Q ds X R B Fs k fs (AA σ t (.bool c)) H):A3 P n Q ds X R B Fs k fs σ H:=by
 subst hb;exact A3.le hk (A6 (le_refl _) hx) h1
theorem LM{k:JS}{α:Type}(p:α→Prop)(B':α→List FB)(F':α→List (World→Fq→Prop))(hφ:∀w f,AN X w f H R B Fs→∃x,p x∧(∀e,e∈B' x→Cs w f e.b e.off e.l)∧∀φ,φ∈F' x→φ w f)(hm:∀x φ,φ∈F' x→F6 φ)
   (h:∀x,p x→A3 P n Q ds X R (B' x++B) (F' x++Fs) k fs σ H):A3 P n Q ds X R B Fs k fs σ H:=λw f hM=>by
 obtain⟨x,hp,hB,hF⟩:=hφ w f hM;exact h x hp w f (hM.more hB hF (hm x))
theorem HZ{k:JS}{p:Prop}(hφ:∀w f,AN X w f H R B Fs→p)(h:p→A3 P n Q ds X R B Fs k fs σ H):A3 P n Q ds X R B Fs k fs σ H:=λw f hM=>h (hφ w f hM) w f hM
theorem Lo:∀fs:List Fr,(Ln P n Q fs).p=Q.p
 | []=>rfl
 |.sq _::fs=>Lo fs
 |.bk _::fs=>Lo fs
theorem uR{all r:List Oper}{op:Op}{α:Type}{val:α→Value}{q:α→Prop}{F':α→List (World→Fq→Prop)}(hg:gd all σ g=some true)(hd:Nat.blt d n=true)(he:∀w,Enters P σ op ty w fid args)
   (hc:∀w f,AN X w f H R B Fs→Bq P fid args w λv w'=>∃x f',v=val x∧q x∧C1 (λ_=>False) w f w' f'∧∀φ,φ∈F' x→φ w' f') (hm:∀x φ,φ∈F' x→F6 φ)
   (h:∀x,q x→A3 P n Q ds X R B (F' x++Fs) (.ops all r) fs (AA σ d (val x)) H):A3 P n Q ds X R B Fs (.ops all (⟨some d,op,ty,pos,af,g⟩::r)) fs σ H:=λw f hM=>by
 refine B1 hg (A4 hd (he w) (hc w f hM) ?_);rintro v w' ⟨x,f',rfl,hq,hE,hF⟩;exact h x hq w' f' ((hM.call0 hE).more (B':=[]) (λ_ h=>by cases h) hF (hm x))
theorem uW{all r:List Oper}{op:Op}{α:Type}{val:α→Value}{q:α→Prop}{I':α→World→Fq→Prop}{F':α→List (World→Fq→Prop)}
   (hg:gd all σ g=some true) (hd:Nat.blt d n=true) (he:∀w,Enters P σ op ty w fid args)
   (hc:∀w f,AN X w f H R B Fs→BB P fid args w (λv w'=>∃x f',v=val x∧q x∧C1 X.MI w f w' f'∧I' x w' f'∧∀φ,φ∈F' x→φ w' f') XX) (hst:∀x,EL X.MI (I' x)) (hm:∀x φ,φ∈F' x→F6 φ)
   (hp:∀w f c w',AN X w f H R B Fs→XX c w'→Q.p c σ ds w')
   (h:∀x,q x→A3 P n Q ds {X with I:=I' x} R B (F' x++Fs) (.ops all r) fs (AA σ d (val x)) H):A3 P n Q ds X R B Fs (.ops all (⟨some d,op,ty,pos,af,g⟩::r)) fs σ H:=λw f hM=>by
 refine B1 hg (BW hd (he w) (hc w f hM) ?_ ?_)
 · rintro v w' ⟨x,f',rfl,hq,hE,hI,hF⟩
   exact h x hq w' f' ((hM.callI hE hI (hst x)).more (B':=[]) (λ_ h=>by cases h) hF (hm x))
 · intro c w' hX
   rw[Lo];exact hp w f c w' hM hX
theorem Dx{all r:List Oper}{op:Op}{v:Value}(hg:gd all σ g=some true)(hd:Nat.blt d n=true)(hr:∀w f,AN X w f H R B Fs→AG P σ op ty w v w)
   (h:A3 P n Q ds X R B Fs (.ops all r) fs (AA σ d v) H):A3 P n Q ds X R B Fs (.ops all (⟨some d,op,ty,pos,af,g⟩::r)) fs σ H:=λw f hM=>B1 hg (Ab hd (hr w f hM) (h w f hM))
theorem rT{all r:List Oper}{op:Op}{v:Value}(hg:gd all σ g=some true)(hr:∀w,lC P σ op ty w v w)
   (h:∀w f,AN X w f H R B Fs→Q.p [{v,recovered:=false}] σ ds w):A3 P n Q ds X R B Fs (.ops all (⟨dst,op,ty,pos,af,g⟩::r)) fs σ H:=λw f hM=>B1 hg (Cd (hr w) (by rw[Lo];exact h w f hM))
def rH(P:Program)(n:Nat){α:Type}(m:α→Nat)(p:α→Prop)(s:α→Bc)(X:α→Cx)(H:α→List HB)(R:α→List RB)(B:α→List FB)(Fs:α→List (World→Fq→Prop))(ds:List Deferred)(k:Nat)(Q:AU):AU :=
 {q:=λe σ ds' w=>match e with
     |.normal=>∃x,m x<k∧p x∧ds'=ds∧Le (s x) σ∧∃f,AN (X x) w f (H x) (R x) (B x) (Fs x)
     |e=>Q.q e σ ds' w,
   p:=Q.p}
theorem Fy{c:Code}{α:Type}(m:α→Nat)(p:α→Prop)(s:α→Bc)(X':α→Cx)(H':α→List HB)(R':α→List RB)(B':α→List FB)(F':α→List (World→Fq→Prop))(x0:α)(h0:p x0)(hl:Le (s x0) σ)
   (hM:∀w f,AN X w f H R B Fs→AN (X' x0) w f (H' x0) (R' x0) (B' x0) (F' x0))
   (body:∀x,p x→A3 P n (rH P n m p s X' H' R' B' F' ds (m x) (Ln P n Q fs)) ds (X' x) (R' x) (B' x) (F' x) (.code c) [] (s x) (H' x)):A3 P n Q ds X R B Fs (.code (.loop c)) fs σ H:=λw f hm=>by
 refine D8 (λk σ ds' w=>∃x,m x=k∧p x∧ds'=ds∧σ=s x∧∃f,AN (X' x) w f (H' x) (R' x) (B' x) (F' x)) (m x0) (s x0) hl ⟨x0,rfl,h0,rfl,rfl,f,hM w f hm⟩ ?_;rintro k σ ds' w ⟨x,rfl,hp,rfl,rfl,f,hm⟩;have:=body x hp w f hm;intro a ha;refine wp_mono (this a ha) λe a' w' he=>?_
 cases e with
 |normal =>
   obtain⟨σ',ds',hs,y,hy,hpy,rfl,hly,f',hm'⟩:=he;exact⟨σ',_,hs,m y,s y,hy,hly,y,rfl,hpy,rfl,rfl,f',hm'⟩
 |panic c=>exact he
 |outgrown=>exact he
 |ret=>exact he
 |exit i=>exact he
 |goto i=>exact he
theorem Dj{α:Type}{m:α→Nat}{p:α→Prop}{s:α→Bc}{X':α→Cx}{H':α→List HB}{R':α→List RB}{B':α→List FB}{F':α→List (World→Fq→Prop)}{k:Nat}(x:α)(hk:m x<k)(hp:p x)(hl:Le (s x) σ)
   (hM:∀w f,AN X w f H R B Fs→∃f,AN (X' x) w f (H' x) (R' x) (B' x) (F' x)):A3 P n (rH P n m p s X' H' R' B' F' ds k Q) ds X R B Fs (.out .normal) [] σ H :=
 λw f hm=>⟨x,hk,hp,rfl,hl,hM w f hm⟩
theorem ER{α:Type}{m:α→Nat}{p:α→Prop}{s:α→Bc}{X':α→Cx}{H':α→List HB}{R':α→List RB}{B':α→List FB}{F':α→List (World→Fq→Prop)}{k:Nat}(h:A3 P n Q ds X R B Fs (.out (.exit i)) fs σ H):A3 P n (rH P n m p s X' H' R' B' F' ds k (Ln P n Q fs)) ds X R B Fs (.out (.exit i)) [] σ H:=λw f hm=>h w f hm
theorem W7{α:Type}{m:α→Nat}{p:α→Prop}{s:α→Bc}{X':α→Cx}{H':α→List HB}{R':α→List RB}{B':α→List FB}{F':α→List (World→Fq→Prop)}{k:Nat}(h:A3 P n Q ds X R B Fs (.out .ret) fs σ H):A3 P n (rH P n m p s X' H' R' B' F' ds k (Ln P n Q fs)) ds X R B Fs (.out .ret) [] σ H:=λw f hm=>h w f hm
theorem Mh{fn:Func}{c:Code}{w:World}{f:Fq}(hf:P.funcs[fid]?=some fn)(hb:fn.body=some c)(hn:fn.ntmps=n)(hl:Nat.ble l.length n=true)(hM:AN X w f H R B Fs)
   (h:A3 P n (EU P fn R0 XX) [] X R B Fs (.code c) [] (Hs l 0) H):BB P fid l.toArray w R0 XX:=HA hf hb hn hl (h w f hM)
theorem Co{fn:Func}{c:Code}{w:World}{f:Fq}(hf:P.funcs[fid]?=some fn)(hb:fn.body=some c)(hn:fn.ntmps=n)(hl:Nat.ble l.length n=true)(hM:AN X w f H R B Fs)
   (h:A3 P n (EU P fn R0 λ_ _=>False) [] X R B Fs (.code c) [] (Hs l 0) H):Bq P fid l.toArray w R0:=enter hf hb hn hl (h w f hM)
theorem AM{fn:Func}{v:Value}(hv:∀w f,AN X w f H R B Fs→Td P fn σ w v)(h:∀w f,AN X w f H R B Fs→R0 v w):A3 P n (EU P fn R0 XX) [] X R B Fs (.out .ret) [] σ H:=λw f hM=>Bm (hv w f hM) (h w f hM)
theorem bH{fn:Func}{v:Value}(hv:∀w f,AN X w f H R B Fs→Td P fn σ w v)(h:∀w f,AN X w f H R B Fs→R0 v w):A3 P n (EU P fn R0 XX) [] X R B Fs (.out .normal) [] σ H:=λw f hM=>FI (hv w f hM) (h w f hM)
end
def N9:List RB→Nat→Option RB
 | [],_=>none
 |x::_,0=>some x
 |_::l,i+1=>N9 l i
def Q4:List RB→Nat→RB→Option (List RB)
 | [],_,_=>none
 |_::H,0,e=>some (e::H)
 |x::H,i+1,e=>match Q4 H i e with
   |some r=>some (x::r)
   |none=>none
def OU:List RB→Nat→Option (List RB)
 | [],_=>none
 |_::H,0=>some H
 |x::H,i+1=>match OU H i with
   |some r=>some (x::r)
   |none=>none
theorem Dp:∀{R:List RB}{i:Nat}{r:RB},N9 R i=some r→r∈R
 | [],_,_,h=>by cases h
 |_::_,0,_,h=>by cases h;exact .head _
 |_::R,i+1,r,h=>.tail _ (Dp (R:=R) h)
theorem Q0:∀{R R':List RB}{i:Nat},OU R i=some R'→R'.Sublist R
 | [],_,_,h=>by cases h
 |_::_,_,0,h=>by cases h;exact List.sublist_cons_self _ _
 |x::R,R',i+1,h=>by
   unfold OU at h
   cases hr:OU R i with
   |none=>rw[hr] at h;cases h
   |some r=>rw[hr] at h;cases h;exact (Q0 hr).cons_cons x
def IU(R:List RB):List Nat:=R.filterMap λr=>rb r.a
theorem Rr:∀{R R':List RB}{i:Nat}{r r':RB},N9 R i=some r→Q4 R i r'=some R'→(∀x,x∈R'→x=r'∨x∈R)∧∀N,(rb r'.a=rb r.a∨∃k,rb r'.a=some k∧k∉N∧k∉IU R)→(N++IU R).Nodup→(N++IU R').Nodup∧(∀b,b∈IU R'→some b=rb r'.a∨b∈IU R)∧∀x,x∈R'→x=r'∨(x∈R∧(rb x.a=none∨rb x.a≠rb r.a))
 | [],_,_,_,_,h,_=>by cases h
 |x::R,R',0,r,r',hg,hs=>by
   cases hg;cases hs
   refine⟨λy hy=>by rcases List.mem_cons.1 hy with h|h;exact .inl h;exact .inr (.tail _ h),λN hk hn=>?_⟩
   have e1:IU (x::R)=(match rb x.a with|some b=>b::IU R|none=>IU R):=by
     unfold IU;rw[List.filterMap_cons];cases rb x.a <;> rfl
   have e2:IU (r'::R)=(match rb r'.a with|some b=>b::IU R|none=>IU R):=by
     unfold IU;rw[List.filterMap_cons];cases rb r'.a <;> rfl
   have hsub:(N++IU R).Nodup:=by
     rw[e1] at hn
     cases hx:rb x.a with
     |none=>rw[hx] at hn;exact hn
     |some b=>rw[hx] at hn;exact (List.Sublist.append (List.Sublist.refl N) (List.sublist_cons_self b _)).nodup hn
   have hother:∀y,y∈R→rb y.a=none∨rb y.a≠rb x.a:=λy hy=>by
     cases hb:rb y.a with
     |none=>exact .inl rfl
     |some b =>
       refine .inr λe=>?_;rw[e1,← e] at hn;have h2:=(List.nodup_append.1 hn).2.1;exact (List.nodup_cons.1 h2).1 (List.mem_filterMap.2 ⟨y,hy,hb⟩)
   refine⟨?_,?_,?_⟩
   · rcases hk with hk|⟨k,hk,hkN,hkR⟩
     · rw[e2,hk,← e1];exact hn
     · rw[e2,hk]
       have hkR':k∉IU R:=λh=>hkR (by rw[e1];cases rb x.a with|none=>exact h|some b=>exact .tail _ h)
       exact List.nodup_append.2 ⟨(List.nodup_append.1 hsub).1,List.nodup_cons.2 ⟨hkR',(List.nodup_append.1 hsub).2.1⟩,λa ha b hb e=>by
         rcases List.mem_cons.1 hb with rfl|hb
         · exact hkN (e▸ha)
         · exact (List.nodup_append.1 hsub).2.2 a ha b hb e⟩
   · intro b hb
     rw[e2] at hb
     cases hr:rb r'.a with
     |none=>rw[hr] at hb;right;rw[e1];cases rb x.a with|none=>exact hb|some c=>exact .tail _ hb
     |some c =>
       rw[hr] at hb;rcases List.mem_cons.1 hb with rfl|hb
       · exact .inl rfl
       · right;rw[e1];cases rb x.a with|none=>exact hb|some c=>exact .tail _ hb
   · intro y hy
     rcases List.mem_cons.1 hy with h|h
     · exact .inl h
     · exact .inr ⟨.tail _ h,hother y h⟩
 |x::R,R',i+1,r,r',hg,hs=>by
   unfold Q4 at hs
   cases hr:Q4 R i r' with
   |none=>rw[hr] at hs;cases hs
   |some R1 =>
     rw[hr] at hs;cases hs;obtain⟨h1,h2⟩:=Rr (R:=R) hg hr
     refine⟨λy hy=>by
       rcases List.mem_cons.1 hy with rfl|hy
       · exact .inr (.head _)
       · rcases h1 y hy with h|h
         · exact .inl h
         · exact .inr (.tail _ h),λN hk hn=>?_⟩
     have ex:∀L:List RB,IU (x::L)=(match rb x.a with|some b=>b::IU L|none=>IU L):=λL=>by
       unfold IU;rw[List.filterMap_cons];cases rb x.a <;> rfl
     cases hx:rb x.a with
     |none =>
       rw[ex,hx] at hn;obtain⟨a1,a2,a3⟩:=h2 N (by rw[ex,hx] at hk;exact hk) hn;refine⟨by rw[ex,hx];exact a1,λb hb=>by rw[ex,hx] at hb;rw[ex,hx];exact a2 b hb,λy hy=>?_⟩;rcases List.mem_cons.1 hy with rfl|hy
       · exact .inr ⟨.head _,.inl hx⟩
       · rcases a3 y hy with h|h
         · exact .inl h
         · exact .inr ⟨.tail _ h.1,h.2⟩
     |some c =>
       rw[ex,hx] at hn;simp only at hn;have hn':((N++[c])++IU R).Nodup:=by simpa using hn
       obtain⟨a1,a2,a3⟩:=h2 (N++[c]) (by
         rw[ex,hx] at hk;rcases hk with hk|⟨k,hk,hkN,hkR⟩
         · exact .inl hk
         · exact .inr ⟨k,hk,λh=>by
             rcases List.mem_append.1 h with h|h
             · exact hkN h
             · exact hkR (by rw[List.mem_singleton] at h;subst h;exact .head _),λh=>hkR (.tail _ h)⟩) hn'
       have hrc:rb r.a≠some c:=λe=>by
         have:c∈IU R:=List.mem_filterMap.2 ⟨r,Dp hg,e⟩;exact (List.nodup_append.1 hn').2.2 c (List.mem_append.2 (.inr (.head _))) c this rfl
       refine⟨by rw[ex,hx];simpa using a1,λb hb=>?_,λy hy=>?_⟩
       · rw[ex,hx] at hb
         rcases List.mem_cons.1 hb with rfl|hb
         · right;rw[ex,hx];exact .head _
         · rcases a2 b hb with h|h
           · exact .inl h
           · right;rw[ex,hx];exact .tail _ h
       · rcases List.mem_cons.1 hy with rfl|hy
         · exact .inr ⟨.head _,.inr (by rw[hx];exact λe=>hrc e.symm)⟩
         · rcases a3 y hy with h|h
           · exact .inl h
           · exact .inr ⟨.tail _ h.1,h.2⟩
section
variable{X:Cx}{w w':World}{f:Fq}{H:List HB}{R R':List RB}{B:List FB}{Fs:List (World→Fq→Prop)}
variable {xs:List Value}{b c' n n':Nat}{a':Option Addr}{e:TypeId}
theorem AN.grow{r:RB}{xs':List Value}(h:AN X w f H R B Fs)(hg:N9 R i=some r)(hs:Q4 R i ⟨r.e,r.size,a',c',n',xs'⟩=some R')(hr:BP w' r.e r.size a' c' n' xs')(hG:E1 r.a w a' w'):AN X w' f H R' B Fs:=by
 have hmemr:∀b,rb r.a=some b→b∈C4 H R:=λb hb=>List.mem_append.2 (.inr (List.mem_filterMap.2 ⟨r,Dp hg,hb⟩))
 have hF:Hh w f w' f:=λk=>⟨Nat.le_refl _,λo ho=>by
   have hk:k<w.heap.size:=by
     rcases Nat.lt_or_ge k w.heap.size with hh|hh
     · exact hh
     · have:=h.val k hh;omega
   exact Dg (hG.block k hk λe=>by have:=(h.own k (hmemr k e.symm)).1;omega) o⟩
 have hmi:∀k,X.MI k→w'.heap[k]?=w.heap[k]?:=λk hk=>hG.block k (h.mi k hk).1 λe=>(h.own k (hmemr k e.symm)).2.2 hk;have hnew:w.heap.size∉C4 H R:=λhh=>Nat.lt_irrefl _ (h.lt hh);obtain⟨h1,h2⟩:=Rr hg hs
 obtain⟨a1,a2,a3⟩:=h2 (H.map HB.b) (by
   rcases hG.own with ho|ho
   · exact .inl ho
   · exact .inr ⟨_,ho,λhh=>hnew (List.mem_append.2 (.inl hh)),λhh=>hnew (List.mem_append.2 (.inr hh))⟩) h.nd
 have hblk:∀e,e∈H→w'.heap[e.b]?=w.heap[e.b]?:=λe he=>hG.block e.b (h.blk e he).lt λhh=>by
   exact (List.nodup_append.1 h.nd).2.2 e.b (List.mem_map.2 ⟨e,he,rfl⟩) e.b (List.mem_filterMap.2 ⟨r,Dp hg,hh.symm⟩) rfl
 exact {stp:=⟨hG.os.trans h.stp.os,hG.tape.trans h.stp.tape,hG.output.trans h.stp.output,Nat.le_trans h.stp.size hG.size,λk hk hm=>(hG.block k (Nat.lt_of_lt_of_le hk h.stp.size) λe=>by have:=h.rnw r (Dp hg) k e.symm;omega).trans (h.stp.block k hk hm)⟩,
         old:=h.old,val:=λk hk=>h.val k (Nat.le_trans hG.size hk),ent:=h.ent.trans hF,res:=h.stab _ _ _ _ h.res hF hmi,stab:=h.stab,
         mi:=λk hk=>⟨Nat.lt_of_lt_of_le (h.mi k hk).1 hG.size,(h.mi k hk).2⟩,
         blk:=λe he=>(hblk e he).trans (h.blk e he),
         row:=λx hx=>by
           rcases a3 x hx with rfl|⟨hx,hne⟩
           · exact hr
           · exact (h.row x hx).grow hG hne,
         nd:=a1,
         own:=λb hb=>by
           rcases List.mem_append.1 hb with hb|hb
           · exact h.own b (List.mem_append.2 (.inl hb))
           · rcases a2 b hb with hb|hb
             · rcases hG.own with ho|ho
               · exact h.own b (hmemr b (by rw[← ho];exact hb.symm))
               · have:b=w.heap.size:=Option.some.inj (hb.trans ho)
                 subst this;exact⟨h.val _ (Nat.le_refl _),.inl h.stp.size,λhm=>Nat.lt_irrefl _ (h.mi _ hm).1⟩
             · exact h.own b (List.mem_append.2 (.inr hb)),
         hnw:=h.hnw,
         rnw:=λx hx b hb=>by
           rcases a3 x hx with rfl|⟨hx,_⟩
           · rcases hG.own with ho|ho
             · exact h.rnw r (Dp hg) b (by rw[← ho];exact hb)
             · have:b=w.heap.size:=Option.some.inj (hb.symm.trans ho)
               subst this;exact h.stp.size
           · exact h.rnw x hx b hb,
         fro:=λx hx=>(h.fro x hx).mono hF,fac:=λφ hφ=>h.mono φ hφ _ _ _ _ (h.fac φ hφ) hF,mono:=h.mono}
theorem AN.rowNil(h:AN X w f H R B Fs)(e:TypeId)(size:Nat):AN X w f H (⟨e,size,none,0,0,[]⟩::R) B Fs :=
 {h with
   row:=λr hr=>by
     rcases List.mem_cons.1 hr with rfl|hr
     · exact Fp _ _ _
     · exact h.row r hr,
   rnw:=λr hr b hb=>by
     rcases List.mem_cons.1 hr with rfl|hr
     · cases hb
     · exact h.rnw r hr b hb}
theorem AN.done{size c:Nat}(h:AN X w f H R B Fs)(hg:N9 R i=some ⟨e,size,some ⟨b,0,none⟩,c,n,xs⟩)(hs:OU R i=some R'):∃f',AN X w f' H R' (⟨b,0,xs⟩::B) Fs:=by
 have hr:=h.row _ (Dp hg);have hown:=h.own b (List.mem_append.2 (.inr (List.mem_filterMap.2 ⟨_,Dp hg,rfl⟩)));have hnw:=h.rnw _ (Dp hg) b rfl;have hlt:b<w.heap.size:=hr.lt rfl
 let f':Fq:=λk=>if k=b then n*size else f k
 have hF:Hh w f w f':=λk=>by
   show f k≤(if k=b then n*size else f k)∧_
   split
   · rename_i hk;subst hk;rw[hown.1];exact⟨Nat.zero_le _,λo ho=>by omega⟩
   · exact⟨Nat.le_refl _,λ_ _=>rfl⟩
 have hne:∀k,k≠b→f' k=f k:=λk hk=>if_neg hk;have hsub:=Q0 hs
 have hbR:b∉C4 H R':=by
   have:∀(R R':List RB)(i:Nat)(N:List Nat),N9 R i=some ⟨e,size,some ⟨b,0,none⟩,c,n,xs⟩→OU R i=some R'→(N++IU R).Nodup→b∉N++IU R':=by
     intro R
     induction R with
     |nil=>intro R' i N hg;cases hg
     |cons x R ih =>
       intro R' i N hg hs hn
       cases i with
       |zero =>
         cases hg;cases hs
         have e1:IU (⟨e,size,some ⟨b,0,none⟩,c,n,xs⟩::R)=b::IU R:=rfl;rw[e1] at hn;intro hb;rcases List.mem_append.1 hb with hb|hb
         · exact (List.nodup_append.1 hn).2.2 b hb b (.head _) rfl
         · exact (List.nodup_cons.1 (List.nodup_append.1 hn).2.1).1 hb
       |succ i =>
         unfold OU at hs
         cases hr:OU R i with
         |none=>rw[hr] at hs;cases hs
         |some R1 =>
           rw[hr] at hs;cases hs
           have ex:∀L:List RB,IU (x::L)=(match rb x.a with|some b=>b::IU L|none=>IU L):=λL=>by
             unfold IU;rw[List.filterMap_cons];cases rb x.a <;> rfl
           rw[ex] at hn ⊢
           cases hx:rb x.a with
           |none=>rw[hx] at hn;exact ih R1 i N hg hr hn
           |some k =>
             rw[hx] at hn;have:=ih R1 i (N++[k]) hg hr (by simpa using hn);simpa using this
   exact this R R' i (H.map HB.b) hg hs h.nd
 refine⟨f',{stp:=h.stp,old:=λk hk=>(hne k oM).trans (h.old k hk),val:=λk hk=>(hne k oM).trans (h.val k hk),ent:=h.ent.trans hF,res:=h.stab _ _ _ _ h.res hF (λ_ _=>rfl),stab:=h.stab,
               mi:=λk hk=>⟨(h.mi k hk).1,(hne k (λe=>hown.2.2 (e▸hk))).trans (h.mi k hk).2.1,(h.mi k hk).2.2⟩,
               blk:=h.blk,row:=λr hr=>h.row r (hsub.subset hr),nd:=(List.Sublist.append (List.Sublist.refl _) (hsub.filterMap _)).nodup h.nd,
               own:=λk hk=>by
                 have hk2:k∈C4 H R:=(List.Sublist.append (List.Sublist.refl (H.map (·.b))) (hsub.filterMap _)).subset hk;exact⟨(hne k (λe=>hbR (e▸hk))).trans (h.own k hk2).1,(h.own k hk2).2⟩,
               hnw:=h.hnw,rnw:=λr hr=>h.rnw r (hsub.subset hr),
               fro:=λx hx=>by
                 rcases List.mem_cons.1 hx with rfl|hx
                 · intro j v hj
                   have hj:xs[j]?=some v:=hj;obtain⟨hl,_⟩:=List.getElem?_eq_some_iff.1 hj;rcases hr.2 with ⟨h0,_⟩|⟨b',l,ha,hb,hnc,_,hll,ht⟩
                   · cases h0
                   · cases ha
                     have hxl:xs.length=n*size:=hr.1;have ht:l.take (n*size)=xs:=ht;refine⟨?_,?_⟩
                     · show 0+j<(if b=b then n*size else f b)
                       rw[if_pos rfl];omega
                     · show w.cell? ⟨b,0+j,none⟩=some v
                       rw[hb.cell,Nat.zero_add];rw[← ht,List.getElem?_take] at hj
                       split at hj
                       · exact hj
                       · cases hj
                 · exact (h.fro x hx).mono hF,
               fac:=λφ hφ=>h.mono φ hφ _ _ _ _ (h.fac φ hφ) hF,mono:=h.mono}⟩
end
def AE:List (World→Fq→Prop)→World→Fq→Prop
 | [],_,_=>True
 |φ::l,w,f=>φ w f∧AE l w f
def Ax:List (World→Fq→Prop)→Prop
 | []=>True
 |φ::l=>F6 φ∧Ax l
theorem AE.mem:∀{l:List (World→Fq→Prop)}{w:World}{f:Fq},AE l w f→∀φ,φ∈l→φ w f
 | [],_,_,_,_,h=>by cases h
 |_::_,_,_,h,φ,hφ=>by
   rcases List.mem_cons.1 hφ with rfl|hφ
   · exact h.1
   · exact AE.mem h.2 φ hφ
theorem Ax.mem:∀{l:List (World→Fq→Prop)},Ax l→∀φ,φ∈l→F6 φ
 | [],_,_,h=>by cases h
 |_::_,h,φ,hφ=>by
   rcases List.mem_cons.1 hφ with rfl|hφ
   · exact h.1
   · exact Ax.mem h.2 φ hφ
def B4{α:Type}(val:α→Value)(q:α→Prop)(F':α→List (World→Fq→Prop))(w:World)(f:Fq)(v:Value)(w':World):Prop:=∃x f',v=val x∧q x∧C1 (λ_=>False) w f w' f'∧AE (F' x) w' f'
def Ey{α:Type}(val:α→Value)(q:α→Prop)(MI:Nat→Prop)(I':α→World→Fq→Prop)(F':α→List (World→Fq→Prop))(w:World)(f:Fq)(v:Value)(w':World):Prop:=∃x f',v=val x∧q x∧C1 MI w f w' f'∧I' x w' f'∧AE (F' x) w' f'
def Vl(w:World)(f:Fq):Prop:=∀b,w.heap.size≤b→f b=0
abbrev X0(w:World)(f:Fq):Cx:=⟨λ_=>False,λ_=>False,λ_ _=>True,w,f⟩
theorem Ca{w:World}{f:Fq}{Fs:List (World→Fq→Prop)}(hv:Vl w f)(hF:AE Fs w f)(hm:Ax Fs):AN (X0 w f) w f [] [] [] Fs where
 stp:=L0.refl _ _
 old _ _:=rfl
 val:=hv
 ent:=Hh.refl _ _
 res:=trivial
 stab _ _ _ _ _ _ _:=trivial
 mi _ h:=h.elim
 blk _ h:=by cases h
 row _ h:=by cases h
 nd:=List.nodup_nil
 own _ h:=by cases h
 hnw _ h:=by cases h
 rnw _ h:=by cases h
 fro _ h:=by cases h
 fac:=hF.mem
 mono:=hm.mem
theorem AN.vl{X:Cx}{w:World}{f:Fq}{H:List HB}{R:List RB}{B:List FB}{Fs:List (World→Fq→Prop)}(h:AN X w f H R B Fs):Vl w f:=h.val
def Ks:List HB→Nat→Option (List HB)
 | [],_=>none
 |_::H,0=>some H
 |x::H,i+1=>match Ks H i with
   |some r=>some (x::r)
   |none=>none
theorem Kx:∀{H H':List HB}{i:Nat},Ks H i=some H'→H'.Sublist H
 | [],_,_,h=>by cases h
 |_::_,_,0,h=>by cases h;exact List.sublist_cons_self _ _
 |x::H,H',i+1,h=>by
   unfold Ks at h
   cases hr:Ks H i with
   |none=>rw[hr] at h;cases h
   |some r=>rw[hr] at h;cases h;exact (Kx hr).cons_cons x
theorem K7:∀{H H':List HB}{i:Nat}{e:HB}{L:List Nat},Hf H i=some e→Ks H i=some H'→(H.map HB.b++L).Nodup→e.b∉H'.map HB.b++L
 | [],_,_,_,_,h,_,_=>by cases h
 |x::H,H',0,e,L,hg,hs,hn=>by
   cases hg;cases hs
   exact (List.nodup_cons.1 hn).1
 |x::H,H',i+1,e,L,hg,hs,hn=>by
   unfold Ks at hs
   cases hr:Ks H i with
   |none=>rw[hr] at hs;cases hs
   |some r =>
     rw[hr] at hs;cases hs;have hn':(x.b::(H.map HB.b++L)).Nodup:=hn;have ih:=K7 (H:=H) (L:=L) hg hr (List.nodup_cons.1 hn').2;intro hb;have hb':e.b∈x.b::(r.map HB.b++L):=hb;rcases List.mem_cons.1 hb' with h|h
     · exact (List.nodup_cons.1 hn').1 (by rw[← h];exact List.mem_append.2 (.inl (List.mem_map.2 ⟨e,BF hg,rfl⟩)))
     · exact ih h
section
variable{X:Cx}{w w':World}{f:Fq}{H H':List HB}{R R':List RB}{B:List FB}{Fs:List (World→Fq→Prop)}
variable {b:Nat}
theorem AN.doneH{T:TypeId}(h:AN X w f H R B Fs)(hg:Hf H i=some ⟨b,l,T,true⟩)(hs:Ks H i=some H'):∃f',AN X w f' H' R (⟨b,0,l⟩::B) Fs:=by
 have hblk:=h.blk _ (BF hg);have hown:=h.own b (List.mem_append.2 (.inl (List.mem_map.2 ⟨_,BF hg,rfl⟩)));have hnw:=h.hnw _ (BF hg) rfl;have hlt:b<w.heap.size:=hblk.lt
 let f':Fq:=λk=>if k=b then l.length else f k
 have hF:Hh w f w f':=λk=>by
   show f k≤(if k=b then l.length else f k)∧_
   split
   · rename_i hk;subst hk;rw[hown.1];exact⟨Nat.zero_le _,λo ho=>by omega⟩
   · exact⟨Nat.le_refl _,λ_ _=>rfl⟩
 have hne:∀k,k≠b→f' k=f k:=λk hk=>if_neg hk;have hsub:=Kx hs;have hnd:(H.map HB.b++IU R).Nodup:=h.nd;have hbR:b∉C4 H' R:=K7 (L:=IU R) hg hs hnd;have hso:(C4 H' R).Sublist (C4 H R):=List.Sublist.append (hsub.map _) (List.Sublist.refl _);have hnw':X.w0.heap.size≤b:=hnw
 refine⟨f',{stp:=h.stp,old:=λk hk=>(hne k oM).trans (h.old k hk),val:=λk hk=>(hne k oM).trans (h.val k hk),ent:=h.ent.trans hF,res:=h.stab _ _ _ _ h.res hF (λ_ _=>rfl),stab:=h.stab,
               mi:=λk hk=>⟨(h.mi k hk).1,(hne k (λe=>hown.2.2 (e▸hk))).trans (h.mi k hk).2.1,(h.mi k hk).2.2⟩,
               blk:=λe he=>h.blk e (hsub.subset he),row:=h.row,nd:=hso.nodup h.nd,
               own:=λk hk=>⟨(hne k (λe=>hbR (e▸hk))).trans (h.own k (hso.subset hk)).1,(h.own k (hso.subset hk)).2⟩,
               hnw:=λe he=>h.hnw e (hsub.subset he),rnw:=h.rnw,
               fro:=λx hx=>by
                 rcases List.mem_cons.1 hx with rfl|hx
                 · intro j v hj
                   have hj:l[j]?=some v:=hj;obtain⟨hl,_⟩:=List.getElem?_eq_some_iff.1 hj;refine⟨?_,?_⟩
                   · show 0+j<(if b=b then l.length else f b)
                     rw[if_pos rfl];omega
                   · show w.cell? ⟨b,0+j,none⟩=some v
                     have hblk:AI w b l T:=hblk;rw[hblk.cell,Nat.zero_add,hj]
                 · exact (h.fro x hx).mono hF,
               fac:=λφ hφ=>h.mono φ hφ _ _ _ _ (h.fac φ hφ) hF,mono:=h.mono}⟩
end
section
variable{P:Program}{n:Nat}{Q:AU}{ds:List Deferred}{X:Cx}{R R':List RB}{B:List FB}{Fs:List (World→Fq→Prop)}{tb:VK}{fs:List Fr}{σ:Bc}{H:List HB}
variable{all r:List Oper}{ty T:TypeId}{pos:String}{af:Array Edge}{g:Option (Nat×Bool)}{d:Nat}{x y:Operand}
theorem NB{k:JS}(e:TypeId)(size:Nat)(h:A3 P n Q ds X (⟨e,size,none,0,0,[]⟩::R) B Fs k fs σ H):A3 P n Q ds X R B Fs k fs σ H:=λw f hM=>h w f (hM.rowNil e size)
variable {ag nw:Bool}{news vs xs z zl:List Value}{b bytes cs m o off:Nat}{a:Option Addr}{Ts e:TypeId}
theorem dM{k:JS}{size c:Nat}(i:Nat)(hg:N9 R i=some ⟨e,size,some ⟨b,0,none⟩,c,m,xs⟩)(hs:OU R i=some R')(h:A3 P n Q ds X R' (⟨b,0,xs⟩::B) Fs k fs σ H):A3 P n Q ds X R B Fs k fs σ H:=λw f hM=>by
 obtain⟨f',hM'⟩:=hM.done hg hs;exact h w f' hM'
theorem CI{k:JS}{H':List HB}{T:TypeId}(i:Nat)(hg:Hf H i=some ⟨b,l,T,true⟩)(hs:Ks H i=some H')(h:A3 P n Q ds X R (⟨b,0,l⟩::B) Fs k fs σ H'):A3 P n Q ds X R B Fs k fs σ H:=λw f hM=>by
 obtain⟨f',hM'⟩:=hM.doneH hg hs;exact h w f' hM'
theorem CY{size:Nat}{c k src:Nat}{R':Option Addr→Nat→List RB}(i j:Nat)(hg:gd all σ g=some true)(hd:Nat.blt d n=true)(hT:LU P T=some (e,size,bytes,zl))(hzl:Nat.beq zl.length size=true)(hsz:Nat.blt 0 size=true)
   (hs:ev σ x=some (.slice a k c)) (hx:ev σ y=some (.slice (some ⟨src,0,none⟩) 1 cs)) (hR:N9 R i=some ⟨e,size,a,c,k,xs⟩) (hH:Hf H j=some ⟨src,news,Ts,nw⟩) (hl:Nat.beq news.length size=true) (h1:Lz news=true)
   (hS:∀a' c',Q4 R i ⟨e,size,a',c',k+1,xs++news⟩=some (R' a' c')) (h47:(k+1)*bytes≤140737488355328) (h63:k+1≤9223372036854775807)
   (h:∀a' c',A3 P n Q ds X (R' a' c') B Fs (.ops all r) fs (AA σ d (.slice a' (k+1) c')) H) :
   A3 P n Q ds X R B Fs (.ops all (⟨some d,.call {callee:=.builtin .append,args:=#[x,y],argTypes:=#[T,T]},ty,pos,af,g⟩::r)) fs σ H:=λw f hM =>
 B1 hg (AY hd hT hzl hsz hs hx (hM.row _ (Dp hR)) (hM.blk _ (BF hH)) hl h1 h47 h63 λa' c' w' hr hG=>h a' c' w' f (hM.grow hR (hS a' c') hr hG))
theorem VW{size:Nat}{c k src:Nat}{R':Option Addr→Nat→List RB}(i j:Nat)(hg:gd all σ g=some true)(hd:Nat.blt d n=true)(hT:LU P T=some (e,size,bytes,zl))(hzl:Nat.beq zl.length size=true)(hsz:Nat.blt 0 size=true)
   (hs:ev σ x=some (.slice a k c)) (hx:ev σ y=some (.slice (some ⟨src,off,none⟩) m cs)) (hR:N9 R i=some ⟨e,size,a,c,k,xs⟩) (hB:nth B j=some ⟨src,off,news⟩) (hl:news.length=m*size) (h1:∀v∈news,v.oneCell'=true) (hm:0<m)
   (hS:∀a' c',Q4 R i ⟨e,size,a',c',k+m,xs++news⟩=some (R' a' c')) (h47:(k+m)*bytes≤140737488355328) (h63:k+m≤9223372036854775807)
   (h:∀a' c',A3 P n Q ds X (R' a' c') B Fs (.ops all r) fs (AA σ d (.slice a' (k+m) c')) H) :
   A3 P n Q ds X R B Fs (.ops all (⟨some d,.call {callee:=.builtin .append,args:=#[x,y],argTypes:=#[T,T]},ty,pos,af,g⟩::r)) fs σ H:=λw f hM=>by
 obtain⟨a',c',w',hr,hrw,hG⟩:=Uv (ty:=ty) hT hzl hsz hs hx (hM.row _ (Dp hR)) (λj u hj=>by rw[DZ];exact (hM.getB hB j u hj).2) hl h1 hm h47 h63;exact B1 hg (Ab hd hr (h a' c' w' f (hM.grow hR (hS a' c') hrw hG)))
theorem vA{k:Nat}(hg:gd all σ g=some true)(hd:Nat.blt d n=true)(hT:Ii P T=some (e,k))
   (h:∀b,A3 P n Q ds X (⟨e,k,some ⟨b,0,none⟩,0,0,[]⟩::R) B Fs (.ops all r) fs (AA σ d (.slice (some ⟨b,0,none⟩) 0 0)) H) :
   A3 P n Q ds X R B Fs (.ops all (⟨some d,.buildSlice T 0 #[],ty,pos,af,g⟩::r)) fs σ H:=λw f hM=>by
 obtain⟨i,hu,hi,rfl⟩:=GB hT
 have hr:(Instr.buildSlice T 0 #[]).run P w=.ok (.slice (some ⟨w.heap.size,0,none⟩) 0 0) (w.alloc (.cells #[] e)):=by
   simp[Instr.buildSlice,run_underlying hu,sizeOf,typeInfo,hi,Instr.fill,newRow,show Array.range 0=#[] from rfl]
 refine B1 hg (Ab hd (v:=.slice (some ⟨w.heap.size,0,none⟩) 0 0) (w':=w.alloc (.cells #[] e)) (λρ _ _ _ _ hρ=>by simp[execOp,hr]) ?_)
 have hM1:=(hM.rowNil e i.size).grow (i:=0) (a':=some ⟨w.heap.size,0,none⟩) (c':=0) (n':=0) (xs':=[]) (w':=w.alloc (.cells #[] e)) rfl rfl
   ⟨by simp,.inr ⟨w.heap.size,[],rfl,LD w [] _,Nat.le_refl _,Nat.zero_le _,by simp,by simp⟩⟩ ⟨rfl,rfl,rfl,by rw[Gu];omega,λk hk _=>IL w _ k hk,.inr rfl⟩
 exact h w.heap.size _ f hM1
theorem Rf{size:Nat}(hz:z.length=size)(hs:0<size)(m:Nat):madeCells z.toArray (m*size)=(F5 m z).toArray:=by
 rw[← PL size z hz hs m,← MB m size z hz hs];rfl
theorem JU{size:Nat}(hz:z.length=size):∀m,(F5 m z).length=m*size
 |0=>by simp[F5]
 |m+1=>by rw[F5,List.length_append,JU hz m,hz,Nat.add_mul];omega
theorem uB{size:Nat}{x y:Operand}(hg:gd all σ g=some true)(hd:Nat.blt d n=true)(hT:LU P T=some (e,size,bytes,zl))(hzl:Nat.beq zl.length size=true)(hsz:Nat.blt 0 size=true)
   (hx:ev σ x=some (.int .i64 (m:Int))) (hy:ev σ y=some (.int .i64 (m:Int))) (hb:bytes*m≤281474976710656) (h63:m≤maxLen)
   (h:∀b,A3 P n Q ds X (⟨e,size,some ⟨b,0,none⟩,m,m,F5 m zl⟩::R) B Fs (.ops all r) fs (AA σ d (.slice (some ⟨b,0,none⟩) m m)) H) :
   A3 P n Q ds X R B Fs (.ops all (⟨some d,.makeSlice T x y,ty,pos,af,g⟩::r)) fs σ H:=λw f hM=>by
 unfold LU at hT
 split at hT
 · rename_i e' hu
   split at hT
   · rename_i i hi
     split at hT
     · rename_i z hz
       injection hT with hT
       obtain⟨rfl,rfl,rfl,rfl⟩:=by simpa using hT
       have hzl':z.cells.toList.length=i.size:=Nat.eq_of_beq_eq_true hzl;have hsz':0<i.size:=Nat.le_of_ble_eq_true hsz;have hm63:(m:Int)≤9223372036854775807:=by have:=h63;unfold maxLen at this;omega
       have hbI:(i.bytes:Int)*(m:Int)≤281474976710656:=by
         have:((i.bytes*m:Nat):Int)≤281474976710656:=oM;rwa[Int.natCast_mul] at this
       have hr:=run_make (P:=P) w T e' i z hu hi hz .i64 .i64 (m:Int) (m:Int) oM oM hbI hm63;simp only[Int.toNat_natCast] at hr
       have hc:madeCells z.cells (m*i.size)=(F5 m z.cells.toList).toArray:=by
         have:=Rf (z:=z.cells.toList) hzl' hsz' m;simpa using this
       rw[hc] at hr;refine B1 hg (Ab hd (v:=.slice (some ⟨w.heap.size,0,none⟩) m m) (w':=w.alloc (.cells (F5 m z.cells.toList).toArray e')) ?_ ?_)
       · intro ρ _ _ _ _ hρ
         simp[execOp,hρ _ _ hx,hρ _ _ hy,hr]
       · have hM1:=(hM.rowNil e' i.size).grow (i:=0) (a':=some ⟨w.heap.size,0,none⟩) (c':=m) (n':=m) (xs':=F5 m z.cells.toList) (w':=w.alloc (.cells (F5 m z.cells.toList).toArray e')) rfl rfl
           ⟨JU hzl' m,.inr ⟨w.heap.size,_,rfl,LD w _ _,Nat.le_refl _,h63,JU hzl' m,by rw[List.take_of_length_le (by rw[JU hzl' m];exact Nat.le_refl _)]⟩⟩
           ⟨rfl,rfl,rfl,by rw[Gu];omega,λk hk _=>IL w _ k hk,.inr rfl⟩
         exact h w.heap.size _ f hM1
     · cases hT
   · cases hT
 · cases hT
theorem On:∀(vs cs:List Value)(o k:Nat),(DQ cs o vs).take k=DQ (cs.take k) o vs
 | [],_,_,_=>rfl
 |v::vs,cs,o,k=>by rw[DQ,DQ,On vs (cs.set o v) (o+1) k,List.take_set]
theorem tO{size c k:Nat}{v:Value}(i:Nat)(xs':List Value)(hg:gd all σ g=some true)(hx:ev σ x=some (.pointer (some ⟨b,o,none⟩)))(hy:ev σ y=some v)(hv:GZ v=some vs)(hT:AO P T=some (ag,k))(hk:Nat.beq vs.length k=true)(h1:Lz vs=true)
   (hR:N9 R i=some ⟨e,size,some ⟨b,0,none⟩,c,m,xs⟩) (hf:o+vs.length≤m*size) (he:DQ xs o vs=xs') (hS:Q4 R i ⟨e,size,some ⟨b,0,none⟩,c,m,xs'⟩=some R')
   (h:A3 P n Q ds X R' B Fs (.ops all r) fs σ H):A3 P n Q ds X R B Fs (.ops all (⟨none,.store T x y,ty,pos,af,g⟩::r)) fs σ H:=λw f hM=>by
 subst he;have hr:=hM.row _ (Dp hR);rcases hr.2 with ⟨h0,_⟩|⟨b',l,ha,hb,hmc,hcm,hll,ht⟩
 · cases h0
 · cases ha
   have hxl:xs.length=m*size:=hr.1;have hll:l.length=c*size:=hll;have ht:l.take (m*size)=xs:=ht;have hms:m*size≤c*size:=Nat.mul_le_mul_right _ hmc;have hb:AI w b l e:=hb;refine B1 hg (Iv (MU hx hy (Gp hv) hT hk hb h1 oM) (h _ f (hM.grow hR hS ?_ ?_)))
   · refine⟨by rw[Fw];exact hxl,.inr ⟨b,DQ l o vs,rfl,setRow_heap w b _ _ e _ hb,hmc,hcm,by rw[Fw];exact hll,?_⟩⟩
     rw[On,ht]
   · exact⟨rfl,rfl,rfl,by simp[World.setRow],λk hk hne=>setRow_other w b k _ (λe=>hne (by rw[e];rfl)),.inl rfl⟩
end
def Kp(Hk:List HB)(B:List FB)(J:World→Prop)(w:World):Prop:=(∀e,e∈Hk→AI w e.b e.l e.T)∧(∀e,e∈B→∀(j:Nat)(v:Value),e.l[j]?=some v→w.cell? ⟨e.b,e.off+j,none⟩=some v)∧J w
def Lu(H:List HB):List Nat→Option (List HB)
 | []=>some []
 |i::l=>match Hf H i,Lu H l with
   |some e,some r=>some (e::r)
   |_,_=>none
theorem Jf{H:List HB}:∀{ix:List Nat}{Hk:List HB},Lu H ix=some Hk→∀e,e∈Hk→e∈H
 | [],_,h,e,he=>by cases h;cases he
 |i::ix,Hk,h,e,he=>by
   unfold Lu at h
   split at h
   · rename_i e0 r h1 h2
     cases h
     rcases List.mem_cons.1 he with rfl|he
     · exact BF h1
     · exact Jf h2 e he
   · cases h
variable {nw top:Bool}{f:Fq}{b id off:Nat}{T:TypeId}{w:World}
theorem AN.kp{X:Cx}{H Hk:List HB}{R:List RB}{B:List FB}{Fs:List (World→Fq→Prop)}{J:World→Prop}(h:AN X w f H R B Fs)(hs:∀e,e∈Hk→e∈H)(hJ:∀w f,X.I w f→C1 X.M X.w0 X.f0 w f→J w):Kp Hk B J w :=
 ⟨λe he=>h.blk e (hs e he),λe he j v hj=>(h.fro e he j v hj).2,hJ w f h.res h.exm⟩
section
variable(P:Program)(n:Nat)(Q:AU)(ds:List Deferred)(X:Cx)(R:List RB)(B:List FB)(Fs:List (World→Fq→Prop))(tb:VK)(l:List Oper)(Hk:List HB)(B0:List FB)(J:World→Prop)
def CM(top:Bool)(t:OT)(σ:Bc)(H:List HB):Prop:=∀w f,AN X w f H R B Fs→Uk P n l Q (Kp Hk B0 J) top t σ ds w
def Ui:Nat→List Nat→OT→Bc→List HB→Prop
 |0,_,t,σ,H=>True→CM P n Q ds X R B Fs l Hk B0 J true t σ H
 |m+1,hs,.rd i k,σ,H=>(match nth l i with
   |some ⟨some d,op,_,_,_,g⟩=>(match Nat.blt d n with
     |false=>False
     |true=>(match gd l σ g with
       |none=>False
       |some false=>Ui m hs k (AA σ d undef) H
       |some true=>(match op with
         |.load T x=>(match hs with
           | []=>False
           |h::hs=>(match ev σ x,jO tb.ti T with
             |some (.pointer (some ⟨b,o,none⟩)),some (a,q)=>(match Nat.blt h 100 with
               |true=>(match Hf Hk h with
                 |some ⟨b',c,_,_⟩=>(match a with
                   |false=>(match nth c o with
                     |some v=>b'=b∧Ui m hs k (AA σ d v) H
                     |none=>False)
                   |true=>(match Tz c o q with
                     |some vs=>b'=b∧Ui m hs k (AA σ d (.agg ⟨vs⟩)) H
                     |none=>False))
                 |none=>False)
               |false=>(match hs with
                 | []=>False
                 |j::hs=>(match nth B0 (h-100) with
                   |some ⟨b',off,c⟩=>(match a with
                     |false=>(match nth c j with
                       |some v=>(b'=b∧off+j=o)∧Ui m hs k (AA σ d v) H
                       |none=>False)
                     |true=>(match Tz c j q with
                       |some vs=>(b'=b∧off+j=o)∧Ui m hs k (AA σ d (.agg ⟨vs⟩)) H
                       |none=>False))
                   |none=>False)))
             |_,_=>False))
         |.indexAddr T x y=>(match ev σ x,ev σ y,Ul tb.sl T with
           |some (.slice (some ⟨b,o,none⟩) len _),some (.int _ i),some (_,q)=>(0≤i∧i<len)∧Ui m hs k (AA σ d (.pointer (some ⟨b,o+i.toNat*q,none⟩))) H
           |_,_,_=>False)
         |.binOp .add T x y T'=>(match ev σ x,ev σ y with
           |some (.int .i64 a),some (.int .i64 b)=>Pf (a+b)∧Ui m hs k (AA σ d (.int .i64 (a+b))) H
           |some (.string ⟨⟨a⟩⟩),some (.string ⟨⟨b⟩⟩)=>a.length+b.length≤9223372036854775807∧Ui m hs k (AA σ d (S (a++b))) H
           |_,_=>False)
         |.binOp .sub T x y T'=>(match ev σ x,ev σ y with
           |some (.int .i64 a),some (.int .i64 b)=>Pf (a-b)∧Ui m hs k (AA σ d (.int .i64 (a-b))) H
           |_,_=>False)
         |op=>(match pv tb σ op with
           |some v=>Ui m hs k (AA σ d v) H
           |none=>False))))
   |_=>False)
 |_+1,_,_,_,_=>False
end
section
variable{P:Program}{n:Nat}{Q:AU}{ds:List Deferred}{X:Cx}{R:List RB}{B:List FB}{Fs:List (World→Fq→Prop)}{tb:VK}{l:List Oper}{Hk:List HB}{B0:List FB}{J:World→Prop}{σ:Bc}{H:List HB}{fs:List Fr}
theorem Fm{S:World→Prop}{op:Op}{k:OT}{v:Value}(hi:nth l i=some ⟨some d,op,ty,pos,af,g⟩)(hd:Nat.blt d n=true)(hg:gd l σ g=some true)(hr:∀w,S w→AG P σ op ty w v w)
   (h:Uk P n l Q S true k (AA σ d v) ds w):Uk P n l Q S top (.rd i k) σ ds w:=λa ha =>
 ⟨_,v,(Ef l i).symm.trans hi,.inl ⟨Jk ha hg,λw hS=>hr w hS a.eval _ _ _ _ ha.ev⟩,h _ (ha.put hd v)⟩
theorem ZL{S:World→Prop}{op:Op}{k:OT}(hi:nth l i=some ⟨some d,op,ty,pos,af,g⟩)(hd:Nat.blt d n=true)(hg:gd l σ g=some false)
   (h:Uk P n l Q S true k (AA σ d undef) ds w):Uk P n l Q S top (.rd i k) σ ds w:=λa ha =>
 ⟨_,undef,(Ef l i).symm.trans hi,.inr ⟨Jk ha hg,rfl⟩,h _ (ha.put hd undef)⟩
theorem Kp.blk{c:List Value}(h:Kp Hk B0 J w)(hg:Hf Hk i=some ⟨b,c,T,nw⟩):AI w b c T:=h.1 _ (BF hg)
theorem Kp.cel{c:List Value}(h:Kp Hk B0 J w)(hg:nth B0 i=some ⟨b,off,c⟩):∀(j:Nat)(v:Value),c[j]?=some v→w.cell? ⟨b,off+j,none⟩=some v:=by
 rw[Ef] at hg;exact h.2.1 _ (List.mem_of_getElem? hg)
theorem Om(ht:tb.Ok P):∀(m:Nat)(hs:List Nat)(t:OT)(σ:Bc)(H:List HB),Ui P n Q ds X R B Fs tb l Hk B0 J m hs t σ H→CM P n Q ds X R B Fs l Hk B0 J true t σ H
 |0,_,_,_,_,h=>h tQ
 |m+1,hs,.fin,σ,H,h=>h.elim
 |m+1,hs,.br _ _ _,σ,H,h=>h.elim
 |m+1,hs,.rd i k,σ,H,h=>by
   have ih:=Om ht m;intro w f hM;unfold Ui at h
   split at h
   · rename_i hi
     split at h
     · exact h.elim
     rename_i hd
     split at h
     · exact h.elim
     · rename_i hg
       exact ZL hi hd hg (ih _ _ _ _ h w f hM)
     · rename_i hg
       split at h
       · split at h
         · exact h.elim
         · split at h
           · rename_i hx hT
             split at h
             · split at h
               · rename_i hH
                 split at h
                 · split at h
                   · rename_i v hv
                     obtain⟨rfl,h⟩:=h;rw[Ef] at hv;exact Fm hi hd hg (λw hS=>Ai hx (FL ht.ti hT) (hS.blk hH) hv) (ih _ _ _ _ h w f hM)
                   · exact h.elim
                 · split at h
                   · rename_i vs hv
                     obtain⟨rfl,h⟩:=h;exact Fm hi hd hg (λw hS=>CP hx (FL ht.ti hT) (hS.blk hH) hv) (ih _ _ _ _ h w f hM)
                   · exact h.elim
               · exact h.elim
             · split at h
               · exact h.elim
               · split at h
                 · rename_i hB
                   split at h
                   · split at h
                     · rename_i v hv
                       obtain⟨⟨rfl,rfl⟩,h⟩:=h;rw[Ef] at hv;exact Fm hi hd hg (λw hS=>IB hx (FL ht.ti hT) (hS.cel hB _ v hv)) (ih _ _ _ _ h w f hM)
                     · exact h.elim
                   · split at h
                     · rename_i vs hv
                       obtain⟨⟨rfl,rfl⟩,h⟩:=h;obtain⟨hk,hg2⟩:=OL hv;exact Fm hi hd hg (λw hS=>Kz hx (FL ht.ti hT) hk (λj v hj=>by have:=hS.cel hB _ v (hg2 j v hj);rwa[← Nat.add_assoc] at this)) (ih _ _ _ _ h w f hM)
                     · exact h.elim
                 · exact h.elim
           · exact h.elim
       · split at h
         · rename_i hx hy hT
           exact Fm hi hd hg (λw _=>MW hx hy (JJ ht.sl hT) h.1) (ih _ _ _ _ h.2 w f hM)
         · exact h.elim
       · split at h
         · rename_i hx hy;exact Fm hi hd hg (λw _=>Me hx hy h.1) (ih _ _ _ _ h.2 w f hM)
         · rename_i hx hy;exact Fm hi hd hg (λw _=>Jo hx hy h.1) (ih _ _ _ _ h.2 w f hM)
         · exact h.elim
       · split at h
         · rename_i hx hy;exact Fm hi hd hg (λw _=>GH hx hy h.1) (ih _ _ _ _ h.2 w f hM)
         · exact h.elim
       · split at h
         · rename_i v hv;exact Fm hi hd hg (λw _=>PN ht hv) (ih _ _ _ _ h w f hM)
         · exact h.elim
   · exact h.elim
theorem uU{t:OT}(ht:tb.Ok P)(m:Nat)(hs:List Nat)(h:Ui P n Q ds X R B Fs tb l Hk B0 J m hs t σ H):CM P n Q ds X R B Fs l Hk B0 J true t σ H:=Om ht m hs t σ H h
theorem Tg(hpi:PI Q):∀fs:List Fr,PI (Ln P n Q fs)
 | []=>hpi
 |.sq _::fs=>Tg hpi fs
 |.bk _::fs=>Tg hpi fs
theorem Kv(J:World→Prop)(hJ:∀w f,X.I w f→C1 X.M X.w0 X.f0 w f→J w)(ix:List Nat)(hm:P.follows .mixedOrders=true)(t:OT)(hk:Lu H ix=some Hk)(hok:t.ok l.toArray true (Array.replicate l.length false)=true)(hev:t.even true l.length=true)(hsel:Region.noSelect l.toArray=true)(hpi:PI Q)
   (h:CM P n (Ln P n Q fs) ds X R B Fs l Hk B J true t σ H):A3 P n Q ds X R B Fs (.code (.region id l.toArray true)) fs σ H:=λw f hM=>by
 refine DH hm (Kp Hk B J) t hok hev hsel (λw' hE hz=>?_) (Tg hpi fs);have hM':AN X w' f H R B Fs:=hM.call0 (C1.of_ext hE hM.val);exact⟨hM'.kp (Jf hk) hJ,h w' f hM'⟩
theorem Bj(h:A3 P n Q ds X R B Fs (.out .normal) fs σ H):CM P n (Ln P n Q fs) ds X R B Fs l Hk B0 J true .fin σ H:=λw f hM=>By (h w f hM)
theorem Ag{k o:OT}{x:Oper}(hi:nth l i=some x)(h:A3 P n (Vv P n l Q (Kp Hk B0 J) k) ds X R B Fs (.ops l [x]) [] σ H)(h2:CM P n Q ds X R B Fs l Hk B0 J false o σ H):CM P n Q ds X R B Fs l Hk B0 J top (.br i k o) σ H :=
 λw f hM=>An ((Ef l i).symm.trans hi) (h w f hM) (h2 w f hM)
theorem Aj:CM P n Q ds X R B Fs l Hk B0 J false .fin σ H:=λ_ _ _=>Af
theorem AW{k:OT}(ix:List Nat)(hJ:∀w f,X.I w f→C1 X.M X.w0 X.f0 w f→J w)(hk:Lu H ix=some Hk)(hB:∀e,e∈B0→e∈B)(h:CM P n Q ds X R B Fs l Hk B0 J true k σ H):A3 P n (Vv P n l Q (Kp Hk B0 J) k) ds X R B Fs (.out .normal) [] σ H:=λw f hM =>
 ⟨⟨λe he=>hM.blk e (Jf hk e he),λe he j v hj=>(hM.fro e (hB e he) j v hj).2,hJ w f hM.res hM.exm⟩,h w f hM⟩
theorem CM.le{t:OT}(hl:Le σ' σ)(h:CM P n Q ds X R B Fs l Hk B0 J top t σ' H):CM P n Q ds X R B Fs l Hk B0 J top t σ H:=λw f hM a ha=>h w f hM a (ha.le hl)
theorem Jm{t:OT}{b:Bool}(s:Nat)(hx:σ s=some (.bool b))(h1:b=true→CM P n Q ds X R B Fs l Hk B0 J top t (AA σ s (.bool true)) H)(h2:b=false→CM P n Q ds X R B Fs l Hk B0 J top t (AA σ s (.bool false)) H):CM P n Q ds X R B Fs l Hk B0 J top t σ H:=by
 cases b with
 |true=>exact CM.le (A6 (le_refl _) hx) (h1 rfl)
 |false=>exact CM.le (A6 (le_refl _) hx) (h2 rfl)
theorem Gf{k:OT}{op:Op}{v:Value}(hi:nth l i=some ⟨some d,op,ty,pos,af,g⟩)(hd:Nat.blt d n=true)(hg:gd l σ g=some true)(hr:∀w,Kp Hk B0 J w→AG P σ op ty w v w)
   (h:CM P n Q ds X R B Fs l Hk B0 J true k (AA σ d v) H):CM P n Q ds X R B Fs l Hk B0 J true (.rd i k) σ H:=λw f hM=>Fm hi hd hg hr (h w f hM)
theorem Bw{all r:List Oper}{op:Op}{α:Type}{val:α→Value}{q:α→Prop}{F':α→List (World→Fq→Prop)}(hg:gd all σ g=some true)(hd:Nat.blt d n=true)(he:∀w,Enters P σ op ty w fid args)
   (hc:∀w f,AN X w f H R B Fs→Bq P fid args w (B4 val q F' w f)) (hm:∀x,Ax (F' x))
   (h:∀x,q x→A3 P n Q ds X R B (F' x++Fs) (.ops all r) fs (AA σ d (val x)) H):A3 P n Q ds X R B Fs (.ops all (⟨some d,op,ty,pos,af,g⟩::r)) fs σ H :=
 uR hg hd he (λw f hM=>(hc w f hM).mono λv w' ⟨x,f',h1,h2,h3,h4⟩=>⟨x,f',h1,h2,h3,h4.mem⟩) (λx=>(hm x).mem) h
theorem NH{all r:List Oper}{op:Op}{α:Type}{val:α→Value}{q:α→Prop}{I':α→World→Fq→Prop}{F':α→List (World→Fq→Prop)}
   (hg:gd all σ g=some true) (hd:Nat.blt d n=true) (he:∀w,Enters P σ op ty w fid args)
   (hc:∀w f,AN X w f H R B Fs→BB P fid args w (Ey val q X.MI I' F' w f) XX) (hst:∀x,EL X.MI (I' x)) (hm:∀x,Ax (F' x))
   (hp:∀w f c w',AN X w f H R B Fs→XX c w'→Q.p c σ ds w')
   (h:∀x,q x→A3 P n Q ds {X with I:=I' x} R B (F' x++Fs) (.ops all r) fs (AA σ d (val x)) H):A3 P n Q ds X R B Fs (.ops all (⟨some d,op,ty,pos,af,g⟩::r)) fs σ H :=
 uW hg hd he (λw f hM=>(hc w f hM).mono (λv w' ⟨x,f',h1,h2,h3,h4,h5⟩=>⟨x,f',h1,h2,h3,h4,h5.mem⟩) λ_ _ h=>h) hst (λx=>(hm x).mem) hp h
end
end Go.SW
namespace Go.SW
open Go.RowKit Go.SP
structure qD(κ:Type)[BEq κ] where
 enc:κ→Value
 desc:TypeDesc
 same:∀a b,Instr.sameNow desc (enc a) (enc b)=some (a==b)
 chk:∀(P:Program)(k:TypeId)(w:World)(a:κ)(b:Bool),P.underlying k=some desc→(Instr.checkKey b 10000 k (enc a)).run P w=.ok () w
def BI:qD lU where
 enc:=S
 desc:=.string
 same a b:=by
   have:Instr.sameNow .string (S a) (S b)=some ((⟨a.toArray⟩:ByteArray)==⟨b.toArray⟩):=rfl;rw[this,beq_toListBytes,NP,NP]
 chk P k w a b hk:=Jv hk
def Ez:qD Int where
 enc n:=.int .i64 n
 desc:=.int .i64
 same a b:=by simp[Instr.sameNow]
 chk P k w a b hk:=by rw[Instr.checkKey];simp[run_underlying hk]
section
variable{κ:Type}[BEq κ](K:qD κ)
def BE(w:World)(m:Nat)(l:List (κ×Value)):Prop:=∃(es:List MapEntry)(c:Nat),w.heap[m]?=some (.map es.toArray c)∧es.map (λe=>(e.key,e.val))=l.reverse.map λp=>(K.enc p.1,p.2)
def Ej:List (κ×Value)→κ→Option Value
 | [],_=>none
 |(k,v)::l,x=>if x==k then some v else Ej l x
def F7(P:Program)(T:TypeId):Option (TypeId×TypeId):=match P.underlying T with
 |some (.map k e)=>some (k,e)
 |_=>none
end
section
variable{κ:Type}[BEq κ]{K:qD κ}
theorem BE.lt{w:World}{m:Nat}{l:List (κ×Value)}(h:BE K w m l):m<w.heap.size:=by
 obtain⟨es,c,h1,_⟩:=h;rcases Nat.lt_or_ge m w.heap.size with h' | h'
 · exact h'
 · rw[Array.getElem?_eq_none h'] at h1;cases h1
variable {f:Fq}{b:Nat}{w':World}{I':World→Fq→Prop}
theorem BE.heap{w:World}{m:Nat}{l:List (κ×Value)}(h:BE K w m l)(he:w'.heap[m]?=w.heap[m]?):BE K w' m l:=let ⟨es,c,h1,h2⟩:=h;⟨es,c,he.trans h1,h2⟩
def KC(x:κ):List (κ×Value)→Option Value
 | []=>none
 |(k,v)::l=>if x==k then some v else KC x l
theorem MN(x:κ):∀(es:List MapEntry)(l:List (κ×Value))(i:Nat),es.map (λe=>(e.key,e.val))=l.map (λp=>(K.enc p.1,p.2)) →
   (∀v,KC x l=some v→∃j,Instr.findNow K.desc (K.enc x) es i=some (some (j,v)))∧(KC x l=none→Instr.findNow K.desc (K.enc x) es i=some none)
 | [],[],i,_=>⟨λv h=>(by cases h),λ_=>rfl⟩
 | [],_::_,_,h=>by simp at h
 |_::_,[],_,h=>by simp at h
 |e::es,p::l,i,h=>by
   simp only[List.map_cons,List.cons.injEq,Prod.mk.injEq] at h;obtain⟨⟨hk,hv⟩,hr⟩:=h;have ih:=MN x es l (i+1) hr;have hs:Instr.sameNow K.desc (K.enc x) e.key=some (x==p.1):=by rw[hk];exact K.same x p.1
   obtain⟨pk,pv⟩:=p;unfold Instr.findNow KC;rw[hs]
   cases hc:x==pk with
   |true=>exact⟨λv h=>⟨i,by simp at h;simp[hv,h]⟩,λh=>by simp at h⟩
   |false=>exact⟨λv h=>ih.1 v (by simpa using h),λh=>ih.2 (by simpa using h)⟩
theorem U9(x:κ):∀(a b:List (κ×Value)),KC x (a++b)=(KC x a).or (KC x b)
 | [],b=>by simp[KC]
 |(k,v)::a,b=>by
   simp only[List.cons_append,KC,U9 x a b]
   split <;> rfl
def Il[BEq κ]:List (κ×Value)→Prop
 | []=>True
 |(k,_)::l=>Ej l k=none∧Il l
variable[LawfulBEq κ]
theorem Pb(x:κ):∀l:List (κ×Value),Il l→KC x l.reverse=Ej l x
 | [],_=>rfl
 |(k,v)::l,h=>by
   rw[List.reverse_cons,U9,Pb x l h.2];simp only[KC,Ej]
   cases hc:x==k with
   |true =>
     have:x=k:=by simpa using hc
     subst this;rw[h.1];rfl
   |false=>cases Ej l x <;> simp
section
variable{P:Program}{n:Nat}{Q:AU}{ds:List Deferred}{X:Cx}{R:List RB}{B:List FB}{Fs:List (World→Fq→Prop)}{fs:List Fr}{σ:Bc}{H:List HB}{w:World}
variable{all r:List Oper}{ty T k e:TypeId}{pos:String}{af:Array Edge}{g:Option (Nat×Bool)}{d m:Nat}{x y z:Operand}{a:κ}{l:List (κ×Value)}
theorem Jg(h:F7 P T=some (k,e)):P.underlying T=some (.map k e):=by
 unfold F7 at h
 split at h
 · rename_i hu;cases h;exact hu
 · cases h
def zO(P:Program)(e:TypeId):Option Value:=match P.info? e with|some i=>i.zero|none=>none
def dU(P:Program)(e:TypeId)(z:Value):Prop:=zO P e=some z
theorem R9{z:Value}(h:dU P e z):∃i,P.info? e=some i∧i.zero=some z:=by
 unfold dU zO at h
 split at h
 · rename_i i hi;exact⟨i,hi,h⟩
 · cases h
theorem Ub{z:Value}{ok:Bool}(hT:F7 P T=some (k,e))(hk:P.underlying k=some K.desc)(hz:dU P e z)(hm:BE K w m l)(hd:Il l) :
   (Instr.lookup T (.map (some m)) (K.enc a) ok).run P w=.ok (if ok then .tuple #[(Ej l a).getD z,.bool (Ej l a).isSome] else (Ej l a).getD z) w:=by
 have hu:=Jg hT;obtain⟨es,c,h1,h2⟩:=hm;obtain⟨i,hi,hz⟩:=R9 hz;have hget:(getObj m).run P w=.ok (.map es.toArray c) w:=by simp[getObj,Sem.run,h1]
 obtain⟨f1,f2⟩:=MN (K:=K) a es l.reverse 0 h2;rw[Pb a l hd] at f1 f2;have hck:=λb=>K.chk P k w a b hk
 cases hc:Ej l a with
 |some v =>
   obtain⟨j,hj⟩:=f1 v hc;simp only[Instr.lookup,Sem.run_bind,run_underlying hu,Result.andThen_ok,hget]
   cases ok <;> simp[hck,Instr.findKey,run_underlying hk,hj]
 |none =>
   have hj:=f2 hc;simp only[Instr.lookup,Sem.run_bind,run_underlying hu,Result.andThen_ok,hget]
   cases ok <;> simp[hck,Instr.findKey,run_underlying hk,hj,zeroValue,typeInfo,hi,hz]
theorem Y6{z:Value}{ok:Bool}(hx:ev σ x=some (.map (some m)))(hy:ev σ y=some (K.enc a))(hT:F7 P T=some (k,e))(hk:P.underlying k=some K.desc)(hz:dU P e z)(hm:BE K w m l)(hd:Il l) :
   AG P σ (.lookup T x y ok) ty w (if ok then .tuple #[(Ej l a).getD z,.bool (Ej l a).isSome] else (Ej l a).getD z) w:=λρ _ _ _ _ hρ=>by
 simp only[execOp,hρ _ _ hx,hρ _ _ hy];rw[Sem.run_bind,Ub hT hk hz hm hd];rfl
theorem Io{z v:Value}(hx:ev σ x=some (.map (some m)))(hy:ev σ y=some (K.enc a))(hT:F7 P T=some (k,e))(hk:P.underlying k=some K.desc)(hz:dU P e z)(hm:BE K w m l)(hd:Il l)(hl:Ej l a=some v):AG P σ (.lookup T x y true) ty w (.tuple #[v,.bool true]) w:=by
 have:=Y6 (ty:=ty) (ok:=true) hx hy hT hk hz hm hd;rw[hl] at this;exact this
theorem Iq{z:Value}(hx:ev σ x=some (.map (some m)))(hy:ev σ y=some (K.enc a))(hT:F7 P T=some (k,e))(hk:P.underlying k=some K.desc)(hz:dU P e z)(hm:BE K w m l)(hd:Il l)(hl:Ej l a=none):AG P σ (.lookup T x y true) ty w (.tuple #[z,.bool false]) w:=by
 have:=Y6 (ty:=ty) (ok:=true) hx hy hT hk hz hm hd;rw[hl] at this;exact this
theorem KW{z v:Value}(hx:ev σ x=some (.map (some m)))(hy:ev σ y=some (K.enc a))(hT:F7 P T=some (k,e))(hk:P.underlying k=some K.desc)(hz:dU P e z)(hm:BE K w m l)(hd:Il l)(hl:(Ej l a).getD z=v):AG P σ (.lookup T x y false) ty w v w:=by
 have:=Y6 (ty:=ty) (ok:=false) hx hy hT hk hz hm hd;rw[← hl];exact this
theorem VO{v:Value}(hT:F7 P T=some (k,e))(hk:P.underlying k=some K.desc)(hm:BE K w m l)(hd:Il l)(hn:Ej l a=none):∃w',(Instr.mapUpdate T (.map (some m)) (K.enc a) v).run P w=.ok () w'∧BE K w' m ((a,v)::l)∧FQ m w w':=by
 have hu:=Jg hT;obtain⟨es,c,h1,h2⟩:=id hm;have hj:=(MN (K:=K) a es l.reverse 0 h2).2 (by rw[Pb a l hd];exact hn);have hget:(getObj m).run P w=.ok (.map es.toArray c) w:=by simp[getObj,Sem.run,h1]
 have hlt:=hm.lt;have hck:=λb=>K.chk P k w a b hk
 have hset:(setObj m (.map (es.toArray.push {key:=K.enc a,val:=v,born:=c}) (c+1))).run P w=.ok () {w with heap:=w.heap.setIfInBounds m (.map (es.toArray.push {key:=K.enc a,val:=v,born:=c}) (c+1))}:=by
   simp[setObj,Sem.run,h1]
 refine⟨{w with heap:=w.heap.setIfInBounds m (.map (es.toArray.push {key:=K.enc a,val:=v,born:=c}) (c+1))},?_,?_,?_⟩
 · simp only[Instr.mapUpdate,Sem.run_bind,run_underlying hu,Result.andThen_ok,hget]
   simp only[hck,Result.andThen_ok,Instr.findKey,Sem.run_bind,run_underlying hk,hj];simp only[Sem.run_pure,Result.andThen_ok];exact hset
 · refine⟨es++[{key:=K.enc a,val:=v,born:=c}],c+1,?_,?_⟩
   · simp[hlt]
   · simp[h2]
 · refine⟨rfl,rfl,rfl,by simp,λj hjm=>?_⟩
   show (w.heap.setIfInBounds m _)[j]?=_;rw[Array.getElem?_setIfInBounds_ne (λe=>hjm e.symm)]
theorem AN.chgI{w:World}(h:AN X w f H R B Fs)(hb:X.MI b)(hC:FQ b w w')(hI:I' w' f)(hst:EL X.MI I'):AN {X with I:=I' } w' f H R B Fs :=
 h.callI ⟨⟨hC.os,hC.tape,hC.output,by rw[hC.size];exact Nat.le_refl _,λk _ hm=>hC.block k (λe=>hm (e▸hb))⟩,λ_ _=>rfl,λk hk=>h.val k (by rw[hC.size] at hk;exact hk)⟩ hI hst
theorem Ya{v:Value}(hg:gd all σ g=some true)(hx:ev σ x=some (.map (some m)))(hy:ev σ y=some (K.enc a))(hz:ev σ z=some v)(hT:F7 P T=some (k,e))(hk:P.underlying k=some K.desc)(hmi:X.MI m)(hd:Il l)(hn:Ej l a=none)
   (hm:∀w f,X.I w f→BE K w m l) (hI:∀w f w',X.I w f→AN X w f H R B Fs→FQ m w w'→BE K w' m ((a,v)::l)→I' w' f) (hst:EL X.MI I')
   (h:A3 P n Q ds {X with I:=I' } R B Fs (.ops all r) fs σ H):A3 P n Q ds X R B Fs (.ops all (⟨none,.mapUpdate T x y z,ty,pos,af,g⟩::r)) fs σ H:=λw f hM=>by
 obtain⟨w',h1,h2,h3⟩:=VO (v:=v) hT hk (hm w f hM.res) hd hn;refine B1 hg (Iv (w':=w') (λρ _ _ _ _ hρ=>?_) (h w' f (hM.chgI hmi h3 (hI w f w' hM.res hM h3 h2) hst)));simp only[execOp,hρ _ _ hx,hρ _ _ hy,hρ _ _ hz];rw[Sem.run_bind,h1];rfl
omit [LawfulBEq κ] in
theorem qC(hg:gd all σ g=some true)(hd:Nat.blt d n=true)
   (h:∀m,A3 P n Q ds {X with MI:=λb=>X.MI b∨b=m,I:=λw f=>X.I w f∧BE K w m []} R B Fs (.ops all r) fs (AA σ d (.map (some m))) H):A3 P n Q ds X R B Fs (.ops all (⟨some d,.makeMap T none,ty,pos,af,g⟩::r)) fs σ H:=λw f hM=>by
 refine B1 hg (Ab (v:=.map (some w.heap.size)) (w':=w.alloc (.map #[] 0)) hd (λρ _ _ _ _ hρ=>by simp[execOp,Instr.makeMap]) (h w.heap.size _ f ?_));have h1:AN X (w.alloc (.map #[] 0)) f H R B Fs:=hM.call0 (C1.of_ext (IZ w _) hM.val);have hnew:∀b,b∈C4 H R→b≠w.heap.size:=λb hb e=>Nat.lt_irrefl _ (e▸hM.lt hb)
 exact {h1 with
         res:=⟨h1.res,[],0,heap_alloc_new w _,rfl⟩,
         stab:=λw1 f1 w2 f2 hI hF hb=>⟨h1.stab w1 f1 w2 f2 hI.1 hF λb hm=>hb b (.inl hm),hI.2.heap (hb _ (.inr rfl))⟩,
         mi:=λb hb=>by
           rcases hb with hb|rfl
           · exact h1.mi b hb
           · exact⟨by rw[Gu];omega,hM.val _ (Nat.le_refl _),.inl hM.stp.size⟩,
         own:=λb hb=>⟨(h1.own b hb).1,(h1.own b hb).2.1,λhm=>by
           rcases hm with hm|rfl
           · exact (h1.own b hb).2.2 hm
           · exact hnew _ hb rfl⟩}
end
end
end Go.SW
namespace Go.SW
def eZ(P:Program)(T T':TypeId):Bool:=match P.underlying T,P.underlying T' with
 |some _,some .string=>true
 |_,_=>false
end Go.SW
namespace Go.SP
inductive Ty where
 |nil
 |var (n:Int) (r:Ty)
 |con (tx:lU) (k r:Ty)
inductive T1 where
 |var (n:Int)
 |con (tx:lU) (k:Ty)
def T1.cons:T1→Ty→Ty
 |.var n,r=>.var n r
 |.con tx k,r=>.con tx k r
def T1.one(t:T1):Ty:=t.cons .nil
def Ty.app:Ty→Ty→Ty
 |.nil,y=>y
 |.var n r,y=>.var n (r.app y)
 |.con tx k r,y=>.con tx k (r.app y)
def Ty.len:Ty→Nat
 |.nil=>0
 |.var _ r=>r.len+1
 |.con _ _ r=>r.len+1
def Ty.get:Ty→Nat→Option T1
 |.nil,_=>none
 |.var n _,0=>some (.var n)
 |.con tx k _,0=>some (.con tx k)
 |.var _ r,i+1=>r.get i
 |.con _ _ r,i+1=>r.get i
def Ty.snoc(a:Ty)(t:T1):Ty:=a.app t.one
def Ty.hd:Ty→T1
 |.nil=>.var 0
 |.var n _=>.var n
 |.con tx k _=>.con tx k
abbrev BR:=List (Int×T1)
def CC:BR→Int→Option T1
 | [],_=>none
 |(k,t)::s,n=>if k==n then some t else CC s n
def Hy(b:BR):Nat→T1→T1
 |0,t=>t
 |k+1,t=>match t with
   |.con tx ks=>.con tx ks
   |.var n=>match CC b n with
     |none=>.var n
     |some t'=>Hy b k t'
def Ap(b:BR)(t:T1):T1:=Hy b (b.length+1) t
def JL(b:BR):Nat→Ty→Bool
 |_,.nil=>true
 |0,_=>false
 |k+1,.var n r=>match Ap b (.var n) with
   |.var _=>JL b k r
   |.con _ ks=>JL b k (ks.app r)
 |k+1,.con _ ks r=>JL b k (ks.app r)
def Hc(b:BR)(t:T1):Bool:=JL b 1000 t.one
def CA(b:BR)(x:Int):Nat→Ty→Bool
 |_,.nil=>true
 |0,_=>true
 |k+1,.var n r=>match Ap b (.var n) with
   |.var m=>!(m==x)&&CA b x k r
   |.con _ ks=>CA b x k (ks.app r)
 |k+1,.con _ ks r=>CA b x k (ks.app r)
def Ci(b:BR)(n:Int)(t:T1):Except Int BR :=
 if Hc b t then (if CA b n 1000 t.one then .ok ((n,t)::b) else .error 11) else .error 4
def HT(f:BR→Ty→Ty→Except Int BR)(b:BR)(x y:T1)(r q:Ty):Except Int BR :=
 match x,y with
 |.var n,.var m=>if n==m then f b r q else (match Ci b n (.var m) with|.error e=>.error e|.ok b'=>f b' r q)
 |.var n,.con ty kb=>(match Ci b n (.con ty kb) with|.error e=>.error e|.ok b'=>f b' r q)
 |.con tx ka,.var m=>(match Ci b m (.con tx ka) with|.error e=>.error e|.ok b'=>f b' r q)
 |.con tx ka,.con ty kb=>if !(tx==ty)||(ka.len:Int) != kb.len then .error 11 else f b (ka.app r) (kb.app q)
def Ty.tl:Ty→Ty
 |.nil=>.nil
 |.var _ r=>r
 |.con _ _ r=>r
def KY:Nat→BR→Ty→Ty→Except Int BR
 |_,b,.nil,_=>.ok b
 |0,_,_,_=>.error 4
 |k+1,b,.var n r,y=>HT (KY k) b (Ap b (.var n)) (Ap b y.hd) r y.tl
 |k+1,b,.con tx ka r,y=>HT (KY k) b (.con tx ka) (Ap b y.hd) r y.tl
def FD(b:BR)(x y:T1):Except Int BR:=KY 10000 b x.one y.one
def AJ(b:BR):Nat→Ty→Ty
 |_,.nil=>.nil
 |0,_=>.nil
 |k+1,.var n r=>match Ap b (.var n) with
   |.var m=>.var m (AJ b k r)
   |.con tx ks=>.con tx (AJ b k ks) (AJ b k r)
 |k+1,.con tx ks r=>.con tx (AJ b k ks) (AJ b k r)
def CO(b:BR)(t:T1):Option T1:=if Hc b t then some (AJ b 1000 t.one).hd else none
def C6:Ty→List Int→List Int
 |.nil,s=>s
 |.var n r,s=>C6 r (if s.contains n then s else s++[n])
 |.con _ k r,s=>C6 r (C6 k s)
def Aq(t:T1):List Int:=C6 t.one []
def Dt:List Int→Int→Option Nat
 | [],_=>none
 |k::l,n=>if k==n then some 0 else (Dt l n).map (· + 1)
def Dq(l:List Int)(by_:Ty):Ty→Ty
 |.nil=>.nil
 |.var n r=>match (Dt l n).bind by_.get with
   |some t=>t.cons (Dq l by_ r)
   |none=>.var n (Dq l by_ r)
 |.con tx k r=>.con tx (Dq l by_ k) (Dq l by_ r)
def Cn(t:T1)(l:List Int)(by_:Ty):T1:=(Dq l by_ t.one).hd
def bI:lU:=[105,110,116]
def bF:lU:=[102,108,111,97,116]
def bS:lU:=[115,116,114,105,110,103]
def bU:lU:=[117,110,105,116]
def bB:lU:=[98,111,111,108]
def bX:lU:=[101,120,110]
def Eh:lU:=[45,62]
def QT:lU:=[116,117,112,108,101]
def I8:lU:=[114,101,102]
def CK:lU:=[112,114,101,102]
def c0(tx:lU):T1:=.con tx .nil
def He:Ty→T1
 |.nil=>.var 0
 |.var n .nil=>.var n
 |.con tx k .nil=>.con tx k
 |.var n r=>.con Eh (.var n (He r).one)
 |.con tx k r=>.con Eh (.con tx k (He r).one)
structure Mk where
 args:Ty
 out:T1
 vars:List Int
structure CS where
 sol:BR
 fresh:Int
 cons:List (lU×Mk)
 datas:List (lU×Int)
 roots:List lU
 vars:Int
structure Bd where
 name:lU
 t:T1
 all:List Int
abbrev Ba:=List Bd
abbrev Er:=Int×Int×Int
abbrev RI(α:Type):=Except Er α
def AS{α:Type}:List (lU×α)→lU→Option α
 | [],_=>none
 |(k,v)::l,n=>if k==n then some v else AS l n
def A7(s:CS):T1×CS:=(.var (s.fresh+1),{s with fresh:=s.fresh+1})
def EC(s:CS)(a b:T1)(ln co:Int):RI CS:=match FD s.sol a b with
 |.error e=>.error (ln,co,e)
 |.ok m=>.ok {s with sol:=m}
def G4(s:CS)(t:T1)(ln co:Int):RI T1:=match CO s.sol t with
 |none=>.error (ln,co,4)
 |some f=>.ok f
def Bv(s:CS):Ba→List Int
 | []=>[]
 |b::e=>(match CO s.sol b.t with
   |none=>[]
   |some f=>(Aq f).filter λv=>!b.all.contains v)++Bv s e
def Gw(s:CS)(e:Ba)(name:lU)(t:T1)(value:Bool)(ln co:Int):RI Ba :=
 if value then (match G4 s t ln co with
   |.error x=>.error x
   |.ok f=>.ok (⟨name,f,(Aq f).filter λv=>!(Bv s e).contains v⟩::e))
 else .ok (⟨name,t,[]⟩::e)
def Bo:List Int→CS→Ty×CS
 | [],s=>(.nil,s)
 |_::l,s=>((A7 s).1.cons (Bo l (A7 s).2).1,(Bo l (A7 s).2).2)
def Ib(s:CS)(tx:lU)(k:Nat)(ln co:Int):RI (Ty×T1×CS):=match AS s.cons tx with
 |none=>.error (ln,co,11)
 |some m=>if (m.args.len:Int)==k then .ok (Dq m.vars (Bo m.vars s).1 m.args,Cn m.out m.vars (Bo m.vars s).1,(Bo m.vars s).2) else .error (ln,co,11)
def MQ:Ba→lU→Option Bd
 | [],_=>none
 |b::e,n=>if b.name==n then some b else MQ e n
def GR(s:CS)(e:Ba)(tx:lU)(ln co:Int):RI (T1×CS):=match MQ e tx with
 |none=>.error (ln,co,11)
 |some b=>match G4 s b.t ln co with
   |.error x=>.error x
   |.ok f =>
     let vs:=(Aq f).filter λv=>b.all.contains v
     .ok (Cn f vs (Bo vs s).1,(Bo vs s).2)
def S3(f:Int→Nd→Bool):Nd→Bool
 |.nil=>true
 |.cons op _ _ _ _ k r=>f op k&&S3 f r
def Cm:Nat→Int→Nd→Bool
 |0,_,_=>false
 |n+1,op,kids =>
   if op==1||op==2||op==3||op==4||op==5||op==7 then true
   else if op==6||op==13 then S3 (Cm n) kids else false
abbrev L1:=CS→Ba→Int→Int→Int→lU→Int→Nd→RI (T1×CS)
def DW(f:L1)(e:Ba):CS→Nd→RI (Ty×CS)
 |s,.nil=>.ok (.nil,s)
 |s,.cons op ln co tx nm k r=>match f s e op ln co tx nm k with
   |.error x=>.error x
   |.ok (t,s1)=>match DW f e s1 r with
     |.error x=>.error x
     |.ok (l,s2)=>.ok (t.cons l,s2)
def FR(f:L1)(e:Ba):CS→Ty→Nd→RI CS
 |s,a,.cons op ln co tx nm k r=>match f s e op ln co tx nm k with
   |.error x=>.error x
   |.ok (t,s1)=>match EC s1 a.hd t ln co with
     |.error x=>.error x
     |.ok s2=>FR f e s2 a.tl r
 |s,_,.nil=>.ok s
def Jw(f:L1)(e:Ba):CS→T1→Nd→RI (T1×CS)
 |s,t,.nil=>.ok (t,s)
 |s,t,.cons op ln co tx nm k r=>match f s e op ln co tx nm k with
   |.error x=>.error x
   |.ok (a,s1)=>match EC (A7 s1).2 t (.con Eh (a.cons (A7 s1).1.one)) ln co with
     |.error x=>.error x
     |.ok s2=>Jw f e s2 (A7 s1).1 r
def ET:CS→Ba→Nd→Ty×Ba×CS
 |s,e,.nil=>(.nil,e,s)
 |s,e,.cons _ _ _ _ _ _ .nil=>(.nil,e,s)
 |s,e,.cons op _ _ tx _ _ r =>
   let e1:=if op==22 then ⟨tx,(A7 s).1,[]⟩::e else e
   let (l,e2,s2):=ET (A7 s).2 e1 r
   ((A7 s).1.cons l,e2,s2)
def Nd.last:Nd→Option N
 |.nil=>none
 |.cons op ln co tx nm k .nil=>some ⟨op,ln,co,tx,nm,k⟩
 |.cons _ _ _ _ _ _ r=>r.last
def Ty.last:Ty→T1
 |.nil=>.var 0
 |.var n .nil=>.var n
 |.con tx k .nil=>.con tx k
 |.var _ r=>r.last
 |.con _ _ r=>r.last
abbrev LS:=CS→Ba→Int→Int→Int→lU→Int→Nd→RI (T1×Ba×CS)
def FU(f:LS):CS→Ba→Ty→Nd→RI (Ba×CS)
 |s,e,_,.nil=>.ok (e,s)
 |s,e,a,.cons op ln co tx nm k r=>match f s e op ln co tx nm k with
   |.error x=>.error x
   |.ok (q,e1,s1)=>match EC s1 a.hd q ln co with
     |.error x=>.error x
     |.ok s2=>FU f s2 e1 a.tl r
def EP(f:LS):CS→Ba→Nd→RI (Ty×Ba×CS)
 |s,e,.nil=>.ok (.nil,e,s)
 |s,e,.cons op ln co tx nm k r=>match f s e op ln co tx nm k with
   |.error x=>.error x
   |.ok (q,e1,s1)=>match EP f s1 e1 r with
     |.error x=>.error x
     |.ok (l,e2,s2)=>.ok (q.cons l,e2,s2)
def CJ(f:LS)(s:CS)(e:Ba)(op ln co:Int)(tx:lU)(kids:Nd):RI (T1×Ba×CS) :=
 if op==21 then .ok ((A7 s).1,e,(A7 s).2)
 else if op==22 then .ok ((A7 s).1,⟨tx,(A7 s).1,[]⟩::e,(A7 s).2)
 else if op==23 then .ok (c0 bI,e,s)
 else if op==24 then .ok (c0 bS,e,s)
 else if op==25 then .ok (c0 bU,e,s)
 else if op==26 then (match Ib s tx kids.len ln co with
   |.error x=>.error x
   |.ok (args,out,s1)=>match FU f s1 e args kids with
     |.error x=>.error x
     |.ok (e2,s2)=>.ok (out,e2,s2))
 else if op==27 then (match EP f s e kids with
   |.error x=>.error x
   |.ok (l,e2,s2)=>.ok (.con QT l,e2,s2))
 else .ok (.var 0,e,s)
def Cj:Nat→LS
 |0,_,_,_,ln,co,_,_,_=>.error (ln,co,11)
 |n+1,s,e,op,ln,co,tx,_,kids=>match CJ (Cj n) s e op ln co tx kids with
   |.error x=>.error x
   |.ok (t,e1,s1)=>match G4 s1 t ln co with
     |.error x=>.error x
     |.ok _=>.ok (t,e1,s1)
def Dv(n:Nat)(f:L1)(e:Ba)(pt:T1):CS→Option T1→Nd→RI (T1×CS)
 |s,t,.nil=>.ok (t.getD (.var 0),s)
 |s,t,.cons _ _ _ _ _ ks r=>match ks with
   |.cons op ln co tx nm pk (.cons bop bln bco btx bnm bk _)=>(match Cj n s e op ln co tx nm pk with
     |.error x=>.error x
     |.ok (q,inner,s1)=>match EC s1 pt q ln co with
       |.error x=>.error x
       |.ok s2=>match f s2 inner bop bln bco btx bnm bk with
         |.error x=>.error x
         |.ok (rt,s3)=>match t with
           |some t0=>(match EC s3 t0 rt bln bco with
             |.error x=>.error x
             |.ok s4=>Dv n f e pt s4 (some t0) r)
           |none=>Dv n f e pt s3 (some rt) r)
   |_=>.ok (t.getD (.var 0),s)
def GO(f:L1)(s:CS)(e:Ba)(ln co:Int)(tx:lU)(op0 ln0 co0:Int)(tx0:lU)(nm0:Int)(k0:Nd):RI (T1×CS) :=
 match f (A7 s).2 (⟨tx,(A7 s).1,[]⟩::e) op0 ln0 co0 tx0 nm0 k0 with
 |.error x=>.error x
 |.ok (t,s1)=>match EC s1 (A7 s).1 t ln co with
   |.error x=>.error x
   |.ok s2=>.ok (t,s2)
def Bi(n:Nat)(f:L1)(s:CS)(e:Ba)(op ln co:Int)(tx:lU)(kids:Nd):RI (T1×CS) :=
 if op==1 then .ok (c0 bI,s)
 else if op==2 then .ok (c0 bF,s)
 else if op==3 then .ok (c0 bS,s)
 else if op==4 then .ok (c0 bU,s)
 else if op==5 then GR s e tx ln co
 else if op==6 then (match Ib s tx kids.len ln co with
   |.error x=>.error x
   |.ok (args,out,s1)=>match FR f e s1 args kids with
     |.error x=>.error x
     |.ok s2=>.ok (out,s2))
 else if op==7 then (match kids.last with
   |none=>.ok (.var 0,s)
   |some b =>
     let p:=ET s e kids
     match f p.2.2 p.2.1 b.op b.ln b.co b.tx b.nm b.kids with
     |.error x=>.error x
     |.ok (t,s1)=>.ok (He (p.1.snoc t),s1))
 else if op==8 then (match kids with
   |.nil=>.ok (.var 0,s)
   |.cons o l c x m k r=>match f s e o l c x m k with
     |.error x=>.error x
     |.ok (t,s1)=>Jw f e s1 t r)
 else if op==9 then (match kids with
   |.cons o l c x m k (.cons o2 l2 c2 x2 m2 k2 _)=>(match f s e o l c x m k with
     |.error x=>.error x
     |.ok (t,s1)=>match (if tx==[95] then .ok e else Gw s1 e tx t (Cm (n+1) o k) ln co) with
       |.error x=>.error x
       |.ok e1=>f s1 e1 o2 l2 c2 x2 m2 k2)
   |_=>.ok (.var 0,s))
 else if op==10 then (match kids with
   |.cons o l c x m k (.cons o2 l2 c2 x2 m2 k2 _)=>(match GO f s e ln co tx o l c x m k with
     |.error x=>.error x
     |.ok (t,s1)=>match Gw s1 e tx t true ln co with
       |.error x=>.error x
       |.ok e1=>f s1 e1 o2 l2 c2 x2 m2 k2)
   |_=>.ok (.var 0,s))
 else if op==11 then (match kids with
   |.cons o l c x m k (.cons o2 l2 c2 x2 m2 k2 (.cons o3 l3 c3 x3 m3 k3 _))=>(match f s e o l c x m k with
     |.error x=>.error x
     |.ok (t,s1)=>match EC s1 (c0 bB) t l c with
       |.error x=>.error x
       |.ok s2=>match f s2 e o2 l2 c2 x2 m2 k2 with
         |.error x=>.error x
         |.ok (t2,s3)=>match f s3 e o3 l3 c3 x3 m3 k3 with
           |.error x=>.error x
           |.ok (t3,s4)=>match EC s4 t2 t3 l3 c3 with
             |.error x=>.error x
             |.ok s5=>.ok (t2,s5))
   |_=>.ok (.var 0,s))
 else if op==12 then (match DW f e s kids with
   |.error x=>.error x
   |.ok (l,s1)=>.ok (l.last,s1))
 else if op==13 then (match DW f e s kids with
   |.error x=>.error x
   |.ok (l,s1)=>.ok (.con QT l,s1))
 else if op==14 then (match kids with
   |.nil=>.ok (.var 0,s)
   |.cons o l c x m k r=>match f s e o l c x m k with
     |.error x=>.error x
     |.ok (t,s1)=>Dv n f e t s1 none r)
 else if op==15 then (match kids with
   |.nil=>.ok (.var 0,s)
   |.cons o l c x m k r=>match f s e o l c x m k with
     |.error x=>.error x
     |.ok (t,s1)=>Dv n f e (c0 bX) s1 (some t) r)
 else if op==16 then (match kids with
   |.nil=>.ok (.var 0,s)
   |.cons o l c x m k _=>match f s e o l c x m k with
     |.error x=>.error x
     |.ok (t,s1)=>match EC s1 (c0 bX) t l c with
       |.error x=>.error x
       |.ok s2=>.ok (A7 s2))
 else (match kids with
   |.nil=>.ok (.var 0,s)
   |.cons o l c x m k _=>f s e o l c x m k)
def BZ:Nat→L1
 |0,_,_,_,ln,co,_,_,_=>.error (ln,co,11)
 |n+1,s,e,op,ln,co,tx,_,kids=>match Bi n (BZ n) s e op ln co tx kids with
   |.error x=>.error x
   |.ok (t,s1)=>match G4 s1 t ln co with
     |.error x=>.error x
     |.ok _=>.ok (t,s1)
def GC:lU:=[32,105,110,116,32,102,108,111,97,116,32,115,116,114,105,110,103,32,117,110,105,116,32,98,111,111,108,32,101,120,110,32]
def PE:lU:=[32,116,117,112,108,101,32,114,101,102,32,112,114,101,102,32]
def FF(datas:List (lU×Int))(vars:List (lU×T1)):Nd→RI Ty
 |.nil=>.ok .nil
 |.cons op ln co tx _ kids r =>
   let one:RI T1:=if op==31 then (match AS vars tx with
       |some t=>.ok t
       |none=>.error (ln,co,11))
     else if (if Dm GC ([32]++tx++[32]) then (kids.len:Int)==0
         else if tx==Eh then (kids.len:Int)==2
         else if Dm PE ([32]++tx++[32]) then true
         else match AS datas tx with|some c=>c==(kids.len:Int)|none=>false)
       then (match FF datas vars kids with|.error x=>.error x|.ok k=>.ok (.con tx k))
       else .error (ln,co,11)
   match one with
   |.error x=>.error x
   |.ok t=>match FF datas vars r with
     |.error x=>.error x
     |.ok l=>.ok (t.cons l)
def DO(ln co:Int):Nd→Int→List (lU×T1)→Ty→List Int→RI (Int×List (lU×T1)×Ty×List Int)
 |.nil,v,m,self,nums=>.ok (v,m,self,nums)
 |.cons op _ _ tx _ _ r,v,m,self,nums =>
   if op==31 then (if (AS m tx).isSome then .error (ln,co,11) else DO ln co r (v-1) ((tx,.var (v-1))::m) (self.snoc (.var (v-1))) (nums++[v-1]))
   else DO ln co r v m self nums
def Dz(datas:List (lU×Int))(m:List (lU×T1))(out:T1)(nums:List Int):Nd→List (lU×Mk)→RI (List (lU×Mk))
 |.nil,c=>.ok c
 |.cons op ln co tx _ kids r,c =>
   if op==42 then (if (AS c tx).isSome then .error (ln,co,11) else match FF datas m kids with
     |.error x=>.error x
     |.ok args=>Dz datas m out nums r ((tx,⟨args,out,nums⟩)::c))
   else Dz datas m out nums r c
def Gt(s:CS)(ln co:Int)(tx:lU)(kids:Nd):RI CS :=
 if (AS s.datas tx).isSome||Dm GC ([32]++tx++[32]) then .error (ln,co,11)
 else match DO ln co kids s.vars [] .nil [] with
   |.error x=>.error x
   |.ok (v,m,self,nums) =>
     let datas:=(tx,(nums.length:Int))::s.datas
     match Dz datas m (.con tx self) nums kids s.cons with
     |.error x=>.error x
     |.ok cons=>.ok {s with datas:=datas,cons:=cons,vars:=v}
def Dn(s:CS)(e:Ba)(op ln co:Int)(tx:lU)(kids:Nd):RI (Option (lU×T1)×Ba×CS) :=
 if op==41 then (match Gt s ln co tx kids with
   |.error x=>.error x
   |.ok s1=>.ok (none,e,s1))
 else match kids with
   |.nil=>.ok (some (tx,.var 0),e,s)
   |.cons o l c x m k r =>
     if op==43 then (if s.roots.contains tx then .error (ln,co,11) else match FF s.datas [] (.cons o l c x m k .nil) with
         |.error x=>.error x
         |.ok w=>match r with
           |.nil=>.ok (some (tx,.var 0),e,s)
           |.cons o2 l2 c2 x2 m2 k2 _=>match BZ (k2.size+1) {s with roots:=tx::s.roots} e o2 l2 c2 x2 m2 k2 with
             |.error x=>.error x
             |.ok (t2,s1)=>match EC s1 w.hd t2 ln co with
               |.error x=>.error x
               |.ok s2=>.ok (some (tx,.con CK w),⟨tx,.con CK w,[]⟩::e,s2))
     else if op==44 then (match BZ (k.size+1) s e o l c x m k with
       |.error x=>.error x
       |.ok (t,s1)=>match Gw s1 e tx t (Cm (k.size+1) o k) ln co with
         |.error x=>.error x
         |.ok e1=>.ok (some (tx,t),e1,s1))
     else if op==45 then (match GO (BZ (k.size+1)) s e ln co tx o l c x m k with
       |.error x=>.error x
       |.ok (t,s1)=>match Gw s1 e tx t true ln co with
         |.error x=>.error x
         |.ok e1=>.ok (some (tx,t),e1,s1))
     else (match BZ (k.size+1) s e o l c x m k with
       |.error x=>.error x
       |.ok (t,s1)=>.ok (some ([],t),e,s1))
def DY:CS→Ba→Nd→List (lU×T1)→RI (List (lU×T1)×CS)
 |s,_,.nil,out=>.ok (out,s)
 |s,e,.cons op ln co tx _ k r,out=>match Dn s e op ln co tx k with
   |.error x=>.error x
   |.ok (none,e1,s1)=>DY s1 e1 r out
   |.ok (some b,e1,s1)=>DY s1 e1 r (out++[b])
def Tx:Nat→Nat→lU
 |0,_=>[]
 |k+1,n=>if n<10 then [UInt8.ofNat (48+n)] else Tx k (n / 10)++[UInt8.ofNat (48+n % 10)]
def D1(i:Nat):lU:=[39,UInt8.ofNat (97+i % 26)]++(if i<26 then [] else Tx 20 (i / 26))
def Du(vs:List Int):Ty→lU
 |.nil=>[]
 |.var n r=>32::((match Dt vs n with|some i=>D1 i|none=>[])++Du vs r)
 |.con tx .nil r=>32::(tx++Du vs r)
 |.con tx k r=>32::([40]++tx++Du vs k++[41]++Du vs r)
def Ob(t:T1):lU:=(Du (Aq t) t.one).drop 1
def JH(s:CS):List (lU×T1)→RI (List (lU×lU))
 | []=>.ok []
 |(n,t)::l=>match G4 s t 0 0 with
   |.error x=>.error x
   |.ok f=>match JH s l with
     |.error x=>.error x
     |.ok r=>.ok ((n,Ob f)::r)
def aI:Int := -1
def kL:List (lU×Ty) :=
 let n:=c0 bI;let f:=c0 bF;let s:=c0 bS;let b:=c0 bB;let u:=c0 bU
 let a:=T1.var aI;let r:=T1.con I8 a.one;let p:=T1.con CK a.one
 let l2 (x y:T1):Ty:=x.cons y.one
 let l3 (x y z:T1):Ty:=x.cons (y.cons z.one)
 let ad (names:List lU) (t:Ty):List (lU×Ty):=names.map λx=>(x,t)
 ad [[43],[45],[42],[100,105,118],[109,111,100]] (l3 n n n)++ad [[110,101,103]] (l2 n n)++ad [[60],[60,61],[61]] (l3 n n b) ++
 ad [[102,43],[102,45],[102,42],[102,47]] (l3 f f f)++ad [[102,115,113,114,116],[102,110,101,103]] (l2 f f)++ad [[102,60],[102,61],[102,97,104,101,97,100]] (l3 f f b) ++
 ad [[105,116,111,102]] (l2 n f)++ad [[102,116,111,105]] (l2 f n)++ad [[102,98,105,116,115]] (l2 f s)++ad [[110,97,110],[105,110,102]] f.one ++
 ad [[99,97,116]] (l3 s s s)++ad [[108,101,110],[111,114,100],[97,116,111,105]] (l2 s n)++ad [[115,117,98]] (s.cons (l3 n n s))++ad [[115,61],[115,60]] (l3 s s b) ++
 ad [[105,116,111,97],[99,104,114]] (l2 n s)++ad [[112,114,105,110,116]] (l2 s u)++ad [[114,101,97,100]] (l2 u s)++ad [[114,101,102]] (l2 a r)++ad [[103,101,116]] (l2 r a) ++
 ad [[115,101,116]] (l3 r a u)++ad [[110,101,119]] (l2 a p)++ad [[108,111,97,100]] (l2 p a)++ad [[115,116,111,114,101]] (l3 p a u)
def OP:Ba:=(kL.map λp=>(⟨p.1,He p.2,[aI]⟩:Bd)).reverse
def rD:List (lU×Mk) :=
 [([70,97,105,108],⟨(c0 bS).one,c0 bX,[]⟩),([79,117,116],⟨.nil,c0 bX,[]⟩),([75,101,101,112],⟨.nil,c0 bX,[]⟩),([65,98,111,114,116],⟨.nil,c0 bX,[]⟩),([77,97,116,99,104],⟨.nil,c0 bX,[]⟩),([68,105,118],⟨.nil,c0 bX,[]⟩),
  ([84,114,117,101],⟨.nil,c0 bB,[]⟩),([70,97,108,115,101],⟨.nil,c0 bB,[]⟩)]
def Z4:CS:=⟨[],0,rD,[],[],-1⟩
def C5(nds:Nd):RI (List (lU×lU)):=match DY Z4 OP nds [] with
 |.error x=>.error x
 |.ok (out,s)=>JH s out
end Go.SP
namespace Go.SP
open Go.SW Go.RowKit
namespace T1
def op:T1→Int
 |.var _=>0
 |.con _ _=>1
def num:T1→Int
 |.var n=>n
 |.con _ _=>0
def tx:T1→lU
 |.var _=>[]
 |.con t _=>t
def kids:T1→Ty
 |.var _=>.nil
 |.con _ k=>k
end T1
def tC(t:T1)(a:Option Addr)(c:Nat):List Value:=[.int .i64 t.op,.int .i64 t.num,S t.tx,.slice a t.kids.len c]
abbrev tV(t:T1)(a:Option Addr)(c:Nat):Value:=.agg #[.int .i64 t.op,.int .i64 t.num,S t.tx,.slice a t.kids.len c]
def Ij(w:World)(f:Fq):Ty→Nat→Nat→Prop
 |.nil,_,_=>True
 |.var n r,b,off=>(∃a c,Cs w f b off [.int .i64 0,.int .i64 n,S [],.slice a 0 c])∧Ij w f r b (off+4)
 |.con tx k r,b,off=>(∃a c,Cs w f b off [.int .i64 1,.int .i64 0,S tx,.slice a k.len c]∧k.len≤c∧(k=.nil∨∃b' off',a=some ⟨b',off',none⟩∧Ij w f k b' off'))∧Ij w f r b (off+4)
def Ak(w:World)(f:Fq)(k:Ty)(a:Option Addr)(c:Nat):Prop:=k.len≤c∧(k=.nil∨∃b off,a=some ⟨b,off,none⟩∧Ij w f k b off)
variable {f f':Fq}{co ln nm:Int}{l:List Value}{b i off:Nat}{U:Nat→Prop}{k r:Nd}{a:Option Addr}{T:TypeId}{w w':World}
theorem Ij.mono(hF:Hh w f w' f'):∀(k:Ty)(b off:Nat),Ij w f k b off→Ij w' f' k b off
 |.nil,_,_,_=>trivial
 |.var _ r,b,off,⟨⟨a,c,h1⟩,h2⟩=>⟨⟨a,c,h1.mono hF⟩,Ij.mono hF r b _ h2⟩
 |.con _ k r,b,off,⟨⟨a,c,h1,h2,h3⟩,h4⟩=>⟨⟨a,c,h1.mono hF,h2,h3.imp id λ⟨b',off',h5,h6⟩=>⟨b',off',h5,Ij.mono hF k b' off' h6⟩⟩,Ij.mono hF r b _ h4⟩
theorem Ak.mono{k:Ty}{c:Nat}:F6 (λw f=>Ak w f k a c):=λ_ _ _ _ h hF=>⟨h.1,h.2.imp id λ⟨b,off,h1,h2⟩=>⟨b,off,h1,Ij.mono hF k b off h2⟩⟩
theorem Ak.nil(w:World)(f:Fq)(a:Option Addr)(c:Nat):Ak w f .nil a c:=⟨Nat.zero_le _,.inl rfl⟩
theorem Ij.cons{t:T1}{r:Ty}:Ij w f (t.cons r) b off↔(∃a c,Cs w f b off (tC t a c)∧Ak w f t.kids a c)∧Ij w f r b (off+4):=by
 cases t with
 |var n=>exact⟨λ⟨⟨a,c,h1⟩,h2⟩=>⟨⟨a,c,h1,Ak.nil _ _ _ _⟩,h2⟩,λ⟨⟨a,c,h1,_⟩,h2⟩=>⟨⟨a,c,h1⟩,h2⟩⟩
 |con tx k=>exact⟨λ⟨⟨a,c,h1,h2,h3⟩,h4⟩=>⟨⟨a,c,h1,h2,h3⟩,h4⟩,λ⟨⟨a,c,h1,h2⟩,h4⟩=>⟨⟨a,c,h1,h2.1,h2.2⟩,h4⟩⟩
theorem Ij.app:∀{x y:Ty}{b off:Nat},Ij w f x b off→Ij w f y b (off+x.len*4)→Ij w f (x.app y) b off
 |.nil,_,b,off,_,h=>by simpa[Ty.len,Ty.app] using h
 |.var _ r,y,b,off,h,hy=>⟨h.1,Ij.app h.2 (by rw[show off+4+r.len*4=off+(r.len+1)*4 by omega];exact hy)⟩
 |.con _ _ r,y,b,off,h,hy=>⟨h.1,Ij.app h.2 (by rw[show off+4+r.len*4=off+(r.len+1)*4 by omega];exact hy)⟩
def BG(w:World)(f:Fq)(a:Option Addr)(i:Nat)(r:Ty):Prop:=r=.nil∨∃b off,a=some ⟨b,off,none⟩∧Ij w f r b (off+i*4)
theorem BG.mono{r:Ty}:F6 (λw f=>BG w f a i r):=λ_ _ _ _ h hF=>h.imp id λ⟨b,off,h1,h2⟩=>⟨b,off,h1,Ij.mono hF r b _ h2⟩
theorem Ak.at{k:Ty}{c:Nat}(h:Ak w f k a c):BG w f a 0 k:=h.2.imp id λ⟨b,off,h1,h2⟩=>⟨b,off,h1,by simpa using h2⟩
theorem BG.head{t:T1}{r:Ty}(h:BG w f a i (t.cons r)):∃b off ka kc,a=some ⟨b,off,none⟩∧Cs w f b (off+i*4) (tC t ka kc)∧Ak w f t.kids ka kc∧BG w f a (i+1) r:=by
 rcases h with h|⟨b,off,h1,h2⟩
 · cases t <;> cases h
 · obtain⟨⟨ka,kc,h3,h4⟩,h5⟩:=Ij.cons.1 h2
   exact⟨b,off,ka,kc,h1,h3,h4,.inr ⟨b,off,h1,by rw[show off+(i+1)*4=off+i*4+4 by omega];exact h5⟩⟩
def N8(w:World)(f:Fq):Nd→Nat→Nat→Prop
 |.nil,_,_=>True
 |.cons op ln co tx nm k r,b,off=>(∃a c,Cs w f b off [.int .i64 op,.int .i64 ln,.int .i64 co,S tx,.int .i64 nm,.slice a k.len c]∧k.len≤c∧(k=.nil∨∃b' off',a=some ⟨b',off',none⟩∧N8 w f k b' off'))∧N8 w f r b (off+6)
def AD(w:World)(f:Fq)(k:Nd)(a:Option Addr)(c:Nat):Prop:=k.len≤c∧(k=.nil∨∃b off,a=some ⟨b,off,none⟩∧N8 w f k b off)
theorem N8.mono(hF:Hh w f w' f'):∀(k:Nd)(b off:Nat),N8 w f k b off→N8 w' f' k b off
 |.nil,_,_,_=>trivial
 |.cons _ _ _ _ _ k r,b,off,⟨⟨a,c,h1,h2,h3⟩,h4⟩=>⟨⟨a,c,h1.mono hF,h2,h3.imp id λ⟨b',off',h5,h6⟩=>⟨b',off',h5,N8.mono hF k b' off' h6⟩⟩,N8.mono hF r b _ h4⟩
theorem AD.mono{c:Nat}:F6 (λw f=>AD w f k a c):=λ_ _ _ _ h hF=>⟨h.1,h.2.imp id λ⟨b,off,h1,h2⟩=>⟨b,off,h1,N8.mono hF k b off h2⟩⟩
def AT(w:World)(f:Fq)(a:Option Addr)(i:Nat)(r:Nd):Prop:=r=.nil∨∃b off,a=some ⟨b,off,none⟩∧N8 w f r b (off+i*6)
theorem AT.mono:F6 (λw f=>AT w f a i r):=λ_ _ _ _ h hF=>h.imp id λ⟨b,off,h1,h2⟩=>⟨b,off,h1,N8.mono hF r b _ h2⟩
theorem AD.at{c:Nat}(h:AD w f k a c):AT w f a 0 k:=h.2.imp id λ⟨b,off,h1,h2⟩=>⟨b,off,h1,by simpa using h2⟩
def JQ(op ln co:Int)(tx:lU)(nm:Int)(a:Option Addr)(n c:Nat):List Value:=[.int .i64 op,.int .i64 ln,.int .i64 co,S tx,.int .i64 nm,.slice a n c]
theorem AT.head{op:Int}{tx:lU}(h:AT w f a i (.cons op ln co tx nm k r)):∃b off ka kc,a=some ⟨b,off,none⟩∧Cs w f b (off+i*6) (JQ op ln co tx nm ka k.len kc)∧AD w f k ka kc∧AT w f a (i+1) r:=by
 rcases h with h|⟨b,off,h1,⟨ka,kc,h3,h4⟩,h5⟩
 · cases h
 · exact⟨b,off,ka,kc,h1,h3,h4,.inr ⟨b,off,h1,by rw[show off+(i+1)*6=off+i*6+6 by omega];exact h5⟩⟩
def QW(w:World):Fq:=λb=>match w.heap[b]? with
 |some (.cells cs _ (0,0))=>cs.size
 |_=>0
theorem Cs.all{m:List Value}(hb:AI w b l T)(h:l.drop off=m):Cs w (QW w) b off m:=λj v hj=>by
 have h1:l[off+j]?=some v:=by rw[← List.getElem?_drop,h,hj]
 obtain⟨hl,_⟩:=List.getElem?_eq_some_iff.1 h1;refine⟨?_,by rw[hb.cell,h1]⟩;unfold QW;unfold AI at hb;rw[hb];simpa using hl
theorem Cs.le{m:List Value}(h:Cs w f b off (l++m)):Cs w f b off l:=λj v hj=>h j v (by
 obtain⟨hl,_⟩:=List.getElem?_eq_some_iff.1 hj;rw[List.getElem?_append_left hl];exact hj)
theorem Fk.toG(hb:AI w b l T):∀(k:Nd)(off:Nat),Fk U w k (l.drop off)→(∀(k':Nd)(a:Option Addr)(n c:Nat),k'.size<k.size→GK U w a n c k'→AD w (QW w) k' a c)→N8 w (QW w) k b off
 |.nil,_,_,_=>trivial
 |.cons op ln co tx nm kids r,off,⟨a,n,c,l',h1,h2,h3⟩,ih=>by
   have hn:n=kids.len:=h2.1;have hk:=ih kids a n c (by simp only[Nd.size];omega) h2;refine⟨⟨a,c,?_,hk⟩,Fk.toG hb r (off+6) ?_ (λk' a n c hs=>ih k' a n c (by simp only[Nd.size];omega))⟩
   · have:=Cs.all hb h1
     rw[hn] at this;exact Cs.le (m:=l') this
   · rw[← List.drop_drop,h1];exact h3
theorem GK.toF:∀(m:Nat)(k:Nd)(a:Option Addr)(n c:Nat),k.size<m→GK U w a n c k→AD w (QW w) k a c
 |0,_,_,_,_,h,_=>by omega
 |m+1,k,a,n,c,hm,⟨h1,h2,h3⟩=>by
   refine⟨oM,?_⟩;rcases h3 with h3|⟨b,off,l,T,_,ha,hb,hc⟩
   · left
     cases k with
     |nil=>rfl
     |cons _ _ _ _ _ _ _=>rw[h3] at h1;cases h1
   · exact .inr ⟨b,off,ha,Fk.toG hb k off hc (λk' a n c hs=>GK.toF m k' a n c oM)⟩
end Go.SP
namespace Go.SP
open Go.SW Go.RowKit
def BL(w:World)(f:Fq)(l:List Int)(a:Option Addr)(c:Nat):Prop:=l.length≤c∧(l=[]∨∃b off,a=some ⟨b,off,none⟩∧Cs w f b off (l.map λn=>Value.int .i64 n))
variable {f:Fq}{l:List Value}{b i off:Nat}{a:Option Addr}{w:World}
theorem BL.mono{l:List Int}{c:Nat}:F6 (λw f=>BL w f l a c):=λ_ _ _ _ h hF=>⟨h.1,h.2.imp id λ⟨b,off,h1,h2⟩=>⟨b,off,h1,h2.mono hF⟩⟩
theorem Cs.at{v:Value}(h:Cs w f b off l)(hi:l[i]?=some v):Cs w f b (off+i) [v]:=λj u hj=>by
 cases j with
 |zero=>simp at hj;subst hj;simpa using h i v hi
 |succ j=>simp at hj
theorem BL.get{l:List Int}{c:Nat}{n:Int}(h:BL w f l a c)(hi:l[i]?=some n):∃b off,a=some ⟨b,off,none⟩∧Cs w f b (off+i*1) [.int .i64 n]:=by
 rcases h.2 with h|⟨b,off,h1,h2⟩
 · subst h;simp at hi
 · exact⟨b,off,h1,by rw[Nat.mul_one];exact Cs.at h2 (by rw[List.getElem?_map,hi];rfl)⟩
theorem Oz{n:Int}:∀{l:List Int},Dt l n=none→l.contains n=false
 | [],_=>rfl
 |k::l,h=>by
   unfold Dt at h
   split at h
   · cases h
   · rename_i hk
     have:Dt l n=none:=by cases hx:Dt l n with|none=>rfl|some i=>rw[hx] at h;cases h
     rw[List.contains_cons,Oz this];have:¬n=k:=λe=>hk (by simp[e]);simp[this]
theorem KE{n:Int}:∀{l:List Int}{i:Nat},Dt l n=some i→l.contains n=true∧i<l.length∧l[i]?=some n
 | [],_,h=>by cases h
 |k::l,i,h=>by
   unfold Dt at h
   split at h
   · rename_i hk
     have e:k=n:=by simpa using hk
     cases h
     subst e;simp
   · cases hx:Dt l n with
     |none=>rw[hx] at h;cases h
     |some j =>
       rw[hx] at h
       cases h
       have:=KE hx;exact⟨by rw[List.contains_cons,this.1,Bool.or_true],by simp;exact this.2.1,by simpa using this.2.2⟩
theorem Uy{n:Int}:∀{l:List Int}{i:Nat},(l.take i).contains n=false→l[i]?=some n→Dt l n=some i
 | [],i,_,h=>by simp at h
 |k::l,0,_,h=>by simp at h;subst h;simp[Dt]
 |k::l,i+1,hn,h=>by
   simp only[List.take_succ_cons,List.contains_cons,Bool.or_eq_false_iff] at hn
   have hk:(k==n)=false:=by
     have:=hn.1
     cases hh:k==n with
     |false=>rfl
     |true =>
       have e:k=n:=by simpa using hh
       subst e;simp at this
   have:=Uy hn.2 (by simpa using h);simp[Dt,hk,this]
theorem MR{n:Int}{l:List Int}(h:l.contains n=false):Dt l n=none:=by
 cases hx:Dt l n with
 |none=>rfl
 |some i=>rw[(KE hx).1] at h;cases h
def W2(l:List Int)(n:Int):Int:=match Dt l n with
 |some i=>i
 |none => -1
theorem CT{α:Type}{l:List α}{x:α}(h:l[i]?=some x):l.take (i+1)=l.take i++[x]:=by
 obtain⟨hl,he⟩:=List.getElem?_eq_some_iff.1 h;rw[List.take_succ_eq_append_getElem hl,he]
end Go.SP
namespace Go.SP
open Go.SW Go.RowKit
def Ty.size:Ty→Nat
 |.nil=>0
 |.var _ r=>r.size+1
 |.con _ k r=>k.size+r.size+1
def Ty.bnd:Ty→Prop
 |.nil=>True
 |.var _ r=>r.bnd
 |.con tx k r=>(k.len≤200000∧tx.length≤1000000)∧k.bnd∧r.bnd
def T1.bnd(t:T1):Prop:=(t.kids.len≤200000∧t.tx.length≤1000000)∧t.kids.bnd
theorem T1.bnd_cons{t:T1}{r:Ty}:(t.cons r).bnd↔t.bnd∧r.bnd:=by
 cases t with
 |var n=>exact⟨λh=>⟨⟨⟨Nat.zero_le _,Nat.zero_le _⟩,tQ⟩,h⟩,λh=>h.2⟩
 |con tx k=>exact⟨λh=>⟨⟨h.1,h.2.1⟩,h.2.2⟩,λh=>⟨h.1.1,h.1.2,h.2⟩⟩
theorem T1.len_cons(t:T1)(r:Ty):(t.cons r).len=r.len+1:=by cases t <;> rfl
theorem T1.size_cons(t:T1)(r:Ty):(t.cons r).size=t.kids.size+r.size+1:=by cases t <;> simp[T1.cons,Ty.size,T1.kids]
theorem Ty.len_app:∀x y:Ty,(x.app y).len=x.len+y.len
 |.nil,y=>by simp[Ty.app,Ty.len]
 |.var _ r,y=>by simp[Ty.app,Ty.len,Ty.len_app r y];omega
 |.con _ _ r,y=>by simp[Ty.app,Ty.len,Ty.len_app r y];omega
theorem Ty.app_assoc:∀x y z:Ty,(x.app y).app z=x.app (y.app z)
 |.nil,_,_=>rfl
 |.var _ r,y,z=>by simp[Ty.app,Ty.app_assoc r y z]
 |.con _ _ r,y,z=>by simp[Ty.app,Ty.app_assoc r y z]
theorem Ty.app_nil:∀x:Ty,x.app .nil=x
 |.nil=>rfl
 |.var _ r=>by simp[Ty.app,Ty.app_nil r]
 |.con _ _ r=>by simp[Ty.app,Ty.app_nil r]
theorem T1.one_app(t:T1)(r:Ty):t.one.app r=t.cons r:=by cases t <;> rfl
theorem Ty.len_snoc(x:Ty)(t:T1):(x.snoc t).len=x.len+1:=by unfold Ty.snoc T1.one;rw[Ty.len_app,T1.len_cons];rfl
theorem Ty.snoc_app(x:Ty)(t:T1)(r:Ty):(x.snoc t).app r=x.app (t.cons r):=by unfold Ty.snoc;rw[Ty.app_assoc,T1.one_app]
theorem Ty.cases1(k:Ty)(h:0<k.len):∃t r,k=T1.cons t r:=by
 cases k with
 |nil=>simp[Ty.len] at h
 |var n r=>exact⟨.var n,r,rfl⟩
 |con tx k r=>exact⟨.con tx k,r,rfl⟩
theorem Ty.len0{k:Ty}(h:k.len=0):k=.nil:=by cases k <;> simp_all [Ty.len]
def Be(w:World)(f:Fq):Ty→List Value→Prop
 |.nil,xs=>xs=[]
 |.var n r,xs=>∃a c xs',xs=[.int .i64 0,.int .i64 n,S [],.slice a 0 c]++xs'∧Be w f r xs'
 |.con tx k r,xs=>∃a c xs',xs=[.int .i64 1,.int .i64 0,S tx,.slice a k.len c]++xs'∧Ak w f k a c∧Be w f r xs'
variable {f f':Fq}{l xs:List Value}{b off:Nat}{a:Option Addr}{w w':World}
theorem Be.mono'(hF:Hh w f w' f'):∀(k:Ty)(xs:List Value),Be w f k xs→Be w' f' k xs
 |.nil,_,h=>h
 |.var _ r,_,⟨a,c,xs',h1,h2⟩=>⟨a,c,xs',h1,Be.mono' hF r xs' h2⟩
 |.con _ k r,_,⟨a,c,xs',h1,h2,h3⟩=>⟨a,c,xs',h1,Ak.mono _ _ _ _ h2 hF,Be.mono' hF r xs' h3⟩
theorem Be.mono{k:Ty}:F6 (λw f=>Be w f k xs):=λ_ _ _ _ h hF=>Be.mono' hF k xs h
theorem Be.snoc{t:T1}{c:Nat}(ht:Ak w f t.kids a c):∀{k:Ty}{xs:List Value},Be w f k xs→Be w f (k.snoc t) (xs++tC t a c)
 |.nil,xs,h=>by
   have h:xs=[]:=h;subst h
   cases t with
   |var n=>exact⟨a,c,[],rfl,rfl⟩
   |con tx k=>exact⟨a,c,[],rfl,ht,rfl⟩
 |.var _ r,_,⟨a',c',xs',h1,h2⟩=>⟨a',c',xs'++tC t a c,by rw[h1,List.append_assoc],Be.snoc ht h2⟩
 |.con _ k r,_,⟨a',c',xs',h1,h2,h3⟩=>⟨a',c',xs'++tC t a c,by rw[h1,List.append_assoc],h2,Be.snoc ht h3⟩
theorem Cs.drop{m:List Value}(h:Cs w f b off (l++m)):Cs w f b (off+l.length) m:=λj v hj=>by
 have:=h (l.length+j) v (by rw[List.getElem?_append_right (by omega)];simpa using hj);rwa[← Nat.add_assoc] at this
theorem Be.toG:∀{k:Ty}{xs:List Value}{off:Nat},Be w f k xs→Cs w f b off xs→Ij w f k b off
 |.nil,_,_,_,_=>trivial
 |.var _ r,_,off,⟨a,c,xs',h1,h2⟩,hC=>by
   subst h1;exact⟨⟨a,c,Cs.le hC⟩,Be.toG h2 (Cs.drop hC)⟩
 |.con _ k r,_,off,⟨a,c,xs',h1,h2,h3⟩,hC=>by
   subst h1;exact⟨⟨a,c,Cs.le hC,h2⟩,Be.toG h3 (Cs.drop hC)⟩
theorem Be.toF{c:Nat}{k:Ty}(h:Be w f k xs)(hC:Cs w f b 0 xs)(hc:k.len≤c):Ak w f k (some ⟨b,0,none⟩) c:=⟨hc,.inr ⟨b,0,rfl,Be.toG h hC⟩⟩
theorem Be.len:∀{k:Ty}{xs:List Value},Be w f k xs→xs.length=k.len*4
 |.nil,xs,h=>by have h:xs=[]:=h;subst h;rfl
 |.var _ r,_,⟨a,c,xs',h1,h2⟩=>by subst h1;have:=Be.len h2;simp[Ty.len,this];omega
 |.con _ k r,_,⟨a,c,xs',h1,h2,h3⟩=>by subst h1;have:=Be.len h3;simp[Ty.len,this];omega
theorem QO(a b c vs:List Value)(h:b.length=vs.length):DQ (a++(b++c)) a.length vs=(a++vs)++c:=by
 rw[L5 vs _ _ (by simp;omega)];have h1:(a++(b++c)).take a.length=a:=by simp
 have h2:(a++(b++c)).drop (a.length+vs.length)=c:=by
   rw[← List.drop_drop];simp[← h]
 rw[h1,h2]
def oB(P:Program)(fid:FuncId)(m:Nat):Prop:=∀(w:World)(f:Fq)(_:Vl w f)(t:T1)(a:Option Addr)(c:Nat),t.kids.size<m→t.bnd→Ak w f t.kids a c →
 Bq P fid #[tV t a c] w (B4 (α:=Option Addr×Nat) (λx=>tV t x.1 x.2) (λ_=>True) (λx=>[λw f=>Ak w f t.kids x.1 x.2]) w f)
end Go.SP
namespace Go.SP
open Go.SW Go.RowKit
theorem Zd(t:T1)(a:Option Addr)(c:Nat):∀v∈tC t a c,v.oneCell'=true:=by
 intro v hv;unfold tC at hv;simp only[List.mem_cons,List.not_mem_nil,or_false] at hv;rcases hv with rfl|rfl|rfl|rfl <;> rfl
variable {f:Fq}{b:Nat}{w:World}
theorem Ij.cells:∀{k:Ty}{off:Nat},Ij w f k b off→∃xs,Be w f k xs∧Cs w f b off xs∧∀v∈xs,v.oneCell'=true
 |.nil,_,_=>⟨[],rfl,(λj v hj=>by simp at hj),λv hv=>by cases hv⟩
 |.var n r,off,⟨⟨a,c,h1⟩,h2⟩=>by
   obtain⟨xs,h3,h4,h5⟩:=Ij.cells h2;refine⟨_++xs,⟨a,c,xs,rfl,h3⟩,?_,?_⟩
   · intro j v hj
     rcases Nat.lt_or_ge j 4 with hj4|hj4
     · exact h1 j v (by rwa[List.getElem?_append_left (by simpa using hj4)] at hj)
     · rw[List.getElem?_append_right (by simpa using hj4)] at hj
       have:=h4 (j-4) v (by simpa using hj);rwa[show off+4+(j-4)=off+j by omega] at this
   · intro v hv
     rcases List.mem_append.1 hv with hv|hv
     · exact Zd (.var n) a c v hv
     · exact h5 v hv
 |.con tx k r,off,⟨⟨a,c,h1,hk⟩,h2⟩=>by
   obtain⟨xs,h3,h4,h5⟩:=Ij.cells h2;refine⟨_++xs,⟨a,c,xs,rfl,hk,h3⟩,?_,?_⟩
   · intro j v hj
     rcases Nat.lt_or_ge j 4 with hj4|hj4
     · exact h1 j v (by rwa[List.getElem?_append_left (by simpa using hj4)] at hj)
     · rw[List.getElem?_append_right (by simpa using hj4)] at hj
       have:=h4 (j-4) v (by simpa using hj);rwa[show off+4+(j-4)=off+j by omega] at this
   · intro v hv
     rcases List.mem_append.1 hv with hv|hv
     · exact Zd (.con tx k) a c v hv
     · exact h5 v hv
end Go.SP
namespace Go.SP
open Go.SW Go.RowKit
variable {X:Cx}{f:Fq}{Fs:List (World→Fq→Prop)}{B:List FB}{H:List HB}{xs:List Value}{m:Nat}{a:Option Addr}{e:TypeId}{w:World}
theorem Nf{R:List RB}{c:Nat}{k:Ty}(hM:AN X w f H (⟨e,4,a,c,m,xs⟩::R) B Fs)(hL:Be w f k xs)(h0:0<k.len):∃f',AN X w f' H R B Fs∧Ak w f' k a c:=by
 have hr:=hM.row _ (.head _);have hlen:=Be.len hL;have hm:m=k.len:=by have:=hr.1;simp only at this;omega
 rcases hr.2 with ⟨_,_,h⟩|⟨b,l,ha,_,hmc,_⟩
 · simp only at h;omega
 · simp only at ha hmc
   subst ha;obtain⟨f',hM'⟩:=(hM.more (B':=[]) (F':=[λw f=>Be w f k xs]) (λ_ h=>by cases h) (AE.mem ⟨hL,tQ⟩) (Ax.mem ⟨Be.mono,tQ⟩)).done (i:=0) rfl rfl;exact⟨f',hM'.less (List.Sublist.refl _) (List.Sublist.refl _) (λe he=>.tail _ he) (λφ h=>.tail _ h),Be.toF (hM'.fact (i:=0) rfl) (hM'.fro _ (.head _)) oM⟩
end Go.SP
namespace Go.SP
open Go.SW Go.RowKit
variable {f:Fq}{a:Option Addr}{w:World}
theorem Ak.cells{k:Ty}{c:Nat}(h:Ak w f k a c)(h0:0<k.len):∃x:Nat×Nat×List Value,(a=some ⟨x.1,x.2.1,none⟩∧(∀v∈x.2.2,v.oneCell'=true)∧x.2.2.length=k.len*4)∧Cs w f x.1 x.2.1 x.2.2∧Be w f k x.2.2:=by
 rcases h.2 with h|⟨b,off,h1,h2⟩
 · subst h;cases h0
 · obtain⟨xs,h3,h4,h5⟩:=Ij.cells h2
   exact⟨(b,off,xs),⟨h1,h5,Be.len h3⟩,h4,h3⟩
def F3(w:World)(f:Fq):BR→List (Int×Value)→Prop
 | [],es=>es=[]
 |(n,t)::s,es=>∃a c es',es=(n,tV t a c)::es'∧Ak w f t.kids a c∧F3 w f s es'
variable {f':Fq}{fr pr:Int}{Fs:List (World→Fq→Prop)}{mb sb:Nat}{MI:Nat→Prop}{T:TypeId}{w':World}
theorem F3.mono(hF:Hh w f w' f'):∀(s:BR)(es:List (Int×Value)),F3 w f s es→F3 w' f' s es
 | [],_,h=>h
 |(_,_)::s,_,⟨a,c,es',h1,h2,h3⟩=>⟨a,c,es',h1,Ak.mono _ _ _ _ h2 hF,F3.mono hF s es' h3⟩
def Im:BR→Prop
 | []=>True
 |(n,t)::s=>CC s n=none∧(∀m,t=.var m→m≠n∧CC s m=none)∧t.bnd∧Im s
def bQ:BR→Prop
 | []=>True
 |(n,t)::s=>CC s n=none∧(∀m,t=.var m→m≠n∧CC s m=none)∧bQ s
theorem Im.v:∀{s:BR},Im s→bQ s
 | [],_=>trivial
 |(_,_)::_,h=>⟨h.1,h.2.1,Im.v h.2.2.2⟩
theorem F3.look:∀{s:BR}{es:List (Int×Value)},F3 w f s es→∀n,(CC s n=none→Ej es n=none)∧∀t,CC s n=some t→∃a c,Ej es n=some (tV t a c)∧Ak w f t.kids a c
 | [],es,h,n=>by
   have h:es=[]:=h;subst h;exact⟨λ_=>rfl,λt h=>by cases h⟩
 |(k,t)::s,es,⟨a,c,es',h1,h2,h3⟩,n=>by
   subst h1;have ih:=F3.look h3 n;simp only[CC,Ej]
   by_cases hk:k=n
   · subst hk
     refine⟨λh=>by simp at h,λt' h=>?_⟩;simp at h;subst h;exact⟨a,c,by simp,h2⟩
   · have e1:(k==n)=false:=by simpa using hk
     have e2:(n==k)=false:=by simpa using λe=>hk e.symm
     rw[e1,e2];simpa using ih
theorem F3.dis:∀{s:BR}{es:List (Int×Value)},F3 w f s es→Im s→Il es
 | [],es,h,_=>by have h:es=[]:=h;subst h;trivial
 |(k,t)::s,es,⟨a,c,es',h1,h2,h3⟩,hw=>by
   subst h1;exact⟨(F3.look h3 k).1 hw.1,F3.dis h3 hw.2.2.2⟩
def BA(T:TypeId)(sb mb:Nat)(s:BR)(fr pr:Int)(w:World)(f:Fq):Prop:=AI w sb [.map (some mb),.int .i64 fr,.int .i64 pr] T∧∃es,BE Ez w mb es∧F3 w f s es
theorem BA.stab{s:BR}(h1:MI sb)(h2:MI mb):EL MI (BA T sb mb s fr pr):=λ_ _ _ _ ⟨hb,es,hm,hs⟩ hF h=>⟨(h sb h1).trans hb,es,hm.heap (h mb h2),F3.mono hF s es hs⟩
abbrev Lx(sb mb:Nat):Nat→Prop:=λb=>b=sb∨b=mb
abbrev XS(T:TypeId)(sb mb:Nat)(s:BR)(fr pr:Int)(w:World)(f:Fq):Cx:=⟨Lx sb mb,Lx sb mb,BA T sb mb s fr pr,w,f⟩
theorem cQ{s:BR}(hv:Vl w f)(hS:BA T sb mb s fr pr w f)(hf:f sb=0∧f mb=0)(hF:AE Fs w f)(hm:Ax Fs):AN (XS T sb mb s fr pr w f) w f [] [] [] Fs where
 stp:=L0.refl _ _
 old _ _:=rfl
 val:=hv
 ent:=Hh.refl _ _
 res:=hS
 stab:=BA.stab (.inl rfl) (.inr rfl)
 mi b hb:=by
   rcases hb with rfl|rfl
   · exact⟨hS.1.lt,hf.1,.inr (.inl rfl)⟩
   · obtain⟨_,es,h,_⟩:=hS;exact⟨h.lt,hf.2,.inr (.inr rfl)⟩
 blk _ h:=by cases h
 row _ h:=by cases h
 nd:=List.nodup_nil
 own _ h:=by cases h
 hnw _ h:=by cases h
 rnw _ h:=by cases h
 fro _ h:=by cases h
 fac:=hF.mem
 mono:=hm.mem
def Ip:BR→Int→Option Nat
 | [],_=>none
 |(k,_)::s,n=>if k==n then some 0 else (Ip s n).map (· + 1)
def Ex(s:BR):T1→Nat
 |.con _ _=>0
 |.var n=>match Ip s n with
   |none=>0
   |some p=>p+1
theorem Ry{n:Int}:∀{s:BR},CC s n=none↔Ip s n=none
 | []=>by simp[CC,Ip]
 |(k,t)::s=>by
   have:=Ry (n:=n) (s:=s);simp only[CC,Ip]
   split <;> simp[this]
theorem HC{n:Int}{t:T1}:∀{s:BR},bQ s→CC s n=some t→∃p,Ip s n=some p∧Ex s t≤p
 | [],_,h=>by cases h
 |(k,t0)::s,hw,h=>by
   simp only[CC] at h
   split at h
   · rename_i hk
     cases h
     have e:k=n:=by simpa using hk
     subst e;refine⟨0,by simp[Ip],?_⟩
     cases t with
     |con _ _=>simp[Ex]
     |var m =>
       obtain⟨h1,h2⟩:=hw.2.1 m rfl;have e1:(k==m)=false:=by simpa using λe=>h1 e.symm
       simp[Ex,Ip,e1,Ry.1 h2]
   · rename_i hk
     obtain⟨p,h1,h2⟩:=HC hw.2.2 h;have e1:(k==n)=false:=by simpa using hk
     refine⟨p+1,by simp[Ip,e1,h1],?_⟩
     cases t with
     |con _ _=>simp[Ex]
     |var m =>
       have hv:∀s:BR,Ex s (.var m)=(match Ip s m with|none=>0|some p=>p+1):=λ_=>rfl;rw[hv] at h2 ⊢;simp only[Ip]
       cases hkm:(k==m) with
       |true=>simp
       |false =>
         simp only[Bool.false_eq_true,if_false]
         cases hp:Ip s m with
         |none=>simp
         |some q =>
           rw[hp] at h2;simp only[Option.map_some] at h2 ⊢;have h3:q+1≤p:=h2;show q+1+1≤p+1;exact Nat.succ_le_succ h3
theorem SX{n:Int}:∀{s:BR}{p:Nat},Ip s n=some p→p<s.length
 | [],_,h=>by cases h
 |(k,t)::s,p,h=>by
   simp only[Ip] at h
   split at h
   · cases h;simp
   · cases hp:Ip s n with
     |none=>rw[hp] at h;cases h
     |some q=>rw[hp] at h;cases h;have:=SX hp;simp;exact this
theorem UL(s:BR)(t:T1):Ex s t≤s.length:=by
 cases t with
 |con _ _=>simp[Ex]
 |var n =>
   have hv:Ex s (.var n)=(match Ip s n with|none=>0|some p=>p+1):=rfl;rw[hv]
   cases hp:Ip s n with
   |none=>simp
   |some p=>exact SX hp
theorem Kt{s:BR}(hw:bQ s):∀(k j:Nat)(t:T1),Ex s t≤k→Ex s t≤j→Hy s k t=Hy s j t
 |k,j,.con tx ks,_,_=>by cases k <;> cases j <;> rfl
 |k,j,.var n,hk,hj=>by
   cases hl:CC s n with
   |none =>
     have:∀k,Hy s k (.var n)=.var n:=λk=>by cases k <;> simp[Hy,hl]
     rw[this,this]
   |some t =>
     obtain⟨p,h1,h2⟩:=HC hw hl;have hr:Ex s (.var n)=p+1:=by simp[Ex,h1]
     rw[hr] at hk hj
     cases k with
     |zero=>omega
     |succ k =>
       cases j with
       |zero=>omega
       |succ j =>
         simp only[Hy,hl];exact Kt hw k j t oM oM
theorem Nk{s:BR}{n:Int}(h:CC s n=none):Ap s (.var n)=.var n:=by simp[Ap,Hy,h]
theorem Gs(s:BR)(tx:lU)(k:Ty):Ap s (.con tx k)=.con tx k:=rfl
theorem Qp{s:BR}{n:Int}{t:T1}(hw:bQ s)(h:CC s n=some t):Ap s (.var n)=Ap s t:=by
 obtain⟨p,h1,h2⟩:=HC hw h;have:=SX h1;unfold Ap
 conv=>lhs;rw[Hy];simp only[h]
 exact Kt hw _ _ t oM (by have:=UL s t;omega)
theorem LZ{s:BR}{n:Int}{t:T1}(hw:bQ s)(h:CC s n=some t):Ex s t<Ex s (.var n):=by
 obtain⟨p,h1,h2⟩:=HC hw h;have hv:Ex s (.var n)=p+1:=by simp[Ex,h1]
 rw[hv];omega
theorem TG{s:BR}{n:Int}{t:T1}(hw:Im s)(h:CC s n=some t):Ap s (.var n)=Ap s t:=Qp hw.v h
theorem aS{s:BR}{n:Int}{t:T1}(hw:Im s)(h:CC s n=some t):Ex s t<Ex s (.var n):=LZ hw.v h
theorem M6{n:Int}{t:T1}:∀{s:BR},Im s→CC s n=some t→t.bnd
 | [],_,h=>by cases h
 |(k,t0)::s,hw,h=>by
   simp only[CC] at h
   split at h
   · cases h;exact hw.2.2.1
   · exact M6 hw.2.2.2 h
theorem DP{t:T1}(h:(t.op==0)=true):∃n,t=.var n:=by
 cases t with
 |var n=>exact⟨n,rfl⟩
 |con _ _=>cases h
theorem Fe{t:T1}(h:(t.op==0)=false):∃tx k,t=.con tx k:=by
 cases t with
 |var n=>cases h
 |con tx k=>exact⟨tx,k,rfl⟩
end Go.SP
namespace Go.SW
open Go.RowKit
section
variable{P:Program}{σ:Bc}{w:World}{ty:TypeId}
variable {caps:List Operand}{vs:List Value}
theorem SY{f:FuncId}{g:Operand}{args:List Operand}{caps:List Value}{ts:Array TypeId}(he:B9 P f)(hg:ev σ g=some (.func (.func f) #[] caps.toArray))(ha:Ia σ args=some vs) :
   Enters P σ (.call {callee:=.value g,args:=args.toArray,argTypes:=ts}) ty w f (vs++caps).toArray:=λρ _ _ _ _ hρ=>by
 have h:=El hρ ha;have e:=he (vs++caps).toArray w;simp[execOp,resolve,hρ _ _ hg,Deferred.ofValue,invoke,h];simpa using e
theorem P2{f:FuncId}(ha:Ia σ caps=some vs):AG P σ (.makeFunc (.func f) #[] caps.toArray) ty w (.func (.func f) #[] vs.toArray) w:=λρ _ _ _ _ hρ=>by
 have h:=El hρ ha;simp[execOp,Instr.makeFunc,h]
end
end Go.SW
namespace Go.SP
open Go.SW Go.RowKit
def Bz(b:BR):Nat→Ty→Option Nat
 |k,.nil=>some k
 |0,.var _ _=>none
 |0,.con _ _ _=>none
 |k+1,.var n r=>match Ap b (.var n) with
   |.var _=>Bz b k r
   |.con _ ks=>Bz b k (ks.app r)
 |k+1,.con _ ks r=>Bz b k (ks.app r)
theorem Fb(b:BR):∀(k:Nat)(t:Ty),JL b k t=(Bz b k t).isSome
 |k,.nil=>by cases k <;> rfl
 |0,.var _ _=>rfl
 |0,.con _ _ _=>rfl
 |k+1,.var n r=>by
   simp only[JL,Bz]
   cases Ap b (.var n) with
   |var _=>exact Fb b k r
   |con _ ks=>exact Fb b k _
 |k+1,.con _ ks r=>by simp only[JL,Bz];exact Fb b k _
theorem Jl(b:BR):∀(k:Nat)(x y:Ty),Bz b k (x.app y)=(Bz b k x).bind λj=>Bz b j y
 |k,.nil,y=>by cases k <;> rfl
 |0,.var _ _,y=>rfl
 |0,.con _ _ _,y=>rfl
 |k+1,.var n r,y=>by
   simp only[Ty.app,Bz]
   cases Ap b (.var n) with
   |var _=>exact Jl b k r y
   |con _ ks =>
     simp only;rw[← Ty.app_assoc];exact Jl b k _ y
 |k+1,.con _ ks r,y=>by
   simp only[Ty.app,Bz];rw[← Ty.app_assoc];exact Jl b k _ y
theorem Ed(b:BR):∀(k:Nat)(x:Ty)(j:Nat),Bz b k x=some j→j≤k
 |k,.nil,j,h=>by cases k <;> (cases h;exact Nat.le_refl _)
 |0,.var _ _,_,h=>by cases h
 |0,.con _ _ _,_,h=>by cases h
 |k+1,.var n r,j,h=>by
   simp only[Bz] at h
   split at h
   · have:=Ed b k _ j h;omega
   · have:=Ed b k _ j h;omega
 |k+1,.con _ ks r,j,h=>by
   simp only[Bz] at h;have:=Ed b k _ j h;omega
theorem IG(b:BR)(k:Nat)(t:T1)(r:Ty):Bz b k (t.cons r)=(Bz b k t.one).bind λj=>Bz b j r:=by rw[← T1.one_app,Jl]
theorem Jb(b:BR)(k:Nat)(t:T1):Bz b (k+1) t.one=Bz b k (Ap b t).kids:=by
 cases t with
 |var n =>
   simp only[T1.one,T1.cons,Bz]
   cases Ap b (.var n) with
   |var _=>cases k <;> rfl
   |con _ ks=>simp only[Ty.app_nil];rfl
 |con tx ks =>
   simp only[T1.one,T1.cons,Bz,Gs,Ty.app_nil];rfl
theorem JZ(b:BR)(t:T1):Bz b 0 t.one=none:=by cases t <;> rfl
theorem O7{s:BR}(hw:Im s):∀(k:Nat)(t:T1),t.bnd→(Hy s k t).bnd
 |0,t,h=>h
 |k+1,.con _ _,h=>h
 |k+1,.var n,h=>by
   simp only[Hy]
   split
   · exact h
   · rename_i t' hl;exact O7 hw k t' (M6 hw hl)
theorem Cl{s:BR}(hw:Im s){t:T1}(h:t.bnd):(Ap s t).bnd:=O7 hw _ t h
end Go.SP
namespace Go.SP
open Go.SW Go.RowKit
variable {f f':Fq}{fr pr:Int}{Fs:List (World→Fq→Prop)}{l:List Value}{mb nb sb:Nat}{M MI:Nat→Prop}{T:TypeId}{w':World}
theorem BA.keep{s:BR}{w:World}(h:BA T sb mb s fr pr w f)(hE:C1 M w f w' f')(hF:Hh w f w' f')(h1:¬M sb)(h2:¬M mb):BA T sb mb s fr pr w' f':=by
 obtain⟨hb,es,hm,hs⟩:=h;exact⟨(hE.stp.block sb hb.lt h1).trans hb,es,hm.heap (hE.stp.block mb hm.lt h2),F3.mono hF s es hs⟩
theorem pI{w:World}(hv:Vl w f)(hb:AI w nb l T)(hf:f nb=0)(hF:AE Fs w f)(hm:Ax Fs):AN ⟨λb=>b=nb,λ_=>False,λ_ _=>True,w,f⟩ w f [⟨nb,l,T,false⟩] [] [] Fs where
 stp:=L0.refl _ _
 old _ _:=rfl
 val:=hv
 ent:=Hh.refl _ _
 res:=trivial
 stab _ _ _ _ _ _ _:=trivial
 mi _ h:=h.elim
 blk e h:=by
   rcases List.mem_cons.1 h with rfl|h
   · exact hb
   · cases h
 row _ h:=by cases h
 nd:=by simp[C4]
 own b h:=by
   have:b=nb:=by simpa[C4] using h
   subst this;exact⟨hf,.inr rfl,λh=>h⟩
 hnw e h hn:=by
   rcases List.mem_cons.1 h with rfl|h
   · cases hn
   · cases h
 rnw _ h:=by cases h
 fro _ h:=by cases h
 fac:=hF.mem
 mono:=hm.mem
theorem PZ{I:World→Fq→Prop}{w:World}(hv:Vl w f)(hI:I w f)(hst:EL M I)(hm:∀b,M b→b<w.heap.size∧f b=0)(hF:AE Fs w f)(hmo:Ax Fs):AN ⟨M,M,I,w,f⟩ w f [] [] [] Fs where
 stp:=L0.refl _ _
 old _ _:=rfl
 val:=hv
 ent:=Hh.refl _ _
 res:=hI
 stab:=hst
 mi b h:=⟨(hm b h).1,(hm b h).2,.inr h⟩
 blk _ h:=by cases h
 row _ h:=by cases h
 nd:=List.nodup_nil
 own _ h:=by cases h
 hnw _ h:=by cases h
 rnw _ h:=by cases h
 fro _ h:=by cases h
 fac:=hF.mem
 mono:=hmo.mem
def Jr(nb:Nat)(n:Int)(w:World)(_:Fq):Prop:=AI w nb [.int .i64 n] 3
theorem Jr.stab{n:Int}(h:MI nb):EL MI (Jr nb n):=λ_ _ _ _ hb _ hm=>(hm nb h).trans hb
def pK(P:Program)(fid:FuncId)(T:TypeId)(g:FuncId)(k:Nat):Prop:=∀(w:World)(f:Fq)(_:Vl w f)(sb mb:Nat)(s:BR)(fr pr:Int)(nb:Nat),BA T sb mb s fr pr w f→Im s→sb≠nb→mb≠nb→f nb=0→Jr nb (1000-(k:Int)) w f→k≤1000→∀(t:T1)(a:Option Addr)(c:Nat),t.bnd→Ak w f t.kids a c →
 Bq P fid #[.pointer (some ⟨sb,0,none⟩),tV t a c,.func (.func g) #[] #[.pointer (some ⟨nb,0,none⟩)]] w (Ey (α:=Int) (λ_=>.bool (Bz s k t.one).isSome) (λx=>∀j,Bz s k t.one=some j→x=1000-(j:Int)) (λb=>b=nb) (λx=>Jr nb x) (λ_=>[]) w f)
end Go.SP
namespace Go.SW
open Go.RowKit
variable {Q:AU}{nw:Bool}{X:Cx}{f:Fq}{Fs:List (World→Fq→Prop)}{ds:List Deferred}{B:List FB}{fs:List Fr}{H H':List HB}{l:List Value}{b i n:Nat}{T:TypeId}
theorem AN.give{w:World}{R:List RB}(h:AN X w f H R B Fs)(hg:Hf H i=some ⟨b,l,T,nw⟩)(hs:Ks H i=some H') :
   AN {X with MI:=λk=>X.MI k∨k=b,I:=λw f=>X.I w f∧AI w b l T} w f H' R B Fs:=by
 have hblk:AI w b l T:=h.blk _ (BF hg);have hown:=h.own b (List.mem_append.2 (.inl (List.mem_map.2 ⟨_,BF hg,rfl⟩)));have hsub:=Kx hs;have hnd:(H.map HB.b++IU R).Nodup:=h.nd;have hbR:b∉C4 H' R:=K7 (L:=IU R) hg hs hnd;have hso:(C4 H' R).Sublist (C4 H R):=List.Sublist.append (hsub.map _) (List.Sublist.refl _)
 exact {h with
         res:=⟨h.res,hblk⟩,
         stab:=λw1 f1 w2 f2 hI hF hb=>⟨h.stab w1 f1 w2 f2 hI.1 hF λk hm=>hb k (.inl hm),(hb b (.inr rfl)).trans hI.2⟩,
         mi:=λk hk=>by
           rcases hk with hk|rfl
           · exact h.mi k hk
           · exact⟨hblk.lt,hown.1,hown.2.1⟩,
         blk:=λe he=>h.blk e (hsub.subset he),nd:=hso.nodup h.nd,
         own:=λk hk=>⟨(h.own k (hso.subset hk)).1,(h.own k (hso.subset hk)).2.1,λhm=>by
           rcases hm with hm|rfl
           · exact (h.own k (hso.subset hk)).2.2 hm
           · exact hbR hk⟩,
         hnw:=λe he=>h.hnw e (hsub.subset he)}
theorem lZ{P:Program}{R:List RB}{σ:Bc}{k:JS}(i:Nat)(hg:Hf H i=some ⟨b,l,T,nw⟩)(hs:Ks H i=some H')
   (h:A3 P n Q ds {X with MI:=λk=>X.MI k∨k=b,I:=λw f=>X.I w f∧AI w b l T} R B Fs k fs σ H'):A3 P n Q ds X R B Fs k fs σ H:=λw f hM=>h w f (hM.give hg hs)
end Go.SW
namespace Go.SW
open Go.RowKit
variable {Q:AU}{X:Cx}{f:Fq}{Fs:List (World→Fq→Prop)}{ds:List Deferred}{B:List FB}{fs:List Fr}{H:List HB}{b n:Nat}{w':World}
theorem FQ.fle{w:World}(h:FQ b w w')(hf:f b=0):Hh w f w' f:=λk=>⟨Nat.le_refl _,λo ho=>Dg (h.block k (λe=>by rw[e,hf] at ho;omega)) o⟩
theorem eI{P:Program}{R:List RB}{σ:Bc}{k:JS}{α:Type}(I2:α→World→Fq→Prop)(h1:∀w f,X.I w f→∃x,I2 x w f)(hst:∀x,EL X.MI (I2 x))
   (h:∀x,A3 P n Q ds {X with I:=I2 x} R B Fs k fs σ H):A3 P n Q ds X R B Fs k fs σ H:=λw f hM=>by
 obtain⟨x,hx⟩:=h1 w f hM.res;exact h x w f {hM with res:=hx,stab:=hst x}
end Go.SW
namespace Go.SP
open Go.SW Go.RowKit
theorem JY{s:BR}{x:Int}:∀(k:Nat)(a b:Ty)(j:Nat),Bz s k a=some j→CA s x k (a.app b)=(CA s x k a&&CA s x j b)
 |k,.nil,b,j,h=>by
   have e:j=k:=by cases k <;> (cases h;rfl)
   subst e
   cases j <;> simp[Ty.app,CA]
 |0,.var _ _,_,_,h=>by cases h
 |0,.con _ _ _,_,_,h=>by cases h
 |k+1,.var n r,b,j,h=>by
   simp only[Ty.app,Bz,CA] at h ⊢
   cases hh:Ap s (.var n) with
   |var m=>rw[hh] at h;simp only at h ⊢;rw[JY k r b j h,Bool.and_assoc]
   |con tx ks=>rw[hh] at h;simp only at h ⊢;rw[← Ty.app_assoc];exact JY k _ b j h
 |k+1,.con tx ks r,b,j,h=>by
   simp only[Ty.app,Bz,CA] at h ⊢;rw[← Ty.app_assoc];exact JY k _ b j h
variable {j:Nat}
theorem Ot{s:BR}{x:Int}{k:Nat}{t:T1}{r:Ty}(h:Bz s k t.one=some j):CA s x k (t.cons r)=(CA s x k t.one&&CA s x j r):=by rw[← T1.one_app];exact JY k t.one r j h
def VE(x:Int):T1→Bool
 |.var m=>!(m==x)
 |.con _ _=>true
theorem IH(s:BR)(x:Int)(k:Nat)(t:T1):CA s x (k+1) t.one=(VE x (Ap s t)&&CA s x k (Ap s t).kids):=by
 cases t with
 |var n =>
   simp only[T1.one,T1.cons,CA]
   cases Ap s (.var n) with
   |var m=>cases k <;> simp[VE,T1.kids,CA]
   |con tx ks=>simp[VE,T1.kids,Ty.app_nil]
 |con tx ks=>simp[T1.one,T1.cons,CA,Gs,VE,T1.kids,Ty.app_nil]
def qJ(P:Program)(fid:FuncId)(T:TypeId)(g:FuncId)(k:Nat):Prop:=∀(w:World)(f:Fq)(_:Vl w f)(sb mb:Nat)(s:BR)(fr pr:Int)(xb:Nat)(x:Int),BA T sb mb s fr pr w f→Im s→AI w xb [.int .i64 x] 3→∀(t:T1)(a:Option Addr)(c j:Nat),t.bnd→Ak w f t.kids a c→Bz s k t.one=some j →
 Bq P fid #[.pointer (some ⟨sb,0,none⟩),tV t a c,.func (.func g) #[] #[.pointer (some ⟨xb,0,none⟩)]] w (B4 (α:=Unit) (λ_=>.bool (CA s x k t.one)) (λ_=>True) (λ_=>[]) w f)
def I4(s:BR)(n:Int)(t:T1):Int×BR:=match Ci s n t with
 |.error e=>(e,s)
 |.ok s'=>(0,s')
end Go.SP
namespace Go.SP
open Go.SW Go.RowKit
def aP(T:TypeId)(sb mb:Nat)(s:BR)(fr pr:Int)(es:List (Int×Value))(w:World)(f:Fq):Prop:=AI w sb [.map (some mb),.int .i64 fr,.int .i64 pr] T∧BE Ez w mb es∧F3 w f s es
variable {fr pr:Int}{es:List (Int×Value)}{mb sb:Nat}{MI:Nat→Prop}{T:TypeId}
theorem aP.stab{s:BR}(h1:MI sb)(h2:MI mb):EL MI (aP T sb mb s fr pr es):=λ_ _ _ _ ⟨hb,hm,hs⟩ hF h=>⟨(h sb h1).trans hb,hm.heap (h mb h2),F3.mono hF s es hs⟩
theorem Vy{s:BR}{n:Int}{t:T1}(h:Hc s t=false):I4 s n t=(4,s):=by simp[I4,Ci,h]
theorem X6{s:BR}{n:Int}{t:T1}(h:Hc s t=true)(h2:CA s n 1000 t.one=false):I4 s n t=(11,s):=by simp[I4,Ci,h,h2]
theorem XT{s:BR}{n:Int}{t:T1}(h:Hc s t=true)(h2:CA s n 1000 t.one=true):I4 s n t=(0,(n,t)::s):=by simp[I4,Ci,h,h2]
end Go.SP
namespace Go.SW
open Go.RowKit
variable {Q:AU}{af:Array Edge}{ag:Bool}{X:Cx}{Fs:List (World→Fq→Prop)}{ds:List Deferred}{B:List FB}{fs:List Fr}{H:List HB}{l l' vs:List Value}{b n off:Nat}{x:Operand}{g:Option (Nat×Bool)}{pos:String}{T:TypeId}{I':World→Fq→Prop}
theorem Tb{P:Program}{R:List RB}{σ:Bc}{all r:List Oper}{ty T':TypeId}{y:Operand}{k:Nat}{v:Value}
   (hg:gd all σ g=some true) (hx:ev σ x=some (.pointer (some ⟨b,off,none⟩))) (hy:ev σ y=some v) (hv:GZ v=some vs) (hT:AO P T=some (ag,k)) (hk:Nat.beq vs.length k=true) (h1:Lz vs=true) (hp:NG l off vs=some l') (hmi:X.MI b)
   (hb:∀w f,X.I w f→AI w b l T') (hI:∀w f w',X.I w f→AN X w f H R B Fs→FQ b w w'→AI w' b l' T'→I' w' f) (hst:EL X.MI I')
   (h:A3 P n Q ds {X with I:=I' } R B Fs (.ops all r) fs σ H):A3 P n Q ds X R B Fs (.ops all (⟨none,.store T x y,ty,pos,af,g⟩::r)) fs σ H:=λw f hM =>
 B1 hg (A1 hx hy hv hT hk (hb w f hM.res) h1 hp λw' hb' hC=>h w' f (hM.chgI hmi hC (hI w f w' hM.res hM hC hb') hst))
def oJ(P:Program)(n:Nat){α:Type}(p:α→Prop)(s:α→Bc)(X:α→Cx)(H:α→List HB)(R:α→List RB)(B:α→List FB)(Fs:α→List (World→Fq→Prop))(ds:List Deferred)(Q:AU):AU :=
 {q:=λe σ ds' w=>match e with
     |.normal=>∃x,p x∧ds'=ds∧Le (s x) σ∧∃f,AN (X x) w f (H x) (R x) (B x) (Fs x)
     |e=>Q.q e σ ds' w,
   p:=Q.p}
section
variable{P:Program}{n:Nat}{Q:AU}{ds:List Deferred}{X:Cx}{R:List RB}{B:List FB}{Fs:List (World→Fq→Prop)}{fs:List Fr}{σ:Bc}{H:List HB}
theorem MK{c:Code}{α:Type}(p:α→Prop)(s:α→Bc)(X':α→Cx)(H':α→List HB)(R':α→List RB)(B':α→List FB)(F':α→List (World→Fq→Prop))(h1:A3 P n (oJ P n p s X' H' R' B' F' ds (Ln P n Q fs)) ds X R B Fs (.code c) [] σ H)
   (h2:∀x,p x→A3 P n Q ds (X' x) (R' x) (B' x) (F' x) (.out .normal) fs (s x) (H' x)):A3 P n Q ds X R B Fs (.code c) fs σ H:=λw f hM a ha=>by
 refine wp_mono (h1 w f hM a ha) λe a' w' he=>?_
 cases e with
 |normal =>
   obtain⟨σ',ds',hs,x,hp,rfl,hl,f',hm⟩:=he;exact⟨s x,_,hs.le hl,h2 x hp w' f' hm⟩
 |panic c=>exact he
 |outgrown=>exact he
 |ret=>exact he
 |exit i=>exact he
 |goto i=>exact he
theorem H8{α:Type}{p:α→Prop}{s:α→Bc}{X':α→Cx}{H':α→List HB}{R':α→List RB}{B':α→List FB}{F':α→List (World→Fq→Prop)}(x:α)(hp:p x)(hl:Le (s x) σ)(hM:∀w f,AN X w f H R B Fs→∃f,AN (X' x) w f (H' x) (R' x) (B' x) (F' x)):A3 P n (oJ P n p s X' H' R' B' F' ds Q) ds X R B Fs (.out .normal) [] σ H :=
 λw f hm=>⟨x,hp,rfl,hl,hM w f hm⟩
end
end Go.SW
namespace Go.SP
open Go.SW Go.RowKit
def JR(f:BR→Ty→Ty→Except Int (Nat×BR))(b:BR)(x y:T1)(r q:Ty):Except Int (Nat×BR) :=
 match x,y with
 |.var n,.var m=>if n==m then f b r q else (match Ci b n (.var m) with|.error e=>.error e|.ok b'=>f b' r q)
 |.var n,.con ty kb=>(match Ci b n (.con ty kb) with|.error e=>.error e|.ok b'=>f b' r q)
 |.con tx ka,.var m=>(match Ci b m (.con tx ka) with|.error e=>.error e|.ok b'=>f b' r q)
 |.con tx ka,.con ty kb=>if !(tx==ty)||(ka.len:Int) != kb.len then .error 11 else f b (ka.app r) (kb.app q)
def Gr:Nat→BR→Ty→Ty→Except Int (Nat×BR)
 |k,b,.nil,_=>.ok (k,b)
 |0,_,.var _ _,_=>.error 4
 |0,_,.con _ _ _,_=>.error 4
 |k+1,b,.var n r,y=>JR (Gr k) b (Ap b (.var n)) (Ap b y.hd) r y.tl
 |k+1,b,.con tx ka r,y=>JR (Gr k) b (.con tx ka) (Ap b y.hd) r y.tl
def pA{α β:Type}(g:α→β):Except Int α→Except Int β
 |.error e=>.error e
 |.ok x=>.ok (g x)
def RC{α β:Type}(g:α→Except Int β):Except Int α→Except Int β
 |.error e=>.error e
 |.ok x=>g x
theorem Qs:∀(k:Nat)(b:BR)(x y:Ty),KY k b x y=pA (·.2) (Gr k b x y):=by
 intro k
 induction k with
 |zero=>intro b x y;cases x <;> rfl
 |succ k ih =>
   have h1:∀b x y r q,HT (KY k) b x y r q=pA (·.2) (JR (Gr k) b x y r q):=by
     intro b x y r q
     cases x with
     |var n =>
       cases y with
       |var m =>
         simp only[HT,JR]
         cases (n==m) with
         |true=>simp only[if_true];exact ih _ _ _
         |false =>
           simp only[Bool.false_eq_true,if_false]
           cases Ci b n (.var m) with
           |error e=>rfl
           |ok b'=>exact ih _ _ _
       |con ty kb =>
         simp only[HT,JR]
         cases Ci b n (.con ty kb) with
         |error e=>rfl
         |ok b'=>exact ih _ _ _
     |con tx ka =>
       cases y with
       |var m =>
         simp only[HT,JR]
         cases Ci b m (.con tx ka) with
         |error e=>rfl
         |ok b'=>exact ih _ _ _
       |con ty kb =>
         simp only[HT,JR]
         split
         · rfl
         · exact ih _ _ _
   intro b x y
   cases x with
   |nil=>rfl
   |var n r=>exact h1 _ _ _ _ _
   |con tx ka r=>exact h1 _ _ _ _ _
theorem T1.hd_cons(t:T1)(r:Ty):(t.cons r).hd=t:=by cases t <;> rfl
theorem T1.tl_cons(t:T1)(r:Ty):(t.cons r).tl=r:=by cases t <;> rfl
theorem aK(k:Nat)(b:BR)(x:T1)(r y:Ty):Gr (k+1) b (x.cons r) y=JR (Gr k) b (Ap b x) (Ap b y.hd) r y.tl:=by cases x <;> rfl
theorem kO:∀(k:Nat)(b:BR)(x y r q:Ty),x.len=y.len→Gr k b (x.app r) (y.app q)=RC (λz=>Gr z.1 z.2 r q) (Gr k b x y):=by
 intro k
 induction k with
 |zero =>
   intro b x y r q h
   cases x with
   |nil =>
     have:y=.nil:=Ty.len0 (by simpa[Ty.len] using h.symm);subst this;rfl
   |var n x=>rfl
   |con tx ka x=>rfl
 |succ k ih =>
   have h1:∀b u v x y r q,x.len=y.len→JR (Gr k) b u v (x.app r) (y.app q)=RC (λz=>Gr z.1 z.2 r q) (JR (Gr k) b u v x y):=by
     intro b u v x y r q h
     cases u with
     |var n =>
       cases v with
       |var m =>
         simp only[JR]
         cases (n==m) with
         |true=>simp only[if_true];exact ih _ _ _ _ _ h
         |false =>
           simp only[Bool.false_eq_true,if_false]
           cases Ci b n (.var m) with
           |error e=>rfl
           |ok b'=>exact ih _ _ _ _ _ h
       |con ty kb =>
         simp only[JR]
         cases Ci b n (.con ty kb) with
         |error e=>rfl
         |ok b'=>exact ih _ _ _ _ _ h
     |con tx ka =>
       cases v with
       |var m =>
         simp only[JR]
         cases Ci b m (.con tx ka) with
         |error e=>rfl
         |ok b'=>exact ih _ _ _ _ _ h
       |con ty kb =>
         simp only[JR]
         split
         · rfl
         · rename_i hc
           have hl:ka.len=kb.len:=by
             simp only[Bool.or_eq_true,not_or,bne_iff_ne,ne_eq,Decidable.not_not] at hc;omega
           rw[← Ty.app_assoc,← Ty.app_assoc];exact ih _ _ _ _ _ (by rw[Ty.len_app,Ty.len_app,hl,h])
   intro b x y r q h
   cases x with
   |nil =>
     have:y=.nil:=Ty.len0 (by simpa[Ty.len] using h.symm);subst this;rfl
   |var n x =>
     obtain⟨u,y,rfl⟩:=Ty.cases1 y (by rw[← h];simp[Ty.len]);have e1:(u.cons y).app q=u.cons (y.app q):=by cases u <;> rfl
     rw[e1];show JR (Gr k) b (Ap b (.var n)) (Ap b (u.cons (y.app q)).hd) (x.app r) (u.cons (y.app q)).tl=RC _ (JR (Gr k) b (Ap b (.var n)) (Ap b (u.cons y).hd) x (u.cons y).tl);rw[T1.hd_cons,T1.tl_cons,T1.hd_cons,T1.tl_cons];exact h1 _ _ _ _ _ _ _ (by rw[T1.len_cons] at h;simpa[Ty.len] using h)
   |con tx ka x =>
     obtain⟨u,y,rfl⟩:=Ty.cases1 y (by rw[← h];simp[Ty.len]);have e1:(u.cons y).app q=u.cons (y.app q):=by cases u <;> rfl
     rw[e1];show JR (Gr k) b (.con tx ka) (Ap b (u.cons (y.app q)).hd) (x.app r) (u.cons (y.app q)).tl=RC _ (JR (Gr k) b (.con tx ka) (Ap b (u.cons y).hd) x (u.cons y).tl);rw[T1.hd_cons,T1.tl_cons,T1.hd_cons,T1.tl_cons];exact h1 _ _ _ _ _ _ _ (by rw[T1.len_cons] at h;simpa[Ty.len] using h)
theorem Q1(k:Nat)(b:BR)(x y:T1)(r q:Ty)(h:r.len=q.len):Gr k b (x.cons r) (y.cons q)=RC (λz=>Gr z.1 z.2 r q) (Gr k b x.one y.one):=by
 rw[← T1.one_app,← T1.one_app];exact kO k b x.one y.one r q (by unfold T1.one;rw[T1.len_cons,T1.len_cons])
theorem JN(k:Nat)(b:BR)(x y:T1):Gr (k+1) b x.one y.one=JR (Gr k) b (Ap b x) (Ap b y) .nil .nil:=by
 unfold T1.one;rw[aK,T1.hd_cons,T1.tl_cons]
theorem aH(b:BR)(x y:T1):Gr 0 b x.one y.one=.error 4:=by cases x <;> rfl
theorem M9{s:BR}(hw:bQ s):∀(k:Nat)(t:T1)(n:Int),Ex s t≤k→Hy s k t=.var n→CC s n=none
 |0,.con _ _,_,_,h=>by cases h
 |0,.var m,n,hr,h=>by
   cases h
   cases hl:CC s m with
   |none=>rfl
   |some t=>have:=LZ hw hl;omega
 |k+1,.con _ _,_,_,h=>by cases h
 |k+1,.var m,n,hr,h=>by
   simp only[Hy] at h
   cases hl:CC s m with
   |none=>rw[hl] at h;cases h;exact hl
   |some t =>
     rw[hl] at h;exact M9 hw k t n (by have:=LZ hw hl;omega) h
theorem MS{s:BR}(hw:bQ s){t:T1}{n:Int}(h:Ap s t=.var n):CC s n=none:=M9 hw _ t n (by have:=UL s t;omega) h
theorem EY{s:BR}(hw:Im s){t:T1}{n:Int}(h:Ap s t=.var n):CC s n=none:=MS hw.v h
theorem TY{s:BR}(hw:bQ s)(t:T1):Ap s (Ap s t)=Ap s t:=by
 cases h:Ap s t with
 |con tx k=>exact Gs s tx k
 |var n=>exact Nk (MS hw h)
theorem KQ{s:BR}(hw:Im s)(t:T1):Ap s (Ap s t)=Ap s t:=TY hw.v t
theorem Po{s s':BR}(hw:Im s){n:Int}{t:T1}(hn:CC s n=none)(ht:Ap s t=t)(hb:t.bnd)(h:Ci s n t=.ok s'):Im s':=by
 unfold Ci at h
 split at h
 · split at h
   · rename_i hs hf
     cases h
     refine⟨hn,λm hm=>?_,hb,hw⟩;subst hm;refine⟨λe=>?_,EY hw ht⟩;have:=IH s n 999 (.var m);rw[hf,ht,e] at this;simp[VE] at this
   · cases h
 · cases h
def dQ(P:Program)(fid:FuncId)(T:TypeId)(k:Nat):Prop:=∀(w:World)(f:Fq)(_:Vl w f)(sb mb:Nat)(s:BR)(fr:Int),BA T sb mb s fr (10000-(k:Int)) w f→(f sb=0∧f mb=0)→sb≠mb→Im s→k≤10000→∀(t u:T1)(a:Option Addr)(c:Nat)(a2:Option Addr)(c2:Nat),t.bnd→u.bnd→Ak w f t.kids a c→Ak w f u.kids a2 c2 →
 Bq P fid #[.pointer (some ⟨sb,0,none⟩),tV t a c,tV u a2 c2] w (Ey (α:=Int×BR×Int) (λx=>.int .i64 x.1) (λx=>(∀z,Gr k s t.one u.one=.ok z→x.1=0∧x.2.1=z.2∧x.2.2=10000-(z.1:Int)∧Im z.2)∧∀e,Gr k s t.one u.one=.error e→x.1=e∧e≠0) (Lx sb mb) (λx=>BA T sb mb x.2.1 fr x.2.2) (λ_=>[]) w f)
theorem nB:∀(k:Nat)(b:BR)(x y:Ty)(z:Nat×BR),Gr k b x y=.ok z→z.1≤k:=by
 intro k
 induction k with
 |zero=>intro b x y z h;cases x <;> cases h;exact Nat.le_refl _
 |succ k ih =>
   have h1:∀b u v r q z,JR (Gr k) b u v r q=.ok z→z.1≤k:=by
     intro b u v r q z h;unfold JR at h
     repeat' split at h
     all_goals first|exact ih _ _ _ _ h|cases h
   intro b x y z h
   cases x with
   |nil=>cases h;exact Nat.le_refl _
   |var n r=>have:=h1 _ _ _ _ _ _ h;omega
   |con tx ka r=>have:=h1 _ _ _ _ _ _ h;omega
end Go.SP
namespace Go.SP
theorem PT{s:BR}{n:Int}{t:T1}{e:Int}(h:Ci s n t=.error e):e≠0:=by
 unfold Ci at h
 split at h
 · split at h
   · cases h
   · cases h;decide
 · cases h;decide
end Go.SP
namespace Go.SP
open Go.SW Go.RowKit
theorem GA(s:BR)(k:Nat):AJ s k .nil=.nil:=by cases k <;> rfl
theorem Ow{s:BR}:∀(k:Nat)(x:Ty)(j:Nat),Bz s k x=some j→∀m,k-j≤m→AJ s m x=AJ s k x:=by
 intro k
 induction k using Nat.strongRecOn with
 |_ k ih =>
   intro x j h m hm
   have key:∀(k' m':Nat)(ks r:Ty),k'<k→Bz s k' (ks.app r)=some j→k'-j≤m'→AJ s m' ks=AJ s k' ks∧AJ s m' r=AJ s k' r:=by
     intro k' m' ks r hk hr hm';rw[Jl] at hr
     cases hj:Bz s k' ks with
     |none=>rw[hj] at hr;cases hr
     |some j1 =>
       rw[hj] at hr;have hr:Bz s j1 r=some j:=hr;have h1:=Ed s _ _ _ hj;have h2:=Ed s _ _ _ hr;exact⟨ih k' hk ks j1 hj m' oM,(ih j1 oM r j hr m' oM).trans (ih j1 oM r j hr k' oM).symm⟩
   cases x with
   |nil=>rw[GA,GA]
   |var n r =>
     cases k with
     |zero=>cases h
     |succ k =>
       simp only[Bz] at h
       cases hh:Ap s (.var n) with
       |var q =>
         rw[hh] at h;have h3:=Ed s _ _ _ h;obtain⟨m,rfl⟩:∃m',m=m'+1:=⟨m-1,oM⟩;simp only[AJ,hh];rw[(key k m .nil r (by omega) h (by omega)).2]
       |con tx ks =>
         rw[hh] at h;have h3:=Ed s _ _ _ h;obtain⟨m,rfl⟩:∃m',m=m'+1:=⟨m-1,oM⟩;simp only[AJ,hh];have:=key k m ks r oM h oM;rw[this.1,this.2]
   |con tx ks r =>
     cases k with
     |zero=>cases h
     |succ k =>
       simp only[Bz] at h;have h3:=Ed s _ _ _ h;obtain⟨m,rfl⟩:∃m',m=m'+1:=⟨m-1,oM⟩;simp only[AJ];have:=key k m ks r oM h oM;rw[this.1,this.2]
theorem Mj{s:BR}(k:Nat)(t:T1):(AJ s (k+1) t.one).hd=(match Ap s t with|.var m=>.var m|.con tx ks=>.con tx (AJ s k ks)):=by
 cases t with
 |var n =>
   simp only[T1.one,T1.cons,AJ]
   cases Ap s (.var n) <;> rfl
 |con tx ks=>rw[Gs];rfl
variable {j:Nat}
theorem KV{s:BR}{k:Nat}{t:T1}{r:Ty}{j2:Nat}(h:Bz s k t.one=some j)(h2:Bz s j r=some j2):AJ s k (t.cons r)=(AJ s k t.one).hd.cons (AJ s j r):=by
 cases k with
 |zero=>rw[JZ] at h;cases h
 |succ k =>
   have h3:j≤k:=by rw[Jb] at h;exact Ed s _ _ _ h
   have hf:=Ow j r j2 h2 k oM;rw[Mj]
   cases t with
   |var n =>
     simp only[T1.cons,AJ]
     cases Ap s (.var n) with
     |var m=>simp only[T1.cons];rw[hf]
     |con tx ks=>simp only[T1.cons];rw[hf]
   |con tx ks=>rw[Gs];simp only[T1.cons,AJ];rw[hf]
theorem VH{s:BR}(hw:Im s):∀(k:Nat)(x:Ty),x.bnd→(AJ s k x).bnd∧(AJ s k x).len≤x.len:=by
 intro k
 induction k with
 |zero=>intro x _;cases x <;> exact⟨tQ,Nat.zero_le _⟩
 |succ k ih =>
   intro x hx
   cases x with
   |nil=>exact⟨tQ,Nat.le_refl _⟩
   |var n r =>
     have h1:=Cl hw (t:=.var n) ⟨⟨Nat.zero_le _,Nat.zero_le _⟩,tQ⟩;have h2:=ih r hx;simp only[AJ]
     cases hh:Ap s (.var n) with
     |var m=>exact⟨h2.1,by simp only[Ty.len];omega⟩
     |con tx ks =>
       rw[hh] at h1;have h3:=ih ks h1.2;exact⟨⟨⟨Nat.le_trans h3.2 h1.1.1,h1.1.2⟩,h3.1,h2.1⟩,by simp only[Ty.len];omega⟩
   |con tx ks r =>
     have h2:=ih r hx.2.2;have h3:=ih ks hx.2.1;exact⟨⟨⟨Nat.le_trans h3.2 hx.1.1,hx.1.2⟩,h3.1,h2.1⟩,by simp only[AJ,Ty.len];omega⟩
theorem Ge{t:T1}(h:t.bnd):t.one.bnd:=T1.bnd_cons.2 ⟨h,tQ⟩
theorem WO{x:Ty}(h:x.bnd):x.hd.bnd:=by
 cases x with
 |nil=>exact⟨⟨Nat.zero_le _,Nat.zero_le _⟩,tQ⟩
 |var n r=>exact⟨⟨Nat.zero_le _,Nat.zero_le _⟩,tQ⟩
 |con tx k r=>exact⟨h.1,h.2.1⟩
theorem Ye{s:BR}(hw:Im s){t:T1}(h:t.bnd)(k:Nat):(AJ s k t.one).hd.bnd:=WO (VH hw k _ (Ge h)).1
def dZ(P:Program)(fid:FuncId)(T:TypeId)(k:Nat):Prop:=∀(w:World)(f:Fq)(_:Vl w f)(sb mb:Nat)(s:BR)(fr pr:Int),BA T sb mb s fr pr w f→Im s→∀(t:T1)(a:Option Addr)(c j:Nat),t.bnd→Ak w f t.kids a c→Bz s k t.one=some j →
 Bq P fid #[.pointer (some ⟨sb,0,none⟩),tV t a c] w (B4 (α:=Option Addr×Nat) (λx=>tV (AJ s k t.one).hd x.1 x.2) (λ_=>True) (λx=>[λw f=>Ak w f (AJ s k t.one).hd.kids x.1 x.2]) w f)
end Go.SP
namespace Go.SP
open Go.SW Go.RowKit
variable {f:Fq}{i:Nat}{a:Option Addr}{w:World}
theorem Ak.get{t:T1}:∀{k:Ty}{b off i:Nat},Ij w f k b off→k.get i=some t→∃ka kc,Cs w f b (off+i*4) (tC t ka kc)∧Ak w f t.kids ka kc
 |k,b,off,0,h,hi=>by
   obtain⟨t2,r,rfl⟩:∃t r,k=T1.cons t r:=by
     cases k with
     |nil=>cases hi
     |var n r=>exact⟨.var n,r,rfl⟩
     |con tx q r=>exact⟨.con tx q,r,rfl⟩
   have e:t2=t:=by cases t2 <;> (cases hi;rfl)
   subst e;obtain⟨b2,off2,ka,kc,h1,h2,h3,_⟩:=BG.head (a:=some ⟨b,off,none⟩) (i:=0) (.inr ⟨b,off,rfl,by simpa using h⟩)
   cases h1
   exact⟨ka,kc,by simpa using h2,h3⟩
 |k,b,off,i+1,h,hi=>by
   obtain⟨t2,r,rfl⟩:∃t r,k=T1.cons t r:=by
     cases k with
     |nil=>cases hi
     |var n r=>exact⟨.var n,r,rfl⟩
     |con tx q r=>exact⟨.con tx q,r,rfl⟩
   have e:r.get i=some t:=by cases t2 <;> exact hi
   obtain⟨b2,off2,ka,kc,h1,_,_,h4⟩:=BG.head (a:=some ⟨b,off,none⟩) (i:=0) (.inr ⟨b,off,rfl,by simpa using h⟩);rcases h4 with rfl|⟨b3,off3,h5,h6⟩
   · cases e
   · cases h5
     obtain⟨ka,kc,h7,h8⟩:=Ak.get h6 e;exact⟨ka,kc,by rw[show off+(i+1)*4=off+(0+1)*4+i*4 by omega];exact h7,h8⟩
theorem Ak.nth{t:T1}{k:Ty}{c:Nat}(h:Ak w f k a c)(hi:k.get i=some t):∃b off ka kc,a=some ⟨b,off,none⟩∧Cs w f b (off+i*4) (tC t ka kc)∧Ak w f t.kids ka kc:=by
 rcases h.2 with rfl|⟨b,off,h1,h2⟩
 · cases hi
 · obtain⟨ka,kc,h3,h4⟩:=Ak.get h2 hi
   exact⟨b,off,ka,kc,h1,h3,h4⟩
theorem GU{t:T1}:∀{k:Ty}{i:Nat},k.bnd→k.get i=some t→t.bnd
 |.nil,_,_,h=>by cases h
 |.var n r,0,_,h=>by cases h;exact⟨⟨Nat.zero_le _,Nat.zero_le _⟩,tQ⟩
 |.con tx q r,0,hb,h=>by cases h;exact⟨hb.1,hb.2.1⟩
 |.var n r,i+1,hb,h=>GU (k:=r) hb h
 |.con tx q r,i+1,hb,h=>GU (k:=r) hb.2.2 h
theorem Sf{k:Ty}(h:i<k.len):∃t,k.get i=some t:=by
 induction k generalizing i with
 |nil=>simp[Ty.len] at h
 |var n r ih=>cases i with
   |zero=>exact⟨_,rfl⟩
   |succ i=>exact ih (by simp only[Ty.len] at h;omega)
 |con tx q r _ ih=>cases i with
   |zero=>exact⟨_,rfl⟩
   |succ i=>exact ih (by simp only[Ty.len] at h;omega)
theorem WM{k:Ty}(h:k.len≤i):k.get i=none:=by
 induction k generalizing i with
 |nil=>rfl
 |var n r ih=>cases i with
   |zero=>simp[Ty.len] at h
   |succ i=>exact ih (by simp only[Ty.len] at h;omega)
 |con tx q r _ ih=>cases i with
   |zero=>simp[Ty.len] at h
   |succ i=>exact ih (by simp only[Ty.len] at h;omega)
theorem Od(l:List Int)(y:Ty)(t:T1)(r:Ty):Dq l y (t.cons r)=(Cn t l y).cons (Dq l y r):=by
 cases t with
 |var n =>
   simp only[T1.cons,Dq,Cn,T1.one]
   cases (Dt l n).bind y.get with
   |none=>rfl
   |some t=>cases t <;> rfl
 |con tx k=>rfl
theorem H6{l:List Int}{y:Ty}(hy:y.bnd):∀x:Ty,x.bnd→(Dq l y x).bnd∧(Dq l y x).len=x.len
 |.nil,_=>⟨tQ,rfl⟩
 |.var n r,hx=>by
   have h2:=H6 (l:=l) hy r hx;simp only[Dq]
   cases hg:(Dt l n).bind y.get with
   |none=>exact⟨h2.1,by simp only[Ty.len];omega⟩
   |some t =>
     obtain⟨i,_,hi⟩:=Option.bind_eq_some_iff.1 hg;exact⟨T1.bnd_cons.2 ⟨GU hy hi,h2.1⟩,by rw[T1.len_cons];simp only[Ty.len];omega⟩
 |.con tx k r,hx=>by
   have h2:=H6 (l:=l) hy r hx.2.2;have h3:=H6 (l:=l) hy k hx.2.1;exact⟨⟨⟨by rw[h3.2];exact hx.1.1,hx.1.2⟩,h3.1,h2.1⟩,by simp only[Dq,Ty.len];omega⟩
theorem Is{l:List Int}{y:Ty}(hy:y.bnd){t:T1}(h:t.bnd):(Cn t l y).bnd:=WO (H6 hy _ (Ge h)).1
theorem MV{l:List Int}{y:Ty}{n:Int}:Cn (.var n) l y=((Dt l n).bind y.get).getD (.var n):=by
 simp only[Cn,T1.one,T1.cons,Dq]
 cases (Dt l n).bind y.get with
 |none=>rfl
 |some t=>cases t <;> rfl
theorem Xc{l:List Int}{y:Ty}{tx:lU}{k:Ty}:Cn (.con tx k) l y=.con tx (Dq l y k):=rfl
def dX(P:Program)(fid:FuncId)(m:Nat):Prop:=∀(w:World)(f:Fq)(_:Vl w f)(l:List Int)(la:Option Addr)(lc:Nat)(y:Ty)(ya:Option Addr)(yc:Nat),l.length≤1000000→y.len≤200000→y.bnd→BL w f l la lc→Ak w f y ya yc→∀(t:T1)(a:Option Addr)(c:Nat),t.kids.size<m→t.bnd→Ak w f t.kids a c →
 Bq P fid #[tV t a c,.slice la l.length lc,.slice ya y.len yc] w (B4 (α:=Option Addr×Nat) (λx=>tV (Cn t l y) x.1 x.2) (λ_=>True) (λx=>[λw f=>Ak w f (Cn t l y).kids x.1 x.2]) w f)
end Go.SP
namespace Go.SW
open Go.RowKit
section
variable{X:Cx}{w w':World}{f f':Fq}{H:List HB}{R:List RB}{B:List FB}{Fs:List (World→Fq→Prop)}
variable {I':World→Fq→Prop}
theorem AN.callJ{MI':Nat→Prop}(h:AN X w f H R B Fs)(he:C1 X.MI w f w' f')(hI:I' w' f')(hst:EL MI' I')(hmi:∀b,MI' b→X.MI b∨(w.heap.size≤b∧b<w'.heap.size∧f' b=0)):AN {X with MI:=MI',I:=I' } w' f' H R B Fs :=
 have h1:AN {X with I:=λ_ _=>True} w' f' H R B Fs:=h.callI he tQ (λ_ _ _ _ _ _ _=>trivial)
 {h1 with
   res:=hI,stab:=hst,
   mi:=λb hb=>by
     rcases hmi b hb with hb|⟨h2,h3,h4⟩
     · exact h1.mi b hb
     · exact⟨h3,h4,.inl (Nat.le_trans h.stp.size h2)⟩,
   own:=λb hb=>⟨(h1.own b hb).1,(h1.own b hb).2.1,λhm=>by
     rcases hmi b hm with hm|⟨h2,_,_⟩
     · exact (h1.own b hb).2.2 hm
     · exact Nat.lt_irrefl _ (Nat.lt_of_lt_of_le (h.lt hb) h2)⟩}
end
def JD{α:Type}(val:α→Value)(q:α→Prop)(M:Nat→Prop)(MI':α→Nat→Prop)(I':α→World→Fq→Prop)(F':α→List (World→Fq→Prop))(w:World)(f:Fq)(v:Value)(w':World):Prop:=∃x f',v=val x∧q x∧C1 M w f w' f'∧(∀b,MI' x b→M b∨(w.heap.size≤b∧b<w'.heap.size∧f' b=0))∧I' x w' f'∧AE (F' x) w' f'
section
variable{P:Program}{n:Nat}{Q:AU}{ds:List Deferred}{X:Cx}{R:List RB}{B:List FB}{Fs:List (World→Fq→Prop)}{fs:List Fr}{σ:Bc}{H:List HB}
variable{all r:List Oper}{ty T:TypeId}{pos:String}{af:Array Edge}{g:Option (Nat×Bool)}{d:Nat}{x y:Operand}
variable {args:Array Value}{nw:Bool}{fid:FuncId}{XX:List PanicEntry→World→Prop}{news xs zl:List Value}{bytes cs:Nat}{Ts e:TypeId}
theorem Tn{op:Op}{α:Type}{val:α→Value}{q:α→Prop}{MI':α→Nat→Prop}{I':α→World→Fq→Prop}{F':α→List (World→Fq→Prop)}
   (hg:gd all σ g=some true) (hd:Nat.blt d n=true) (he:∀w,Enters P σ op ty w fid args)
   (hc:∀w f,AN X w f H R B Fs→BB P fid args w (JD val q X.MI MI' I' F' w f) XX) (hst:∀x,EL (MI' x) (I' x)) (hm:∀x,Ax (F' x))
   (hp:∀w f c w',AN X w f H R B Fs→XX c w'→Q.p c σ ds w')
   (h:∀x,q x→A3 P n Q ds {X with MI:=MI' x,I:=I' x} R B (F' x++Fs) (.ops all r) fs (AA σ d (val x)) H):A3 P n Q ds X R B Fs (.ops all (⟨some d,op,ty,pos,af,g⟩::r)) fs σ H:=λw f hM=>by
 refine B1 hg (BW hd (he w) (hc w f hM) ?_ ?_)
 · rintro v w' ⟨x,f',rfl,hq,hE,hmi,hI,hF⟩
   exact h x hq w' f' ((hM.callJ hE hI (hst x) hmi).more (B':=[]) (λ_ h=>by cases h) hF.mem (hm x).mem)
 · intro c w' hX
   rw[Lo];exact hp w f c w' hM hX
theorem Mw{size:Nat}{a:Option Addr}{c k src:Nat}{MI':Option Addr→Nat→Prop}{I':Option Addr→Nat→World→Fq→Prop}(j:Nat)(hg:gd all σ g=some true)(hd:Nat.blt d n=true)(hT:LU P T=some (e,size,bytes,zl))(hzl:Nat.beq zl.length size=true)(hsz:Nat.blt 0 size=true)
   (hs:ev σ x=some (.slice a k c)) (hx:ev σ y=some (.slice (some ⟨src,0,none⟩) 1 cs)) (hH:Hf H j=some ⟨src,news,Ts,nw⟩) (hl:Nat.beq news.length size=true) (h1:Lz news=true) (h47:(k+1)*bytes≤140737488355328) (h63:k+1≤9223372036854775807)
   (hrow:∀w f,X.I w f→BP w e size a c k xs) (hmi:∀b,rb a=some b→X.MI b) (hMI:∀a' b,MI' a' b→X.MI b∨rb a'=some b) (hI:∀w f w' a' c',X.I w f→AN X w f H R B Fs→BP w' e size a' c' (k+1) (xs++news)→E1 a w a' w'→I' a' c' w' f) (hst:∀a' c',EL (MI' a') (I' a' c'))
   (h:∀a' c',A3 P n Q ds {X with MI:=MI' a',I:=I' a' c' } R B Fs (.ops all r) fs (AA σ d (.slice a' (k+1) c')) H) :
   A3 P n Q ds X R B Fs (.ops all (⟨some d,.call {callee:=.builtin .append,args:=#[x,y],argTypes:=#[T,T]},ty,pos,af,g⟩::r)) fs σ H:=λw f hM =>
 B1 hg (AY hd hT hzl hsz hs hx (hrow w f hM.res) (hM.blk _ (BF hH)) hl h1 h47 h63 λa' c' w' hr hG=>h a' c' w' f (hM.callJ ⟨⟨hG.os,hG.tape,hG.output,hG.size,λb hb hm=>hG.block b hb λe=>hm (hmi b e.symm)⟩,λ_ _=>rfl,λb hb=>hM.val b (Nat.le_trans hG.size hb)⟩ (hI w f w' a' c' hM.res hM hr hG) (hst a' c') λb hb=>by
   rcases hMI a' b hb with hb|hb
   · exact .inl hb
   · rcases hG.own with ho|ho
     · exact .inl (hmi b (ho.symm.trans hb))
     · have e:b=w.heap.size:=Option.some.inj (hb.symm.trans ho)
       subst e;exact .inr ⟨Nat.le_refl _,hr.lt hb,hM.val _ (Nat.le_refl _)⟩))
end
variable {b:Nat}{M:Nat→Prop}
theorem C1.done{w w':World}{f f':Fq}(h:C1 M w f w' f')(hb:w.heap.size≤b)(hl:b<w'.heap.size)(n:Nat):C1 M w f w' (λk=>if k=b then n else f' k) :=
 ⟨h.stp,λk hk=>by show (if k=b then n else f' k)=f k;rw[if_neg (by omega)];exact h.old k hk,λk hk=>by show (if k=b then n else f' k)=0;rw[if_neg (by omega)];exact h.val k hk⟩
end Go.SW
namespace Go.SP
open Go.SW Go.RowKit
def GX(l:List Int):List (Int×Value):=l.reverse.map λn=>(n,.bool true)
theorem Pq(n:Int):∀l:List Int,Ej (l.map λn=>(n,Value.bool true)) n=if l.contains n then some (.bool true) else none
 | []=>rfl
 |k::l=>by
   have:=Pq n l;simp only[List.map,Ej,List.contains_cons]
   by_cases hk:n=k
   · subst hk;simp
   · have e:(n==k)=false:=by simpa using hk
     rw[e,this];simp
theorem TR(n:Int)(l:List Int):Ej (GX l) n=if l.contains n then some (.bool true) else none:=by
 unfold GX;rw[Pq];simp
theorem Rm:∀l:List Int,l.Nodup→Il (l.map λn=>(n,Value.bool true))
 | [],_=>trivial
 |k::l,h=>by
   have h':=List.nodup_cons.1 h;refine⟨?_,Rm l h'.2⟩;rw[Pq,if_neg];simpa using h'.1
theorem K5{l:List Int}(h:l.Nodup):Il (GX l):=Rm _ ((List.reverse_perm l).nodup_iff.2 h)
def LN(ob mb:Nat)(a:Option Addr)(b:Nat):Prop:=b=ob∨b=mb∨rb a=some b
structure D9(T:TypeId)(ob mb:Nat)(sl:Value)(lm:List Int)(a:Option Addr)(c:Nat)(l:List Int)(w:World)(f:Fq):Prop where
 blk:AI w ob [sl] T
 map:BE Ez w mb (GX lm)
 row:BP w 3 1 a c l.length (l.map λn=>.int .i64 n)
 ne:ob≠mb∧rb a≠some ob∧rb a≠some mb
 nd:lm.Nodup
theorem D9.stab{T:TypeId}{ob mb:Nat}{sl:Value}{lm:List Int}{a:Option Addr}{c:Nat}{l:List Int}:EL (LN ob mb a) (D9 T ob mb sl lm a c l):=λ_ _ _ _ h hF hb =>
 ⟨(hb ob (.inl rfl)).trans h.blk,h.map.heap (hb mb (.inr (.inl rfl))),⟨h.row.1,h.row.2.imp id λ⟨b,q,h1,h2,h3⟩=>⟨b,q,h1,(hb b (.inr (.inr (by rw[h1];rfl)))).trans h2,h3⟩⟩,h.ne,h.nd⟩
abbrev OW(T:TypeId)(ob mb:Nat)(a:Option Addr)(c:Nat)(l:List Int):World→Fq→Prop:=D9 T ob mb (.slice a l.length c) l a c l
variable {b:Nat}{M:Nat→Prop}{w0:World}
theorem D9.lt{T:TypeId}{ob mb:Nat}{sl:Value}{lm:List Int}{a:Option Addr}{c:Nat}{l:List Int}{w:World}{f:Fq}(h:D9 T ob mb sl lm a c l w f)(hb:LN ob mb a b):b<w.heap.size:=by
 rcases hb with rfl|rfl|hb
 · exact h.blk.lt
 · exact h.map.lt
 · exact h.row.lt hb
theorem V4(t:T1)(r:Ty)(l:List Int):C6 (t.cons r) l=C6 r (C6 t.one l):=by cases t <;> rfl
theorem IQ:∀(x:Ty)(l:List Int),(C6 x l).length≤x.size+l.length
 |.nil,l=>by simp[C6]
 |.var n r,l=>by
   have:=IQ r (if l.contains n then l else l++[n]);simp only[C6,Ty.size]
   split at this <;> simp_all <;> omega
 |.con tx k r,l=>by
   have h1:=IQ k l;have h2:=IQ r (C6 k l);simp only[C6,Ty.size];omega
def eP(P:Program)(fid:FuncId)(T:TypeId)(m:Nat):Prop:=∀(w:World)(f:Fq)(_:Vl w f)(ob mb:Nat)(a:Option Addr)(c:Nat)(l:List Int),OW T ob mb a c l w f→(∀b,LN ob mb a b→f b=0)→∀(t:T1)(ta:Option Addr)(tc:Nat),t.kids.size<m→t.kids.size+1+l.length≤1000000→t.bnd→Ak w f t.kids ta tc →
 Bq P fid #[tV t ta tc,.map (some mb),.pointer (some ⟨ob,0,none⟩)] w (JD (α:=Option Addr×Nat) (λ_=>.tuple #[]) (λ_=>True) (LN ob mb a) (λx=>LN ob mb x.1) (λx=>OW T ob mb x.1 x.2 (C6 t.one l)) (λ_=>[]) w f)
theorem D9.int{T:TypeId}{ob mb:Nat}{sl:Value}{lm:List Int}{a:Option Addr}{c:Nat}{l:List Int}{w:World}{f0 f:Fq}(h:D9 T ob mb sl lm a c l w f)(hE:C1 M w0 f0 w f)(hn:∀b,rb a=some b→w0.heap.size≤b):∃f',C1 M w0 f0 w f'∧BL w f' l a c:=by
 obtain⟨hl,⟨ha,hc,hz⟩|⟨b,q,ha,hb,hmc,_,hq,ht⟩⟩:=h.row
 · exact⟨f,hE,oM,.inl (by cases l with|nil=>rfl|cons _ _=>simp at hz)⟩
 · refine⟨λk=>if k=b then l.length else f k,hE.done (hn b (by rw[ha];rfl)) hb.lt _,hmc,.inr ⟨b,0,ha,λj v hj=>?_⟩⟩
   have hj2:j<l.length:=by have:=(List.getElem?_eq_some_iff.1 hj).1;simpa using this
   refine⟨?_,?_⟩
   · show 0+j<(if b=b then l.length else f b)
     rw[if_pos rfl];omega
   · rw[Nat.zero_add,hb.cell]
     rw[← ht,List.getElem?_take] at hj
     split at hj
     · exact hj
     · cases hj
end Go.SP
namespace Go.SP
open Go.SW Go.RowKit
theorem UG(n:Int)(l:List Int):(Ej (GX l) n).getD (.bool false)=.bool (l.contains n):=by
 rw[TR];cases l.contains n <;> rfl
theorem U6{n:Int}{l:List Int}(h:l.contains n=false):Ej (GX l) n=none:=by rw[TR,h];rfl
theorem NT(n:Int)(l:List Int):GX (l++[n])=(n,.bool true)::GX l:=by simp[GX]
section
variable{T:TypeId}{ob mb:Nat}{sl sl':Value}{lm l:List Int}{a a':Option Addr}{c c':Nat}{w w':World}{f f':Fq}{n:Int}
theorem D9.app(h:D9 T ob mb sl lm a c l w f)(hr:BP w' 3 1 a' c' (l.length+1) (l.map (λn=>Value.int .i64 n)++[.int .i64 n]))(hG:E1 a w a' w'):D9 T ob mb sl lm a' c' (l++[n]) w' f' where
 blk:=h.blk.grow hG (λe=>h.ne.2.1 e.symm)
 map:=h.map.heap (hG.block mb h.map.lt (λe=>h.ne.2.2 e.symm))
 row:=by simpa using hr
 ne:=⟨h.ne.1,λe=>hG.own.elim (λo=>h.ne.2.1 (o.symm.trans e)) (λo=>absurd h.blk.lt (by rw[← Option.some.inj (o.symm.trans e)];exact Nat.lt_irrefl _)),λe=>hG.own.elim (λo=>h.ne.2.2 (o.symm.trans e)) (λo=>absurd h.map.lt (by rw[← Option.some.inj (o.symm.trans e)];exact Nat.lt_irrefl _))⟩
 nd:=h.nd
variable {xs:List Value}{b:Nat}{e:TypeId}
theorem BP.chgB{size:Nat}{a:Option Addr}{c n:Nat}(h:BP w e size a c n xs)(hC:FQ b w w')(hne:rb a≠some b):BP w' e size a c n xs :=
 ⟨h.1,h.2.imp id λ⟨g,q,h1,h2,h3⟩=>⟨g,q,h1,(hC.block g (λe=>hne (by rw[h1,← e];rfl))).trans h2,h3⟩⟩
theorem D9.mapped{q:List Int}(h:D9 T ob mb sl l a c q w f)(hC:FQ mb w w')(hm:BE Ez w' mb ((n,.bool true)::GX l))(hn:l.contains n=false):D9 T ob mb sl (l++[n]) a c q w' f' where
 blk:=(hC.block ob h.ne.1).trans h.blk
 map:=by rw[NT];exact hm
 row:=BP.chgB h.row hC h.ne.2.2
 ne:=h.ne
 nd:=by
   have h9:n∉l:=by simpa using hn
   exact List.nodup_append.2 ⟨h.nd,List.nodup_cons.2 ⟨by simp,List.nodup_nil⟩,λx hx y hy e=>by simp at hy;subst hy;subst e;exact h9 hx⟩
theorem D9.store(h:D9 T ob mb sl lm a c l w f)(hC:FQ ob w w')(hb:AI w' ob [sl'] T):D9 T ob mb sl' lm a c l w' f' where
 blk:=hb
 map:=h.map.heap (hC.block mb (λe=>h.ne.1 e.symm))
 row:=BP.chgB h.row hC h.ne.2.1
 ne:=h.ne
 nd:=h.nd
end
variable {b:Nat}
theorem LN.or{ob mb:Nat}{a a':Option Addr}(h:LN ob mb a' b):LN ob mb a b∨rb a'=some b:=h.elim (λh=>.inl (.inl h)) λh=>h.elim (λh=>.inl (.inr (.inl h))) .inr
theorem Nq(n:Int)(l:List Int):C6 (T1.var n).one l=if l.contains n then l else l++[n]:=rfl
theorem WG(tx:lU)(k:Ty)(l:List Int):C6 (T1.con tx k).one l=C6 k l:=rfl
end Go.SP
namespace Go.SW
open Go.RowKit
section
variable{P:Program}{σ:Bc}{w:World}{ty T T':TypeId}{x y:Operand}
variable {t t':TypeId}
theorem Uw{k:IntKind}{a b:Int}(m:Int)(hx:ev σ x=some (.int k a))(hy:ev σ y=some (.int k b))(hb:b≠0)(h:k.wrap (a.tdiv b)=m):AG P σ (.binOp .quo t x y t') ty w (.int k m) w :=
 λρ _ _ _ _ hρ=>by simp[execOp,hρ _ _ hx,hρ _ _ hy,eqGuard,binOp,Op.intDiv,hb,h]
theorem UE{k:IntKind}{a b:Int}(m:Int)(hx:ev σ x=some (.int k a))(hy:ev σ y=some (.int k b))(hb:b≠0)(h:a.tmod b=m):AG P σ (.binOp .rem t x y t') ty w (.int k m) w :=
 λρ _ _ _ _ hρ=>by simp[execOp,hρ _ _ hx,hρ _ _ hy,eqGuard,binOp,Op.intDiv,hb,h]
theorem WR{k:IntKind}{n:Int}{l:lU}(hx:ev σ x=some (.int k n))(hc:eZ P T T'=true)(h:Utf8.encode n=⟨l.toArray⟩):AG P σ (.convert T T' x) ty w (S l) w:=by
 unfold eZ at hc
 cases hs:P.underlying T with
 |none=>rw[hs] at hc;cases hc
 |some s =>
   cases hd:P.underlying T' with
   |none=>rw[hs,hd] at hc;cases hc
   |some d =>
     rw[hs,hd] at hc
     cases d <;> simp at hc
     exact λρ _ _ _ _ hρ=>by
       simp[execOp,hρ _ _ hx,convert,run_underlying hs,run_underlying hd,Conv.intToString,h,S]
end
variable {Q:AU}{X:Cx}{f:Fq}{Fs:List (World→Fq→Prop)}{ds:List Deferred}{B:List FB}{fs:List Fr}{H H':List HB}{l:List Value}{b i n:Nat}{w':World}
theorem AN.toRow{w:World}{R:List RB}{T:TypeId}(h:AN X w f H R B Fs)(hg:Hf H i=some ⟨b,l,T,true⟩)(hs:Ks H i=some H')(size c:Nat)(hl:l.length=c*size)(hc:c≤maxLen):AN X w f H' (⟨T,size,some ⟨b,0,none⟩,c,c,l⟩::R) B Fs:=by
 have hblk:AI w b l T:=h.blk _ (BF hg);have hmem:b∈C4 H R:=List.mem_append.2 (.inl (List.mem_map.2 ⟨_,BF hg,rfl⟩));have hown:=h.own b hmem;have hsub:=Kx hs;have hnd:(H.map HB.b++IU R).Nodup:=h.nd;have hbR:b∉C4 H' R:=K7 (L:=IU R) hg hs hnd;have hso:(C4 H' R).Sublist (C4 H R):=List.Sublist.append (hsub.map _) (List.Sublist.refl _)
 have hp:∀k,k∈C4 H' (⟨T,size,some ⟨b,0,none⟩,c,c,l⟩::R)→k=b∨k∈C4 H' R:=λk hk=>by
   have hk':k∈H'.map HB.b++b::R.filterMap (λr=>rb r.a):=hk;rcases List.mem_append.1 hk' with hk' | hk'
   · exact .inr (List.mem_append.2 (.inl hk'))
   · rcases List.mem_cons.1 hk' with rfl|hk'
     · exact .inl rfl
     · exact .inr (List.mem_append.2 (.inr hk'))
 exact {h with
         blk:=λe he=>h.blk e (hsub.subset he),
         row:=λr hr=>by
           rcases List.mem_cons.1 hr with rfl|hr
           · exact⟨hl,.inr ⟨b,l,rfl,hblk,Nat.le_refl _,hc,hl,by rw[← hl];exact List.take_length⟩⟩
           · exact h.row r hr,
         nd:=by
           show (H'.map HB.b++b::R.filterMap (λr=>rb r.a)).Nodup;exact List.perm_middle.nodup_iff.2 (List.nodup_cons.2 ⟨hbR,hso.nodup h.nd⟩),
         own:=λk hk=>by
           rcases hp k hk with rfl|hk
           · exact hown
           · exact h.own k (hso.subset hk),
         hnw:=λe he=>h.hnw e (hsub.subset he),
         rnw:=λr hr k hk=>by
           rcases List.mem_cons.1 hr with rfl|hr
           · cases hk;exact h.hnw _ (BF hg) rfl
           · exact h.rnw r hr k hk}
theorem lT{P:Program}{R:List RB}{σ:Bc}{k:JS}{T:TypeId}(i size c:Nat)(hg:Hf H i=some ⟨b,l,T,true⟩)(hs:Ks H i=some H')(hl:Nat.beq l.length (c*size)=true)(hc:c≤maxLen)
   (h:A3 P n Q ds X (⟨T,size,some ⟨b,0,none⟩,c,c,l⟩::R) B Fs k fs σ H'):A3 P n Q ds X R B Fs k fs σ H:=λw f hM=>h w f (hM.toRow hg hs size c (Nat.eq_of_beq_eq_true hl) hc)
theorem Below.exm{w:World}(h:Below w.heap.size w w')(hv:∀b,w.heap.size≤b→f b=0)(M:Nat→Prop):C1 M w f w' f:=⟨⟨h.os,h.tape,h.output,h.size,λk hk _=>h.block k hk⟩,λ_ _=>rfl,λb hb=>hv b (Nat.le_trans h.size hb)⟩
end Go.SW
namespace Go.SP
open Go.SW Go.RowKit
def NF(vs:List Int)(t:T1):lU:=(Du vs t.one).drop 1
theorem KX(vs:List Int)(t:T1)(r:Ty):Du vs (t.cons r)=32::(NF vs t++Du vs r):=by
 cases t with
 |var n=>simp[NF,T1.one,T1.cons,Du]
 |con tx k=>cases k <;> simp[NF,T1.one,T1.cons,Du]
theorem YB(vs:List Int)(n:Int):NF vs (.var n)=(match Dt vs n with|some i=>D1 i|none=>[]):=by
 simp[NF,T1.one,T1.cons,Du] <;> cases Dt vs n <;> rfl
theorem UO(vs:List Int)(tx:lU):NF vs (.con tx .nil)=tx:=by simp[NF,T1.one,T1.cons,Du]
theorem Zi(vs:List Int)(tx:lU)(k:Ty)(h:k.len≠0):NF vs (.con tx k)=[40]++(tx++Du vs k)++[41]:=by
 cases k with
 |nil=>exact absurd rfl h
 |var n r=>simp[NF,T1.one,T1.cons,Du]
 |con tx k r=>simp[NF,T1.one,T1.cons,Du]
theorem Nc(s:lU)(l:List lU)(x:lU):Lib.joinTail s (l++[x])=Lib.joinTail s l++(s++x):=by simp[Lib.joinTail]
theorem Mf:∀k n,(Tx k n).length≤k
 |0,_=>Nat.le_refl _
 |k+1,n=>by
   unfold Tx
   split
   · simp
   · have:=Mf k (n / 10);simp;omega
theorem Sk(i:Nat):(D1 i).length≤22:=by
 unfold D1
 split
 · simp
 · have:=Mf 20 (i / 26);simp;omega
theorem Kq(vs:List Int):∀x:Ty,x.bnd→(Du vs x).length≤x.size*1000100
 |.nil,_=>by simp[Du]
 |.var n r,h=>by
   have h2:=Kq vs r h;rw[show Ty.var n r=(T1.var n).cons r from rfl,KX,T1.size_cons,YB]
   have h3:(match Dt vs n with|some i=>D1 i|none=>[]).length≤22:=by
     cases Dt vs n with
     |none=>simp
     |some i=>exact Sk i
   simp only[List.length_cons,List.length_append,T1.kids,Ty.size] at h3 ⊢;omega
 |.con tx k r,h=>by
   have h2:=Kq vs r h.2.2;have h3:=Kq vs k h.2.1;have h4:=h.1.2;rw[show Ty.con tx k r=(T1.con tx k).cons r from rfl,KX,T1.size_cons]
   have h5:(NF vs (.con tx k)).length≤tx.length+k.size*1000100+2:=by
     by_cases hk:k.len=0
     · obtain rfl:=Ty.len0 hk
       rw[UO];exact Nat.le_trans (Nat.le_add_right _ _) (Nat.le_add_right _ _)
     · rw[Zi vs tx k hk];simp;omega
   simp only[List.length_cons,List.length_append,T1.kids] at h5 ⊢;omega
theorem Sn(i:Nat):Utf8.encode (97+((i % 26:Nat):Int))=⟨[UInt8.ofNat (97+i % 26)].toArray⟩:=by
 have h:∀j,j<26→Utf8.encode (97+((j:Nat):Int))=⟨[UInt8.ofNat (97+j)].toArray⟩:=dC;exact h _ (Nat.mod_lt _ oM)
theorem PH:∀(k n:Nat),n<10 ^ (k+1)→Tx (k+1) n=Lib.decDigits n
 |0,n,h=>by
   have:n<10:=by simpa using h
   rw[Lib.decDigits,Tx,if_pos this,dif_pos this]
 |k+1,n,h=>by
   rw[Lib.decDigits,Tx]
   by_cases h1:n<10
   · rw[if_pos h1,dif_pos h1]
   · rw[if_neg h1,dif_neg h1,PH k (n / 10) (by rw[Nat.pow_succ] at h;omega)]
def KN(vs:List Int)(es:List (Int×Value)):Prop:=Il es∧∀n,Ej es n=(Dt vs n).map λi=>S (D1 i)
variable {es:List (Int×Value)}
theorem KN.get{vs:List Int}(h:KN vs es)(n:Int):(Ej es n).getD (S [])=S (NF vs (.var n)):=by
 rw[h.2,YB]
 cases Dt vs n <;> rfl
def dL(P:Program)(fid:FuncId)(m:Nat):Prop:=∀(w:World)(f:Fq)(_:Vl w f)(mb:Nat)(vs:List Int)(es:List (Int×Value)),BE Ez w mb es→KN vs es→∀(t:T1)(a:Option Addr)(c:Nat),t.kids.size<m→t.kids.size≤1000000→t.bnd→Ak w f t.kids a c →
 Bq P fid #[tV t a c,.map (some mb)] w (B4 (α:=Unit) (λ_=>S (NF vs t)) (λ_=>True) (λ_=>[]) w f)
end Go.SP
namespace Go.SP
open Go.SW Go.RowKit
theorem Qx(x n:Int):∀l:List Int,Dt (l++[n]) x=(match Dt l x with|some j=>some j|none=>if n==x then some l.length else none)
 | []=>by simp[Dt]
 |k::l=>by
   have ih:=Qx x n l;simp only[List.cons_append,Dt]
   by_cases hk:(k==x)=true
   · rw[if_pos hk,if_pos hk]
   · rw[if_neg hk,if_neg hk,ih]
     cases Dt l x with
     |some j=>rfl
     |none=>by_cases hn:(n==x)=true <;> simp[hn]
theorem KN.nil:KN [] []:=⟨tQ,λ_=>rfl⟩
variable {f:Fq}{es:List (Int×Value)}{l:List Value}{b i m mb sb:Nat}
theorem KN.snoc{l:List Int}(h:KN l es){n:Int}(hn:l.contains n=false):Ej es n=none∧KN (l++[n]) ((n,S (D1 l.length))::es):=by
 have h0:Ej es n=none:=by rw[h.2,MR hn];rfl
 refine⟨h0,⟨h0,h.1⟩,λx=>?_⟩;rw[Qx];simp only[Ej]
 by_cases hx:x=n
 · subst hx;rw[MR hn];simp
 · have e1:(x==n)=false:=by simpa using hx
   have e2:(n==x)=false:=by simpa using λe:n=x=>hx e.symm
   rw[e1,e2,h.2]
   cases Dt l x <;> simp
theorem HH:∀(x:Ty)(l:List Int),l.Nodup→(C6 x l).Nodup
 |.nil,_,h=>h
 |.var n r,l,h=>by
   simp only[C6];apply HH r
   split
   · exact h
   · rename_i hn
     have h9:n∉l:=by simpa using hn
     exact List.nodup_append.2 ⟨h,List.nodup_cons.2 ⟨by simp,List.nodup_nil⟩,λx hx y hy e=>by simp at hy;subst hy;subst e;exact h9 hx⟩
 |.con tx k r,l,h=>HH r _ (HH k l h)
theorem Sp{l:List Int}(h:l.Nodup){n:Int}(hi:l[i]?=some n):(l.take i).contains n=false:=by
 have hlt:=(List.getElem?_eq_some_iff.1 hi).1;have e:l=l.take i++l.drop i:=(List.take_append_drop i l).symm
 have hd:n∈l.drop i:=by
   rw[List.drop_eq_getElem_cons hlt,(List.getElem?_eq_some_iff.1 hi).2];exact .head _
 rw[e] at h;have:=(List.nodup_append.1 h).2.2;have hn:n∉l.take i:=λhm=>this n hm n hd rfl;simpa using hn
theorem Gj(t:T1):(Aq t).length≤t.kids.size+1:=by
 have:=IQ t.one [];have e:t.one.size=t.kids.size+0+1:=T1.size_cons t .nil;rw[e] at this;simpa[Aq] using this
theorem BA.new{T:TypeId}{w:World}(h1:AI w sb [.map (some mb),.int .i64 0,.int .i64 0] T)(h2:BE Ez w mb []):BA T sb mb [] 0 0 w f:=⟨h1,[],h2,rfl⟩
theorem fJ{w:World}{T:TypeId}(h:AI w b l T)(hm:BE Ez w m es):b≠m:=λe=>by
 subst e;obtain⟨es,c,h3,_⟩:=hm;have h4:=h.symm.trans h3
 cases h4
structure Ad where
 cb:Nat
 sb:Nat
 mb:Nat
 km:Nat
 dm:Nat
 rm:Nat
def Bx(A:Ad)(b:Nat):Prop:=b=A.cb∨b=A.sb∨b=A.mb∨b=A.km∨b=A.dm∨b=A.rm
structure Ad.ok(A:Ad):Prop where
 cs:A.cb≠A.sb
 cm:A.cb≠A.mb∧A.cb≠A.km∧A.cb≠A.dm∧A.cb≠A.rm
 sm:A.sb≠A.mb∧A.sb≠A.km∧A.sb≠A.dm∧A.sb≠A.rm
 mm:A.mb≠A.km∧A.mb≠A.dm∧A.mb≠A.rm∧A.km≠A.dm∧A.km≠A.rm∧A.dm≠A.rm
def Z2(m:Mk)(aa:Option Addr)(ac:Nat)(oa:Option Addr)(oc:Nat)(va:Option Addr)(vc:Nat):List Value:=.slice aa m.args.len ac::(tC m.out oa oc++[.slice va m.vars.length vc])
def BS(w:World)(f:Fq):List (lU×Mk)→List (lU×Value)→Prop
 | [],es=>es=[]
 |(k,m)::l,es=>∃aa ac oa oc va vc es',es=(k,.agg (Z2 m aa ac oa oc va vc).toArray)::es'∧Ak w f m.args aa ac∧Ak w f m.out.kids oa oc∧BL w f m.vars va vc∧BS w f l es'
variable {A:Ad}{s:CS}{f f':Fq}{b:Nat}{a:Option Addr}{TS:TypeId}{w w':World}
theorem BS.mono(hF:Hh w f w' f'):∀(l:List (lU×Mk))(es:List (lU×Value)),BS w f l es→BS w' f' l es
 | [],_,h=>h
 |(_,_)::l,_,⟨aa,ac,oa,oc,va,vc,es',h1,h2,h3,h4,h5⟩=>⟨aa,ac,oa,oc,va,vc,es',h1,Ak.mono _ _ _ _ h2 hF,Ak.mono _ _ _ _ h3 hF,BL.mono _ _ _ _ h4 hF,BS.mono hF l es' h5⟩
theorem BS.look{n:lU}:∀{l:List (lU×Mk)}{es:List (lU×Value)},BS w f l es→(AS l n=none→Ej es n=none)∧∀m,AS l n=some m→∃aa ac oa oc va vc,Ej es n=some (.agg (Z2 m aa ac oa oc va vc).toArray)∧Ak w f m.args aa ac∧Ak w f m.out.kids oa oc∧BL w f m.vars va vc
 | [],es,h=>by
   have h:es=[]:=h;subst h;exact⟨λ_=>rfl,λt h=>by cases h⟩
 |(k,m)::l,es,⟨aa,ac,oa,oc,va,vc,es',h1,h2,h3,h4,h5⟩=>by
   subst h1;have ih:=BS.look (n:=n) h5;simp only[AS,Ej]
   by_cases hk:k=n
   · subst hk
     refine⟨λh=>by simp at h,λt' h=>?_⟩;simp at h;subst h;exact⟨aa,ac,oa,oc,va,vc,by simp,h2,h3,h4⟩
   · have e1:(k==n)=false:=by simpa using hk
     have e2:(n==k)=false:=by simpa using λe:n=k=>hk e.symm
     rw[e1,e2];simpa using ih
structure As(T TS:TypeId)(A:Ad)(s:CS)(w:World)(f:Fq):Prop where
 blk:AI w A.cb [.pointer (some ⟨A.sb,0,none⟩),.map (some A.km),.map (some A.dm),.map (some A.rm),.int .i64 s.vars] T
 sol:∃pr,BA TS A.sb A.mb s.sol s.fresh pr w f
 cons:∃es,BE BI w A.km es∧BS w f s.cons es
 datas:BE BI w A.dm (s.datas.map λp=>(p.1,.int .i64 p.2))
 roots:BE BI w A.rm (s.roots.map λk=>(k,.bool true))
theorem As.stab{T:TypeId}:EL (Bx A) (As T TS A s):=λw f w' f' h hF hb =>
 ⟨(
   hb _ (.inl rfl)).trans h.blk,let ⟨pr,hs⟩:=h.sol;⟨pr,BA.stab (MI:=Lx A.sb A.mb) (.inl rfl) (.inr rfl) _ _ _ _ hs hF λb hm=>hb b (hm.elim (λe=>.inr (.inl e)) λe=>.inr (.inr (.inl e)))⟩,
   let ⟨es,h1,h2⟩:=h.cons;⟨es,h1.heap (hb _ (.inr (.inr (.inr (.inl rfl))))),BS.mono hF _ _ h2⟩,h.datas.heap (hb _ (.inr (.inr (.inr (.inr (.inl rfl)))))),h.roots.heap (hb _ (.inr (.inr (.inr (.inr (.inr rfl))))))⟩
theorem As.lt{T:TypeId}(h:As T TS A s w f)(hb:Bx A b):b<w.heap.size:=by
 rcases hb with rfl|rfl|rfl|rfl|rfl|rfl
 · exact h.blk.lt
 · obtain⟨_,hs⟩:=h.sol;exact hs.1.lt
 · obtain⟨_,_,_,hm,_⟩:=h.sol;exact hm.lt
 · obtain⟨_,hm,_⟩:=h.cons;exact hm.lt
 · exact h.datas.lt
 · exact h.roots.lt
structure Dy(s:CS):Prop where
 sol:Im s.sol
 cons:∀k m,AS s.cons k=some m→m.args.len≤200000∧m.args.bnd∧m.out.bnd∧m.vars.length≤200000
 dc:Il (s.cons.map λp=>(p.1,Value.bool true))
 dd:Il (s.datas.map λp=>(p.1,Value.int .i64 p.2))
 dr:Il (s.roots.map λk=>(k,Value.bool true))
 fr:0≤s.fresh
def AF(w:World)(f:Fq):Ba→Option Addr→Prop
 | [],a=>a=none
 |b::e,a=>∃k ta tc va vc ra,a=some ⟨k,0,none⟩∧Cs w f k 0 (S b.name::(tC b.t ta tc++[.slice va b.all.length vc,.pointer ra]))∧Ak w f b.t.kids ta tc∧BL w f b.all va vc∧AF w f e ra
theorem AF.mono'(hF:Hh w f w' f'):∀(e:Ba)(a:Option Addr),AF w f e a→AF w' f' e a
 | [],_,h=>h
 |_::e,_,⟨k,ta,tc,va,vc,ra,h1,h2,h3,h4,h5⟩=>⟨k,ta,tc,va,vc,ra,h1,h2.mono hF,Ak.mono _ _ _ _ h3 hF,BL.mono _ _ _ _ h4 hF,AF.mono' hF e ra h5⟩
theorem AF.mono{e:Ba}:F6 (λw f=>AF w f e a):=λ_ _ _ _ h hF=>AF.mono' hF e a h
def F4(e:Ba):Prop:=∀b,b∈e→b.t.bnd∧b.all.length≤1000000
def trI(T:TypeId)(e:Er):List PanicEntry:=[{v:=.iface T (.agg #[.int .i64 e.1,.int .i64 e.2.1,.int .i64 e.2.2]),recovered:=false}]
def PanE(T:TypeId)(M:Nat→Prop)(q:Er→Prop)(w:World)(f:Fq)(c:List PanicEntry)(w':World):Prop:=∃er f',c=trI T er∧q er∧C1 M w f w' f'
abbrev XC(T TS:TypeId)(A:Ad)(s:CS)(w:World)(f:Fq):Cx:=⟨Bx A,Bx A,As T TS A s,w,f⟩
theorem JX{T:TypeId}{Fs:List (World→Fq→Prop)}(hv:Vl w f)(hC:As T TS A s w f)(hf:∀b,Bx A b→f b=0)(hF:AE Fs w f)(hm:Ax Fs):AN (XC T TS A s w f) w f [] [] [] Fs :=
 PZ (M:=Bx A) hv hC As.stab (λb hb=>⟨hC.lt hb,hf b hb⟩) hF hm
theorem VM{s:BR}:∀(k:Nat)(x:Ty)(j:Nat),Bz s k x=some j→(AJ s k x).size+j≤k:=by
 intro k
 induction k using Nat.strongRecOn with
 |_ k ih =>
   intro x j h
   have key:∀(k':Nat)(ks r:Ty),k'<k→Bz s k' (ks.app r)=some j→(AJ s k' ks).size+(AJ s k' r).size+j≤k':=by
     intro k' ks r hk hr;rw[Jl] at hr
     cases hj:Bz s k' ks with
     |none=>rw[hj] at hr;cases hr
     |some j1 =>
       rw[hj] at hr;have hr:Bz s j1 r=some j:=hr;have h1:=Ed s _ _ _ hj;have h2:=ih k' hk ks j1 hj;have h3:=ih j1 oM r j hr;rw[Ow j1 r j hr k' (by omega)];omega
   cases x with
   |nil=>rw[GA];cases k <;> (cases h;simp[Ty.size])
   |var n r =>
     cases k with
     |zero=>cases h
     |succ k =>
       simp only[Bz] at h
       cases hh:Ap s (.var n) with
       |var q =>
         rw[hh] at h;have:=key k .nil r oM h;simp only[AJ,hh,Ty.size];rw[GA] at this;simp only[Ty.size] at this;omega
       |con tx ks =>
         rw[hh] at h;have:=key k ks r oM h;simp only[AJ,hh,Ty.size];omega
   |con tx ks r =>
     cases k with
     |zero=>cases h
     |succ k =>
       simp only[Bz] at h;have:=key k ks r oM h;simp only[AJ,Ty.size];omega
theorem Y5(s:BR)(k:Nat)(t:T1):AJ s (k+1) t.one=(AJ s (k+1) t.one).hd.one:=by
 cases t with
 |var n =>
   simp only[T1.one,T1.cons,AJ]
   cases Ap s (.var n) <;> (simp only[GA];rfl)
 |con tx ks=>simp only[T1.one,T1.cons,AJ,GA];rfl
theorem HR{s:BR}{t u:T1}(h:CO s t=some u):u.kids.size+1≤1000:=by
 unfold CO at h
 split at h
 · rename_i hs
   rw[Hc,Fb] at hs;obtain⟨j,hj⟩:=Option.isSome_iff_exists.1 hs;have h1:=VM 1000 t.one j hj;have h2:=Y5 s 999 t
   cases h
   have h3:(AJ s 1000 t.one).size=(AJ s 1000 t.one).hd.kids.size+0+1:=(congrArg Ty.size h2).trans (T1.size_cons _ .nil);omega
 · cases h
theorem Jj{s:BR}(hw:Im s){t u:T1}(hb:t.bnd)(h:CO s t=some u):u.bnd:=by
 unfold CO at h
 split at h
 · cases h;exact Ye hw hb 1000
 · cases h
end Go.SP
namespace Go.SW
open Go.RowKit Go.SP
variable {args:Array Value}{f f':Fq}{fid:FuncId}{M:Nat→Prop}{w w':World}
theorem AN.exmI{X:Cx}{H:List HB}{R:List RB}{B:List FB}{Fs:List (World→Fq→Prop)}(h:AN X w f H R B Fs)(hs:∀b,M b→X.MI b)(he:C1 M w f w' f'):C1 X.M X.w0 X.f0 w' f' :=
 (h.callI (I':=λ_ _=>True) (he.mono hs) tQ (λ_ _ _ _ _ _ _=>trivial)).exm
section
variable{P:Program}{n:Nat}{Q:AU}{ds:List Deferred}{X:Cx}{R:List RB}{B:List FB}{Fs:List (World→Fq→Prop)}{fs:List Fr}{σ:Bc}{H:List HB}
variable{all r:List Oper}{ty T:TypeId}{pos:String}{af:Array Edge}{g:Option (Nat×Bool)}{d:Nat}
theorem D5{op:Op}{α:Type}{val:α→Value}{q:α→Prop}{I':α→World→Fq→Prop}{F':α→List (World→Fq→Prop)}{pe:Er→Prop}
   (hg:gd all σ g=some true) (hd:Nat.blt d n=true) (he:∀w,Enters P σ op ty w fid args) (hs:∀b,M b→X.MI b)
   (hc:∀w f,AN X w f H R B Fs→BB P fid args w (Ey val q X.MI I' F' w f) (PanE T M pe w f)) (hst:∀x,EL X.MI (I' x)) (hm:∀x,Ax (F' x))
   (hp:∀er w' f',pe er→C1 X.M X.w0 X.f0 w' f'→Q.p (trI T er) σ ds w')
   (h:∀x,q x→A3 P n Q ds {X with I:=I' x} R B (F' x++Fs) (.ops all r) fs (AA σ d (val x)) H):A3 P n Q ds X R B Fs (.ops all (⟨some d,op,ty,pos,af,g⟩::r)) fs σ H :=
 NH (XX:=λc w'=>∃er f',c=trI T er∧pe er∧C1 X.M X.w0 X.f0 w' f') hg hd he (λw f hM=>(hc w f hM).mono (λ_ _ h=>h) λ_ _ ⟨er,f',h1,h2,h3⟩=>⟨er,f',h1,h2,hM.exmI hs h3⟩) hst hm (λ_ _ _ _ _ ⟨er,f',h1,h2,h3⟩=>h1▸hp er _ f' h2 h3) h
theorem Nl{op:Op}{pe:Er→Prop}
   (hg:gd all σ g=some true) (hd:Nat.blt d n=true) (he:∀w,Enters P σ op ty w fid args) (hs:∀b,M b→X.MI b)
   (hc:∀w f,AN X w f H R B Fs→BB P fid args w (λ_ _=>False) (PanE T M pe w f))
   (hp:∀er w' f',pe er→C1 X.M X.w0 X.f0 w' f'→Q.p (trI T er) σ ds w'):A3 P n Q ds X R B Fs (.ops all (⟨some d,op,ty,pos,af,g⟩::r)) fs σ H :=
 D5 (α:=Unit) (val:=λ_=>.tuple #[]) (q:=λ_=>False) (I':=λ_ _ _=>True) (F':=λ_=>[]) hg hd he hs (λw f hM=>(hc w f hM).mono (λ_ _ h=>h.elim) λ_ _ h=>h) (λ_ _ _ _ _ _ _ _=>trivial) (λ_=>trivial) hp (λ_ h=>h.elim)
end
end Go.SW
namespace Go.SP
open Go.SW Go.RowKit
variable {A:Ad}{s:CS}{f f':Fq}{fr pr:Int}{M:Nat→Prop}{TS:TypeId}{w w' w0:World}
theorem Lx.c:∀b,Lx A.sb A.mb b→Bx A b:=λ_ h=>h.elim (λe=>.inr (.inl e)) λe=>.inr (.inr (.inl e))
theorem As.solved{T:TypeId}(h:As T TS A s w f)(hA:A.ok)(hv:Vl w f)(hz:∀b,Lx A.sb A.mb b→f b=0)(hE:C1 (Lx A.sb A.mb) w f w' f'){s':BR}(hS:BA TS A.sb A.mb s' fr pr w' f'):As T TS A {s with sol:=s',fresh:=fr} w' f' where
 blk:=(hE.stp.block _ (h.lt (.inl rfl)) (λe=>e.elim hA.cs hA.cm.1)).trans h.blk
 sol:=⟨pr,hS⟩
 cons:=let ⟨es,h1,h2⟩:=h.cons;⟨es,h1.heap (hE.stp.block _ h1.lt (λe=>e.elim (λe=>hA.sm.2.1 e.symm) (λe=>hA.mm.1 e.symm))),BS.mono (hE.fle hv hz) _ _ h2⟩
 datas:=h.datas.heap (hE.stp.block _ h.datas.lt (λe=>e.elim (λe=>hA.sm.2.2.1 e.symm) (λe=>hA.mm.2.1 e.symm)))
 roots:=h.roots.heap (hE.stp.block _ h.roots.lt (λe=>e.elim (λe=>hA.sm.2.2.2 e.symm) (λe=>hA.mm.2.2.1 e.symm)))
theorem Z5{P:Program}{n:Nat}{Q:AU}{ds:List Deferred}{f0:Fq}{T:TypeId}{R:List RB}{B:List FB}{Fs:List (World→Fq→Prop)}{fs:List Fr}{σ:Bc}{H:List HB}{k:JS}
   (h:∀pr,A3 P n Q ds ⟨M,Bx A,λw f=>As T TS A s w f∧BA TS A.sb A.mb s.sol s.fresh pr w f,w0,f0⟩ R B Fs k fs σ H):A3 P n Q ds ⟨M,Bx A,As T TS A s,w0,f0⟩ R B Fs k fs σ H :=
 eI (X:=⟨M,Bx A,As T TS A s,w0,f0⟩) (λpr w f=>As T TS A s w f∧BA TS A.sb A.mb s.sol s.fresh pr w f) (λw f h=>let ⟨pr,hp⟩:=h.sol;⟨pr,h,hp⟩) (λpr w f w' f' h hF hb=>⟨As.stab w f w' f' h.1 hF hb,BA.stab (MI:=Lx A.sb A.mb) (.inl rfl) (.inr rfl) _ _ _ _ h.2 hF λb hm=>hb b (Lx.c b hm)⟩) h
end Go.SP
namespace Go.SP
open Go.SW Go.RowKit
def DR(fr:Int):Nat→Ty
 |0=>.nil
 |n+1=>.var (fr+1) (DR (fr+1) n)
theorem EV:∀(n:Nat)(fr:Int),(DR fr n).len=n
 |0,_=>rfl
 |n+1,fr=>by simp only[DR,Ty.len];rw[EV n]
theorem HS:∀(n:Nat)(fr:Int),(DR fr n).bnd
 |0,_=>trivial
 |n+1,fr=>HS n (fr+1)
theorem Lq:∀(n:Nat)(fr:Int),DR fr (n+1)=(DR fr n).snoc (.var (fr+n+1))
 |0,fr=>by simp[DR,Ty.snoc,Ty.app,T1.one,T1.cons]
 |n+1,fr=>by
   have:=Lq n (fr+1);rw[DR,this];show _=Ty.var _ _
   congr 2
   simp;omega
theorem BD:∀(l:List Int)(s:CS),Bo l s=(DR s.fresh l.length,{s with fresh:=s.fresh+l.length})
 | [],s=>by simp[Bo,DR]
 |_::l,s=>by
   have h:=BD l (A7 s).2;simp only[Bo,T1.cons,DR,List.length_cons];rw[h];simp only[A7,T1.cons];have e:s.fresh+1+(l.length:Int)=s.fresh+((l.length+1:Nat):Int):=oM;rw[e]
variable {s:CS}
theorem Dy.fresh(h:Dy s){n:Int}(hn:0≤n):Dy {s with fresh:=n}:={h with fr:=hn}
end Go.SP
namespace Go.SP
open Go.SW Go.RowKit
variable {Q:AU}{A:Ad}{σ:Bc}{s:CS}{f:Fq}{Fs:List (World→Fq→Prop)}{ds:List Deferred}{B:List FB}{fs:List Fr}{H:List HB}{n:Nat}{M:Nat→Prop}{P:Program}{T TS:TypeId}{w w0:World}
theorem BS.keys{n:lU}:∀{l:List (lU×Mk)}{es:List (lU×Value)},BS w f l es→(Ej (l.map λp=>(p.1,Value.bool true)) n=none→Ej es n=none)
 | [],es,h,_=>by have h:es=[]:=h;subst h;rfl
 |(k,m)::l,es,⟨_,_,_,_,_,_,es',h1,_,_,_,h5⟩,hn=>by
   subst h1;simp only[List.map,Ej] at hn ⊢
   split at hn
   · cases hn
   · rename_i hk;rw[if_neg hk];exact BS.keys h5 hn
theorem BS.dis:∀{l:List (lU×Mk)}{es:List (lU×Value)},BS w f l es→Il (l.map λp=>(p.1,Value.bool true))→Il es
 | [],es,h,_=>by have h:es=[]:=h;subst h;trivial
 |(k,m)::l,es,⟨_,_,_,_,_,_,es',h1,_,_,_,h5⟩,hd=>by
   subst h1;exact⟨BS.keys h5 hd.1,BS.dis h5 hd.2⟩
theorem uC{f0:Fq}{R:List RB}{k:JS}
   (h:∀es,A3 P n Q ds ⟨M,Bx A,λw f=>As T TS A s w f∧BE BI w A.km es∧BS w f s.cons es,w0,f0⟩ R B Fs k fs σ H):A3 P n Q ds ⟨M,Bx A,As T TS A s,w0,f0⟩ R B Fs k fs σ H :=
 eI (X:=⟨M,Bx A,As T TS A s,w0,f0⟩) (λes w f=>As T TS A s w f∧BE BI w A.km es∧BS w f s.cons es) (λw f h=>let ⟨es,h1,h2⟩:=h.cons;⟨es,h,h1,h2⟩) (λes w f w' f' h hF hb=>⟨As.stab w f w' f' h.1 hF hb,h.2.1.heap (hb _ (.inr (.inr (.inr (.inl rfl))))),BS.mono hF _ _ h.2.2⟩) h
end Go.SP
namespace Go.SW
open Go.RowKit Go.SP
variable {Q:AU}{σ:Bc}{X:Cx}{Fs:List (World→Fq→Prop)}{ds:List Deferred}{B:List FB}{fs:List Fr}{H:List HB}{n:Nat}{P:Program}
theorem NC{R:List RB}{k:JS}{r:RB}(φ:World→Fq→Prop)(hm:F6 φ)(hr:∀w f,AN X w f H (r::R) B Fs→∃f',AN X w f' H R B Fs∧φ w f')
   (h:A3 P n Q ds X R B (φ::Fs) k fs σ H):A3 P n Q ds X (r::R) B Fs k fs σ H:=λw f hM=>by
 obtain⟨f',hM',hφ⟩:=hr w f hM;exact h w f' (hM'.more (B':=[]) (F':=[φ]) (λ_ h=>by cases h) (AE.mem ⟨hφ,tQ⟩) (Ax.mem ⟨hm,tQ⟩))
end Go.SW
namespace Go.SP
open Go.SW Go.RowKit
variable {X:Cx}{f:Fq}{Fs:List (World→Fq→Prop)}{B:List FB}{H:List HB}{xs:List Value}{m:Nat}{a:Option Addr}{e:TypeId}{w:World}
theorem GV{R:List RB}{c:Nat}{k:Ty}(hM:AN X w f H (⟨e,4,a,c,m,xs⟩::R) B Fs)(hL:Be w f k xs):∃f',AN X w f' H R B Fs∧Ak w f' k a c:=by
 rcases Nat.eq_zero_or_pos k.len with h0|h0
 · obtain rfl:=Ty.len0 h0
   exact⟨f,hM.less (List.Sublist.refl _) (List.sublist_cons_self _ _) (λ_ h=>h) (λ_ h=>h),Ak.nil _ _ _ _⟩
 · exact Nf hM hL h0
theorem LP{R:List RB}{c:Nat}{l:List Int}(hM:AN X w f H (⟨3,1,a,c,l.length,l.map λn=>.int .i64 n⟩::R) B Fs):∃f',AN X w f' H R B Fs∧BL w f' l a c:=by
 have hr:=hM.row _ (.head _);rcases hr.2 with ⟨_,_,hz⟩|⟨b,q,ha,hb,hmc,_,hq,ht⟩
 · simp only at hz
   exact⟨f,hM.less (List.Sublist.refl _) (List.sublist_cons_self _ _) (λ_ h=>h) (λ_ h=>h),oM,.inl (by cases l with|nil=>rfl|cons _ _=>simp at hz)⟩
 · simp only at ha
   subst ha;obtain⟨f',hM'⟩:=hM.done (i:=0) rfl rfl;refine⟨f',hM'.less (List.Sublist.refl _) (List.Sublist.refl _) (λ_ h=>.tail _ h) (λ_ h=>h),hmc,.inr ⟨b,0,rfl,hM'.fro _ (.head _)⟩⟩
end Go.SP
namespace Go.SW
open Go.RowKit Go.SP
section
variable{κ:Type}[BEq κ]{K:qD κ}[LawfulBEq κ]
theorem NU(x:κ):∀(es:List MapEntry)(l:List (κ×Value))(i:Nat)(v:Value),es.map (λe=>(e.key,e.val))=l.map (λp=>(K.enc p.1,p.2))→KC x l=some v →
   ∃j e,Instr.findNow K.desc (K.enc x) es i=some (some (i+j,v))∧es[j]?=some e∧e.key=K.enc x∧e.val=v
 | [],[],i,v,_,h=>by cases h
 | [],_::_,_,_,h,_=>by simp at h
 |_::_,[],_,_,h,_=>by simp at h
 |e::es,p::l,i,v,h,hl=>by
   simp only[List.map_cons,List.cons.injEq,Prod.mk.injEq] at h;obtain⟨⟨hk,hv⟩,hr⟩:=h;have hs:Instr.sameNow K.desc (K.enc x) e.key=some (x==p.1):=by rw[hk];exact K.same x p.1
   obtain⟨pk,pv⟩:=p;unfold Instr.findNow;unfold KC at hl;rw[hs]
   cases hc:x==pk with
   |true =>
     rw[hc] at hl;have hl:pv=v:=by simpa using hl
     have he:x=pk:=by simpa using hc
     subst he;exact⟨0,e,by simp[hv,hl],rfl,hk,hv.trans hl⟩
   |false =>
     rw[hc] at hl;obtain⟨j,e',h1,h2,h3⟩:=NU x es l (i+1) v hr (by simpa using hl);exact⟨j+1,e',by simp only[h1];congr 3;omega,h2,h3⟩
variable{P:Program}{n:Nat}{Q:AU}{ds:List Deferred}{X:Cx}{R:List RB}{B:List FB}{Fs:List (World→Fq→Prop)}{fs:List Fr}{σ:Bc}{H:List HB}{w:World}
variable{all r:List Oper}{ty T k e:TypeId}{pos:String}{af:Array Edge}{g:Option (Nat×Bool)}{d m:Nat}{x y z:Operand}{a:κ}{l:List (κ×Value)}
theorem SL{v:Value}(hT:F7 P T=some (k,e))(hk:P.underlying k=some K.desc)(hsb:Instr.sameBits 10000 (K.enc a) (K.enc a)=true)(hm:BE K w m l)(hd:Il l)(hn:Ej l a=some v):∃w',(Instr.mapUpdate T (.map (some m)) (K.enc a) v).run P w=.ok () w'∧BE K w' m l∧FQ m w w':=by
 have hu:=Jg hT;obtain⟨es,c,h1,h2⟩:=id hm;obtain⟨j,e',hj,he,hek,hev⟩:=NU (K:=K) a es l.reverse 0 v h2 (by rw[Pb a l hd];exact hn);have hget:(getObj m).run P w=.ok (.map es.toArray c) w:=by simp[getObj,Sem.run,h1]
 have hlt:=hm.lt;have hck:=λb=>K.chk P k w a b hk
 have hset:∀o,(setObj m o).run P w=.ok () {w with heap:=w.heap.setIfInBounds m o}:=λo=>by
   simp[setObj,Sem.run,h1]
 rw[Nat.zero_add] at hj;refine⟨{w with heap:=w.heap.setIfInBounds m (.map (es.toArray.modify j λe=>{e with key:=K.enc a,val:=v}) c)},?_,?_,?_⟩
 · simp only[Instr.mapUpdate,Sem.run_bind,run_underlying hu,Result.andThen_ok,hget]
   simp only[hck,Result.andThen_ok,Instr.findKey,Sem.run_bind,run_underlying hk,hj];simp only[Sem.run_pure,Result.andThen_ok,List.getElem?_toArray,he,Option.map_some,Option.getD_some,hek,Instr.keyThatStays,hsb,if_true];exact hset _
 · refine⟨es.modify j λe=>{e with key:=K.enc a,val:=v},c,?_,?_⟩
   · rw[show (es.modify j λe=>{e with key:=K.enc a,val:=v}).toArray=es.toArray.modify j λe=>{e with key:=K.enc a,val:=v} from Array.ext' (by simp)]
     simp[hlt]
   · rw[← h2]
     apply List.ext_getElem?;intro i;rw[List.getElem?_map,List.getElem?_map,List.getElem?_modify]
     by_cases hij:j=i
     · subst hij
       rw[he];simp[hek,hev]
     · simp[hij]
 · refine⟨rfl,rfl,rfl,by simp,λi him=>?_⟩
   show (w.heap.setIfInBounds m _)[i]?=_;rw[Array.getElem?_setIfInBounds_ne (λe=>him e.symm)]
variable {I':World→Fq→Prop}
theorem sT{v:Value}(hg:gd all σ g=some true)(hx:ev σ x=some (.map (some m)))(hy:ev σ y=some (K.enc a))(hz:ev σ z=some v)(hT:F7 P T=some (k,e))(hk:P.underlying k=some K.desc)(hsb:Instr.sameBits 10000 (K.enc a) (K.enc a)=true)(hmi:X.MI m)(hd:Il l)(hn:Ej l a=some v)
   (hm:∀w f,X.I w f→BE K w m l) (hI:∀w f w',X.I w f→AN X w f H R B Fs→FQ m w w'→BE K w' m l→I' w' f) (hst:EL X.MI I')
   (h:A3 P n Q ds {X with I:=I' } R B Fs (.ops all r) fs σ H):A3 P n Q ds X R B Fs (.ops all (⟨none,.mapUpdate T x y z,ty,pos,af,g⟩::r)) fs σ H:=λw f hM=>by
 obtain⟨w',h1,h2,h3⟩:=SL (v:=v) hT hk hsb (hm w f hM.res) hd hn;refine B1 hg (Iv (w':=w') (λρ _ _ _ _ hρ=>?_) (h w' f (hM.chgI hmi h3 (hI w f w' hM.res hM h3 h2) hst)));simp only[execOp,hρ _ _ hx,hρ _ _ hy,hρ _ _ hz];rw[Sem.run_bind,h1];rfl
omit [LawfulBEq κ] in
theorem Zu(hg:gd all σ g=some true)(hd:Nat.blt d n=true)
   (h:∀m,¬X.MI m→A3 P n Q ds {X with MI:=λb=>X.MI b∨b=m,I:=λw f=>X.I w f∧BE K w m []} R B Fs (.ops all r) fs (AA σ d (.map (some m))) H):A3 P n Q ds X R B Fs (.ops all (⟨some d,.makeMap T none,ty,pos,af,g⟩::r)) fs σ H:=λw f hM=>by
 refine B1 hg (Ab (v:=.map (some w.heap.size)) (w':=w.alloc (.map #[] 0)) hd (λρ _ _ _ _ hρ=>by simp[execOp,Instr.makeMap]) (h w.heap.size (λhm=>Nat.lt_irrefl _ (hM.mi _ hm).1) _ f ?_));have h1:AN X (w.alloc (.map #[] 0)) f H R B Fs:=hM.call0 (C1.of_ext (IZ w _) hM.val);have hnew:∀b,b∈C4 H R→b≠w.heap.size:=λb hb e=>Nat.lt_irrefl _ (e▸hM.lt hb)
 exact {h1 with
         res:=⟨h1.res,[],0,heap_alloc_new w _,rfl⟩,
         stab:=λw1 f1 w2 f2 hI hF hb=>⟨h1.stab w1 f1 w2 f2 hI.1 hF λb hm=>hb b (.inl hm),hI.2.heap (hb _ (.inr rfl))⟩,
         mi:=λb hb=>by
           rcases hb with hb|rfl
           · exact h1.mi b hb
           · exact⟨by rw[Gu];omega,hM.val _ (Nat.le_refl _),.inl hM.stp.size⟩,
         own:=λb hb=>⟨(h1.own b hb).1,(h1.own b hb).2.1,λhm=>by
           rcases hm with hm|rfl
           · exact (h1.own b hb).2.2 hm
           · exact hnew _ hb rfl⟩}
end
end Go.SW
namespace Go.SP
open Go.SW Go.RowKit
def Kr(T TS:TypeId)(A:Ad)(s:CS)(m:Nat)(l:List Int)(w:World)(f:Fq):Prop:=As T TS A s w f∧BE Ez w m (GX l)
variable {A:Ad}{s:CS}{f:Fq}{mb:Nat}{M:Nat→Prop}{TS:TypeId}{w' w0:World}
theorem Kr.stab{T:TypeId}{m:Nat}{l:List Int}:EL (λb=>Bx A b∨b=m) (Kr T TS A s m l):=λw f w' f' h hF hb =>
 ⟨As.stab w f w' f' h.1 hF λb hm=>hb b (.inl hm),h.2.heap (hb _ (.inr rfl))⟩
theorem As.chg{T:TypeId}{m:Nat}{w:World}(h:As T TS A s w f)(hC:FQ m w w')(hm:¬Bx A m)(hf:f m=0):As T TS A s w' f :=
 As.stab w f w' f h (FQ.fle hC hf) λb hb=>hC.block b λe=>hm (e▸hb)
theorem N6(l:List Int)(v n:Int):(l++[v]).contains n=(l.contains n||v==n):=by
 cases h:(v==n) with
 |true =>
   have:v=n:=by simpa using h
   subst this;simp
 |false =>
   have:¬v=n:=by simpa using h
   simp;intro h2;exact absurd h2.symm this
theorem uZ(n:Int):Instr.sameBits 10000 (Ez.enc n) (Ez.enc n)=true:=by
 show Instr.sameBits 10000 (.int .i64 n) (.int .i64 n)=true;simp[Instr.sameBits]
theorem Ko(l:List Int)(v n:Int)(q:List Int)(b:Bool):(((if l.contains v then l else l++[v]).contains n||q.contains n)||b)=((l.contains n||(v::q).contains n)||b):=by
 have h1:(v::q).contains n=((v==n)||q.contains n):=by
   rw[List.contains_cons];congr 1
   cases h:(v==n) with
   |true =>
     have:v=n:=by simpa using h
     subst this;simp
   |false =>
     have:¬v=n:=by simpa using h
     simpa using λe:n=v=>this e.symm
 rw[h1]
 split
 · rename_i hc
   cases hv:(v==n) with
   |true =>
     have:v=n:=by simpa using hv
     subst this;rw[hc];simp
   |false=>simp
 · rw[N6,Bool.or_assoc (l.contains n)]
theorem Ox{l:List Int}{v:Int}(h:l.Nodup):(if l.contains v then l else l++[v]).Nodup:=by
 split
 · exact h
 · rename_i hc
   refine List.nodup_append.2 ⟨h,List.pairwise_singleton _ _,λa ha b hb e=>?_⟩;obtain rfl:b=v:=by simpa using hb
   subst e;exact hc (by simpa using ha)
theorem mS{P:Program}{n:Nat}{Q:AU}{ds:List Deferred}{f0:Fq}{T:TypeId}{R:List RB}{B:List FB}{Fs:List (World→Fq→Prop)}{fs:List Fr}{σ:Bc}{H:List HB}
   {all r:List Oper} {ty TM k e:TypeId} {pos:String} {af:Array Edge} {g:Option (Nat×Bool)} {x y z:Operand} {l:List Int} {v:Int} (hg:gd all σ g=some true) (hx:ev σ x=some (.map (some mb))) (hy:ev σ y=some (.int .i64 v)) (hz:ev σ z=some (.bool true))
   (hT:F7 P TM=some (k,e)) (hk:P.underlying k=some (.int .i64)) (hmn:¬Bx A mb) (hnd:l.Nodup)
   (h:A3 P n Q ds ⟨M,λb=>Bx A b∨b=mb,Kr T TS A s mb (if l.contains v then l else l++[v]),w0,f0⟩ R B Fs (.ops all r) fs σ H) :
   A3 P n Q ds ⟨M,λb=>Bx A b∨b=mb,Kr T TS A s mb l,w0,f0⟩ R B Fs (.ops all (⟨none,.mapUpdate TM x y z,ty,pos,af,g⟩::r)) fs σ H:=by
 cases hc:l.contains v with
 |true =>
   rw[hc] at h;exact sT (K:=Ez) (a:=v) (l:=GX l) (I':=Kr T TS A s mb l) hg hx hy hz hT hk (uZ v) (.inr rfl) (K5 hnd) (by rw[TR,hc];rfl) (λw f h=>h.2) (λw f w2 h hM hC hm=>⟨h.1.chg hC hmn (hM.mi mb (.inr rfl)).2.1,hm⟩) Kr.stab h
 |false =>
   rw[hc] at h;exact Ya (K:=Ez) (a:=v) (l:=GX l) (I':=Kr T TS A s mb (l++[v])) hg hx hy hz hT hk (.inr rfl) (K5 hnd) (U6 hc) (λw f h=>h.2) (λw f w2 h hM hC hm=>⟨h.1.chg hC hmn (hM.mi mb (.inr rfl)).2.1,by rw[NT];exact hm⟩) Kr.stab h
theorem F4.cons{e:Ba}(h:F4 e){b:Bd}(h1:b.t.bnd)(h2:b.all.length≤1000000):F4 (b::e):=λb2 hb=>by
 rcases List.mem_cons.1 hb with rfl|hb
 · exact⟨h1,h2⟩
 · exact h b2 hb
theorem Nd.len_le:∀x:Nd,x.len≤x.size
 |.nil=>Nat.le_refl _
 |.cons _ _ _ _ _ k r=>by have:=Nd.len_le r;simp only[Nd.len,Nd.size];omega
theorem Nd.cases1(x:Nd)(h:0<x.len):∃op ln co tx nm k r,x=.cons op ln co tx nm k r:=by
 cases x with
 |nil=>simp[Nd.len] at h
 |cons op ln co tx nm k r=>exact⟨op,ln,co,tx,nm,k,r,rfl⟩
theorem Nd.len0{x:Nd}(h:x.len=0):x=.nil:=by
 cases x with
 |nil=>rfl
 |cons=>simp[Nd.len] at h
def Nd.wfm:Nd→Nat→Prop
 |.nil,m=>m=0∨m=1
 |.cons op _ _ _ _ k r,m =>
   let X:Prop:=(1≤op∧op≤5)∨(op=6∧k.wfm 0)∨(op=7∧k.wfm 4)∨((op=8∨op=12)∧0<k.len∧k.wfm 0)∨((op=9∨op=10)∧k.wfm 6)∨(op=11∧k.wfm 7)∨(op=13∧k.wfm 0)∨((op=14∨op=15)∧k.wfm 5)∨((op=16∨op=17)∧k.wfm 3)
   match m with
   |0=>X∧r.wfm 0
   |1=>k.wfm 2∧r.wfm 1
   |2=>r.wfm 3
   |3=>X
   |4=>(r=.nil∧X)∨(r≠.nil∧r.wfm 4)
   |5=>X∧r.wfm 1
   |6=>X∧r.wfm 3
   |7=>X∧r.wfm 6
   |_=>False
def Gq(op:Int)(k:Nd):Prop:=(1≤op∧op≤5)∨(op=6∧k.wfm 0)∨(op=7∧k.wfm 4)∨((op=8∨op=12)∧0<k.len∧k.wfm 0)∨((op=9∨op=10)∧k.wfm 6)∨(op=11∧k.wfm 7)∨(op=13∧k.wfm 0)∨((op=14∨op=15)∧k.wfm 5)∨((op=16∨op=17)∧k.wfm 3)
section
variable{op ln co nm:Int}{tx:lU}{k r:Nd}
theorem iF:(Nd.cons op ln co tx nm k r).wfm 0↔Gq op k∧r.wfm 0:=Iff.rfl
theorem sG:(Nd.cons op ln co tx nm k r).wfm 1↔k.wfm 2∧r.wfm 1:=Iff.rfl
theorem rZ:(Nd.cons op ln co tx nm k r).wfm 2↔r.wfm 3:=Iff.rfl
theorem Vf:(Nd.cons op ln co tx nm k r).wfm 3↔Gq op k:=Iff.rfl
theorem mY:(Nd.cons op ln co tx nm k r).wfm 4↔(r=.nil∧Gq op k)∨(r≠.nil∧r.wfm 4):=Iff.rfl
theorem tM:(Nd.cons op ln co tx nm k r).wfm 6↔Gq op k∧r.wfm 3:=Iff.rfl
end
abbrev nV(op ln co:Int)(tx:lU)(nm:Int)(k:Nd)(na:Option Addr)(nc:Nat):Value:=.agg #[.int .i64 op,.int .i64 ln,.int .i64 co,S tx,.int .i64 nm,.slice na k.len nc]
def YJ(P:Program)(fid:FuncId)(n:Nat):Prop:=∀(w:World)(f:Fq)(_:Vl w f)(op ln co nm:Int)(tx:lU)(kids:Nd)(na:Option Addr)(nc:Nat),kids.size<n→kids.size≤1000000→AD w f kids na nc →
 Bq P fid #[nV op ln co tx nm kids na nc] w (B4 (α:=Unit) (λ_=>.bool (Cm n op kids)) (λ_=>True) (λ_=>[]) w f)
end Go.SP
namespace Go.SW
open Go.RowKit
variable {σ':Bc}{vs:List Value}{d:Nat}{x0 x1 x10 x2 x3 x4 x5 x6 x7 x8 x9:Value}{a0 a1 a10 a11 a12 a13 a2 a3 a4 a5 a6 a7 a8 a9:World→Fq→Prop}
theorem lE{σ:Bc}(h:Le σ' σ:=by (repeat (first|exact Ix _|refine A6 ?_ rfl))):Le σ' σ:=h
theorem uV{σ:Bc}{a0:Nat}(h0:σ a0=some x0):Le (AA e0 a0 x0) σ:=A6 (Ix _) h0
@[reducible] def E2(a0:Nat)(x0:Value)(a1:Nat)(x1:Value):Bc:=AA (AA e0 a0 x0) a1 x1
theorem uO{σ:Bc}{a0 a1 a2:Nat}(h0:σ a0=some x0)(h1:σ a1=some x1)(h2:σ a2=some x2):Le (AA (AA (AA e0 a0 x0) a1 x1) a2 x2) σ:=A6 (A6 (A6 (Ix _) h0) h1) h2
@[reducible] def E3(a0:Nat)(x0:Value)(a1:Nat)(x1:Value)(a2:Nat)(x2:Value):Bc:=AA (AA (AA e0 a0 x0) a1 x1) a2 x2
theorem sQ{σ:Bc}{a0 a1 a2 a3:Nat}(h0:σ a0=some x0)(h1:σ a1=some x1)(h2:σ a2=some x2)(h3:σ a3=some x3):Le (AA (AA (AA (AA e0 a0 x0) a1 x1) a2 x2) a3 x3) σ:=A6 (A6 (A6 (A6 (Ix _) h0) h1) h2) h3
@[reducible] def E4(a0:Nat)(x0:Value)(a1:Nat)(x1:Value)(a2:Nat)(x2:Value)(a3:Nat)(x3:Value):Bc:=AA (AA (AA (AA e0 a0 x0) a1 x1) a2 x2) a3 x3
theorem uG{σ:Bc}{a0 a1 a2 a3 a4:Nat}(h0:σ a0=some x0)(h1:σ a1=some x1)(h2:σ a2=some x2)(h3:σ a3=some x3)(h4:σ a4=some x4):Le (AA (AA (AA (AA (AA e0 a0 x0) a1 x1) a2 x2) a3 x3) a4 x4) σ:=A6 (A6 (A6 (A6 (A6 (Ix _) h0) h1) h2) h3) h4
@[reducible] def E5(a0:Nat)(x0:Value)(a1:Nat)(x1:Value)(a2:Nat)(x2:Value)(a3:Nat)(x3:Value)(a4:Nat)(x4:Value):Bc:=AA (AA (AA (AA (AA e0 a0 x0) a1 x1) a2 x2) a3 x3) a4 x4
theorem uP{σ:Bc}{a0 a1 a2 a3 a4 a5:Nat}(h0:σ a0=some x0)(h1:σ a1=some x1)(h2:σ a2=some x2)(h3:σ a3=some x3)(h4:σ a4=some x4)(h5:σ a5=some x5):Le (AA (AA (AA (AA (AA (AA e0 a0 x0) a1 x1) a2 x2) a3 x3) a4 x4) a5 x5) σ:=A6 (A6 (A6 (A6 (A6 (A6 (Ix _) h0) h1) h2) h3) h4) h5
@[reducible] def E6(a0:Nat)(x0:Value)(a1:Nat)(x1:Value)(a2:Nat)(x2:Value)(a3:Nat)(x3:Value)(a4:Nat)(x4:Value)(a5:Nat)(x5:Value):Bc:=AA (AA (AA (AA (AA (AA e0 a0 x0) a1 x1) a2 x2) a3 x3) a4 x4) a5 x5
theorem vJ{σ:Bc}{a0 a1 a2 a3 a4 a5 a6:Nat}(h0:σ a0=some x0)(h1:σ a1=some x1)(h2:σ a2=some x2)(h3:σ a3=some x3)(h4:σ a4=some x4)(h5:σ a5=some x5)(h6:σ a6=some x6):Le (AA (AA (AA (AA (AA (AA (AA e0 a0 x0) a1 x1) a2 x2) a3 x3) a4 x4) a5 x5) a6 x6) σ:=A6 (A6 (A6 (A6 (A6 (A6 (A6 (Ix _) h0) h1) h2) h3) h4) h5) h6
@[reducible] def E7(a0:Nat)(x0:Value)(a1:Nat)(x1:Value)(a2:Nat)(x2:Value)(a3:Nat)(x3:Value)(a4:Nat)(x4:Value)(a5:Nat)(x5:Value)(a6:Nat)(x6:Value):Bc:=AA (AA (AA (AA (AA (AA (AA e0 a0 x0) a1 x1) a2 x2) a3 x3) a4 x4) a5 x5) a6 x6
theorem rJ{σ:Bc}{a0 a1 a2 a3 a4 a5 a6 a7:Nat}(h0:σ a0=some x0)(h1:σ a1=some x1)(h2:σ a2=some x2)(h3:σ a3=some x3)(h4:σ a4=some x4)(h5:σ a5=some x5)(h6:σ a6=some x6)(h7:σ a7=some x7):Le (AA (AA (AA (AA (AA (AA (AA (AA e0 a0 x0) a1 x1) a2 x2) a3 x3) a4 x4) a5 x5) a6 x6) a7 x7) σ:=A6 (A6 (A6 (A6 (A6 (A6 (A6 (A6 (Ix _) h0) h1) h2) h3) h4) h5) h6) h7
@[reducible] def E8(a0:Nat)(x0:Value)(a1:Nat)(x1:Value)(a2:Nat)(x2:Value)(a3:Nat)(x3:Value)(a4:Nat)(x4:Value)(a5:Nat)(x5:Value)(a6:Nat)(x6:Value)(a7:Nat)(x7:Value):Bc:=AA (AA (AA (AA (AA (AA (AA (AA e0 a0 x0) a1 x1) a2 x2) a3 x3) a4 x4) a5 x5) a6 x6) a7 x7
theorem dN{σ:Bc}{a0 a1 a2 a3 a4 a5 a6 a7 a8:Nat}(h0:σ a0=some x0)(h1:σ a1=some x1)(h2:σ a2=some x2)(h3:σ a3=some x3)(h4:σ a4=some x4)(h5:σ a5=some x5)(h6:σ a6=some x6)(h7:σ a7=some x7)(h8:σ a8=some x8):Le (AA (AA (AA (AA (AA (AA (AA (AA (AA e0 a0 x0) a1 x1) a2 x2) a3 x3) a4 x4) a5 x5) a6 x6) a7 x7) a8 x8) σ:=A6 (A6 (A6 (A6 (A6 (A6 (A6 (A6 (A6 (Ix _) h0) h1) h2) h3) h4) h5) h6) h7) h8
@[reducible] def E9(a0:Nat)(x0:Value)(a1:Nat)(x1:Value)(a2:Nat)(x2:Value)(a3:Nat)(x3:Value)(a4:Nat)(x4:Value)(a5:Nat)(x5:Value)(a6:Nat)(x6:Value)(a7:Nat)(x7:Value)(a8:Nat)(x8:Value):Bc:=AA (AA (AA (AA (AA (AA (AA (AA (AA e0 a0 x0) a1 x1) a2 x2) a3 x3) a4 x4) a5 x5) a6 x6) a7 x7) a8 x8
@[reducible] def vG(a0:Nat)(x0:Value)(a1:Nat)(x1:Value)(a2:Nat)(x2:Value)(a3:Nat)(x3:Value)(a4:Nat)(x4:Value)(a5:Nat)(x5:Value)(a6:Nat)(x6:Value)(a7:Nat)(x7:Value)(a8:Nat)(x8:Value)(a9:Nat)(x9:Value):Bc:=AA (AA (AA (AA (AA (AA (AA (AA (AA (AA e0 a0 x0) a1 x1) a2 x2) a3 x3) a4 x4) a5 x5) a6 x6) a7 x7) a8 x8) a9 x9
theorem sN{σ:Bc}{a0 a1 a2 a3 a4 a5 a6 a7 a8 a9 a10:Nat}(h0:σ a0=some x0)(h1:σ a1=some x1)(h2:σ a2=some x2)(h3:σ a3=some x3)(h4:σ a4=some x4)(h5:σ a5=some x5)(h6:σ a6=some x6)(h7:σ a7=some x7)(h8:σ a8=some x8)(h9:σ a9=some x9)(h10:σ a10=some x10):Le (AA (AA (AA (AA (AA (AA (AA (AA (AA (AA (AA e0 a0 x0) a1 x1) a2 x2) a3 x3) a4 x4) a5 x5) a6 x6) a7 x7) a8 x8) a9 x9) a10 x10) σ:=A6 (A6 (A6 (A6 (A6 (A6 (A6 (A6 (A6 (A6 (A6 (Ix _) h0) h1) h2) h3) h4) h5) h6) h7) h8) h9) h10
@[reducible] def lV(a0:Nat)(x0:Value)(a1:Nat)(x1:Value)(a2:Nat)(x2:Value)(a3:Nat)(x3:Value)(a4:Nat)(x4:Value)(a5:Nat)(x5:Value)(a6:Nat)(x6:Value)(a7:Nat)(x7:Value)(a8:Nat)(x8:Value)(a9:Nat)(x9:Value)(a10:Nat)(x10:Value):Bc:=AA (AA (AA (AA (AA (AA (AA (AA (AA (AA (AA e0 a0 x0) a1 x1) a2 x2) a3 x3) a4 x4) a5 x5) a6 x6) a7 x7) a8 x8) a9 x9) a10 x10
@[reducible] def uQ(a0:Nat)(x0:Value)(a1:Nat)(x1:Value)(a2:Nat)(x2:Value)(a3:Nat)(x3:Value)(a4:Nat)(x4:Value)(a5:Nat)(x5:Value)(a6:Nat)(x6:Value)(a7:Nat)(x7:Value)(a8:Nat)(x8:Value)(a9:Nat)(x9:Value)(a10:Nat)(x10:Value)(a11:Nat)(x11:Value):Bc:=AA (AA (AA (AA (AA (AA (AA (AA (AA (AA (AA (AA e0 a0 x0) a1 x1) a2 x2) a3 x3) a4 x4) a5 x5) a6 x6) a7 x7) a8 x8) a9 x9) a10 x10) a11 x11
theorem oZ{σ:Bc}{a0 a1 a2 a3 a4 a5 a6 a7 a8 a9 a10 a11 a12 a13 a14 a15:Nat}{x11 x12 x13 x14 x15:Value}(h0:σ a0=some x0)(h1:σ a1=some x1)(h2:σ a2=some x2)(h3:σ a3=some x3)(h4:σ a4=some x4)(h5:σ a5=some x5)(h6:σ a6=some x6)(h7:σ a7=some x7)(h8:σ a8=some x8)(h9:σ a9=some x9)(h10:σ a10=some x10)(h11:σ a11=some x11)(h12:σ a12=some x12)(h13:σ a13=some x13)(h14:σ a14=some x14)(h15:σ a15=some x15):Le (AA (AA (AA (AA (AA (AA (AA (AA (AA (AA (AA (AA (AA (AA (AA (AA e0 a0 x0) a1 x1) a2 x2) a3 x3) a4 x4) a5 x5) a6 x6) a7 x7) a8 x8) a9 x9) a10 x10) a11 x11) a12 x12) a13 x13) a14 x14) a15 x15) σ:=A6 (A6 (A6 (A6 (A6 (A6 (A6 (A6 (A6 (A6 (A6 (A6 (A6 (A6 (A6 (A6 (Ix _) h0) h1) h2) h3) h4) h5) h6) h7) h8) h9) h10) h11) h12) h13) h14) h15
@[reducible] def lX(a0:Nat)(x0:Value)(a1:Nat)(x1:Value)(a2:Nat)(x2:Value)(a3:Nat)(x3:Value)(a4:Nat)(x4:Value)(a5:Nat)(x5:Value)(a6:Nat)(x6:Value)(a7:Nat)(x7:Value)(a8:Nat)(x8:Value)(a9:Nat)(x9:Value)(a10:Nat)(x10:Value)(a11:Nat)(x11:Value)(a12:Nat)(x12:Value)(a13:Nat)(x13:Value)(a14:Nat)(x14:Value)(a15:Nat)(x15:Value):Bc:=AA (AA (AA (AA (AA (AA (AA (AA (AA (AA (AA (AA (AA (AA (AA (AA e0 a0 x0) a1 x1) a2 x2) a3 x3) a4 x4) a5 x5) a6 x6) a7 x7) a8 x8) a9 x9) a10 x10) a11 x11) a12 x12) a13 x13) a14 x14) a15 x15
theorem mR{α:Type}{F' Fs:List α}(ix:List Nat)(h:ix.map (nth Fs)=F'.map some:=by rfl):∀φ,φ∈F'→φ∈Fs:=λφ hφ=>by
 have h1:some φ∈ix.map (nth Fs):=by rw[h];exact List.mem_map.2 ⟨φ,hφ,rfl⟩
 obtain⟨i,_,hi⟩:=List.mem_map.1 h1;rw[Ef] at hi;exact List.mem_of_getElem? hi
theorem sK{α:Type}{a:α}{l l':List α}(h:l.Sublist l'):(a::l).Sublist (a::l'):=.cons_cons _ h
theorem sD{α:Type}{a:α}{l l':List α}(h:l.Sublist l'):l.Sublist (a::l'):=.cons _ h
theorem sZ{α:Type}:([]:List α).Sublist []:=.slnil
theorem sR{α:Type}{l:List α}:l.Sublist l:=List.Sublist.refl _
theorem nE{α:Type _}{p:α→Prop}:∀e,e∈([]:List α)→p e:=λ_ h=>by cases h
theorem EA{α:Sort _}{β:α→Sort _}{γ:(a:α)→β a→Sort _}{δ:(a:α)→(b:β a)→γ a b→Sort _}:∀(a:α)(b:β a)(c:γ a b)(_:δ a b c),True:=λ_ _ _ _=>trivial
@[reducible] def rd:List Nat→OT→OT
 | [],t=>t
 |i::l,t=>.rd i (rd l t)
section
variable{X:Cx}{w:World}{f:Fq}{H:List HB}{R:List RB}{B:List FB}{Fs:List (World→Fq→Prop)}
theorem AN.mz(h:AN X w f H R B Fs):∀b,X.MI b→f b=0:=λb hb=>(h.mi b hb).2.1
theorem AN.f0(h:AN X w f H R B (a0::Fs)):a0 w f:=h.fac _ (List.mem_of_getElem? (i:=0) rfl)
theorem AN.f1(h:AN X w f H R B (a0::a1::Fs)):a1 w f:=h.fac _ (List.mem_of_getElem? (i:=1) rfl)
theorem AN.f2(h:AN X w f H R B (a0::a1::a2::Fs)):a2 w f:=h.fac _ (List.mem_of_getElem? (i:=2) rfl)
theorem AN.f3(h:AN X w f H R B (a0::a1::a2::a3::Fs)):a3 w f:=h.fac _ (List.mem_of_getElem? (i:=3) rfl)
theorem AN.f4(h:AN X w f H R B (a0::a1::a2::a3::a4::Fs)):a4 w f:=h.fac _ (List.mem_of_getElem? (i:=4) rfl)
theorem AN.f5(h:AN X w f H R B (a0::a1::a2::a3::a4::a5::Fs)):a5 w f:=h.fac _ (List.mem_of_getElem? (i:=5) rfl)
theorem AN.f6(h:AN X w f H R B (a0::a1::a2::a3::a4::a5::a6::Fs)):a6 w f:=h.fac _ (List.mem_of_getElem? (i:=6) rfl)
theorem AN.f7(h:AN X w f H R B (a0::a1::a2::a3::a4::a5::a6::a7::Fs)):a7 w f:=h.fac _ (List.mem_of_getElem? (i:=7) rfl)
theorem AN.f8(h:AN X w f H R B (a0::a1::a2::a3::a4::a5::a6::a7::a8::Fs)):a8 w f:=h.fac _ (List.mem_of_getElem? (i:=8) rfl)
theorem AN.f9(h:AN X w f H R B (a0::a1::a2::a3::a4::a5::a6::a7::a8::a9::Fs)):a9 w f:=h.fac _ (List.mem_of_getElem? (i:=9) rfl)
theorem AN.f10(h:AN X w f H R B (a0::a1::a2::a3::a4::a5::a6::a7::a8::a9::a10::Fs)):a10 w f:=h.fac _ (List.mem_of_getElem? (i:=10) rfl)
theorem AN.f12(h:AN X w f H R B (a0::a1::a2::a3::a4::a5::a6::a7::a8::a9::a10::a11::a12::Fs)):a12 w f:=h.fac _ (List.mem_of_getElem? (i:=12) rfl)
theorem AN.f13(h:AN X w f H R B (a0::a1::a2::a3::a4::a5::a6::a7::a8::a9::a10::a11::a12::a13::Fs)):a13 w f:=h.fac _ (List.mem_of_getElem? (i:=13) rfl)
theorem AN.f16{a14 a15 a16:World→Fq→Prop}(h:AN X w f H R B (a0::a1::a2::a3::a4::a5::a6::a7::a8::a9::a10::a11::a12::a13::a14::a15::a16::Fs)):a16 w f:=h.fac _ (List.mem_of_getElem? (i:=16) rfl)
theorem AN.b0{a0:FB}(h:AN X w f H R (a0::B) Fs):Cs w f a0.b a0.off a0.l:=h.fro _ (List.mem_of_getElem? (i:=0) rfl)
theorem AN.b1{a0 a1:FB}(h:AN X w f H R (a0::a1::B) Fs):Cs w f a1.b a1.off a1.l:=h.fro _ (List.mem_of_getElem? (i:=1) rfl)
theorem AN.b2{a0 a1 a2:FB}(h:AN X w f H R (a0::a1::a2::B) Fs):Cs w f a2.b a2.off a2.l:=h.fro _ (List.mem_of_getElem? (i:=2) rfl)
theorem AN.b3{a0 a1 a2 a3:FB}(h:AN X w f H R (a0::a1::a2::a3::B) Fs):Cs w f a3.b a3.off a3.l:=h.fro _ (List.mem_of_getElem? (i:=3) rfl)
theorem AN.b4{a0 a1 a2 a3 a4:FB}(h:AN X w f H R (a0::a1::a2::a3::a4::B) Fs):Cs w f a4.b a4.off a4.l:=h.fro _ (List.mem_of_getElem? (i:=4) rfl)
theorem AN.b5{a0 a1 a2 a3 a4 a5:FB}(h:AN X w f H R (a0::a1::a2::a3::a4::a5::B) Fs):Cs w f a5.b a5.off a5.l:=h.fro _ (List.mem_of_getElem? (i:=5) rfl)
theorem AN.b6{a0 a1 a2 a3 a4 a5 a6:FB}(h:AN X w f H R (a0::a1::a2::a3::a4::a5::a6::B) Fs):Cs w f a6.b a6.off a6.l:=h.fro _ (List.mem_of_getElem? (i:=6) rfl)
theorem AN.b7{a0 a1 a2 a3 a4 a5 a6 a7:FB}(h:AN X w f H R (a0::a1::a2::a3::a4::a5::a6::a7::B) Fs):Cs w f a7.b a7.off a7.l:=h.fro _ (List.mem_of_getElem? (i:=7) rfl)
theorem AN.k0{a0:HB}(h:AN X w f (a0::H) R B Fs):AI w a0.b a0.l a0.T:=h.blk _ (List.mem_of_getElem? (i:=0) rfl)
theorem sI{a0:HB}{H:List HB}:a0∈a0::H:=List.mem_of_getElem? (i:=0) rfl
theorem AN.k1{a0 a1:HB}(h:AN X w f (a0::a1::H) R B Fs):AI w a1.b a1.l a1.T:=h.blk _ (List.mem_of_getElem? (i:=1) rfl)
theorem jH{a0 a1:HB}{H:List HB}:a1∈a0::a1::H:=List.mem_of_getElem? (i:=1) rfl
theorem AN.k2{a0 a1 a2:HB}(h:AN X w f (a0::a1::a2::H) R B Fs):AI w a2.b a2.l a2.T:=h.blk _ (List.mem_of_getElem? (i:=2) rfl)
theorem Um{a0 a1 a2:HB}{H:List HB}:a2∈a0::a1::a2::H:=List.mem_of_getElem? (i:=2) rfl
theorem AN.k3{a0 a1 a2 a3:HB}(h:AN X w f (a0::a1::a2::a3::H) R B Fs):AI w a3.b a3.l a3.T:=h.blk _ (List.mem_of_getElem? (i:=3) rfl)
theorem U4{a0 a1 a2 a3:HB}{H:List HB}:a3∈a0::a1::a2::a3::H:=List.mem_of_getElem? (i:=3) rfl
theorem AN.k4{a0 a1 a2 a3 a4:HB}(h:AN X w f (a0::a1::a2::a3::a4::H) R B Fs):AI w a4.b a4.l a4.T:=h.blk _ (List.mem_of_getElem? (i:=4) rfl)
theorem Y0{a0 a1 a2 a3 a4:HB}{H:List HB}:a4∈a0::a1::a2::a3::a4::H:=List.mem_of_getElem? (i:=4) rfl
theorem tF{a0 a1 a2 a3 a4 a5:HB}{H:List HB}:a5∈a0::a1::a2::a3::a4::a5::H:=List.mem_of_getElem? (i:=5) rfl
end
section
variable{P:Program}{σ:Bc}{ty:TypeId}
theorem eC{f:FuncId}{g:Operand}{args:List Operand}{ts:Array TypeId}(he:B9 P f)(hg:ev σ g=some (.func (.func f) #[] #[]))(ha:Ia σ args=some vs) :
   ∀w,Enters P σ (.call {callee:=.value g,args:=args.toArray,argTypes:=ts}) ty w f vs.toArray:=λ_=>Aw he hg ha
theorem CQ{fn:Func}{v:Value}{X:Cx}{H:List HB}{R:List RB}{B:List FB}{Fs:List (World→Fq→Prop)}(hr:fn.results=#[.tmp d])(h:σ d=some v):∀w f,AN X w f H R B Fs→Td P fn σ w v:=λ_ _ _=>A9 hr (Ah h)
end
section
variable{P:Program}{n:Nat}{Q:AU}{ds:List Deferred}{X:Cx}{R:List RB}{B:List FB}{Fs:List (World→Fq→Prop)}{fs:List Fr}{σ:Bc}{H Hk:List HB}{l:List Oper}
variable {id:Nat}
theorem Cz(ix:List Nat)(hm:P.follows .mixedOrders=true)(t:OT)(hk:Lu H ix=some Hk)(hok:(t.ok l.toArray true (Array.replicate l.length false)&&(t.even true l.length&&Region.noSelect l.toArray))=true) 
   (h:CM P n (Ln P n Q fs) ds X R B Fs l Hk B (λ_=>True) true t σ H) (hpi:PI Q:=by exact λ_ _ _ _ _ h=>h):A3 P n Q ds X R B Fs (.code (.region id l.toArray true)) fs σ H:=by
 simp only[Bool.and_eq_true] at hok;exact Kv (λ_=>True) (λ_ _ _ _=>trivial) ix hm t hk hok.1 hok.2.1 hok.2.2 hpi h
theorem Au{B0:List FB}{k:OT}(ix:List Nat)(hk:Lu H ix=some Hk)(h:CM P n Q ds X R B0 Fs l Hk B0 (λ_=>True) true k σ H):A3 P n (Vv P n l Q (Kp Hk B0 (λ_=>True)) k) ds X R B0 Fs (.out .normal) [] σ H :=
 AW ix (λ_ _ _ _=>trivial) hk (λ_ h=>h) h
theorem Dk{k:JS}(φ:World→Fq→Prop)(h1:∀w f,AN X w f H R B Fs→φ w f)(hm:F6 φ)(h:A3 P n Q ds X R B (φ::Fs) k fs σ H):A3 P n Q ds X R B Fs k fs σ H:=λw f hM =>
 h w f (hM.more (B':=[]) (F':=[φ]) (λ_ h=>by cases h) (AE.mem ⟨h1 w f hM,tQ⟩) (Ax.mem ⟨hm,tQ⟩))
variable{all r:List Oper}{ty T:TypeId}{pos:String}{af:Array Edge}{g:Option (Nat×Bool)}{d:Nat}{op:Op}{fid:FuncId}{args:Array Value}
theorem CN{c:Value}(hg:gd all σ g=some true)(hd:Nat.blt d n=true)(he:∀w,Enters P σ op ty w fid args)(hc:∀w f,AN X w f H R B Fs→Bq P fid args w λv w'=>v=c∧AR w w')
   (h:A3 P n Q ds X R B Fs (.ops all r) fs (AA σ d c) H):A3 P n Q ds X R B Fs (.ops all (⟨some d,op,ty,pos,af,g⟩::r)) fs σ H :=
 Bw (α:=Unit) (val:=λ_=>c) (q:=λ_=>True) (F':=λ_=>[]) hg hd he (λw f hM=>(hc w f hM).mono λ_ _ ⟨h1,h2⟩=>⟨(),f,h1,tQ,C1.of_ext h2 hM.val,tQ⟩) (λ_=>trivial) (λ_ _=>h)
end
theorem oE{α:Type}{p:α→Prop}{a:α}(h:p a):∀e,e∈[a]→p e:=λe he=>by
 cases he with
 |head=>exact h
 |tail _ h=>cases h
end Go.SW
namespace Go.SW
open Go.RowKit Go.SP
variable {f:Fq}{co ln nm:Int}{j:Nat}{r:Nd}{w:World}{φ:World→Fq→Prop}
theorem AN.fn{X:Cx}{H:List HB}{R:List RB}{B:List FB}{Fs:List (World→Fq→Prop)}(h:AN X w f H R B Fs)(hj:nth Fs j=some φ):φ w f:=h.fac _ (by rw[Ef] at hj;exact List.mem_of_getElem? hj)
section
variable{P:Program}{n:Nat}{Q:AU}{ds:List Deferred}{X:Cx}{R:List RB}{B:List FB}{Fs:List (World→Fq→Prop)}{fs:List Fr}{σ:Bc}{H:List HB}{k:JS}{na:Option Addr}{i c:Nat}
theorem H9{op:Int}{tx:lU}{q:Nd}(j:Nat)(hj:nth Fs j=some (λw f=>AT w f na i (.cons op ln co tx nm q r)))
   (h:∀x:Nat×Nat×Option Addr×Nat,na=some ⟨x.1,x.2.1,none⟩→A3 P n Q ds X R (⟨x.1,x.2.1+i*6,JQ op ln co tx nm x.2.2.1 q.len x.2.2.2⟩::B) ((λw f=>AD w f q x.2.2.1 x.2.2.2)::(λw f=>AT w f na (i+1) r)::Fs) k fs σ H):A3 P n Q ds X R B Fs k fs σ H :=
 LM (α:=Nat×Nat×Option Addr×Nat) (λx=>na=some ⟨x.1,x.2.1,none⟩) (λ_=>[_]) (λ_=>[_,_]) (λ_ _ hM=>let ⟨b,off,ka,kc,h1,h2,h3,h4⟩:=AT.head (hM.fn hj);⟨(b,off,ka,kc),h1,oE h2,AE.mem ⟨h3,h4,tQ⟩⟩) (λ_=>Ax.mem ⟨AD.mono,AT.mono,tQ⟩) h
theorem tL{x:Nd}(j:Nat)(hj:nth Fs j=some (λw f=>AD w f x na c))(h:A3 P n Q ds X R B ((λw f=>AT w f na 0 x)::Fs) k fs σ H):A3 P n Q ds X R B Fs k fs σ H:=Dk _ (λ_ _ hM=>AD.at (hM.fn hj)) AT.mono h
theorem XQ{x y:Nd}(j:Nat)(hj:nth Fs j=some (λw f=>AD w f x na c))(e:x=y)(h:A3 P n Q ds X R B ((λw f=>AT w f na 0 y)::Fs) k fs σ H):A3 P n Q ds X R B Fs k fs σ H:=Dk _ (λ_ _ hM=>by rw[← e];exact AD.at (hM.fn hj)) AT.mono h
theorem WA{t:T1}{r:Ty}(j:Nat)(hj:nth Fs j=some (λw f=>BG w f na i (t.cons r)))
   (h:∀x:Nat×Nat×Option Addr×Nat,na=some ⟨x.1,x.2.1,none⟩→A3 P n Q ds X R (⟨x.1,x.2.1+i*4,tC t x.2.2.1 x.2.2.2⟩::B) ((λw f=>Ak w f t.kids x.2.2.1 x.2.2.2)::(λw f=>BG w f na (i+1) r)::Fs) k fs σ H):A3 P n Q ds X R B Fs k fs σ H :=
 LM (α:=Nat×Nat×Option Addr×Nat) (λx=>na=some ⟨x.1,x.2.1,none⟩) (λ_=>[_]) (λ_=>[_,_]) (λ_ _ hM=>let ⟨b,off,ka,kc,h1,h2,h3,h4⟩:=BG.head (hM.fn hj);⟨(b,off,ka,kc),h1,oE h2,AE.mem ⟨h3,h4,tQ⟩⟩) (λ_=>Ax.mem ⟨Ak.mono,BG.mono,tQ⟩) h
theorem iK{l:List Int}{v:Int}(j:Nat)(hj:nth Fs j=some (λw f=>BL w f l na c))(hx:l[i]?=some v)
   (h:∀x:Nat×Nat,na=some ⟨x.1,x.2,none⟩→A3 P n Q ds X R (⟨x.1,x.2+i*1,[.int .i64 v]⟩::B) Fs k fs σ H):A3 P n Q ds X R B Fs k fs σ H :=
 LM (α:=Nat×Nat) (λx=>na=some ⟨x.1,x.2,none⟩) (λ_=>[_]) (λ_=>[]) (λ_ _ hM=>let ⟨b,off,h1,h2⟩:=BL.get (hM.fn hj) hx;⟨(b,off),h1,oE h2,nE⟩) (λ_=>Ax.mem tQ) h
end
end Go.SW
namespace Go.SW
open Go.RowKit
open Go.SP (PX)
def Qn(T:TypeId)(q:Int×Int→Prop)(w:World)(f:Fq)(c:List PanicEntry)(w':World):Prop:=∃e f',c=PX T e∧q e∧C1 (λ_=>False) w f w' f'
def Yh{α:Type}(e:TypeId)(size:Nat)(n:α→Nat)(xs:α→List Value)(q:α→Prop)(F':α→List (World→Fq→Prop))(w:World)(f:Fq)(v:Value)(w':World):Prop :=
 ∃x a c f',v=.slice a (n x) c∧q x∧C1 (λ_=>False) w f w' f'∧BP w' e size a c (n x) (xs x)∧(∀b,rb a=some b→w.heap.size≤b∧f' b=0)∧AE (F' x) w' f'
variable {f f':Fq}{pe:Int×Int→Prop}{xs:List Value}{w w':World}
theorem AN.addRow{X:Cx}{H:List HB}{R:List RB}{B:List FB}{Fs:List (World→Fq→Prop)}(h:AN X w f H R B Fs)(hE:C1 (λ_=>False) w f w' f'){e:TypeId}{size c n:Nat}{a:Option Addr}
   (hr:BP w' e size a c n xs) (hb:∀b,rb a=some b→w.heap.size≤b∧f' b=0):AN X w' f' H (⟨e,size,a,c,n,xs⟩::R) B Fs:=by
 have h1:=h.call0 hE
 cases ha:rb a with
 |none =>
   have ho:C4 H (⟨e,size,a,c,n,xs⟩::R)=C4 H R:=by simp only[C4,List.filterMap_cons,ha]
   exact {h1 with
     row:=λr hm=>by rcases List.mem_cons.1 hm with rfl|hm;exact hr;exact h1.row r hm,
     nd:=by rw[ho];exact h1.nd,
     own:=by rw[ho];exact h1.own,
     rnw:=λr hm b hb=>by rcases List.mem_cons.1 hm with rfl|hm;(rw[ha] at hb;cases hb);exact h1.rnw r hm b hb}
 |some b =>
   obtain⟨hn,hz⟩:=hb b ha;have ho:C4 H (⟨e,size,a,c,n,xs⟩::R)=H.map (·.b)++b::(R.filterMap λr=>rb r.a):=by simp only[C4,List.filterMap_cons,ha]
   have hp:(H.map (·.b)++b::(R.filterMap λr=>rb r.a)).Perm (b::C4 H R):=List.perm_middle;have hw0:X.w0.heap.size≤b:=Nat.le_trans h.stp.size hn
   exact {h1 with
     row:=λr hm=>by rcases List.mem_cons.1 hm with rfl|hm;exact hr;exact h1.row r hm,
     nd:=by rw[ho];exact hp.nodup_iff.2 (List.nodup_cons.2 ⟨λhm=>by have:=h.lt hm;omega,h1.nd⟩),
     own:=λk hk=>by
       rw[ho] at hk;rcases List.mem_cons.1 (hp.mem_iff.1 hk) with rfl|hk
       · exact⟨hz,.inl hw0,λhm=>by have:=(h.mi _ hm).1;omega⟩
       · exact h1.own k hk,
     rnw:=λr hm b' hb'=>by
       rcases List.mem_cons.1 hm with rfl|hm
       · rw[ha] at hb';cases hb';exact hw0
       · exact h1.rnw r hm b' hb' }
section
variable{P:Program}{n:Nat}{Q:AU}{ds:List Deferred}{X:Cx}{R:List RB}{B:List FB}{Fs:List (World→Fq→Prop)}{fs:List Fr}{σ:Bc}{H:List HB}
variable{all r:List Oper}{ty T:TypeId}{pos:String}{af:Array Edge}{g:Option (Nat×Bool)}{d:Nat}{op:Op}{fid:FuncId}{args:Array Value}{α:Type}
theorem Jc{val:α→Value}{q:α→Prop}{F':α→List (World→Fq→Prop)}
   (hg:gd all σ g=some true) (hd:Nat.blt d n=true) (he:∀w,Enters P σ op ty w fid args)
   (hc:∀w f,AN X w f H R B Fs→BB P fid args w (B4 val q F' w f) (Qn T pe w f)) (hm:∀x,Ax (F' x))
   (hp:∀e w' f',pe e→C1 X.M X.w0 X.f0 w' f'→Q.p (PX T e) σ ds w')
   (h:∀x,q x→A3 P n Q ds X R B (F' x++Fs) (.ops all r) fs (AA σ d (val x)) H):A3 P n Q ds X R B Fs (.ops all (⟨some d,op,ty,pos,af,g⟩::r)) fs σ H:=λw f hM=>by
 refine B1 hg (BW hd (he w) (hc w f hM) ?_ ?_)
 · rintro v w' ⟨x,f',rfl,hq,hE,hF⟩
   exact h x hq w' f' ((hM.call0 hE).more (B':=[]) (λ_ h=>by cases h) hF.mem (hm x).mem)
 · rintro c w' ⟨e,f',rfl,hq,hE⟩
   rw[Lo];exact hp e w' f' hq (hM.call0 hE).exm
theorem fU(hg:gd all σ g=some true)(hd:Nat.blt d n=true)(he:∀w,Enters P σ op ty w fid args)
   (hc:∀w f,AN X w f H R B Fs→BB P fid args w (λ_ _=>False) (Qn T pe w f))
   (hp:∀e w' f',pe e→C1 X.M X.w0 X.f0 w' f'→Q.p (PX T e) σ ds w'):A3 P n Q ds X R B Fs (.ops all (⟨some d,op,ty,pos,af,g⟩::r)) fs σ H :=
 Jc (α:=Unit) (val:=λ_=>.tuple #[]) (q:=λ_=>False) (F':=λ_=>[]) hg hd he (λw f hM=>(hc w f hM).mono (λ_ _ h=>h.elim) λ_ _ h=>h) (λ_=>trivial) hp (λ_ h=>h.elim)
theorem VX{e:TypeId}{size:Nat}{m:α→Nat}{xs:α→List Value}{q:α→Prop}{F':α→List (World→Fq→Prop)}
   (hg:gd all σ g=some true) (hd:Nat.blt d n=true) (he:∀w,Enters P σ op ty w fid args)
   (hc:∀w f,AN X w f H R B Fs→BB P fid args w (Yh e size m xs q F' w f) (Qn T pe w f)) (hm:∀x,Ax (F' x))
   (hp:∀e w' f',pe e→C1 X.M X.w0 X.f0 w' f'→Q.p (PX T e) σ ds w')
   (h:∀x a c,q x→A3 P n Q ds X (⟨e,size,a,c,m x,xs x⟩::R) B (F' x++Fs) (.ops all r) fs (AA σ d (.slice a (m x) c)) H):A3 P n Q ds X R B Fs (.ops all (⟨some d,op,ty,pos,af,g⟩::r)) fs σ H:=λw f hM=>by
 refine B1 hg (BW hd (he w) (hc w f hM) ?_ ?_)
 · rintro v w' ⟨x,a,c,f',rfl,hq,hE,hr,hb,hF⟩
   exact h x a c hq w' f' ((hM.addRow hE hr hb).more (B':=[]) (λ_ h=>by cases h) hF.mem (hm x).mem)
 · rintro c w' ⟨e,f',rfl,hq,hE⟩
   rw[Lo];exact hp e w' f' hq (hM.call0 hE).exm
end
end Go.SW
namespace Go.SP
open Go.SW Go.RowKit
def W6(w:World)(f:Fq):Fo→Nat→Nat→Prop
 |.nil,_,_=>True
 |.cons t k r,b,off=>(∃a c,Cs w f b off [.int .i64 t.k,.int .i64 t.ln,.int .i64 t.co,.int .i64 t.nm,S t.tx,.slice a k.len c]∧k.len≤c∧(k=.nil∨∃b' off',a=some ⟨b',off',none⟩∧W6 w f k b' off'))∧W6 w f r b (off+6)
def DE(w:World)(f:Fq)(k:Fo)(a:Option Addr)(c:Nat):Prop:=k.len≤c∧(k=.nil∨∃b off,a=some ⟨b,off,none⟩∧W6 w f k b off)
variable {f f':Fq}{co ln nm:Int}{xs ys:List Value}{b:Nat}{w w':World}
theorem W6.mono(hF:Hh w f w' f'):∀(k:Fo)(b off:Nat),W6 w f k b off→W6 w' f' k b off
 |.nil,_,_,_=>trivial
 |.cons _ k r,b,off,⟨⟨a,c,h1,h2,h3⟩,h4⟩=>⟨⟨a,c,h1.mono hF,h2,h3.imp id λ⟨b',off',h5,h6⟩=>⟨b',off',h5,W6.mono hF k b' off' h6⟩⟩,W6.mono hF r b _ h4⟩
theorem DE.mono{k:Fo}{a:Option Addr}{c:Nat}:F6 (λw f=>DE w f k a c):=λ_ _ _ _ h hF=>⟨h.1,h.2.imp id λ⟨b,off,h1,h2⟩=>⟨b,off,h1,W6.mono hF k b off h2⟩⟩
theorem DE.nil(w:World)(f:Fq)(a:Option Addr)(c:Nat):DE w f .nil a c:=⟨Nat.zero_le _,.inl rfl⟩
def EE(w:World)(f:Fq)(a:Option Addr)(i:Nat)(r:Fo):Prop:=r=.nil∨∃b off,a=some ⟨b,off,none⟩∧W6 w f r b (off+i*6)
theorem EE.mono{a:Option Addr}{i:Nat}{r:Fo}:F6 (λw f=>EE w f a i r):=λ_ _ _ _ h hF=>h.imp id λ⟨b,off,h1,h2⟩=>⟨b,off,h1,W6.mono hF r b _ h2⟩
theorem DE.at{k:Fo}{a:Option Addr}{c:Nat}(h:DE w f k a c):EE w f a 0 k:=h.2.imp id λ⟨b,off,h1,h2⟩=>⟨b,off,h1,by simpa using h2⟩
def tE(t:AK)(a:Option Addr)(n c:Nat):List Value:=[.int .i64 t.k,.int .i64 t.ln,.int .i64 t.co,.int .i64 t.nm,S t.tx,.slice a n c]
abbrev fV(t:AK)(a:Option Addr)(n c:Nat):Value:=.agg #[.int .i64 t.k,.int .i64 t.ln,.int .i64 t.co,.int .i64 t.nm,S t.tx,.slice a n c]
theorem EE.head{a:Option Addr}{i:Nat}{t:AK}{k r:Fo}(h:EE w f a i (.cons t k r)):∃b off ka kc,a=some ⟨b,off,none⟩∧Cs w f b (off+i*6) (tE t ka k.len kc)∧DE w f k ka kc∧EE w f a (i+1) r:=by
 rcases h with h|⟨b,off,h1,⟨ka,kc,h3,h4⟩,h5⟩
 · cases h
 · exact⟨b,off,ka,kc,h1,h3,h4,.inr ⟨b,off,h1,by rw[show off+(i+1)*6=off+i*6+6 by omega];exact h5⟩⟩
theorem EE.rest{a:Option Addr}{t:AK}{k r:Fo}{c:Nat}(h:DE w f (.cons t k r) a c):DE w f r (EJ a c 6) (c-1):=by
 obtain⟨h1,h2⟩:=h;simp only[Fo.len] at h1;refine⟨oM,?_⟩;rcases h2 with h2|⟨b,off,rfl,h3,h4⟩
 · cases h2
 · by_cases hc:c=1
   · left
     cases r with
     |nil=>rfl
     |cons _ _ _=>simp only[Fo.len] at h1;omega
   · exact .inr ⟨b,off+1*6,by unfold EJ;rw[if_neg hc];rfl,h4⟩
def BT(w:World)(f:Fq):Nd→List Value→Prop
 |.nil,xs=>xs=[]
 |.cons op ln co tx nm k r,xs=>∃a c xs',xs=JQ op ln co tx nm a k.len c++xs'∧AD w f k a c∧BT w f r xs'
theorem BT.mono'(hF:Hh w f w' f'):∀(k:Nd)(xs:List Value),BT w f k xs→BT w' f' k xs
 |.nil,_,h=>h
 |.cons _ _ _ _ _ _ r,_,⟨a,c,xs',h1,h2,h3⟩=>⟨a,c,xs',h1,AD.mono _ _ _ _ h2 hF,BT.mono' hF r xs' h3⟩
theorem BT.mono{k:Nd}:F6 (λw f=>BT w f k xs):=λ_ _ _ _ h hF=>BT.mono' hF k xs h
theorem BT.app{y:Nd}(hy:BT w f y ys):∀{x:Nd}{xs:List Value},BT w f x xs→BT w f (x.app y) (xs++ys)
 |.nil,xs,h=>by have h:xs=[]:=h;subst h;exact hy
 |.cons _ _ _ _ _ _ r,_,⟨a,c,xs',h1,h2,h3⟩=>⟨a,c,xs'++ys,by rw[h1,List.append_assoc],h2,BT.app hy h3⟩
theorem BT.one{op:Int}{tx:lU}{k:Nd}{a:Option Addr}{c:Nat}(h:AD w f k a c):BT w f (.cons op ln co tx nm k .nil) (JQ op ln co tx nm a k.len c):=⟨a,c,[],by simp,h,rfl⟩
theorem BT.len:∀{k:Nd}{xs:List Value},BT w f k xs→xs.length=k.len*6
 |.nil,xs,h=>by have h:xs=[]:=h;subst h;rfl
 |.cons _ _ _ _ _ _ r,_,⟨a,c,xs',h1,h2,h3⟩=>by subst h1;have:=BT.len h3;simp[Nd.len,JQ,this];omega
theorem BT.toG:∀{k:Nd}{xs:List Value}{off:Nat},BT w f k xs→Cs w f b off xs→N8 w f k b off
 |.nil,_,_,_,_=>trivial
 |.cons _ _ _ _ _ k r,_,off,⟨a,c,xs',h1,h2,h3⟩,hC=>by
   subst h1;exact⟨⟨a,c,Cs.le hC,h2⟩,BT.toG h3 (Cs.drop hC)⟩
theorem BT.toF{c:Nat}{k:Nd}(h:BT w f k xs)(hC:Cs w f b 0 xs)(hc:k.len≤c):AD w f k (some ⟨b,0,none⟩) c:=⟨hc,.inr ⟨b,0,rfl,BT.toG h hC⟩⟩
theorem JM{X:Cx}{H:List HB}{R:List RB}{B:List FB}{Fs:List (World→Fq→Prop)}{e:TypeId}{a:Option Addr}{c m:Nat}{k:Nd}(hM:AN X w f H (⟨e,6,a,c,m,xs⟩::R) B Fs)(hL:BT w f k xs):∃f',AN X w f' H R B Fs∧AD w f' k a c:=by
 have hr:=hM.row _ (.head _);have hlen:=BT.len hL;have hm:m=k.len:=by have:=hr.1;simp only at this;omega
 rcases hr.2 with ⟨_,_,h⟩|⟨b,l,ha,_,hmc,_⟩
 · simp only at h
   have h0:k=.nil:=by
     cases k with
     |nil=>rfl
     |cons _ _ _ _ _ _ _=>simp only[Nd.len] at hm;omega
   exact⟨f,hM.less (List.Sublist.refl _) (List.sublist_cons_self _ _) (λ_ h=>h) (λ_ h=>h),by rw[h0];exact⟨Nat.zero_le _,.inl rfl⟩⟩
 · simp only at ha hmc
   subst ha;obtain⟨f',hM'⟩:=(hM.more (B':=[]) (F':=[λw f=>BT w f k xs]) (λ_ h=>by cases h) (AE.mem ⟨hL,tQ⟩) (Ax.mem ⟨BT.mono,tQ⟩)).done (i:=0) rfl rfl;exact⟨f',hM'.less (List.Sublist.refl _) (List.Sublist.refl _) (λe he=>.tail _ he) (λφ h=>.tail _ h),BT.toF (hM'.fact (i:=0) rfl) (hM'.fro _ (.head _)) oM⟩
end Go.SP
namespace Go.SP
open Go.SW Go.RowKit
theorem Nd.app_len:∀x y:Nd,(x.app y).len=x.len+y.len
 |.nil,y=>by simp[Nd.app,Nd.len]
 |.cons _ _ _ _ _ _ r,y=>by simp only[Nd.app,Nd.len,Nd.app_len r y];omega
section
variable{m:AK→Fo→R N}{t:AK}{k r:Fo}{a:N}{dn:Nd}{e:Int×Int}
theorem T0(h:m t k=.ok a):(match Bk m (.cons t k r) with|.error e=>.error e|.ok b=>.ok (dn.app b):R Nd)=(match Bk m r with|.error e=>.error e|.ok b=>.ok ((dn.app a.one).app b)):=by
 simp only[Bk,h]
 cases Bk m r with
 |error e=>rfl
 |ok b=>simp only[Nd.app_assoc];rfl
theorem Wg(h:m t k=.error e):(match Bk m (.cons t k r) with|.error e=>.error e|.ok b=>.ok (dn.app b):R Nd)=.error e:=by simp only[Bk,h]
theorem R3{l:Fo}:Bk m l=(match Bk m l with|.error e=>.error e|.ok b=>.ok (Nd.nil.app b)):=by cases Bk m l <;> rfl
end
theorem Fo.cases1:∀r:Fo,0<r.len→∃t k q,r=.cons t k q
 |.nil,h=>by cases h
 |.cons t k q,_=>⟨t,k,q,rfl⟩
theorem Fo.len0:∀{r:Fo},r.len=0→r=.nil
 |.nil,_=>rfl
 |.cons _ _ _,h=>by simp[Fo.len] at h
abbrev Hp(x:R N)(w:World)(f:Fq):Value→World→Prop:=B4 (α:=N×Option Addr×Nat) (λy=>nV y.1.op y.1.ln y.1.co y.1.tx y.1.nm y.1.kids y.2.1 y.2.2) (λy=>x=.ok y.1) (λy=>[λw f=>AD w f y.1.kids y.2.1 y.2.2]) w f
abbrev HU(T:TypeId)(x:R N)(w:World)(f:Fq):List PanicEntry→World→Prop:=Qn T (λe=>x=.error e) w f
end Go.SP
namespace Go.SP
open Go.SW Go.RowKit
variable {f:Fq}{w w':World}
theorem Yh.fro{T:TypeId}{q:Nd×List Value→Prop}{v:Value}(hv:Vl w f)(h:Yh T 6 (λx:Nd×List Value=>x.1.len) (λx=>x.2) q (λx=>[λw f=>BT w f x.1 x.2]) w f v w') :
   B4 (α:=(Nd×List Value)×Option Addr×Nat) (λy=>.slice y.2.1 y.1.1.len y.2.2) (λy=>q y.1) (λy=>[λw f=>AD w f y.1.1 y.2.1 y.2.2]) w f v w':=by
 obtain⟨x,a,c,f',h1,h2,h3,h4,h5,h6,-⟩:=h;have hM:=(Ca hv (Fs:=[]) tQ tQ).addRow h3 h4 h5;obtain⟨f2,hM2,h7⟩:=JM hM h6;exact⟨(x,a,c),f2,h1,h2,hM2.exm,h7,tQ⟩
end Go.SP
namespace Go.SP
open Go.SW Go.RowKit
variable {lo x:Operand}{w:World}
theorem G8{P:Program}{σ:Bc}{ty T e:TypeId}{k len m c:Nat}{a:Option Addr}(hl:len=m+1)(hx:ev σ x=some (.slice a len c))(hlo:ev σ lo=some (.int .i64 1))(hs:Ii P T=some (e,k)):AG P σ (.slice T x (some lo) none none) ty w (.slice (EJ a c k) m (c-1)) w:=by
 subst hl;exact UI hx hlo hs
end Go.SP
namespace Go.SP
open Go.SW Go.RowKit
variable {f:Fq}{xs:List Value}{w:World}
theorem BT.one':∀{k:Nd}{xs:List Value},BT w f k xs→∀v∈xs,v.oneCell'=true
 |.nil,xs,h,v,hv=>by have h:xs=[]:=h;subst h;cases hv
 |.cons _ _ _ _ _ _ r,_,⟨a,c,xs',h1,h2,h3⟩,v,hv=>by
   subst h1;rcases List.mem_append.1 hv with hv|hv
   · simp only[JQ,List.mem_cons,List.not_mem_nil,or_false] at hv
     rcases hv with rfl|rfl|rfl|rfl|rfl|rfl <;> rfl
   · exact BT.one' h3 v hv
theorem BT.cons'{nd:N}{r:Nd}{a:Option Addr}{c:Nat}(h:AD w f nd.kids a c)(hr:BT w f r xs):BT w f (nd.cons r) (JQ nd.op nd.ln nd.co nd.tx nd.nm a nd.kids.len c++xs):=⟨a,c,xs,rfl,h,hr⟩
theorem Fo.two:∀l:Fo,(∃p pk b bk,l=.cons p pk (.cons b bk .nil))∨l.len≠2
 |.nil=>.inr (by simp[Fo.len])
 |.cons _ _ .nil=>.inr (by simp[Fo.len])
 |.cons p pk (.cons b bk .nil)=>.inl ⟨p,pk,b,bk,rfl⟩
 |.cons _ _ (.cons _ _ (.cons _ _ r))=>.inr (by simp only[Fo.len];omega)
theorem Fo.three:∀l:Fo,(∃p pk b bk c ck,l=.cons p pk (.cons b bk (.cons c ck .nil)))∨l.len≠3
 |.nil=>.inr (by simp[Fo.len])
 |.cons _ _ .nil=>.inr (by simp[Fo.len])
 |.cons _ _ (.cons _ _ .nil)=>.inr (by simp[Fo.len])
 |.cons p pk (.cons b bk (.cons c ck .nil))=>.inl ⟨p,pk,b,bk,c,ck,rfl⟩
 |.cons _ _ (.cons _ _ (.cons _ _ (.cons _ _ r)))=>.inr (by simp only[Fo.len];omega)
theorem Fo.single:∀l:Fo,(∃p pk,l=.cons p pk .nil)∨l.len≠1
 |.nil=>.inr (by simp[Fo.len])
 |.cons p pk .nil=>.inl ⟨p,pk,rfl⟩
 |.cons _ _ (.cons _ _ r)=>.inr (by simp only[Fo.len];omega)
section
variable{n:Nat}{ex:AK→Fo→R N}{t:AK}{l:Fo}
theorem mX(h:l.len≠2):Bh n ex t [102,110] l=.error (t.ln,t.co):=by
 unfold Bh;rw[if_pos (by decide)]
 split
 · simp[Fo.len] at h
 · rfl
theorem gY(h:l.len≠3):Bh n ex t [108,101,116] l=.error (t.ln,t.co):=by
 unfold Bh;rw[if_neg (by decide),if_pos (by decide)]
 split
 · simp[Fo.len] at h
 · rfl
theorem jX(h:l.len≠3):Bh n ex t [114,101,99] l=.error (t.ln,t.co):=by
 unfold Bh;rw[if_neg (by decide),if_neg (by decide),if_pos (by decide)]
 split
 · simp[Fo.len] at h
 · rfl
theorem Xo{w:lU}(hw:w=[114,97,105,115,101]∨w=[116,114,97,110,115,97,99,116])(h:l.len≠1):Bh n ex t w l=.error (t.ln,t.co):=by
 unfold Bh;rw[if_neg (by rcases hw with rfl|rfl <;> decide),if_neg (by rcases hw with rfl|rfl <;> decide),if_neg (by rcases hw with rfl|rfl <;> decide),if_neg (by rcases hw with rfl|rfl <;> decide),if_neg (by rcases hw with rfl|rfl <;> decide),if_neg (by rcases hw with rfl|rfl <;> decide),if_neg (by rcases hw with rfl|rfl <;> decide),if_pos (by rcases hw with rfl|rfl <;> decide)]
 split
 · simp[Fo.len] at h
 · rfl
end
end Go.SP
namespace Go.SW
open Go.RowKit Go.SP
section
variable{P:Program}{n:Nat}{Q:AU}{ds:List Deferred}{X:Cx}{R:List RB}{B:List FB}{Fs:List (World→Fq→Prop)}{fs:List Fr}{σ:Bc}{H:List HB}{k:JS}{na:Option Addr}{i c:Nat}{t:AK}{q r:Fo}
theorem M3(j:Nat)(hj:nth Fs j=some (λw f=>EE w f na i (.cons t q r)))
   (h:∀x:Nat×Nat×Option Addr×Nat,na=some ⟨x.1,x.2.1,none⟩→A3 P n Q ds X R (⟨x.1,x.2.1+i*6,tE t x.2.2.1 q.len x.2.2.2⟩::B) ((λw f=>DE w f q x.2.2.1 x.2.2.2)::(λw f=>EE w f na (i+1) r)::Fs) k fs σ H):A3 P n Q ds X R B Fs k fs σ H :=
 LM (α:=Nat×Nat×Option Addr×Nat) (λx=>na=some ⟨x.1,x.2.1,none⟩) (λ_=>[_]) (λ_=>[_,_]) (λ_ _ hM=>let ⟨b,off,ka,kc,h1,h2,h3,h4⟩:=EE.head (hM.fn hj);⟨(b,off,ka,kc),h1,oE h2,AE.mem ⟨h3,h4,tQ⟩⟩) (λ_=>Ax.mem ⟨DE.mono,EE.mono,tQ⟩) h
variable {b o:Nat}
theorem W4(j:Nat)(hj:nth Fs j=some (λw f=>EE w f (some ⟨b,o,none⟩) i (.cons t q r)))
   (h:∀x:Option Addr×Nat,A3 P n Q ds X R (⟨b,o+i*6,tE t x.1 q.len x.2⟩::B) ((λw f=>DE w f q x.1 x.2)::(λw f=>EE w f (some ⟨b,o,none⟩) (i+1) r)::Fs) k fs σ H):A3 P n Q ds X R B Fs k fs σ H :=
 M3 j hj λx e=>by
   obtain⟨b',o',ka,kc⟩:=x
   cases e
   exact h (ka,kc)
theorem OG{x:Fo}(j:Nat)(hj:nth Fs j=some (λw f=>DE w f x na c))(h:A3 P n Q ds X R B ((λw f=>EE w f na 0 x)::Fs) k fs σ H):A3 P n Q ds X R B Fs k fs σ H:=Dk _ (λ_ _ hM=>DE.at (hM.fn hj)) EE.mono h
theorem iS(j:Nat)(hj:nth Fs j=some (λw f=>DE w f (.cons t q r) na c))(h:A3 P n Q ds X R B ((λw f=>DE w f r (EJ na c 6) (c-1))::Fs) k fs σ H):A3 P n Q ds X R B Fs k fs σ H:=Dk _ (λ_ _ hM=>EE.rest (hM.fn hj)) DE.mono h
end
end Go.SW
namespace Go.SW
open Go.RowKit
def uI(w:World)(e:FB):Prop:=∀j v,e.l[j]?=some v→w.cell? ⟨e.b,e.off+j,none⟩=some v
def BK(w:World):List FB→Prop
 | []=>True
 |e::l=>uI w e∧BK w l
theorem Ar(w:World):BK w []:=trivial
variable {σ:Bc}{l:List Value}{b:Nat}{T:TypeId}
theorem kB{w:World}{B:List FB}(h:AI w b l T)(hB:BK w B):BK w (⟨b,0,l⟩::B) :=
 ⟨λj v hj=>by rw[h.cell,Nat.zero_add];exact hj,hB⟩
theorem BK.get{w:World}:∀{B:List FB}{i:Nat}{e:FB},BK w B→nth B i=some e→uI w e
 |_::_,0,_,h,hg=>by cases hg;exact h.1
 |_::B,i+1,e,h,hg=>BK.get (B:=B) h.2 hg
section
variable(P:Program)(n:Nat)(Q:AU)(ds:List Deferred)(w:World)(B:List FB)(tb:VK)
def pH(k:JS)(fs:List Fr)(σ:Bc):Prop:=match k with
 |.code c=>GM P n c (Ln P n Q fs) σ ds w
 |.ops all l=>G1 P n all.toArray (Ln P n Q fs) l σ ds w
 |.out e=>(Ln P n Q fs).q e σ ds w
def IE:Nat→List Nat→JS→List Fr→Bc→Prop
 |0,_,k,fs,σ=>True→pH P n Q ds w k fs σ
 |m+1,hs,.code c,fs,σ=>(match c with
   |.skip=>IE m hs (.out .normal) fs σ
   |.ret=>IE m hs (.out .ret) fs σ
   |.exit i=>IE m hs (.out (.exit i)) fs σ
   |.seq a b=>IE m hs (.code a) (.sq b::fs) σ
   |.block i a=>IE m hs (.code a) (.bk i::fs) σ
   |.region _ ⟨l⟩ false=>IE m hs (.ops l l) fs σ
   |.cond x a b=>(match ev σ x with
     |some (.bool true)=>IE m hs (.code a) fs σ
     |some (.bool false)=>IE m hs (.code b) fs σ
     |_=>False)
   |_=>False)
 |m+1,hs,.out e,fs,σ=>(match fs with
   | []=>False
   |.sq y::fs=>(match e with
     |.normal=>IE m hs (.code y) fs σ
     |.ret=>IE m hs (.out .ret) fs σ
     |.exit i=>IE m hs (.out (.exit i)) fs σ
     |_=>False)
   |.bk i::fs=>(match e with
     |.normal=>IE m hs (.out .normal) fs σ
     |.ret=>IE m hs (.out .ret) fs σ
     |.exit j=>(match Nat.beq j i with
       |true=>IE m hs (.out .normal) fs σ
       |false=>IE m hs (.out (.exit j)) fs σ)
     |_=>False))
 |m+1,hs,.ops all [],fs,σ=>IE m hs (.out .normal) fs σ
 |m+1,hs,.ops all (⟨dst,op,ty,pos,af,g⟩::r),fs,σ=>(match gd all σ g with
   |none=>False
   |some false=>(match dst with
     |some d=>(match Nat.blt d n with
       |true=>IE m hs (.ops all r) fs (AA σ d undef)
       |false=>False)
     |none=>False)
   |some true=>(match dst with
     |none=>False
     |some d=>(match Nat.blt d n with|false=>False|true=>(match op with
       |.load T x=>(match hs with
         |h::q::hs=>(match ev σ x,jO tb.ti T with
           |some (.pointer (some ⟨b,o,none⟩)),some (a,k)=>(match nth B h with
             |some ⟨b',off,l⟩=>(match a with
               |false=>(match nth l q with
                 |some v=>(b'=b∧off+q=o)∧IE m hs (.ops all r) fs (AA σ d v)
                 |none=>False)
               |true=>(match Tz l q k with
                 |some vs=>(b'=b∧off+q=o)∧IE m hs (.ops all r) fs (AA σ d (.agg ⟨vs⟩))
                 |none=>False))
             |none=>False)
           |_,_=>False)
         |_=>False)
       |.indexAddr T x y=>(match ev σ x,ev σ y,Ul tb.sl T with
         |some (.slice (some ⟨b,o,none⟩) len _),some (.int _ i),some (_,k)=>(0≤i∧i<len)∧IE m hs (.ops all r) fs (AA σ d (.pointer (some ⟨b,o+i.toNat*k,none⟩)))
         |_,_,_=>False)
       |.index T x y=>(match ev σ x,ev σ y,lY tb.st T with
         |some (.string ⟨⟨s⟩⟩),some (.int _ i),true=>(0≤i∧i<s.length)∧∀c,s[i.toNat]?=some c→IE m hs (.ops all r) fs (AA σ d (.int .u8 c.toNat))
         |_,_,_=>False)
       |.binOp .add T x y T'=>(match ev σ x,ev σ y with
         |some (.int .i64 a),some (.int .i64 b)=>Pf (a+b)∧IE m hs (.ops all r) fs (AA σ d (.int .i64 (a+b)))
         |_,_=>False)
       |.binOp .sub T x y T'=>(match ev σ x,ev σ y with
         |some (.int .i64 a),some (.int .i64 b)=>Pf (a-b)∧IE m hs (.ops all r) fs (AA σ d (.int .i64 (a-b)))
         |_,_=>False)
       |op=>(match pv tb σ op with
         |some v=>IE m hs (.ops all r) fs (AA σ d v)
         |none=>False)))))
end
section
variable{P:Program}{n:Nat}{Q:AU}{ds:List Deferred}{w:World}{B:List FB}{tb:VK}
theorem EZ(ht:tb.Ok P)(hB:BK w B):∀(m:Nat)(hs:List Nat)(k:JS)(fs:List Fr)(σ:Bc),IE P n Q ds w B tb m hs k fs σ→pH P n Q ds w k fs σ
 |0,_,_,_,_,h=>h tQ
 |m+1,hs,.code c,fs,σ,h=>by
   have ih:=EZ ht hB m;unfold IE at h
   split at h
   · exact H7 (ih _ _ _ _ h)
   · exact Jd (ih _ _ _ _ h)
   · exact K0 (ih _ _ _ _ h)
   · exact BQ (ih _ _ _ _ h)
   · exact DM (ih _ _ _ _ h)
   · exact Cw (ih _ _ _ _ h)
   · split at h
     · rename_i hx;exact Fu hx rfl (ih _ _ _ _ h)
     · rename_i hx;exact IY hx rfl (ih _ _ _ _ h)
     · exact h.elim
   · exact h.elim
 |m+1,hs,.out e,fs,σ,h=>by
   have ih:=EZ ht hB m;unfold IE at h
   split at h
   · exact h.elim
   · split at h
     · exact Di (ih _ _ _ _ h)
     · exact UH (ih _ _ _ _ h)
     · exact UM (ih _ _ _ _ h)
     · exact h.elim
   · split at h
     · exact D3 (ih _ _ _ _ h)
     · exact UC (ih _ _ _ _ h)
     · split at h
       · rename_i hb
         have e:=Nat.eq_of_beq_eq_true hb;subst e;exact NO (ih _ _ _ _ h)
       · rename_i hb;exact dV hb (ih _ _ _ _ h)
     · exact h.elim
 |m+1,hs,.ops all [],fs,σ,h=>by
   unfold IE at h;exact Ae (EZ ht hB m _ _ _ _ h)
 |m+1,hs,.ops all (⟨dst,op,ty,pos,af,g⟩::r),fs,σ,h=>by
   have ih:=EZ ht hB m;unfold IE at h
   split at h
   · exact h.elim
   · rename_i hg
     split at h
     · split at h
       · rename_i hd;exact LQ hg hd (ih _ _ _ _ h)
       · exact h.elim
     · exact h.elim
   · rename_i hg
     refine B1 hg ?_
     split at h
     · exact h.elim
     · split at h
       · exact h.elim
       rename_i hd
       split at h
       · split at h
         · split at h
           · rename_i hx hT
             split at h
             · rename_i hB'
               have hc:=hB.get hB'
               split at h
               · split at h
                 · rename_i v hv
                   obtain⟨⟨rfl,rfl⟩,h⟩:=h;rw[Ef] at hv;exact Ab hd (IB hx (FL ht.ti hT) (hc _ v hv)) (ih _ _ _ _ h)
                 · exact h.elim
               · split at h
                 · rename_i vs hv
                   obtain⟨⟨rfl,rfl⟩,h⟩:=h;obtain⟨hk,hg2⟩:=OL hv;exact Ab hd (Kz hx (FL ht.ti hT) hk (λj v hj=>by have:=hc _ v (hg2 j v hj);rwa[← Nat.add_assoc] at this)) (ih _ _ _ _ h)
                 · exact h.elim
             · exact h.elim
           · exact h.elim
         · exact h.elim
       · split at h
         · rename_i hx hy hT
           exact Ab hd (MW hx hy (JJ ht.sl hT) h.1) (ih _ _ _ _ h.2)
         · exact h.elim
       · split at h
         · rename_i s _ i hx hy hT
           obtain⟨h1,h⟩:=h;have hlt:i.toNat<s.length:=oM;exact Ab hd (Db hx hy (Pm ht.st hT) h1.1 (List.getElem?_eq_getElem hlt)) (ih _ _ _ _ (h _ (List.getElem?_eq_getElem hlt)))
         · exact h.elim
       · split at h
         · rename_i hx hy
           exact Ab hd (Me hx hy h.1) (ih _ _ _ _ h.2)
         · exact h.elim
       · split at h
         · rename_i hx hy
           exact Ab hd (GH hx hy h.1) (ih _ _ _ _ h.2)
         · exact h.elim
       · split at h
         · rename_i v hv
           exact Ab hd (PN ht hv) (ih _ _ _ _ h)
         · exact h.elim
theorem gL{all r:List Oper}(fs:List Fr)(ht:tb.Ok P)(m:Nat)(hs:List Nat)(hB:BK w B)(h:IE P n Q ds w B tb m hs (.ops all r) fs σ):G1 P n all.toArray (Ln P n Q fs) r σ ds w:=EZ ht hB m hs _ fs σ h
theorem gP{c:Code}(fs:List Fr)(ht:tb.Ok P)(m:Nat)(hs:List Nat)(hB:BK w B)(h:IE P n Q ds w B tb m hs (.code c) fs σ):GM P n c (Ln P n Q fs) σ ds w:=EZ ht hB m hs _ fs σ h
theorem gQ{e:Exit}(fs:List Fr)(ht:tb.Ok P)(m:Nat)(hs:List Nat)(hB:BK w B)(h:IE P n Q ds w B tb m hs (.out e) fs σ):(Ln P n Q fs).q e σ ds w:=EZ ht hB m hs _ fs σ h
theorem sL{all:Array Oper}{r:List Oper}{Q:AU}{b:Bool}(t:Nat)(hx:σ t=some (.bool b))(h1:b=true→G1 P n all Q r (AA σ t (.bool true)) ds w)(h2:b=false→G1 P n all Q r (AA σ t (.bool false)) ds w):G1 P n all Q r σ ds w:=by
 cases b with
 |true=>exact λa ha=>h1 rfl a (ha.le (A6 (le_refl _) hx))
 |false=>exact λa ha=>h2 rfl a (ha.le (A6 (le_refl _) hx))
theorem sP{c:Code}{Q:AU}{b:Bool}(t:Nat)(hx:σ t=some (.bool b))(h1:b=true→GM P n c Q (AA σ t (.bool true)) ds w)(h2:b=false→GM P n c Q (AA σ t (.bool false)) ds w):GM P n c Q σ ds w:=by
 cases b with
 |true=>exact Ng (A6 (le_refl _) hx) (h1 rfl)
 |false=>exact Ng (A6 (le_refl _) hx) (h2 rfl)
theorem kP{c:Code}{Q:AU}{b:Bool}(t:Nat)(c':Bool)(hx:σ t=some (.bool b))(hb:b=c')(h:GM P n c Q (AA σ t (.bool c')) ds w):GM P n c Q σ ds w:=by
 subst hb;exact Ng (A6 (le_refl _) hx) h
end
def oS(σ0:Bc)(I:World→Prop)(ds0:List Deferred)(Q:AU):AU :=
 {q:=λe σ ds w=>match e with|.normal=>Le σ0 σ∧ds=ds0∧I w|e=>Q.q e σ ds w,p:=Q.p}
theorem Pe{P:Program}{n:Nat}{Q:AU}{ds:List Deferred}{w:World}{x y:Code}(σ0:Bc)(I:World→Prop)(h1:GM P n x (oS σ0 I ds Q) σ ds w)(h2:∀w',I w'→GM P n y Q σ0 ds w'):GM P n (.seq x y) Q σ ds w :=
 BQ λa ha=>wp_mono (h1 a ha) λe a' w' he=>by
   cases e with
   |normal=>obtain⟨σ',ds',hs,hl,rfl,hI⟩:=he;exact⟨σ',_,hs,Ng hl (h2 w' hI)⟩
   |panic c=>exact he
   |outgrown=>exact he
   |ret=>exact he
   |exit i=>exact he
   |goto i=>exact he
theorem NS{σ0:Bc}{I:World→Prop}{ds:List Deferred}{Q:AU}{w:World}(hl:Le σ0 σ)(h:I w):(oS σ0 I ds Q).q .normal σ ds w:=⟨hl,rfl,h⟩
end Go.SW
namespace Go.Proofs.YtkahkniflkadoabGreatDoor
open Go.SW Go.RowKit Go.Proofs.Tryz
theorem CR:LU prog 57=some (61,4,56,[.int .i64 0,.int .i64 0,.string ⟨#[]⟩,.slice none 0 0]):=kR
theorem R5:LU prog 81=some (9,1,16,[.string ⟨#[]⟩]):=kR
theorem I9:LU prog 103=some (3,1,8,[.int .i64 0]):=kR
theorem Ur:W9 prog 3 21=some .i32:=kR
theorem Br:B9 prog 21:=Am func21 kR kR
theorem Dh:B9 prog 47:=Am func47 kR kR
theorem GG:B9 prog 48:=Am func48 kR kR
theorem YW:B9 prog 53:=Am func53 kR kR
theorem KJ:B9 prog 55:=Am func55 kR kR
theorem fT:B9 prog 59:=Am func59 kR kR
theorem Zs:B9 prog 60:=Am func60 kR kR
theorem Xl:B9 prog 65:=Am func65 kR kR
theorem Zf:B9 prog 76:=Am func76 kR kR
theorem PC:B9 prog 77:=Am func77 kR kR
theorem WS:B9 prog 79:=Am func79 kR kR
theorem XG:B9 prog 85:=Am func85 kR kR
theorem gZ:B9 prog 87:=Am func87 kR kR
theorem Xm:B9 prog 88:=Am func88 kR kR
theorem Tt:B9 prog 89:=Am func89 kR kR
theorem Gb:B9 prog 108:=Am func108 kR kR
theorem PF:B9 prog 109:=Am func109 kR kR
theorem LI:B9 prog 113:=Am func113 kR kR
theorem cT:B9 prog 114:=Am func114 kR kR
theorem aD:B9 prog 132:=Am func132 kR kR
theorem ZI:EO prog 61 0=some 0:=kR
theorem bA:EO prog 61 1=some 1:=kR
theorem cE:EO prog 61 2=some 2:=kR
theorem ZM:EO prog 61 3=some 3:=kR
theorem Zb:EO prog 148 0=some 0:=kR
theorem YK:EO prog 148 1=some 1:=kR
theorem YD:EO prog 148 2=some 2:=kR
theorem cJ:eZ prog 21 9=true:=kR
theorem MP:F7 prog 124=some (3,4):=kR
theorem Yz:F7 prog 129=some (3,9):=kR
theorem Tv:F7 prog 146=some (3,61):=kR
theorem Al:prog.follows .mixedOrders=true:=kR
theorem mQ:LH prog 61=some [(0,1),(1,1),(2,1),(3,1)]:=kR
theorem lP:LH prog 148=some [(0,1),(1,1),(2,1)]:=kR
theorem Ra:Ii prog 57=some (61,4):=kR
theorem qY:Ii prog 81=some (9,1):=kR
theorem kW:Ii prog 103=some (3,1):=kR
theorem Ho:AO prog 3=some (false,1):=kR
theorem kN:AO prog 9=some (false,1):=kR
theorem Yv:AO prog 57=some (false,1):=kR
theorem AV:AO prog 61=some (true,4):=kR
theorem Ld:AO prog 103=some (false,1):=kR
theorem S9:AO prog 146=some (false,1):=kR
theorem N5:prog.underlying 3=some (.int .i64):=kR
theorem oN:prog.underlying 64=some (.pointer 148):=kR
theorem ZS:zO prog 4=some (.bool false):=kR
theorem rY:zO prog 9=some (.string ⟨#[]⟩):=kR
theorem Mm:zO prog 61=some (.agg #[.int .i64 0,.int .i64 0,.string ⟨#[]⟩,.slice none 0 0]):=kR
theorem rR:GL prog 3=some [.int .i64 0]:=kR
theorem tI:GL prog 9=some [.string ⟨#[]⟩]:=kR
theorem mM:GL prog 61=some [.int .i64 0,.int .i64 0,.string ⟨#[]⟩,.slice none 0 0]:=kR
theorem jU:GL prog 103=some [.slice none 0 0]:=kR
theorem iC:GL prog 148=some [.map none,.int .i64 0,.int .i64 0]:=kR
theorem Ek:B9 prog 17:=Am func17 kR kR
theorem FG:B9 prog 19:=Am func19 kR kR
theorem C8:B9 prog 20:=Am func20 kR kR
theorem HD:B9 prog 22:=Am func22 kR kR
theorem Sc:B9 prog 23:=Am func23 kR kR
theorem Fj:B9 prog 26:=Am func26 kR kR
theorem PV:B9 prog 50:=Am func50 kR kR
theorem fO:B9 prog 51:=Am func51 kR kR
theorem jD:B9 prog 52:=Am func52 kR kR
theorem iX:B9 prog 54:=Am func54 kR kR
theorem X1:B9 prog 56:=Am func56 kR kR
theorem lN:B9 prog 57:=Am func57 kR kR
theorem JO:B9 prog 58:=Am func58 kR kR
theorem PG:B9 prog 61:=Am func61 kR kR
theorem YV:B9 prog 81:=Am func81 kR kR
theorem OF:B9 prog 84:=Am func84 kR kR
theorem gM:B9 prog 86:=Am func86 kR kR
theorem ZJ:B9 prog 106:=Am func106 kR kR
theorem OV:B9 prog 110:=Am func110 kR kR
theorem Pw:B9 prog 111:=Am func111 kR kR
theorem aU:B9 prog 128:=Am func128 kR kR
theorem cO:EO prog 59 0=some 0:=kR
theorem ZR:EO prog 59 1=some 1:=kR
theorem cG:EO prog 59 2=some 3:=kR
theorem ZX:EO prog 59 4=some 5:=kR
theorem aC:EO prog 69 0=some 0:=kR
theorem cF:EO prog 69 1=some 1:=kR
theorem WK:EO prog 105 0=some 0:=kR
theorem Xt:EO prog 105 1=some 1:=kR
theorem YQ:EO prog 105 2=some 5:=kR
theorem Yb:EO prog 113 0=some 0:=kR
theorem Za:EO prog 113 1=some 4:=kR
theorem XM:EO prog 115 0=some 0:=kR
theorem WI:EO prog 115 1=some 1:=kR
theorem Y4:EO prog 115 2=some 6:=kR
theorem Oi:F7 prog 65=some (9,105):=kR
theorem oX:mD prog 52=true:=kR
theorem oG:LH prog 52=some [(0,2),(2,1)]:=kR
theorem fB:LH prog 113=some [(0,4),(4,1)]:=kR
theorem iM:LH prog 115=some [(0,1),(1,5),(6,1)]:=kR
theorem M0:Ii prog 32=some (59,6):=kR
theorem Eo:AO prog 26=some (true,2):=kR
theorem I3:AO prog 32=some (false,1):=kR
theorem nC:AO prog 54=some (false,1):=kR
theorem B2:AO prog 59=some (true,6):=kR
theorem IJ:AO prog 64=some (false,1):=kR
theorem NR:AO prog 65=some (false,1):=kR
theorem gF:AO prog 105=some (true,6):=kR
theorem gD:AO prog 113=some (true,5):=kR
theorem F8:prog.underlying 9=some .string:=kR
theorem mN:prog.underlying 54=some (.pointer 115):=kR
theorem OY:zO prog 105=some (.agg #[.slice none 0 0,.int .i64 0,.int .i64 0,.string ⟨#[]⟩,.slice none 0 0,.slice none 0 0]):=kR
theorem oT:GL prog 52=some [.int .i64 0,.int .i64 0,.int .i64 0]:=kR
theorem oD:GL prog 59=some [.int .i64 0,.int .i64 0,.int .i64 0,.string ⟨#[]⟩,.int .i64 0,.slice none 0 0]:=kR
theorem lK:GL prog 105=some [.slice none 0 0,.int .i64 0,.int .i64 0,.string ⟨#[]⟩,.slice none 0 0,.slice none 0 0]:=kR
theorem fD:GL prog 113=some [.int .i64 0,.int .i64 0,.string ⟨#[]⟩,.slice none 0 0,.slice none 0 0]:=kR
theorem fF:GL prog 115=some [.string ⟨#[]⟩,.int .i64 0,.int .i64 0,.string ⟨#[]⟩,.slice none 0 0,.slice none 0 0,.pointer none]:=kR
theorem Uh:LU prog 35=some (76,2,32,[.string ⟨#[]⟩,.string ⟨#[]⟩]):=kR
theorem SN:LU prog 106=some (109,6,80,[.string ⟨#[]⟩,.int .i64 0,.int .i64 0,.int .i64 0,.string ⟨#[]⟩,.slice none 0 0]):=kR
theorem XH:B9 prog 14:=Am func14 kR kR
theorem fL:B9 prog 15:=Am func15 kR kR
theorem gE:B9 prog 16:=Am func16 kR kR
theorem Mp:B9 prog 18:=Am func18 kR kR
theorem Y1:B9 prog 24:=Am func24 kR kR
theorem lQ:B9 prog 25:=Am func25 kR kR
theorem jF:B9 prog 44:=Am func44 kR kR
theorem jW:B9 prog 45:=Am func45 kR kR
theorem jS:B9 prog 46:=Am func46 kR kR
theorem Pd:B9 prog 49:=Am func49 kR kR
theorem kX:B9 prog 73:=Am func73 kR kR
theorem fE:B9 prog 74:=Am func74 kR kR
theorem P0:B9 prog 75:=Am func75 kR kR
theorem kA:B9 prog 80:=Am func80 kR kR
theorem XE:B9 prog 82:=Am func82 kR kR
theorem YR:B9 prog 83:=Am func83 kR kR
theorem Z9:EO prog 52 0=some 0:=kR
theorem cS:EO prog 52 1=some 2:=kR
theorem ZB:EO prog 69 2=some 2:=kR
theorem bL:EO prog 69 3=some 3:=kR
theorem cU:EO prog 69 4=some 4:=kR
theorem cY:EO prog 76 1=some 1:=kR
theorem Xf:EO prog 102 0=some 0:=kR
theorem Zg:EO prog 102 1=some 1:=kR
theorem Xa:EO prog 102 3=some 3:=kR
theorem WV:EO prog 109 0=some 0:=kR
theorem YN:EO prog 109 2=some 2:=kR
theorem PU:Zq prog 20=true:=kR
theorem QP:F7 prog 66=some (9,3):=kR
theorem U0:F7 prog 67=some (9,4):=kR
theorem Lb:F7 prog 118=some (9,61):=kR
theorem qT:LH prog 26=some [(0,1),(1,1)]:=kR
theorem pE:LH prog 69=some [(0,1),(1,1),(2,1),(3,1),(4,1)]:=kR
theorem pF:LH prog 76=some [(0,1),(1,1)]:=kR
theorem lI:LH prog 102=some [(0,1),(1,1),(2,1),(3,1)]:=kR
theorem gR:LH prog 105=some [(0,1),(1,4),(5,1)]:=kR
theorem lG:LH prog 109=some [(0,1),(1,1),(2,4)]:=kR
theorem nN:Ii prog 35=some (76,2):=kR
theorem mZ:Ii prog 99=some (102,4):=kR
theorem iN:Ii prog 106=some (109,6):=kR
theorem iH:qZ prog 52=true:=kR
theorem H4:AO prog 27=some (false,1):=kR
theorem Xv:AO prog 35=some (false,1):=kR
theorem qA:AO prog 52=some (true,3):=kR
theorem QJ:AO prog 66=some (false,1):=kR
theorem dO:AO prog 67=some (false,1):=kR
theorem gB:AO prog 102=some (true,4):=kR
theorem JC:AO prog 106=some (false,1):=kR
theorem fZ:AO prog 109=some (true,6):=kR
theorem cX:zO prog 3=some (.int .i64 0):=kR
theorem qL:GL prog 26=some [.int .i64 0,.int .i64 0]:=kR
theorem nH:GL prog 27=some [.int .i64 0]:=kR
theorem qG:GL prog 35=some [.slice none 0 0]:=kR
theorem nA:GL prog 69=some [.pointer none,.map none,.map none,.map none,.int .i64 0]:=kR
theorem pN:GL prog 76=some [.string ⟨#[]⟩,.string ⟨#[]⟩]:=kR
theorem lJ:GL prog 102=some [.string ⟨#[]⟩,.string ⟨#[]⟩,.int .i64 0,.int .i64 0]:=kR
theorem gV:GL prog 106=some [.slice none 0 0]:=kR
theorem jQ:GL prog 109=some [.string ⟨#[]⟩,.int .i64 0,.int .i64 0,.int .i64 0,.string ⟨#[]⟩,.slice none 0 0]:=kR
theorem Ll:LU prog 32=some (59,6,72,[.int .i64 0,.int .i64 0,.int .i64 0,.string ⟨#[]⟩,.int .i64 0,.slice none 0 0]):=kR
theorem eG:B9 prog 9:=Am func9 kR kR
theorem Y3:B9 prog 10:=Am func10 kR kR
theorem CV:B9 prog 11:=Am func11 kR kR
theorem fC:B9 prog 12:=Am func12 kR kR
theorem gI:B9 prog 13:=Am func13 kR kR
theorem AB:B9 prog 32:=Am func32 kR kR
theorem Gy:B9 prog 33:=Am func33 kR kR
theorem Xy:B9 prog 34:=Am func34 kR kR
theorem Ti:B9 prog 35:=Am func35 kR kR
theorem YC:B9 prog 36:=Am func36 kR kR
theorem Bg:B9 prog 37:=Am func37 kR kR
theorem iW:B9 prog 38:=Am func38 kR kR
theorem N2:B9 prog 39:=Am func39 kR kR
theorem JA:B9 prog 40:=Am func40 kR kR
theorem Df:B9 prog 41:=Am func41 kR kR
theorem Xq:B9 prog 42:=Am func42 kR kR
theorem Sm:B9 prog 43:=Am func43 kR kR
theorem J9:B9 prog 70:=Am func70 kR kR
theorem HO:B9 prog 71:=Am func71 kR kR
theorem iJ:B9 prog 72:=Am func72 kR kR
theorem aV:B9 prog 100:=Am func100 kR kR
theorem UD:B9 prog 101:=Am func101 kR kR
theorem PA:B9 prog 102:=Am func102 kR kR
theorem LO:B9 prog 103:=Am func103 kR kR
theorem Pt:B9 prog 125:=Am func125 kR kR
theorem P3:B9 prog 126:=Am func126 kR kR
theorem aW:EO prog 46 0=some 0:=kR
theorem bP:EO prog 92 0=some 0:=kR
theorem ZF:EO prog 92 1=some 1:=kR
theorem bY:EO prog 92 2=some 3:=kR
theorem bV:EO prog 92 3=some 4:=kR
theorem cV:EO prog 94 0=some 0:=kR
theorem ZO:EO prog 94 1=some 5:=kR
theorem nG:LH prog 59=some [(0,1),(1,2),(3,1),(4,1),(5,1)]:=kR
theorem K3:Ii prog 48=some (94,6):=kR
theorem jV:qZ prog 46=true:=kR
theorem qQ:AO prog 46=some (true,2):=kR
theorem nP:AO prog 48=some (false,1):=kR
theorem nQ:AO prog 94=some (true,6):=kR
theorem nW:GL prog 32=some [.slice none 0 0]:=kR
theorem oP:GL prog 46=some [.int .i64 0,.int .i64 0]:=kR
theorem pQ:GL prog 94=some [.int .i64 0,.int .i64 0,.int .i64 0,.int .i64 0,.string ⟨#[]⟩,.slice none 0 0]:=kR
theorem mO:LU prog 24=some (41,2,32,[.string ⟨#[]⟩,.string ⟨#[]⟩]):=kR
theorem Yk:aR prog 23 9=some 5:=kR
theorem WT:W9 prog 3 5=some .u8:=kR
theorem aX:W9 prog 3 22=some .u64:=kR
theorem bJ:W9 prog 22 3=some .i64:=kR
theorem UW:B9 prog 4:=Am func4 kR kR
theorem eB:B9 prog 5:=Am func5 kR kR
theorem oO:B9 prog 6:=Am func6 kR kR
theorem nY:B9 prog 7:=Am func7 kR kR
theorem oC:B9 prog 8:=Am func8 kR kR
theorem XW:B9 prog 27:=Am func27 kR kR
theorem iQ:B9 prog 28:=Am func28 kR kR
theorem XJ:B9 prog 62:=Am func62 kR kR
theorem hO:B9 prog 63:=Am func63 kR kR
theorem So:B9 prog 64:=Am func64 kR kR
theorem aY:EO prog 41 1=some 1:=kR
theorem cN:EO prog 83 0=some 0:=kR
theorem aZ:EO prog 83 1=some 1:=kR
theorem bN:EO prog 83 2=some 2:=kR
theorem Uq:F7 prog 79=some (9,59):=kR
theorem nR:LH prog 41=some [(0,1),(1,1)]:=kR
theorem nL:LH prog 83=some [(0,1),(1,1),(2,1)]:=kR
theorem YM:Yy prog 26=true:=kR
theorem mH:Ii prog 23=some (5,1):=kR
theorem pR:Ii prog 24=some (41,2):=kR
theorem VV:AO prog 4=some (false,1):=kR
theorem dW:AO prog 79=some (false,1):=kR
theorem Lm:AO prog 81=some (false,1):=kR
theorem Zw:zO prog 59=some (.agg #[.int .i64 0,.int .i64 0,.int .i64 0,.string ⟨#[]⟩,.int .i64 0,.slice none 0 0]):=kR
theorem tR:GL prog 5=some [.int .u8 0]:=kR
theorem oV:GL prog 41=some [.string ⟨#[]⟩,.string ⟨#[]⟩]:=kR
theorem rB:GL prog 83=some [.map none,.slice none 0 0,.bool false]:=kR
end Go.Proofs.YtkahkniflkadoabGreatDoor
