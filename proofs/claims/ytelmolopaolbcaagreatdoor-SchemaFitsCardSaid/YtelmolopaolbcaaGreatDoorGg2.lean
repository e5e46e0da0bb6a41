/- What it rests on, part 2. -/
import Derived.Test.YtelmolopaolbcaaGreatDoorGg1
import Derived.Laws.MakeOwn
import Derived.Lib.Join
import Derived.Lib.ItoaNum
set_option linter.unusedVariables false
set_option linter.unusedSimpArgs false
namespace Go.SW
open Go.RowKit
structure C2(M:Nat→Prop)(w:World)(f:Fq)(w':World)(f':Fq):Prop where
 stp:LG M w w'
 old:∀b,b<w.heap.size→f' b=f b
 val:∀b,w'.heap.size≤b→f' b=0
variable {af:Array Edge}{args:Array Value}{σ':Ba}{fid:FuncId}{H':List HB}{XX:List PanicEntry→World→Prop}{l:List Value}{d i k:Nat}{M M':Nat→Prop}{g:Option (Nat×Bool)}{dst:Option Tmp}{pos:String}{ty:TypeId}{R0:Value→World→Prop}{I' φ:World→Fq→Prop}
theorem C2.fle{w w':World}{f f':Fq}(h:C2 M w f w' f')(hv:∀b,w.heap.size≤b→f b=0)(hm:∀b,M b→f b=0):Hm w f w' f':=λb=>by
 rcases Nat.lt_or_ge b w.heap.size with hb|hb
 · refine⟨by rw[h.old b hb];exact Nat.le_refl _,λo ho=>De (h.stp.block b hb λhh=>?_) o⟩
   rw[hm b hh] at ho;omega
 · refine⟨by rw[hv b hb];exact Nat.zero_le _,λo ho=>?_⟩
   rw[hv b hb] at ho;omega
theorem C2.refl(M:Nat→Prop){w:World}{f:Fq}(hv:∀b,w.heap.size≤b→f b=0):C2 M w f w f:=⟨LG.refl _ _,λ_ _=>rfl,hv⟩
theorem C2.mono{w w':World}{f f':Fq}(h:C2 M w f w' f')(hm:∀b,M b→M' b):C2 M' w f w' f':=⟨h.stp.mono hm,h.old,h.val⟩
theorem C2.of_ext{w w':World}{f:Fq}(h:AR w w')(hv:∀b,w.heap.size≤b→f b=0):C2 (λ_=>False) w f w' f:=⟨LG.of_ext h,λ_ _=>rfl,λb hb=>hv b (Nat.le_trans h.size hb)⟩
theorem AO.exm{X:Cx}{w:World}{f:Fq}{H:List HB}{R:List RB}{B:List FB}{Fs:List (World→Fq→Prop)}(h:AO X w f H R B Fs):C2 X.M X.w0 X.f0 w f:=⟨h.stp,h.old,h.val⟩
section
variable{X:Cx}{w w':World}{f f':Fq}{H:List HB}{R:List RB}{B:List FB}{Fs:List (World→Fq→Prop)}
theorem AO.call0(h:AO X w f H R B Fs)(he:C2 (λ_=>False) w f w' f'):AO X w' f' H R B Fs :=
 have hF:=he.fle h.val (λ_ h=>h.elim)
 h.step (he.stp.mono λ_ h=>h.elim) hF he.old he.val (λb hb=>he.stp.block b (h.lt hb) λh=>h) (λb hb=>he.stp.block b (h.mi b hb).1 λh=>h)
theorem AO.callI(h:AO X w f H R B Fs)(he:C2 X.MI w f w' f')(hI:I' w' f')(hst:EU X.MI I'):AO {X with I:=I' } w' f' H R B Fs :=
 have hF:=he.fle h.val (λb hb=>(h.mi b hb).2.1);have hown:∀b,b∈C8 H R→w'.heap[b]?=w.heap[b]?:=λb hb=>he.stp.block b (h.lt hb) (h.own b hb).2.2
 {stp:=⟨he.stp.os.trans h.stp.os,he.stp.tape.trans h.stp.tape,he.stp.output.trans h.stp.output,Nat.le_trans h.stp.size he.stp.size,λk hk hm=>(he.stp.block k (Nat.lt_of_lt_of_le hk h.stp.size) λhh=>by
       rcases (h.mi k hh).2.2 with h1|h1
       · exact absurd hk (Nat.not_lt.2 h1)
       · exact hm h1).trans (h.stp.block k hk hm)⟩,
   old:=λb hb=>(he.old b (Nat.lt_of_lt_of_le hb h.stp.size)).trans (h.old b hb),val:=he.val,ent:=h.ent.trans hF,res:=hI,stab:=hst,
   mi:=λb hb=>⟨Nat.lt_of_lt_of_le (h.mi b hb).1 he.stp.size,(he.old b (h.mi b hb).1).trans (h.mi b hb).2.1,(h.mi b hb).2.2⟩,
   blk:=λe hh=>(hown e.b (List.mem_append.2 (.inl (List.mem_map.2 ⟨e,hh,rfl⟩)))).trans (h.blk e hh),
   row:=λr hr=>by
     refine⟨(h.row r hr).1,(h.row r hr).2.imp id ?_⟩;rintro⟨b,l,h1,h2,h3⟩;exact⟨b,l,h1,(hown b (List.mem_append.2 (.inr (List.mem_filterMap.2 ⟨r,hr,by rw[h1];rfl⟩)))).trans h2,h3⟩,
   nd:=h.nd,
   own:=λb hb=>⟨(he.old b (h.lt hb)).trans (h.own b hb).1,(h.own b hb).2⟩,hnw:=h.hnw,rnw:=h.rnw,
   fro:=λe hh=>(h.fro e hh).mono hF,fac:=λφ hφ=>h.mono φ hφ _ _ _ _ (h.fac φ hφ) hF,mono:=h.mono}
theorem AO.more{B':List FB}{F':List (World→Fq→Prop)}(h:AO X w f H R B Fs)(hB:∀e,e∈B'→Cs w f e.b e.off e.l)(hF:∀φ,φ∈F'→φ w f)(hm:∀φ,φ∈F'→EY φ):AO X w f H R (B'++B) (F'++Fs) :=
 {h with
   fro:=λe he=>(List.mem_append.1 he).elim (hB e) (h.fro e),
   fac:=λφ hφ=>(List.mem_append.1 hφ).elim (hF φ) (h.fac φ),
   mono:=λφ hφ=>(List.mem_append.1 hφ).elim (hm φ) (h.mono φ)}
theorem AO.less{R':List RB}{B':List FB}{F':List (World→Fq→Prop)}(h:AO X w f H R B Fs)(hH:H'.Sublist H)(hR:R'.Sublist R)(hB:∀e,e∈B'→e∈B)(hF:∀φ,φ∈F'→φ∈Fs):AO X w f H' R' B' F' :=
 have hs:(C8 H' R').Sublist (C8 H R):=List.Sublist.append (hH.map _) (hR.filterMap _)
 {h with
   blk:=λe he=>h.blk e (hH.subset he),row:=λr hr=>h.row r (hR.subset hr),nd:=hs.nodup h.nd,own:=λb hb=>h.own b (hs.subset hb),hnw:=λe he=>h.hnw e (hH.subset he),rnw:=λr hr=>h.rnw r (hR.subset hr),
   fro:=λe he=>h.fro e (hB e he),fac:=λφ hφ=>h.fac φ (hF φ hφ),mono:=λφ hφ=>h.mono φ (hF φ hφ)}
theorem AO.fact(h:AO X w f H R B Fs)(hi:nth Fs i=some φ):φ w f:=by
 rw[Ek] at hi;exact h.fac _ (List.mem_of_getElem? hi)
end
section
variable{P:Program}{n:Nat}{Q:AT}{ds:List Deferred}{X:Cx}{R:List RB}{B:List FB}{Fs:List (World→Fq→Prop)}{tb:Vr}{fs:List Fr}{σ:Ba}{H:List HB}
theorem go{k:Kc}(ht:tb.Ok P)(m:Nat)(hs:List Nat)(h:ex P n Q ds X R B Fs tb m hs k fs σ H):A3 P n Q ds X R B Fs k fs σ H:=Je ht m hs k fs σ H h
theorem y{α:Type}{a:α}{p:Prop}(h:p):a=a∧p:=⟨rfl,h⟩
theorem y2{α β:Type}{a:α}{b:β}{p:Prop}(h:p):(a=a∧b=b)∧p:=⟨⟨rfl,rfl⟩,h⟩
def lY:Kc→Bool
 |.out _=>false
 |_=>true
theorem A3.le{k:Kc}(hk:lY k=true)(hl:Le σ' σ)(h:A3 P n Q ds X R B Fs k fs σ' H):A3 P n Q ds X R B Fs k fs σ H:=λw f hM=>by
 have:=h w f hM
 cases k with
 |code c=>exact My hl this
 |ops all l=>exact λa ha=>this a (ha.le hl)
 |out e=>cases hk
theorem AJ{k:Kc}{b:Bool}(t:Nat)(hk:lY k=true)(hx:σ t=some (.bool b))(h1:b=true→A3 P n Q ds X R B Fs k fs (AA σ t (.bool true)) H)(h2:b=false→A3 P n Q ds X R B Fs k fs (AA σ t (.bool false)) H):A3 P n Q ds X R B Fs k fs σ H:=by
 cases b with
 |true=>exact A3.le hk (A6 (le_refl _) hx) (h1 rfl)
 |false=>exact A3.le hk (A6 (le_refl _) hx) (h2 rfl)
theorem vI{k:Kc}{b:Bool}(t:Nat)(c:Bool)(hk:lY k=true)(hx:σ t=some (.bool b))(hb:b=c)(h1:A3 P n Q ds X R B Fs k fs (AA σ t (.bool c)) H):A3 P n Q ds X R B Fs k fs σ H:=by
 subst hb;exact A3.le hk (A6 (le_refl _) hx) h1
theorem Kb{k:Kc}{α:Type}(p:α→Prop)(B':α→List FB)(F':α→List (World→Fq→Prop))(hφ:∀w f,AO X w f H R B Fs→∃x,p x∧(∀e,e∈B' x→Cs w f e.b e.off e.l)∧∀φ,φ∈F' x→φ w f)(hm:∀x φ,φ∈F' x→EY φ)
   (h:∀x,p x→A3 P n Q ds X R (B' x++B) (F' x++Fs) k fs σ H):A3 P n Q ds X R B Fs k fs σ H:=λw f hM=>by
 obtain⟨x,hp,hB,hF⟩:=hφ w f hM;exact h x hp w f (hM.more hB hF (hm x))
theorem Ig{k:Kc}{p:Prop}(hφ:∀w f,AO X w f H R B Fs→p)(h:p→A3 P n Q ds X R B Fs k fs σ H):A3 P n Q ds X R B Fs k fs σ H:=λw f hM=>h (hφ w f hM) w f hM
theorem Lx:∀fs:List Fr,(Lz P n Q fs).p=Q.p
 | []=>rfl
 |.sq _::fs=>Lx fs
 |.bk _::fs=>Lx fs
theorem xG{all r:List Oper}{op:Op}{α:Type}{val:α→Value}{q:α→Prop}{F':α→List (World→Fq→Prop)}(hg:gd all σ g=some true)(hd:Nat.blt d n=true)(he:∀w,Enters P σ op ty w fid args)
   (hc:∀w f,AO X w f H R B Fs→Bo P fid args w λv w'=>∃x f',v=val x∧q x∧C2 (λ_=>False) w f w' f'∧∀φ,φ∈F' x→φ w' f') (hm:∀x φ,φ∈F' x→EY φ)
   (h:∀x,q x→A3 P n Q ds X R B (F' x++Fs) (.ops all r) fs (AA σ d (val x)) H):A3 P n Q ds X R B Fs (.ops all (⟨some d,op,ty,pos,af,g⟩::r)) fs σ H:=λw f hM=>by
 refine Bp hg (A4 hd (he w) (hc w f hM) ?_);rintro v w' ⟨x,f',rfl,hq,hE,hF⟩;exact h x hq w' f' ((hM.call0 hE).more (B':=[]) (λ_ h=>by cases h) hF (hm x))
theorem wQ{all r:List Oper}{op:Op}{α:Type}{val:α→Value}{q:α→Prop}{I':α→World→Fq→Prop}{F':α→List (World→Fq→Prop)}
   (hg:gd all σ g=some true) (hd:Nat.blt d n=true) (he:∀w,Enters P σ op ty w fid args)
   (hc:∀w f,AO X w f H R B Fs→BD P fid args w (λv w'=>∃x f',v=val x∧q x∧C2 X.MI w f w' f'∧I' x w' f'∧∀φ,φ∈F' x→φ w' f') XX) (hst:∀x,EU X.MI (I' x)) (hm:∀x φ,φ∈F' x→EY φ)
   (hp:∀w f c w',AO X w f H R B Fs→XX c w'→Q.p c σ ds w')
   (h:∀x,q x→A3 P n Q ds {X with I:=I' x} R B (F' x++Fs) (.ops all r) fs (AA σ d (val x)) H):A3 P n Q ds X R B Fs (.ops all (⟨some d,op,ty,pos,af,g⟩::r)) fs σ H:=λw f hM=>by
 refine Bp hg (BX hd (he w) (hc w f hM) ?_ ?_)
 · rintro v w' ⟨x,f',rfl,hq,hE,hI,hF⟩
   exact h x hq w' f' ((hM.callI hE hI (hst x)).more (B':=[]) (λ_ h=>by cases h) hF (hm x))
 · intro c w' hX
   rw[Lx];exact hp w f c w' hM hX
theorem D6{all r:List Oper}{op:Op}{v:Value}(hg:gd all σ g=some true)(hd:Nat.blt d n=true)(hr:∀w f,AO X w f H R B Fs→AG P σ op ty w v w)
   (h:A3 P n Q ds X R B Fs (.ops all r) fs (AA σ d v) H):A3 P n Q ds X R B Fs (.ops all (⟨some d,op,ty,pos,af,g⟩::r)) fs σ H:=λw f hM=>Bp hg (Ab hd (hr w f hM) (h w f hM))
theorem vL{all r:List Oper}{op:Op}{v:Value}(hg:gd all σ g=some true)(hr:∀w,jV P σ op ty w v w)
   (h:∀w f,AO X w f H R B Fs→Q.p [{v,recovered:=false}] σ ds w):A3 P n Q ds X R B Fs (.ops all (⟨dst,op,ty,pos,af,g⟩::r)) fs σ H:=λw f hM=>Bp hg (Ce (hr w) (by rw[Lx];exact h w f hM))
def tN(P:Program)(n:Nat){α:Type}(m:α→Nat)(p:α→Prop)(s:α→Ba)(X:α→Cx)(H:α→List HB)(R:α→List RB)(B:α→List FB)(Fs:α→List (World→Fq→Prop))(ds:List Deferred)(k:Nat)(Q:AT):AT :=
 {q:=λe σ ds' w=>match e with
     |.normal=>∃x,m x<k∧p x∧ds'=ds∧Le (s x) σ∧∃f,AO (X x) w f (H x) (R x) (B x) (Fs x)
     |e=>Q.q e σ ds' w,
   p:=Q.p}
theorem EZ{c:Code}{α:Type}(m:α→Nat)(p:α→Prop)(s:α→Ba)(X':α→Cx)(H':α→List HB)(R':α→List RB)(B':α→List FB)(F':α→List (World→Fq→Prop))(x0:α)(h0:p x0)(hl:Le (s x0) σ)
   (hM:∀w f,AO X w f H R B Fs→AO (X' x0) w f (H' x0) (R' x0) (B' x0) (F' x0))
   (body:∀x,p x→A3 P n (tN P n m p s X' H' R' B' F' ds (m x) (Lz P n Q fs)) ds (X' x) (R' x) (B' x) (F' x) (.code c) [] (s x) (H' x)):A3 P n Q ds X R B Fs (.code (.loop c)) fs σ H:=λw f hm=>by
 refine DC (λk σ ds' w=>∃x,m x=k∧p x∧ds'=ds∧σ=s x∧∃f,AO (X' x) w f (H' x) (R' x) (B' x) (F' x)) (m x0) (s x0) hl ⟨x0,rfl,h0,rfl,rfl,f,hM w f hm⟩ ?_;rintro k σ ds' w ⟨x,rfl,hp,rfl,rfl,f,hm⟩;have:=body x hp w f hm;intro a ha;refine wp_mono (this a ha) λe a' w' he=>?_
 cases e with
 |normal =>
   obtain⟨σ',ds',hs,y,hy,hpy,rfl,hly,f',hm'⟩:=he;exact⟨σ',_,hs,m y,s y,hy,hly,y,rfl,hpy,rfl,rfl,f',hm'⟩
 |panic c=>exact he
 |outgrown=>exact he
 |ret=>exact he
 |exit i=>exact he
 |goto i=>exact he
theorem CY{α:Type}{m:α→Nat}{p:α→Prop}{s:α→Ba}{X':α→Cx}{H':α→List HB}{R':α→List RB}{B':α→List FB}{F':α→List (World→Fq→Prop)}(x:α)(hk:m x<k)(hp:p x)(hl:Le (s x) σ)
   (hM:∀w f,AO X w f H R B Fs→∃f,AO (X' x) w f (H' x) (R' x) (B' x) (F' x)):A3 P n (tN P n m p s X' H' R' B' F' ds k Q) ds X R B Fs (.out .normal) [] σ H :=
 λw f hm=>⟨x,hk,hp,rfl,hl,hM w f hm⟩
theorem EH{α:Type}{m:α→Nat}{p:α→Prop}{s:α→Ba}{X':α→Cx}{H':α→List HB}{R':α→List RB}{B':α→List FB}{F':α→List (World→Fq→Prop)}(h:A3 P n Q ds X R B Fs (.out (.exit i)) fs σ H):A3 P n (tN P n m p s X' H' R' B' F' ds k (Lz P n Q fs)) ds X R B Fs (.out (.exit i)) [] σ H:=λw f hm=>h w f hm
theorem U3{α:Type}{m:α→Nat}{p:α→Prop}{s:α→Ba}{X':α→Cx}{H':α→List HB}{R':α→List RB}{B':α→List FB}{F':α→List (World→Fq→Prop)}(h:A3 P n Q ds X R B Fs (.out .ret) fs σ H):A3 P n (tN P n m p s X' H' R' B' F' ds k (Lz P n Q fs)) ds X R B Fs (.out .ret) [] σ H:=λw f hm=>h w f hm
theorem Mm{fn:Func}{c:Code}{w:World}{f:Fq}(hf:P.funcs[fid]?=some fn)(hb:fn.body=some c)(hn:fn.ntmps=n)(hl:Nat.ble l.length n=true)(hM:AO X w f H R B Fs)
   (h:A3 P n (Fj P fn R0 XX) [] X R B Fs (.code c) [] (Hq l 0) H):BD P fid l.toArray w R0 XX:=HO hf hb hn hl (h w f hM)
theorem Cg{fn:Func}{c:Code}{w:World}{f:Fq}(hf:P.funcs[fid]?=some fn)(hb:fn.body=some c)(hn:fn.ntmps=n)(hl:Nat.ble l.length n=true)(hM:AO X w f H R B Fs)
   (h:A3 P n (Fj P fn R0 λ_ _=>False) [] X R B Fs (.code c) [] (Hq l 0) H):Bo P fid l.toArray w R0:=enter hf hb hn hl (h w f hM)
theorem AL{fn:Func}{v:Value}(hv:∀w f,AO X w f H R B Fs→TK P fn σ w v)(h:∀w f,AO X w f H R B Fs→R0 v w):A3 P n (Fj P fn R0 XX) [] X R B Fs (.out .ret) [] σ H:=λw f hM=>Bm (hv w f hM) (h w f hM)
theorem dX{fn:Func}{v:Value}(hv:∀w f,AO X w f H R B Fs→TK P fn σ w v)(h:∀w f,AO X w f H R B Fs→R0 v w):A3 P n (Fj P fn R0 XX) [] X R B Fs (.out .normal) [] σ H:=λw f hM=>FU (hv w f hM) (h w f hM)
end
def getR:List RB→Nat→Option RB
 | [],_=>none
 |x::_,0=>some x
 |_::l,i+1=>getR l i
def P9:List RB→Nat→RB→Option (List RB)
 | [],_,_=>none
 |_::H,0,e=>some (e::H)
 |x::H,i+1,e=>match P9 H i e with
   |some r=>some (x::r)
   |none=>none
def P5:List RB→Nat→Option (List RB)
 | [],_=>none
 |_::H,0=>some H
 |x::H,i+1=>match P5 H i with
   |some r=>some (x::r)
   |none=>none
theorem CW:∀{R:List RB}{i:Nat}{r:RB},getR R i=some r→r∈R
 | [],_,_,h=>by cases h
 |_::_,0,_,h=>by cases h;exact .head _
 |_::R,i+1,r,h=>.tail _ (CW (R:=R) h)
theorem QW:∀{R R':List RB}{i:Nat},P5 R i=some R'→R'.Sublist R
 | [],_,_,h=>by cases h
 |_::_,_,0,h=>by cases h;exact List.sublist_cons_self _ _
 |x::R,R',i+1,h=>by
   unfold P5 at h
   cases hr:P5 R i with
   |none=>rw[hr] at h;cases h
   |some r=>rw[hr] at h;cases h;exact (QW hr).cons_cons x
def IE(R:List RB):List Nat:=R.filterMap λr=>rb r.a
theorem RE:∀{R R':List RB}{i:Nat}{r r':RB},getR R i=some r→P9 R i r'=some R'→(∀x,x∈R'→x=r'∨x∈R)∧∀N,(rb r'.a=rb r.a∨∃k,rb r'.a=some k∧k∉N∧k∉IE R)→(N++IE R).Nodup→(N++IE R').Nodup∧(∀b,b∈IE R'→some b=rb r'.a∨b∈IE R)∧∀x,x∈R'→x=r'∨(x∈R∧(rb x.a=none∨rb x.a≠rb r.a))
 | [],_,_,_,_,h,_=>by cases h
 |x::R,R',0,r,r',hg,hs=>by
   cases hg;cases hs
   refine⟨λy hy=>by rcases List.mem_cons.1 hy with h|h;exact .inl h;exact .inr (.tail _ h),λN hk hn=>?_⟩
   have e1:IE (x::R)=(match rb x.a with|some b=>b::IE R|none=>IE R):=by
     unfold IE;rw[List.filterMap_cons];cases rb x.a <;> rfl
   have e2:IE (r'::R)=(match rb r'.a with|some b=>b::IE R|none=>IE R):=by
     unfold IE;rw[List.filterMap_cons];cases rb r'.a <;> rfl
   have hsub:(N++IE R).Nodup:=by
     rw[e1] at hn
     cases hx:rb x.a with
     |none=>rw[hx] at hn;exact hn
     |some b=>rw[hx] at hn;exact (List.Sublist.append (List.Sublist.refl N) (List.sublist_cons_self b _)).nodup hn
   have hother:∀y,y∈R→rb y.a=none∨rb y.a≠rb x.a:=λy hy=>by
     cases hb:rb y.a with
     |none=>exact .inl rfl
     |some b =>
       refine .inr λe=>?_;rw[e1,← e] at hn;have h2:=(List.nodup_append.1 hn).2.1;exact (List.nodup_cons.1 h2).1 (List.mem_filterMap.2 ⟨y,hy,hb⟩)
   refine⟨?_,?_,?_⟩
   · rcases hk with hk|⟨k,hk,hkN,hkR⟩
     · rw[e2,hk,← e1];exact hn
     · rw[e2,hk]
       have hkR':k∉IE R:=λh=>hkR (by rw[e1];cases rb x.a with|none=>exact h|some b=>exact .tail _ h)
       exact List.nodup_append.2 ⟨(List.nodup_append.1 hsub).1,List.nodup_cons.2 ⟨hkR',(List.nodup_append.1 hsub).2.1⟩,λa ha b hb e=>by
         rcases List.mem_cons.1 hb with rfl|hb
         · exact hkN (e▸ha)
         · exact (List.nodup_append.1 hsub).2.2 a ha b hb e⟩
   · intro b hb
     rw[e2] at hb
     cases hr:rb r'.a with
     |none=>rw[hr] at hb;right;rw[e1];cases rb x.a with|none=>exact hb|some c=>exact .tail _ hb
     |some c =>
       rw[hr] at hb;rcases List.mem_cons.1 hb with rfl|hb
       · exact .inl rfl
       · right;rw[e1];cases rb x.a with|none=>exact hb|some c=>exact .tail _ hb
   · intro y hy
     rcases List.mem_cons.1 hy with h|h
     · exact .inl h
     · exact .inr ⟨.tail _ h,hother y h⟩
 |x::R,R',i+1,r,r',hg,hs=>by
   unfold P9 at hs
   cases hr:P9 R i r' with
   |none=>rw[hr] at hs;cases hs
   |some R1 =>
     rw[hr] at hs;cases hs;obtain⟨h1,h2⟩:=RE (R:=R) hg hr
     refine⟨λy hy=>by
       rcases List.mem_cons.1 hy with rfl|hy
       · exact .inr (.head _)
       · rcases h1 y hy with h|h
         · exact .inl h
         · exact .inr (.tail _ h),λN hk hn=>?_⟩
     have ex:∀L:List RB,IE (x::L)=(match rb x.a with|some b=>b::IE L|none=>IE L):=λL=>by
       unfold IE;rw[List.filterMap_cons];cases rb x.a <;> rfl
     cases hx:rb x.a with
     |none =>
       rw[ex,hx] at hn;obtain⟨a1,a2,a3⟩:=h2 N (by rw[ex,hx] at hk;exact hk) hn;refine⟨by rw[ex,hx];exact a1,λb hb=>by rw[ex,hx] at hb;rw[ex,hx];exact a2 b hb,λy hy=>?_⟩;rcases List.mem_cons.1 hy with rfl|hy
       · exact .inr ⟨.head _,.inl hx⟩
       · rcases a3 y hy with h|h
         · exact .inl h
         · exact .inr ⟨.tail _ h.1,h.2⟩
     |some c =>
       rw[ex,hx] at hn;simp only at hn;have hn':((N++[c])++IE R).Nodup:=by simpa using hn
       obtain⟨a1,a2,a3⟩:=h2 (N++[c]) (by
         rw[ex,hx] at hk;rcases hk with hk|⟨k,hk,hkN,hkR⟩
         · exact .inl hk
         · exact .inr ⟨k,hk,λh=>by
             rcases List.mem_append.1 h with h|h
             · exact hkN h
             · exact hkR (by rw[List.mem_singleton] at h;subst h;exact .head _),λh=>hkR (.tail _ h)⟩) hn'
       have hrc:rb r.a≠some c:=λe=>by
         have:c∈IE R:=List.mem_filterMap.2 ⟨r,CW hg,e⟩;exact (List.nodup_append.1 hn').2.2 c (List.mem_append.2 (.inr (.head _))) c this rfl
       refine⟨by rw[ex,hx];simpa using a1,λb hb=>?_,λy hy=>?_⟩
       · rw[ex,hx] at hb
         rcases List.mem_cons.1 hb with rfl|hb
         · right;rw[ex,hx];exact .head _
         · rcases a2 b hb with h|h
           · exact .inl h
           · right;rw[ex,hx];exact .tail _ h
       · rcases List.mem_cons.1 hy with rfl|hy
         · exact .inr ⟨.head _,.inr (by rw[hx];exact λe=>hrc e.symm)⟩
         · rcases a3 y hy with h|h
           · exact .inl h
           · exact .inr ⟨.tail _ h.1,h.2⟩
section
variable{X:Cx}{w w':World}{f:Fq}{H:List HB}{R R':List RB}{B:List FB}{Fs:List (World→Fq→Prop)}
variable {xs:List Value}{b c' n n':Nat}{a':Option Addr}{e:TypeId}
theorem AO.grow{r:RB}{xs':List Value}(h:AO X w f H R B Fs)(hg:getR R i=some r)(hs:P9 R i ⟨r.e,r.size,a',c',n',xs'⟩=some R')(hr:BQ w' r.e r.size a' c' n' xs')(hG:En r.a w a' w'):AO X w' f H R' B Fs:=by
 have hmemr:∀b,rb r.a=some b→b∈C8 H R:=λb hb=>List.mem_append.2 (.inr (List.mem_filterMap.2 ⟨r,CW hg,hb⟩))
 have hF:Hm w f w' f:=λk=>⟨Nat.le_refl _,λo ho=>by
   have hk:k<w.heap.size:=by
     rcases Nat.lt_or_ge k w.heap.size with hh|hh
     · exact hh
     · have:=h.val k hh;omega
   exact De (hG.block k hk λe=>by have:=(h.own k (hmemr k e.symm)).1;omega) o⟩
 have hmi:∀k,X.MI k→w'.heap[k]?=w.heap[k]?:=λk hk=>hG.block k (h.mi k hk).1 λe=>(h.own k (hmemr k e.symm)).2.2 hk;have hnew:w.heap.size∉C8 H R:=λhh=>Nat.lt_irrefl _ (h.lt hh);obtain⟨h1,h2⟩:=RE hg hs
 obtain⟨a1,a2,a3⟩:=h2 (H.map HB.b) (by
   rcases hG.own with ho|ho
   · exact .inl ho
   · exact .inr ⟨_,ho,λhh=>hnew (List.mem_append.2 (.inl hh)),λhh=>hnew (List.mem_append.2 (.inr hh))⟩) h.nd
 have hblk:∀e,e∈H→w'.heap[e.b]?=w.heap[e.b]?:=λe he=>hG.block e.b (h.blk e he).lt λhh=>by
   exact (List.nodup_append.1 h.nd).2.2 e.b (List.mem_map.2 ⟨e,he,rfl⟩) e.b (List.mem_filterMap.2 ⟨r,CW hg,hh.symm⟩) rfl
 exact {stp:=⟨hG.os.trans h.stp.os,hG.tape.trans h.stp.tape,hG.output.trans h.stp.output,Nat.le_trans h.stp.size hG.size,λk hk hm=>(hG.block k (Nat.lt_of_lt_of_le hk h.stp.size) λe=>by have:=h.rnw r (CW hg) k e.symm;omega).trans (h.stp.block k hk hm)⟩,
         old:=h.old,val:=λk hk=>h.val k (Nat.le_trans hG.size hk),ent:=h.ent.trans hF,res:=h.stab _ _ _ _ h.res hF hmi,stab:=h.stab,
         mi:=λk hk=>⟨Nat.lt_of_lt_of_le (h.mi k hk).1 hG.size,(h.mi k hk).2⟩,
         blk:=λe he=>(hblk e he).trans (h.blk e he),
         row:=λx hx=>by
           rcases a3 x hx with rfl|⟨hx,hne⟩
           · exact hr
           · exact (h.row x hx).grow hG hne,
         nd:=a1,
         own:=λb hb=>by
           rcases List.mem_append.1 hb with hb|hb
           · exact h.own b (List.mem_append.2 (.inl hb))
           · rcases a2 b hb with hb|hb
             · rcases hG.own with ho|ho
               · exact h.own b (hmemr b (by rw[← ho];exact hb.symm))
               · have:b=w.heap.size:=Option.some.inj (hb.trans ho)
                 subst this;exact⟨h.val _ (Nat.le_refl _),.inl h.stp.size,λhm=>Nat.lt_irrefl _ (h.mi _ hm).1⟩
             · exact h.own b (List.mem_append.2 (.inr hb)),
         hnw:=h.hnw,
         rnw:=λx hx b hb=>by
           rcases a3 x hx with rfl|⟨hx,_⟩
           · rcases hG.own with ho|ho
             · exact h.rnw r (CW hg) b (by rw[← ho];exact hb)
             · have:b=w.heap.size:=Option.some.inj (hb.symm.trans ho)
               subst this;exact h.stp.size
           · exact h.rnw x hx b hb,
         fro:=λx hx=>(h.fro x hx).mono hF,fac:=λφ hφ=>h.mono φ hφ _ _ _ _ (h.fac φ hφ) hF,mono:=h.mono}
theorem AO.rowNil(h:AO X w f H R B Fs)(e:TypeId)(size:Nat):AO X w f H (⟨e,size,none,0,0,[]⟩::R) B Fs :=
 {h with
   row:=λr hr=>by
     rcases List.mem_cons.1 hr with rfl|hr
     · exact F5 _ _ _
     · exact h.row r hr,
   rnw:=λr hr b hb=>by
     rcases List.mem_cons.1 hr with rfl|hr
     · cases hb
     · exact h.rnw r hr b hb}
theorem AO.done{size c:Nat}(h:AO X w f H R B Fs)(hg:getR R i=some ⟨e,size,some ⟨b,0,none⟩,c,n,xs⟩)(hs:P5 R i=some R'):∃f',AO X w f' H R' (⟨b,0,xs⟩::B) Fs:=by
 have hr:=h.row _ (CW hg);have hown:=h.own b (List.mem_append.2 (.inr (List.mem_filterMap.2 ⟨_,CW hg,rfl⟩)));have hnw:=h.rnw _ (CW hg) b rfl;have hlt:b<w.heap.size:=hr.lt rfl
 let f':Fq:=λk=>if k=b then n*size else f k
 have hF:Hm w f w f':=λk=>by
   show f k≤(if k=b then n*size else f k)∧_
   split
   · rename_i hk;subst hk;rw[hown.1];exact⟨Nat.zero_le _,λo ho=>by omega⟩
   · exact⟨Nat.le_refl _,λ_ _=>rfl⟩
 have hne:∀k,k≠b→f' k=f k:=λk hk=>if_neg hk;have hsub:=QW hs
 have hbR:b∉C8 H R':=by
   have:∀(R R':List RB)(i:Nat)(N:List Nat),getR R i=some ⟨e,size,some ⟨b,0,none⟩,c,n,xs⟩→P5 R i=some R'→(N++IE R).Nodup→b∉N++IE R':=by
     intro R
     induction R with
     |nil=>intro R' i N hg;cases hg
     |cons x R ih =>
       intro R' i N hg hs hn
       cases i with
       |zero =>
         cases hg;cases hs
         have e1:IE (⟨e,size,some ⟨b,0,none⟩,c,n,xs⟩::R)=b::IE R:=rfl;rw[e1] at hn;intro hb;rcases List.mem_append.1 hb with hb|hb
         · exact (List.nodup_append.1 hn).2.2 b hb b (.head _) rfl
         · exact (List.nodup_cons.1 (List.nodup_append.1 hn).2.1).1 hb
       |succ i =>
         unfold P5 at hs
         cases hr:P5 R i with
         |none=>rw[hr] at hs;cases hs
         |some R1 =>
           rw[hr] at hs;cases hs
           have ex:∀L:List RB,IE (x::L)=(match rb x.a with|some b=>b::IE L|none=>IE L):=λL=>by
             unfold IE;rw[List.filterMap_cons];cases rb x.a <;> rfl
           rw[ex] at hn ⊢
           cases hx:rb x.a with
           |none=>rw[hx] at hn;exact ih R1 i N hg hr hn
           |some k =>
             rw[hx] at hn;have:=ih R1 i (N++[k]) hg hr (by simpa using hn);simpa using this
   exact this R R' i (H.map HB.b) hg hs h.nd
 refine⟨f',{stp:=h.stp,old:=λk hk=>(hne k oM).trans (h.old k hk),val:=λk hk=>(hne k oM).trans (h.val k hk),ent:=h.ent.trans hF,res:=h.stab _ _ _ _ h.res hF (λ_ _=>rfl),stab:=h.stab,
               mi:=λk hk=>⟨(h.mi k hk).1,(hne k (λe=>hown.2.2 (e▸hk))).trans (h.mi k hk).2.1,(h.mi k hk).2.2⟩,
               blk:=h.blk,row:=λr hr=>h.row r (hsub.subset hr),nd:=(List.Sublist.append (List.Sublist.refl _) (hsub.filterMap _)).nodup h.nd,
               own:=λk hk=>by
                 have hk2:k∈C8 H R:=(List.Sublist.append (List.Sublist.refl (H.map (·.b))) (hsub.filterMap _)).subset hk;exact⟨(hne k (λe=>hbR (e▸hk))).trans (h.own k hk2).1,(h.own k hk2).2⟩,
               hnw:=h.hnw,rnw:=λr hr=>h.rnw r (hsub.subset hr),
               fro:=λx hx=>by
                 rcases List.mem_cons.1 hx with rfl|hx
                 · intro j v hj
                   have hj:xs[j]?=some v:=hj;obtain⟨hl,_⟩:=List.getElem?_eq_some_iff.1 hj;rcases hr.2 with ⟨h0,_⟩|⟨b',l,ha,hb,hnc,_,hll,ht⟩
                   · cases h0
                   · cases ha
                     have hxl:xs.length=n*size:=hr.1;have ht:l.take (n*size)=xs:=ht;refine⟨?_,?_⟩
                     · show 0+j<(if b=b then n*size else f b)
                       rw[if_pos rfl];omega
                     · show w.cell? ⟨b,0+j,none⟩=some v
                       rw[hb.cell,Nat.zero_add];rw[← ht,List.getElem?_take] at hj
                       split at hj
                       · exact hj
                       · cases hj
                 · exact (h.fro x hx).mono hF,
               fac:=λφ hφ=>h.mono φ hφ _ _ _ _ (h.fac φ hφ) hF,mono:=h.mono}⟩
end
def AE:List (World→Fq→Prop)→World→Fq→Prop
 | [],_,_=>True
 |φ::l,w,f=>φ w f∧AE l w f
def Aw:List (World→Fq→Prop)→Prop
 | []=>True
 |φ::l=>EY φ∧Aw l
theorem AE.mem:∀{l:List (World→Fq→Prop)}{w:World}{f:Fq},AE l w f→∀φ,φ∈l→φ w f
 | [],_,_,_,_,h=>by cases h
 |_::_,_,_,h,φ,hφ=>by
   rcases List.mem_cons.1 hφ with rfl|hφ
   · exact h.1
   · exact AE.mem h.2 φ hφ
theorem Aw.mem:∀{l:List (World→Fq→Prop)},Aw l→∀φ,φ∈l→EY φ
 | [],_,_,h=>by cases h
 |_::_,h,φ,hφ=>by
   rcases List.mem_cons.1 hφ with rfl|hφ
   · exact h.1
   · exact Aw.mem h.2 φ hφ
def Bx{α:Type}(val:α→Value)(q:α→Prop)(F':α→List (World→Fq→Prop))(w:World)(f:Fq)(v:Value)(w':World):Prop:=∃x f',v=val x∧q x∧C2 (λ_=>False) w f w' f'∧AE (F' x) w' f'
def EC{α:Type}(val:α→Value)(q:α→Prop)(MI:Nat→Prop)(I':α→World→Fq→Prop)(F':α→List (World→Fq→Prop))(w:World)(f:Fq)(v:Value)(w':World):Prop:=∃x f',v=val x∧q x∧C2 MI w f w' f'∧I' x w' f'∧AE (F' x) w' f'
def Vl(w:World)(f:Fq):Prop:=∀b,w.heap.size≤b→f b=0
abbrev X0(w:World)(f:Fq):Cx:=⟨λ_=>False,λ_=>False,λ_ _=>True,w,f⟩
theorem BS{w:World}{f:Fq}{Fs:List (World→Fq→Prop)}(hv:Vl w f)(hF:AE Fs w f)(hm:Aw Fs):AO (X0 w f) w f [] [] [] Fs where
 stp:=LG.refl _ _
 old _ _:=rfl
 val:=hv
 ent:=Hm.refl _ _
 res:=trivial
 stab _ _ _ _ _ _ _:=trivial
 mi _ h:=h.elim
 blk _ h:=by cases h
 row _ h:=by cases h
 nd:=List.nodup_nil
 own _ h:=by cases h
 hnw _ h:=by cases h
 rnw _ h:=by cases h
 fro _ h:=by cases h
 fac:=hF.mem
 mono:=hm.mem
theorem AO.vl{X:Cx}{w:World}{f:Fq}{H:List HB}{R:List RB}{B:List FB}{Fs:List (World→Fq→Prop)}(h:AO X w f H R B Fs):Vl w f:=h.val
def Ke:List HB→Nat→Option (List HB)
 | [],_=>none
 |_::H,0=>some H
 |x::H,i+1=>match Ke H i with
   |some r=>some (x::r)
   |none=>none
theorem K8:∀{H H':List HB}{i:Nat},Ke H i=some H'→H'.Sublist H
 | [],_,_,h=>by cases h
 |_::_,_,0,h=>by cases h;exact List.sublist_cons_self _ _
 |x::H,H',i+1,h=>by
   unfold Ke at h
   cases hr:Ke H i with
   |none=>rw[hr] at h;cases h
   |some r=>rw[hr] at h;cases h;exact (K8 hr).cons_cons x
theorem Kq:∀{H H':List HB}{i:Nat}{e:HB}{L:List Nat},Hd H i=some e→Ke H i=some H'→(H.map HB.b++L).Nodup→e.b∉H'.map HB.b++L
 | [],_,_,_,_,h,_,_=>by cases h
 |x::H,H',0,e,L,hg,hs,hn=>by
   cases hg;cases hs
   exact (List.nodup_cons.1 hn).1
 |x::H,H',i+1,e,L,hg,hs,hn=>by
   unfold Ke at hs
   cases hr:Ke H i with
   |none=>rw[hr] at hs;cases hs
   |some r =>
     rw[hr] at hs;cases hs;have hn':(x.b::(H.map HB.b++L)).Nodup:=hn;have ih:=Kq (H:=H) (L:=L) hg hr (List.nodup_cons.1 hn').2;intro hb;have hb':e.b∈x.b::(r.map HB.b++L):=hb;rcases List.mem_cons.1 hb' with h|h
     · exact (List.nodup_cons.1 hn').1 (by rw[← h];exact List.mem_append.2 (.inl (List.mem_map.2 ⟨e,BH hg,rfl⟩)))
     · exact ih h
section
variable{X:Cx}{w w':World}{f:Fq}{H H':List HB}{R R':List RB}{B:List FB}{Fs:List (World→Fq→Prop)}
variable {b:Nat}
theorem AO.doneH{T:TypeId}(h:AO X w f H R B Fs)(hg:Hd H i=some ⟨b,l,T,true⟩)(hs:Ke H i=some H'):∃f',AO X w f' H' R (⟨b,0,l⟩::B) Fs:=by
 have hblk:=h.blk _ (BH hg);have hown:=h.own b (List.mem_append.2 (.inl (List.mem_map.2 ⟨_,BH hg,rfl⟩)));have hnw:=h.hnw _ (BH hg) rfl;have hlt:b<w.heap.size:=hblk.lt
 let f':Fq:=λk=>if k=b then l.length else f k
 have hF:Hm w f w f':=λk=>by
   show f k≤(if k=b then l.length else f k)∧_
   split
   · rename_i hk;subst hk;rw[hown.1];exact⟨Nat.zero_le _,λo ho=>by omega⟩
   · exact⟨Nat.le_refl _,λ_ _=>rfl⟩
 have hne:∀k,k≠b→f' k=f k:=λk hk=>if_neg hk;have hsub:=K8 hs;have hnd:(H.map HB.b++IE R).Nodup:=h.nd;have hbR:b∉C8 H' R:=Kq (L:=IE R) hg hs hnd;have hso:(C8 H' R).Sublist (C8 H R):=List.Sublist.append (hsub.map _) (List.Sublist.refl _);have hnw':X.w0.heap.size≤b:=hnw
 refine⟨f',{stp:=h.stp,old:=λk hk=>(hne k oM).trans (h.old k hk),val:=λk hk=>(hne k oM).trans (h.val k hk),ent:=h.ent.trans hF,res:=h.stab _ _ _ _ h.res hF (λ_ _=>rfl),stab:=h.stab,
               mi:=λk hk=>⟨(h.mi k hk).1,(hne k (λe=>hown.2.2 (e▸hk))).trans (h.mi k hk).2.1,(h.mi k hk).2.2⟩,
               blk:=λe he=>h.blk e (hsub.subset he),row:=h.row,nd:=hso.nodup h.nd,
               own:=λk hk=>⟨(hne k (λe=>hbR (e▸hk))).trans (h.own k (hso.subset hk)).1,(h.own k (hso.subset hk)).2⟩,
               hnw:=λe he=>h.hnw e (hsub.subset he),rnw:=h.rnw,
               fro:=λx hx=>by
                 rcases List.mem_cons.1 hx with rfl|hx
                 · intro j v hj
                   have hj:l[j]?=some v:=hj;obtain⟨hl,_⟩:=List.getElem?_eq_some_iff.1 hj;refine⟨?_,?_⟩
                   · show 0+j<(if b=b then l.length else f b)
                     rw[if_pos rfl];omega
                   · show w.cell? ⟨b,0+j,none⟩=some v
                     have hblk:AI w b l T:=hblk;rw[hblk.cell,Nat.zero_add,hj]
                 · exact (h.fro x hx).mono hF,
               fac:=λφ hφ=>h.mono φ hφ _ _ _ _ (h.fac φ hφ) hF,mono:=h.mono}⟩
end
section
variable{P:Program}{n:Nat}{Q:AT}{ds:List Deferred}{X:Cx}{R R':List RB}{B:List FB}{Fs:List (World→Fq→Prop)}{tb:Vr}{fs:List Fr}{σ:Ba}{H:List HB}
variable{all r:List Oper}{ty T:TypeId}{pos:String}{af:Array Edge}{g:Option (Nat×Bool)}{d:Nat}{x y:Operand}
theorem MD{k:Kc}(e:TypeId)(size:Nat)(h:A3 P n Q ds X (⟨e,size,none,0,0,[]⟩::R) B Fs k fs σ H):A3 P n Q ds X R B Fs k fs σ H:=λw f hM=>h w f (hM.rowNil e size)
variable {ag nw:Bool}{vs xs z zl:List Value}{b bytes cs m o off:Nat}{a:Option Addr}{Ts e:TypeId}
theorem gG{k:Kc}{size c:Nat}(i:Nat)(hg:getR R i=some ⟨e,size,some ⟨b,0,none⟩,c,m,xs⟩)(hs:P5 R i=some R')(h:A3 P n Q ds X R' (⟨b,0,xs⟩::B) Fs k fs σ H):A3 P n Q ds X R B Fs k fs σ H:=λw f hM=>by
 obtain⟨f',hM'⟩:=hM.done hg hs;exact h w f' hM'
theorem CJ{k:Kc}{H':List HB}{T:TypeId}(i:Nat)(hg:Hd H i=some ⟨b,l,T,true⟩)(hs:Ke H i=some H')(h:A3 P n Q ds X R (⟨b,0,l⟩::B) Fs k fs σ H'):A3 P n Q ds X R B Fs k fs σ H:=λw f hM=>by
 obtain⟨f',hM'⟩:=hM.doneH hg hs;exact h w f' hM'
theorem CT{size:Nat}{c src:Nat}{news:List Value}{R':Option Addr→Nat→List RB}(i j:Nat)(hg:gd all σ g=some true)(hd:Nat.blt d n=true)(hT:Lb P T=some (e,size,bytes,zl))(hzl:Nat.beq zl.length size=true)(hsz:Nat.blt 0 size=true)
   (hs:ev σ x=some (.slice a k c)) (hx:ev σ y=some (.slice (some ⟨src,0,none⟩) 1 cs)) (hR:getR R i=some ⟨e,size,a,c,k,xs⟩) (hH:Hd H j=some ⟨src,news,Ts,nw⟩) (hl:Nat.beq news.length size=true) (h1:L9 news=true)
   (hS:∀a' c',P9 R i ⟨e,size,a',c',k+1,xs++news⟩=some (R' a' c')) (h47:(k+1)*bytes≤140737488355328) (h63:k+1≤9223372036854775807)
   (h:∀a' c',A3 P n Q ds X (R' a' c') B Fs (.ops all r) fs (AA σ d (.slice a' (k+1) c')) H) :
   A3 P n Q ds X R B Fs (.ops all (⟨some d,.call {callee:=.builtin .append,args:=#[x,y],argTypes:=#[T,T]},ty,pos,af,g⟩::r)) fs σ H:=λw f hM =>
 Bp hg (AY hd hT hzl hsz hs hx (hM.row _ (CW hR)) (hM.blk _ (BH hH)) hl h1 h47 h63 λa' c' w' hr hG=>h a' c' w' f (hM.grow hR (hS a' c') hr hG))
theorem W9{size:Nat}{c src:Nat}{news:List Value}{R':Option Addr→Nat→List RB}(i j:Nat)(hg:gd all σ g=some true)(hd:Nat.blt d n=true)(hT:Lb P T=some (e,size,bytes,zl))(hzl:Nat.beq zl.length size=true)(hsz:Nat.blt 0 size=true)
   (hs:ev σ x=some (.slice a k c)) (hx:ev σ y=some (.slice (some ⟨src,off,none⟩) m cs)) (hR:getR R i=some ⟨e,size,a,c,k,xs⟩) (hB:nth B j=some ⟨src,off,news⟩) (hl:news.length=m*size) (h1:∀v∈news,v.oneCell'=true) (hm:0<m)
   (hS:∀a' c',P9 R i ⟨e,size,a',c',k+m,xs++news⟩=some (R' a' c')) (h47:(k+m)*bytes≤140737488355328) (h63:k+m≤9223372036854775807)
   (h:∀a' c',A3 P n Q ds X (R' a' c') B Fs (.ops all r) fs (AA σ d (.slice a' (k+m) c')) H) :
   A3 P n Q ds X R B Fs (.ops all (⟨some d,.call {callee:=.builtin .append,args:=#[x,y],argTypes:=#[T,T]},ty,pos,af,g⟩::r)) fs σ H:=λw f hM=>by
 obtain⟨a',c',w',hr,hrw,hG⟩:=Qm (ty:=ty) hT hzl hsz hs hx (hM.row _ (CW hR)) (λj u hj=>by rw[DM];exact (hM.getB hB j u hj).2) hl h1 hm h47 h63;exact Bp hg (Ab hd hr (h a' c' w' f (hM.grow hR (hS a' c') hrw hG)))
theorem xA(hg:gd all σ g=some true)(hd:Nat.blt d n=true)(hT:Ih P T=some (e,k))
   (h:∀b,A3 P n Q ds X (⟨e,k,some ⟨b,0,none⟩,0,0,[]⟩::R) B Fs (.ops all r) fs (AA σ d (.slice (some ⟨b,0,none⟩) 0 0)) H) :
   A3 P n Q ds X R B Fs (.ops all (⟨some d,.buildSlice T 0 #[],ty,pos,af,g⟩::r)) fs σ H:=λw f hM=>by
 obtain⟨i,hu,hi,rfl⟩:=G5 hT
 have hr:(Instr.buildSlice T 0 #[]).run P w=.ok (.slice (some ⟨w.heap.size,0,none⟩) 0 0) (w.alloc (.cells #[] e)):=by
   simp[Instr.buildSlice,run_underlying hu,sizeOf,typeInfo,hi,Instr.fill,newRow,show Array.range 0=#[] from rfl]
 refine Bp hg (Ab hd (v:=.slice (some ⟨w.heap.size,0,none⟩) 0 0) (w':=w.alloc (.cells #[] e)) (λρ _ _ _ _ hρ=>by simp[execOp,hr]) ?_)
 have hM1:=(hM.rowNil e i.size).grow (i:=0) (a':=some ⟨w.heap.size,0,none⟩) (c':=0) (n':=0) (xs':=[]) (w':=w.alloc (.cells #[] e)) rfl rfl
   ⟨by simp,.inr ⟨w.heap.size,[],rfl,LZ w [] _,Nat.le_refl _,Nat.zero_le _,by simp,by simp⟩⟩ ⟨rfl,rfl,rfl,by rw[Gy];omega,λk hk _=>Ix w _ k hk,.inr rfl⟩
 exact h w.heap.size _ f hM1
theorem QA{size:Nat}(hz:z.length=size)(hs:0<size)(m:Nat):madeCells z.toArray (m*size)=(FA m z).toArray:=by
 rw[← Qd size z hz hs m,← MZ m size z hz hs];rfl
theorem Kz{size:Nat}(hz:z.length=size):∀m,(FA m z).length=m*size
 |0=>by simp[FA]
 |m+1=>by rw[FA,List.length_append,Kz hz m,hz,Nat.add_mul];omega
theorem vS{size:Nat}{x y:Operand}(hg:gd all σ g=some true)(hd:Nat.blt d n=true)(hT:Lb P T=some (e,size,bytes,zl))(hzl:Nat.beq zl.length size=true)(hsz:Nat.blt 0 size=true)
   (hx:ev σ x=some (.int .i64 (m:Int))) (hy:ev σ y=some (.int .i64 (m:Int))) (hb:bytes*m≤281474976710656) (h63:m≤maxLen)
   (h:∀b,A3 P n Q ds X (⟨e,size,some ⟨b,0,none⟩,m,m,FA m zl⟩::R) B Fs (.ops all r) fs (AA σ d (.slice (some ⟨b,0,none⟩) m m)) H) :
   A3 P n Q ds X R B Fs (.ops all (⟨some d,.makeSlice T x y,ty,pos,af,g⟩::r)) fs σ H:=λw f hM=>by
 unfold Lb at hT
 split at hT
 · rename_i e' hu
   split at hT
   · rename_i i hi
     split at hT
     · rename_i z hz
       injection hT with hT
       obtain⟨rfl,rfl,rfl,rfl⟩:=by simpa using hT
       have hzl':z.cells.toList.length=i.size:=Nat.eq_of_beq_eq_true hzl;have hsz':0<i.size:=Nat.le_of_ble_eq_true hsz;have hm63:(m:Int)≤9223372036854775807:=by have:=h63;unfold maxLen at this;omega
       have hbI:(i.bytes:Int)*(m:Int)≤281474976710656:=by
         have:((i.bytes*m:Nat):Int)≤281474976710656:=oM;rwa[Int.natCast_mul] at this
       have hr:=run_make (P:=P) w T e' i z hu hi hz .i64 .i64 (m:Int) (m:Int) oM oM hbI hm63;simp only[Int.toNat_natCast] at hr
       have hc:madeCells z.cells (m*i.size)=(FA m z.cells.toList).toArray:=by
         have:=QA (z:=z.cells.toList) hzl' hsz' m;simpa using this
       rw[hc] at hr;refine Bp hg (Ab hd (v:=.slice (some ⟨w.heap.size,0,none⟩) m m) (w':=w.alloc (.cells (FA m z.cells.toList).toArray e')) ?_ ?_)
       · intro ρ _ _ _ _ hρ
         simp[execOp,hρ _ _ hx,hρ _ _ hy,hr]
       · have hM1:=(hM.rowNil e' i.size).grow (i:=0) (a':=some ⟨w.heap.size,0,none⟩) (c':=m) (n':=m) (xs':=FA m z.cells.toList) (w':=w.alloc (.cells (FA m z.cells.toList).toArray e')) rfl rfl
           ⟨Kz hzl' m,.inr ⟨w.heap.size,_,rfl,LZ w _ _,Nat.le_refl _,h63,Kz hzl' m,by rw[List.take_of_length_le (by rw[Kz hzl' m];exact Nat.le_refl _)]⟩⟩
           ⟨rfl,rfl,rfl,by rw[Gy];omega,λk hk _=>Ix w _ k hk,.inr rfl⟩
         exact h w.heap.size _ f hM1
     · cases hT
   · cases hT
 · cases hT
theorem Oq:∀(vs cs:List Value)(o k:Nat),(DU cs o vs).take k=DU (cs.take k) o vs
 | [],_,_,_=>rfl
 |v::vs,cs,o,k=>by rw[DU,DU,Oq vs (cs.set o v) (o+1) k,List.take_set]
theorem vN{size c:Nat}{v:Value}(i:Nat)(xs':List Value)(hg:gd all σ g=some true)(hx:ev σ x=some (.pointer (some ⟨b,o,none⟩)))(hy:ev σ y=some v)(hv:Hl v=some vs)(hT:AM P T=some (ag,k))(hk:Nat.beq vs.length k=true)(h1:L9 vs=true)
   (hR:getR R i=some ⟨e,size,some ⟨b,0,none⟩,c,m,xs⟩) (hf:o+vs.length≤m*size) (he:DU xs o vs=xs') (hS:P9 R i ⟨e,size,some ⟨b,0,none⟩,c,m,xs'⟩=some R')
   (h:A3 P n Q ds X R' B Fs (.ops all r) fs σ H):A3 P n Q ds X R B Fs (.ops all (⟨none,.store T x y,ty,pos,af,g⟩::r)) fs σ H:=λw f hM=>by
 subst he;have hr:=hM.row _ (CW hR);rcases hr.2 with ⟨h0,_⟩|⟨b',l,ha,hb,hmc,hcm,hll,ht⟩
 · cases h0
 · cases ha
   have hxl:xs.length=m*size:=hr.1;have hll:l.length=c*size:=hll;have ht:l.take (m*size)=xs:=ht;have hms:m*size≤c*size:=Nat.mul_le_mul_right _ hmc;have hb:AI w b l e:=hb;refine Bp hg (IN (NA hx hy (Gs hv) hT hk hb h1 oM) (h _ f (hM.grow hR hS ?_ ?_)))
   · refine⟨by rw[FE];exact hxl,.inr ⟨b,DU l o vs,rfl,setRow_heap w b _ _ e _ hb,hmc,hcm,by rw[FE];exact hll,?_⟩⟩
     rw[Oq,ht]
   · exact⟨rfl,rfl,rfl,by simp[World.setRow],λk hk hne=>setRow_other w b k _ (λe=>hne (by rw[e];rfl)),.inl rfl⟩
end
def Kp(Hk:List HB)(B:List FB)(J:World→Prop)(w:World):Prop:=(∀e,e∈Hk→AI w e.b e.l e.T)∧(∀e,e∈B→∀(j:Nat)(v:Value),e.l[j]?=some v→w.cell? ⟨e.b,e.off+j,none⟩=some v)∧J w
def L0(H:List HB):List Nat→Option (List HB)
 | []=>some []
 |i::l=>match Hd H i,L0 H l with
   |some e,some r=>some (e::r)
   |_,_=>none
theorem Jy{H:List HB}:∀{ix:List Nat}{Hk:List HB},L0 H ix=some Hk→∀e,e∈Hk→e∈H
 | [],_,h,e,he=>by cases h;cases he
 |i::ix,Hk,h,e,he=>by
   unfold L0 at h
   split at h
   · rename_i e0 r h1 h2
     cases h
     rcases List.mem_cons.1 he with rfl|he
     · exact BH h1
     · exact Jy h2 e he
   · cases h
variable {nw top:Bool}{f:Fq}{b id off:Nat}{T:TypeId}{w:World}
theorem AO.kp{X:Cx}{H Hk:List HB}{R:List RB}{B:List FB}{Fs:List (World→Fq→Prop)}{J:World→Prop}(h:AO X w f H R B Fs)(hs:∀e,e∈Hk→e∈H)(hJ:∀w f,X.I w f→C2 X.M X.w0 X.f0 w f→J w):Kp Hk B J w :=
 ⟨λe he=>h.blk e (hs e he),λe he j v hj=>(h.fro e he j v hj).2,hJ w f h.res h.exm⟩
section
variable(P:Program)(n:Nat)(Q:AT)(ds:List Deferred)(X:Cx)(R:List RB)(B:List FB)(Fs:List (World→Fq→Prop))(tb:Vr)(l:List Oper)(Hk:List HB)(B0:List FB)(J:World→Prop)
def CN(top:Bool)(t:OT)(σ:Ba)(H:List HB):Prop:=∀w f,AO X w f H R B Fs→Ve P n l Q (Kp Hk B0 J) top t σ ds w
def Vk:Nat→List Nat→OT→Ba→List HB→Prop
 |0,_,t,σ,H=>True→CN P n Q ds X R B Fs l Hk B0 J true t σ H
 |m+1,hs,.rd i k,σ,H=>(match nth l i with
   |some ⟨some d,op,_,_,_,g⟩=>(match Nat.blt d n with
     |false=>False
     |true=>(match gd l σ g with
       |none=>False
       |some false=>Vk m hs k (AA σ d undef) H
       |some true=>(match op with
         |.load T x=>(match hs with
           | []=>False
           |h::hs=>(match ev σ x,nC tb.ti T with
             |some (.pointer (some ⟨b,o,none⟩)),some (a,q)=>(match Nat.blt h 100 with
               |true=>(match Hd Hk h with
                 |some ⟨b',c,_,_⟩=>(match a with
                   |false=>(match nth c o with
                     |some v=>b'=b∧Vk m hs k (AA σ d v) H
                     |none=>False)
                   |true=>(match SD c o q with
                     |some vs=>b'=b∧Vk m hs k (AA σ d (.agg ⟨vs⟩)) H
                     |none=>False))
                 |none=>False)
               |false=>(match hs with
                 | []=>False
                 |j::hs=>(match nth B0 (h-100) with
                   |some ⟨b',off,c⟩=>(match a with
                     |false=>(match nth c j with
                       |some v=>(b'=b∧off+j=o)∧Vk m hs k (AA σ d v) H
                       |none=>False)
                     |true=>(match SD c j q with
                       |some vs=>(b'=b∧off+j=o)∧Vk m hs k (AA σ d (.agg ⟨vs⟩)) H
                       |none=>False))
                   |none=>False)))
             |_,_=>False))
         |.indexAddr T x y=>(match ev σ x,ev σ y,Vc tb.sl T with
           |some (.slice (some ⟨b,o,none⟩) len _),some (.int _ i),some (_,q)=>(0≤i∧i<len)∧Vk m hs k (AA σ d (.pointer (some ⟨b,o+i.toNat*q,none⟩))) H
           |_,_,_=>False)
         |.binOp .add T x y T'=>(match ev σ x,ev σ y with
           |some (.int .i64 a),some (.int .i64 b)=>PV (a+b)∧Vk m hs k (AA σ d (.int .i64 (a+b))) H
           |some (.string ⟨⟨a⟩⟩),some (.string ⟨⟨b⟩⟩)=>a.length+b.length≤9223372036854775807∧Vk m hs k (AA σ d (S (a++b))) H
           |_,_=>False)
         |.binOp .sub T x y T'=>(match ev σ x,ev σ y with
           |some (.int .i64 a),some (.int .i64 b)=>PV (a-b)∧Vk m hs k (AA σ d (.int .i64 (a-b))) H
           |_,_=>False)
         |op=>(match pv tb σ op with
           |some v=>Vk m hs k (AA σ d v) H
           |none=>False))))
   |_=>False)
 |_+1,_,_,_,_=>False
end
section
variable{P:Program}{n:Nat}{Q:AT}{ds:List Deferred}{X:Cx}{R:List RB}{B:List FB}{Fs:List (World→Fq→Prop)}{tb:Vr}{l:List Oper}{Hk:List HB}{B0:List FB}{J:World→Prop}{σ:Ba}{H:List HB}{fs:List Fr}
theorem F2{S:World→Prop}{op:Op}{k:OT}{v:Value}(hi:nth l i=some ⟨some d,op,ty,pos,af,g⟩)(hd:Nat.blt d n=true)(hg:gd l σ g=some true)(hr:∀w,S w→AG P σ op ty w v w)
   (h:Ve P n l Q S true k (AA σ d v) ds w):Ve P n l Q S top (.rd i k) σ ds w:=λa ha =>
 ⟨_,v,(Ek l i).symm.trans hi,.inl ⟨Jh ha hg,λw hS=>hr w hS a.eval _ _ _ _ ha.ev⟩,h _ (ha.put hd v)⟩
theorem dL{S:World→Prop}{op:Op}{k:OT}(hi:nth l i=some ⟨some d,op,ty,pos,af,g⟩)(hd:Nat.blt d n=true)(hg:gd l σ g=some false)
   (h:Ve P n l Q S true k (AA σ d undef) ds w):Ve P n l Q S top (.rd i k) σ ds w:=λa ha =>
 ⟨_,undef,(Ek l i).symm.trans hi,.inr ⟨Jh ha hg,rfl⟩,h _ (ha.put hd undef)⟩
theorem Kp.blk{c:List Value}(h:Kp Hk B0 J w)(hg:Hd Hk i=some ⟨b,c,T,nw⟩):AI w b c T:=h.1 _ (BH hg)
theorem Kp.cel{c:List Value}(h:Kp Hk B0 J w)(hg:nth B0 i=some ⟨b,off,c⟩):∀(j:Nat)(v:Value),c[j]?=some v→w.cell? ⟨b,off+j,none⟩=some v:=by
 rw[Ek] at hg;exact h.2.1 _ (List.mem_of_getElem? hg)
theorem OR(ht:tb.Ok P):∀(m:Nat)(hs:List Nat)(t:OT)(σ:Ba)(H:List HB),Vk P n Q ds X R B Fs tb l Hk B0 J m hs t σ H→CN P n Q ds X R B Fs l Hk B0 J true t σ H
 |0,_,_,_,_,h=>h tQ
 |m+1,hs,.fin,σ,H,h=>h.elim
 |m+1,hs,.br _ _ _,σ,H,h=>h.elim
 |m+1,hs,.rd i k,σ,H,h=>by
   have ih:=OR ht m;intro w f hM;unfold Vk at h
   split at h
   · rename_i hi
     split at h
     · exact h.elim
     rename_i hd
     split at h
     · exact h.elim
     · rename_i hg
       exact dL hi hd hg (ih _ _ _ _ h w f hM)
     · rename_i hg
       split at h
       · split at h
         · exact h.elim
         · split at h
           · rename_i hx hT
             split at h
             · split at h
               · rename_i hH
                 split at h
                 · split at h
                   · rename_i v hv
                     obtain⟨rfl,h⟩:=h;rw[Ek] at hv;exact F2 hi hd hg (λw hS=>Ai hx (FQ ht.ti hT) (hS.blk hH) hv) (ih _ _ _ _ h w f hM)
                   · exact h.elim
                 · split at h
                   · rename_i vs hv
                     obtain⟨rfl,h⟩:=h;exact F2 hi hd hg (λw hS=>CO hx (FQ ht.ti hT) (hS.blk hH) hv) (ih _ _ _ _ h w f hM)
                   · exact h.elim
               · exact h.elim
             · split at h
               · exact h.elim
               · split at h
                 · rename_i hB
                   split at h
                   · split at h
                     · rename_i v hv
                       obtain⟨⟨rfl,rfl⟩,h⟩:=h;rw[Ek] at hv;exact F2 hi hd hg (λw hS=>Iw hx (FQ ht.ti hT) (hS.cel hB _ v hv)) (ih _ _ _ _ h w f hM)
                     · exact h.elim
                   · split at h
                     · rename_i vs hv
                       obtain⟨⟨rfl,rfl⟩,h⟩:=h;obtain⟨hk,hg2⟩:=P2 hv;exact F2 hi hd hg (λw hS=>K2 hx (FQ ht.ti hT) hk (λj v hj=>by have:=hS.cel hB _ v (hg2 j v hj);rwa[← Nat.add_assoc] at this)) (ih _ _ _ _ h w f hM)
                     · exact h.elim
                 · exact h.elim
           · exact h.elim
       · split at h
         · rename_i hx hy hT
           exact F2 hi hd hg (λw _=>M0 hx hy (JP ht.sl hT) h.1) (ih _ _ _ _ h.2 w f hM)
         · exact h.elim
       · split at h
         · rename_i hx hy;exact F2 hi hd hg (λw _=>Nf hx hy h.1) (ih _ _ _ _ h.2 w f hM)
         · rename_i hx hy;exact F2 hi hd hg (λw _=>Jk hx hy h.1) (ih _ _ _ _ h.2 w f hM)
         · exact h.elim
       · split at h
         · rename_i hx hy;exact F2 hi hd hg (λw _=>GD hx hy h.1) (ih _ _ _ _ h.2 w f hM)
         · exact h.elim
       · split at h
         · rename_i v hv;exact F2 hi hd hg (λw _=>Qk ht hv) (ih _ _ _ _ h w f hM)
         · exact h.elim
   · exact h.elim
theorem wW{t:OT}(ht:tb.Ok P)(m:Nat)(hs:List Nat)(h:Vk P n Q ds X R B Fs tb l Hk B0 J m hs t σ H):CN P n Q ds X R B Fs l Hk B0 J true t σ H:=OR ht m hs t σ H h
theorem Tt(hpi:PI Q):∀fs:List Fr,PI (Lz P n Q fs)
 | []=>hpi
 |.sq _::fs=>Tt hpi fs
 |.bk _::fs=>Tt hpi fs
theorem Ki(J:World→Prop)(hJ:∀w f,X.I w f→C2 X.M X.w0 X.f0 w f→J w)(ix:List Nat)(hm:P.follows .mixedOrders=true)(t:OT)(hk:L0 H ix=some Hk)(hok:t.ok l.toArray true (Array.replicate l.length false)=true)(hev:t.even true l.length=true)(hsel:Region.noSelect l.toArray=true)(hpi:PI Q)
   (h:CN P n (Lz P n Q fs) ds X R B Fs l Hk B J true t σ H):A3 P n Q ds X R B Fs (.code (.region id l.toArray true)) fs σ H:=λw f hM=>by
 refine DK hm (Kp Hk B J) t hok hev hsel (λw' hE hz=>?_) (Tt hpi fs);have hM':AO X w' f H R B Fs:=hM.call0 (C2.of_ext hE hM.val);exact⟨hM'.kp (Jy hk) hJ,h w' f hM'⟩
theorem Bf(h:A3 P n Q ds X R B Fs (.out .normal) fs σ H):CN P n (Lz P n Q fs) ds X R B Fs l Hk B0 J true .fin σ H:=λw f hM=>B1 (h w f hM)
theorem Af{k o:OT}{x:Oper}(hi:nth l i=some x)(h:A3 P n (VR P n l Q (Kp Hk B0 J) k) ds X R B Fs (.ops l [x]) [] σ H)(h2:CN P n Q ds X R B Fs l Hk B0 J false o σ H):CN P n Q ds X R B Fs l Hk B0 J top (.br i k o) σ H :=
 λw f hM=>An ((Ek l i).symm.trans hi) (h w f hM) (h2 w f hM)
theorem Aj:CN P n Q ds X R B Fs l Hk B0 J false .fin σ H:=λ_ _ _=>Ag
theorem AW{k:OT}(ix:List Nat)(hJ:∀w f,X.I w f→C2 X.M X.w0 X.f0 w f→J w)(hk:L0 H ix=some Hk)(hB:∀e,e∈B0→e∈B)(h:CN P n Q ds X R B Fs l Hk B0 J true k σ H):A3 P n (VR P n l Q (Kp Hk B0 J) k) ds X R B Fs (.out .normal) [] σ H:=λw f hM =>
 ⟨⟨λe he=>hM.blk e (Jy hk e he),λe he j v hj=>(hM.fro e (hB e he) j v hj).2,hJ w f hM.res hM.exm⟩,h w f hM⟩
theorem CN.le{t:OT}(hl:Le σ' σ)(h:CN P n Q ds X R B Fs l Hk B0 J top t σ' H):CN P n Q ds X R B Fs l Hk B0 J top t σ H:=λw f hM a ha=>h w f hM a (ha.le hl)
theorem Iq{t:OT}{b:Bool}(s:Nat)(hx:σ s=some (.bool b))(h1:b=true→CN P n Q ds X R B Fs l Hk B0 J top t (AA σ s (.bool true)) H)(h2:b=false→CN P n Q ds X R B Fs l Hk B0 J top t (AA σ s (.bool false)) H):CN P n Q ds X R B Fs l Hk B0 J top t σ H:=by
 cases b with
 |true=>exact CN.le (A6 (le_refl _) hx) (h1 rfl)
 |false=>exact CN.le (A6 (le_refl _) hx) (h2 rfl)
theorem F6{k:OT}{op:Op}{v:Value}(hi:nth l i=some ⟨some d,op,ty,pos,af,g⟩)(hd:Nat.blt d n=true)(hg:gd l σ g=some true)(hr:∀w,Kp Hk B0 J w→AG P σ op ty w v w)
   (h:CN P n Q ds X R B Fs l Hk B0 J true k (AA σ d v) H):CN P n Q ds X R B Fs l Hk B0 J true (.rd i k) σ H:=λw f hM=>F2 hi hd hg hr (h w f hM)
theorem Br{all r:List Oper}{op:Op}{α:Type}{val:α→Value}{q:α→Prop}{F':α→List (World→Fq→Prop)}(hg:gd all σ g=some true)(hd:Nat.blt d n=true)(he:∀w,Enters P σ op ty w fid args)
   (hc:∀w f,AO X w f H R B Fs→Bo P fid args w (Bx val q F' w f)) (hm:∀x,Aw (F' x))
   (h:∀x,q x→A3 P n Q ds X R B (F' x++Fs) (.ops all r) fs (AA σ d (val x)) H):A3 P n Q ds X R B Fs (.ops all (⟨some d,op,ty,pos,af,g⟩::r)) fs σ H :=
 xG hg hd he (λw f hM=>(hc w f hM).mono λv w' ⟨x,f',h1,h2,h3,h4⟩=>⟨x,f',h1,h2,h3,h4.mem⟩) (λx=>(hm x).mem) h
theorem NT{all r:List Oper}{op:Op}{α:Type}{val:α→Value}{q:α→Prop}{I':α→World→Fq→Prop}{F':α→List (World→Fq→Prop)}
   (hg:gd all σ g=some true) (hd:Nat.blt d n=true) (he:∀w,Enters P σ op ty w fid args)
   (hc:∀w f,AO X w f H R B Fs→BD P fid args w (EC val q X.MI I' F' w f) XX) (hst:∀x,EU X.MI (I' x)) (hm:∀x,Aw (F' x))
   (hp:∀w f c w',AO X w f H R B Fs→XX c w'→Q.p c σ ds w')
   (h:∀x,q x→A3 P n Q ds {X with I:=I' x} R B (F' x++Fs) (.ops all r) fs (AA σ d (val x)) H):A3 P n Q ds X R B Fs (.ops all (⟨some d,op,ty,pos,af,g⟩::r)) fs σ H :=
 wQ hg hd he (λw f hM=>(hc w f hM).mono (λv w' ⟨x,f',h1,h2,h3,h4,h5⟩=>⟨x,f',h1,h2,h3,h4,h5.mem⟩) λ_ _ h=>h) hst (λx=>(hm x).mem) hp h
end
end Go.SW
namespace Go.SW
open Go.RowKit Go.SP
structure qY(κ:Type)[BEq κ] where
 enc:κ→Value
 desc:TypeDesc
 same:∀a b,Instr.sameNow desc (enc a) (enc b)=some (a==b)
 chk:∀(P:Program)(k:TypeId)(w:World)(a:κ)(b:Bool),P.underlying k=some desc→(Instr.checkKey b 10000 k (enc a)).run P w=.ok () w
def BN:qY lU where
 enc:=S
 desc:=.string
 same a b:=by
   have:Instr.sameNow .string (S a) (S b)=some ((⟨a.toArray⟩:ByteArray)==⟨b.toArray⟩):=rfl;rw[this,beq_toListBytes,Ob,Ob]
 chk P k w a b hk:=J3 hk
def EB:qY Int where
 enc n:=.int .i64 n
 desc:=.int .i64
 same a b:=by simp[Instr.sameNow]
 chk P k w a b hk:=by rw[Instr.checkKey];simp[run_underlying hk]
section
variable{κ:Type}[BEq κ](K:qY κ)
def BF(w:World)(m:Nat)(l:List (κ×Value)):Prop:=∃(es:List MapEntry)(c:Nat),w.heap[m]?=some (.map es.toArray c)∧es.map (λe=>(e.key,e.val))=l.reverse.map λp=>(K.enc p.1,p.2)
def Em:List (κ×Value)→κ→Option Value
 | [],_=>none
 |(k,v)::l,x=>if x==k then some v else Em l x
def FD(P:Program)(T:TypeId):Option (TypeId×TypeId):=match P.underlying T with
 |some (.map k e)=>some (k,e)
 |_=>none
end
section
variable{κ:Type}[BEq κ]{K:qY κ}
theorem BF.lt{w:World}{m:Nat}{l:List (κ×Value)}(h:BF K w m l):m<w.heap.size:=by
 obtain⟨es,c,h1,_⟩:=h;rcases Nat.lt_or_ge m w.heap.size with h' | h'
 · exact h'
 · rw[Array.getElem?_eq_none h'] at h1;cases h1
variable {f:Fq}{b:Nat}{w':World}{I':World→Fq→Prop}
theorem BF.heap{w:World}{m:Nat}{l:List (κ×Value)}(h:BF K w m l)(he:w'.heap[m]?=w.heap[m]?):BF K w' m l:=let ⟨es,c,h1,h2⟩:=h;⟨es,c,he.trans h1,h2⟩
def Lc(x:κ):List (κ×Value)→Option Value
 | []=>none
 |(k,v)::l=>if x==k then some v else Lc x l
theorem Mx(x:κ):∀(es:List MapEntry)(l:List (κ×Value))(i:Nat),es.map (λe=>(e.key,e.val))=l.map (λp=>(K.enc p.1,p.2)) →
   (∀v,Lc x l=some v→∃j,Instr.findNow K.desc (K.enc x) es i=some (some (j,v)))∧(Lc x l=none→Instr.findNow K.desc (K.enc x) es i=some none)
 | [],[],i,_=>⟨λv h=>(by cases h),λ_=>rfl⟩
 | [],_::_,_,h=>by simp at h
 |_::_,[],_,h=>by simp at h
 |e::es,p::l,i,h=>by
   simp only[List.map_cons,List.cons.injEq,Prod.mk.injEq] at h;obtain⟨⟨hk,hv⟩,hr⟩:=h;have ih:=Mx x es l (i+1) hr;have hs:Instr.sameNow K.desc (K.enc x) e.key=some (x==p.1):=by rw[hk];exact K.same x p.1
   obtain⟨pk,pv⟩:=p;unfold Instr.findNow Lc;rw[hs]
   cases hc:x==pk with
   |true=>exact⟨λv h=>⟨i,by simp at h;simp[hv,h]⟩,λh=>by simp at h⟩
   |false=>exact⟨λv h=>ih.1 v (by simpa using h),λh=>ih.2 (by simpa using h)⟩
theorem UN(x:κ):∀(a b:List (κ×Value)),Lc x (a++b)=(Lc x a).or (Lc x b)
 | [],b=>by simp[Lc]
 |(k,v)::a,b=>by
   simp only[List.cons_append,Lc,UN x a b]
   split <;> rfl
def Ir[BEq κ]:List (κ×Value)→Prop
 | []=>True
 |(k,_)::l=>Em l k=none∧Ir l
variable[LawfulBEq κ]
theorem Pf(x:κ):∀l:List (κ×Value),Ir l→Lc x l.reverse=Em l x
 | [],_=>rfl
 |(k,v)::l,h=>by
   rw[List.reverse_cons,UN,Pf x l h.2];simp only[Lc,Em]
   cases hc:x==k with
   |true =>
     have:x=k:=by simpa using hc
     subst this;rw[h.1];rfl
   |false=>cases Em l x <;> simp
section
variable{P:Program}{n:Nat}{Q:AT}{ds:List Deferred}{X:Cx}{R:List RB}{B:List FB}{Fs:List (World→Fq→Prop)}{fs:List Fr}{σ:Ba}{H:List HB}{w:World}
variable{all r:List Oper}{ty T k e:TypeId}{pos:String}{af:Array Edge}{g:Option (Nat×Bool)}{d m:Nat}{x y z:Operand}{a:κ}{l:List (κ×Value)}
theorem Jm(h:FD P T=some (k,e)):P.underlying T=some (.map k e):=by
 unfold FD at h
 split at h
 · rename_i hu;cases h;exact hu
 · cases h
def zO(P:Program)(e:TypeId):Option Value:=match P.info? e with|some i=>i.zero|none=>none
def gE(P:Program)(e:TypeId)(z:Value):Prop:=zO P e=some z
theorem Sa{z:Value}(h:gE P e z):∃i,P.info? e=some i∧i.zero=some z:=by
 unfold gE zO at h
 split at h
 · rename_i i hi;exact⟨i,hi,h⟩
 · cases h
theorem Uw{z:Value}{ok:Bool}(hT:FD P T=some (k,e))(hk:P.underlying k=some K.desc)(hz:gE P e z)(hm:BF K w m l)(hd:Ir l) :
   (Instr.lookup T (.map (some m)) (K.enc a) ok).run P w=.ok (if ok then .tuple #[(Em l a).getD z,.bool (Em l a).isSome] else (Em l a).getD z) w:=by
 have hu:=Jm hT;obtain⟨es,c,h1,h2⟩:=hm;obtain⟨i,hi,hz⟩:=Sa hz;have hget:(getObj m).run P w=.ok (.map es.toArray c) w:=by simp[getObj,Sem.run,h1]
 obtain⟨f1,f2⟩:=Mx (K:=K) a es l.reverse 0 h2;rw[Pf a l hd] at f1 f2;have hck:=λb=>K.chk P k w a b hk
 cases hc:Em l a with
 |some v =>
   obtain⟨j,hj⟩:=f1 v hc;simp only[Instr.lookup,Sem.run_bind,run_underlying hu,Result.andThen_ok,hget]
   cases ok <;> simp[hck,Instr.findKey,run_underlying hk,hj]
 |none =>
   have hj:=f2 hc;simp only[Instr.lookup,Sem.run_bind,run_underlying hu,Result.andThen_ok,hget]
   cases ok <;> simp[hck,Instr.findKey,run_underlying hk,hj,zeroValue,typeInfo,hi,hz]
theorem XQ{z:Value}{ok:Bool}(hx:ev σ x=some (.map (some m)))(hy:ev σ y=some (K.enc a))(hT:FD P T=some (k,e))(hk:P.underlying k=some K.desc)(hz:gE P e z)(hm:BF K w m l)(hd:Ir l) :
   AG P σ (.lookup T x y ok) ty w (if ok then .tuple #[(Em l a).getD z,.bool (Em l a).isSome] else (Em l a).getD z) w:=λρ _ _ _ _ hρ=>by
 simp only[execOp,hρ _ _ hx,hρ _ _ hy];rw[Sem.run_bind,Uw hT hk hz hm hd];rfl
theorem IW{z v:Value}(hx:ev σ x=some (.map (some m)))(hy:ev σ y=some (K.enc a))(hT:FD P T=some (k,e))(hk:P.underlying k=some K.desc)(hz:gE P e z)(hm:BF K w m l)(hd:Ir l)(hl:Em l a=some v):AG P σ (.lookup T x y true) ty w (.tuple #[v,.bool true]) w:=by
 have:=XQ (ty:=ty) (ok:=true) hx hy hT hk hz hm hd;rw[hl] at this;exact this
theorem I1{z:Value}(hx:ev σ x=some (.map (some m)))(hy:ev σ y=some (K.enc a))(hT:FD P T=some (k,e))(hk:P.underlying k=some K.desc)(hz:gE P e z)(hm:BF K w m l)(hd:Ir l)(hl:Em l a=none):AG P σ (.lookup T x y true) ty w (.tuple #[z,.bool false]) w:=by
 have:=XQ (ty:=ty) (ok:=true) hx hy hT hk hz hm hd;rw[hl] at this;exact this
theorem Lt{z v:Value}(hx:ev σ x=some (.map (some m)))(hy:ev σ y=some (K.enc a))(hT:FD P T=some (k,e))(hk:P.underlying k=some K.desc)(hz:gE P e z)(hm:BF K w m l)(hd:Ir l)(hl:(Em l a).getD z=v):AG P σ (.lookup T x y false) ty w v w:=by
 have:=XQ (ty:=ty) (ok:=false) hx hy hT hk hz hm hd;rw[← hl];exact this
theorem Wr{v:Value}(hT:FD P T=some (k,e))(hk:P.underlying k=some K.desc)(hm:BF K w m l)(hd:Ir l)(hn:Em l a=none):∃w',(Instr.mapUpdate T (.map (some m)) (K.enc a) v).run P w=.ok () w'∧BF K w' m ((a,v)::l)∧FX m w w':=by
 have hu:=Jm hT;obtain⟨es,c,h1,h2⟩:=id hm;have hj:=(Mx (K:=K) a es l.reverse 0 h2).2 (by rw[Pf a l hd];exact hn);have hget:(getObj m).run P w=.ok (.map es.toArray c) w:=by simp[getObj,Sem.run,h1]
 have hlt:=hm.lt;have hck:=λb=>K.chk P k w a b hk
 have hset:(setObj m (.map (es.toArray.push {key:=K.enc a,val:=v,born:=c}) (c+1))).run P w=.ok () {w with heap:=w.heap.setIfInBounds m (.map (es.toArray.push {key:=K.enc a,val:=v,born:=c}) (c+1))}:=by
   simp[setObj,Sem.run,h1]
 refine⟨{w with heap:=w.heap.setIfInBounds m (.map (es.toArray.push {key:=K.enc a,val:=v,born:=c}) (c+1))},?_,?_,?_⟩
 · simp only[Instr.mapUpdate,Sem.run_bind,run_underlying hu,Result.andThen_ok,hget]
   simp only[hck,Result.andThen_ok,Instr.findKey,Sem.run_bind,run_underlying hk,hj];simp only[Sem.run_pure,Result.andThen_ok];exact hset
 · refine⟨es++[{key:=K.enc a,val:=v,born:=c}],c+1,?_,?_⟩
   · simp[hlt]
   · simp[h2]
 · refine⟨rfl,rfl,rfl,by simp,λj hjm=>?_⟩
   show (w.heap.setIfInBounds m _)[j]?=_;rw[Array.getElem?_setIfInBounds_ne (λe=>hjm e.symm)]
theorem AO.chgI{w:World}(h:AO X w f H R B Fs)(hb:X.MI b)(hC:FX b w w')(hI:I' w' f)(hst:EU X.MI I'):AO {X with I:=I' } w' f H R B Fs :=
 h.callI ⟨⟨hC.os,hC.tape,hC.output,by rw[hC.size];exact Nat.le_refl _,λk _ hm=>hC.block k (λe=>hm (e▸hb))⟩,λ_ _=>rfl,λk hk=>h.val k (by rw[hC.size] at hk;exact hk)⟩ hI hst
theorem Zd{v:Value}(hg:gd all σ g=some true)(hx:ev σ x=some (.map (some m)))(hy:ev σ y=some (K.enc a))(hz:ev σ z=some v)(hT:FD P T=some (k,e))(hk:P.underlying k=some K.desc)(hmi:X.MI m)(hd:Ir l)(hn:Em l a=none)
   (hm:∀w f,X.I w f→BF K w m l) (hI:∀w f w',X.I w f→AO X w f H R B Fs→FX m w w'→BF K w' m ((a,v)::l)→I' w' f) (hst:EU X.MI I')
   (h:A3 P n Q ds {X with I:=I' } R B Fs (.ops all r) fs σ H):A3 P n Q ds X R B Fs (.ops all (⟨none,.mapUpdate T x y z,ty,pos,af,g⟩::r)) fs σ H:=λw f hM=>by
 obtain⟨w',h1,h2,h3⟩:=Wr (v:=v) hT hk (hm w f hM.res) hd hn;refine Bp hg (IN (w':=w') (λρ _ _ _ _ hρ=>?_) (h w' f (hM.chgI hmi h3 (hI w f w' hM.res hM h3 h2) hst)));simp only[execOp,hρ _ _ hx,hρ _ _ hy,hρ _ _ hz];rw[Sem.run_bind,h1];rfl
omit [LawfulBEq κ] in
theorem tG(hg:gd all σ g=some true)(hd:Nat.blt d n=true)
   (h:∀m,A3 P n Q ds {X with MI:=λb=>X.MI b∨b=m,I:=λw f=>X.I w f∧BF K w m []} R B Fs (.ops all r) fs (AA σ d (.map (some m))) H):A3 P n Q ds X R B Fs (.ops all (⟨some d,.makeMap T none,ty,pos,af,g⟩::r)) fs σ H:=λw f hM=>by
 refine Bp hg (Ab (v:=.map (some w.heap.size)) (w':=w.alloc (.map #[] 0)) hd (λρ _ _ _ _ hρ=>by simp[execOp,Instr.makeMap]) (h w.heap.size _ f ?_));have h1:AO X (w.alloc (.map #[] 0)) f H R B Fs:=hM.call0 (C2.of_ext (Jn w _) hM.val);have hnew:∀b,b∈C8 H R→b≠w.heap.size:=λb hb e=>Nat.lt_irrefl _ (e▸hM.lt hb)
 exact {h1 with
         res:=⟨h1.res,[],0,heap_alloc_new w _,rfl⟩,
         stab:=λw1 f1 w2 f2 hI hF hb=>⟨h1.stab w1 f1 w2 f2 hI.1 hF λb hm=>hb b (.inl hm),hI.2.heap (hb _ (.inr rfl))⟩,
         mi:=λb hb=>by
           rcases hb with hb|rfl
           · exact h1.mi b hb
           · exact⟨by rw[Gy];omega,hM.val _ (Nat.le_refl _),.inl hM.stp.size⟩,
         own:=λb hb=>⟨(h1.own b hb).1,(h1.own b hb).2.1,λhm=>by
           rcases hm with hm|rfl
           · exact (h1.own b hb).2.2 hm
           · exact hnew _ hb rfl⟩}
end
end
end Go.SW
namespace Go.SW
def jK(P:Program)(T T':TypeId):Bool:=match P.underlying T,P.underlying T' with
 |some _,some .string=>true
 |_,_=>false
end Go.SW
namespace Go.SP
inductive Ty where
 |nil
 |var (n:Int) (r:Ty)
 |con (tx:lU) (k r:Ty)
inductive T1 where
 |var (n:Int)
 |con (tx:lU) (k:Ty)
def T1.cons:T1→Ty→Ty
 |.var n,r=>.var n r
 |.con tx k,r=>.con tx k r
def T1.one(t:T1):Ty:=t.cons .nil
def Ty.app:Ty→Ty→Ty
 |.nil,y=>y
 |.var n r,y=>.var n (r.app y)
 |.con tx k r,y=>.con tx k (r.app y)
def Ty.len:Ty→Nat
 |.nil=>0
 |.var _ r=>r.len+1
 |.con _ _ r=>r.len+1
def Ty.get:Ty→Nat→Option T1
 |.nil,_=>none
 |.var n _,0=>some (.var n)
 |.con tx k _,0=>some (.con tx k)
 |.var _ r,i+1=>r.get i
 |.con _ _ r,i+1=>r.get i
def Ty.snoc(a:Ty)(t:T1):Ty:=a.app t.one
def Ty.hd:Ty→T1
 |.nil=>.var 0
 |.var n _=>.var n
 |.con tx k _=>.con tx k
abbrev BT:=List (Int×T1)
def CC:BT→Int→Option T1
 | [],_=>none
 |(k,t)::s,n=>if k==n then some t else CC s n
def Hy(b:BT):Nat→T1→T1
 |0,t=>t
 |k+1,t=>match t with
   |.con tx ks=>.con tx ks
   |.var n=>match CC b n with
     |none=>.var n
     |some t'=>Hy b k t'
def Ap(b:BT)(t:T1):T1:=Hy b (b.length+1) t
def JN(b:BT):Nat→Ty→Bool
 |_,.nil=>true
 |0,_=>false
 |k+1,.var n r=>match Ap b (.var n) with
   |.var _=>JN b k r
   |.con _ ks=>JN b k (ks.app r)
 |k+1,.con _ ks r=>JN b k (ks.app r)
def Hh(b:BT)(t:T1):Bool:=JN b 1000 t.one
def CE(b:BT)(x:Int):Nat→Ty→Bool
 |_,.nil=>true
 |0,_=>true
 |k+1,.var n r=>match Ap b (.var n) with
   |.var m=>!(m==x)&&CE b x k r
   |.con _ ks=>CE b x k (ks.app r)
 |k+1,.con _ ks r=>CE b x k (ks.app r)
def Ck(b:BT)(n:Int)(t:T1):Except Int BT :=
 if Hh b t then (if CE b n 1000 t.one then .ok ((n,t)::b) else .error 11) else .error 4
def HX(f:BT→Ty→Ty→Except Int BT)(b:BT)(x y:T1)(r q:Ty):Except Int BT :=
 match x,y with
 |.var n,.var m=>if n==m then f b r q else (match Ck b n (.var m) with|.error e=>.error e|.ok b'=>f b' r q)
 |.var n,.con ty kb=>(match Ck b n (.con ty kb) with|.error e=>.error e|.ok b'=>f b' r q)
 |.con tx ka,.var m=>(match Ck b m (.con tx ka) with|.error e=>.error e|.ok b'=>f b' r q)
 |.con tx ka,.con ty kb=>if !(tx==ty)||(ka.len:Int) != kb.len then .error 11 else f b (ka.app r) (kb.app q)
def Ty.tl:Ty→Ty
 |.nil=>.nil
 |.var _ r=>r
 |.con _ _ r=>r
def Lp:Nat→BT→Ty→Ty→Except Int BT
 |_,b,.nil,_=>.ok b
 |0,_,_,_=>.error 4
 |k+1,b,.var n r,y=>HX (Lp k) b (Ap b (.var n)) (Ap b y.hd) r y.tl
 |k+1,b,.con tx ka r,y=>HX (Lp k) b (.con tx ka) (Ap b y.hd) r y.tl
def FT(b:BT)(x y:T1):Except Int BT:=Lp 10000 b x.one y.one
def AN(b:BT):Nat→Ty→Ty
 |_,.nil=>.nil
 |0,_=>.nil
 |k+1,.var n r=>match Ap b (.var n) with
   |.var m=>.var m (AN b k r)
   |.con tx ks=>.con tx (AN b k ks) (AN b k r)
 |k+1,.con tx ks r=>.con tx (AN b k ks) (AN b k r)
def CQ(b:BT)(t:T1):Option T1:=if Hh b t then some (AN b 1000 t.one).hd else none
def C7:Ty→List Int→List Int
 |.nil,s=>s
 |.var n r,s=>C7 r (if s.contains n then s else s++[n])
 |.con _ k r,s=>C7 r (C7 k s)
def Aq(t:T1):List Int:=C7 t.one []
def Dv:List Int→Int→Option Nat
 | [],_=>none
 |k::l,n=>if k==n then some 0 else (Dv l n).map (· + 1)
def Du(l:List Int)(by_:Ty):Ty→Ty
 |.nil=>.nil
 |.var n r=>match (Dv l n).bind by_.get with
   |some t=>t.cons (Du l by_ r)
   |none=>.var n (Du l by_ r)
 |.con tx k r=>.con tx (Du l by_ k) (Du l by_ r)
def Cp(t:T1)(l:List Int)(by_:Ty):T1:=(Du l by_ t.one).hd
def bI:lU:=[105,110,116]
def bF:lU:=[102,108,111,97,116]
def bS:lU:=[115,116,114,105,110,103]
def bU:lU:=[117,110,105,116]
def bB:lU:=[98,111,111,108]
def bX:lU:=[101,120,110]
def Ei:lU:=[45,62]
def Q9:lU:=[116,117,112,108,101]
def I6:lU:=[114,101,102]
def CK:lU:=[112,114,101,102]
def c0(tx:lU):T1:=.con tx .nil
def Hj:Ty→T1
 |.nil=>.var 0
 |.var n .nil=>.var n
 |.con tx k .nil=>.con tx k
 |.var n r=>.con Ei (.var n (Hj r).one)
 |.con tx k r=>.con Ei (.con tx k (Hj r).one)
structure Mk where
 args:Ty
 out:T1
 vars:List Int
structure CS where
 sol:BT
 fresh:Int
 cons:List (lU×Mk)
 datas:List (lU×Int)
 roots:List lU
 vars:Int
structure Bd where
 name:lU
 t:T1
 all:List Int
abbrev Bb:=List Bd
abbrev Er:=Int×Int×Int
abbrev RI(α:Type):=Except Er α
def AS{α:Type}:List (lU×α)→lU→Option α
 | [],_=>none
 |(k,v)::l,n=>if k==n then some v else AS l n
def A7(s:CS):T1×CS:=(.var (s.fresh+1),{s with fresh:=s.fresh+1})
def EP(s:CS)(a b:T1)(ln co:Int):RI CS:=match FT s.sol a b with
 |.error e=>.error (ln,co,e)
 |.ok m=>.ok {s with sol:=m}
def G1(s:CS)(t:T1)(ln co:Int):RI T1:=match CQ s.sol t with
 |none=>.error (ln,co,4)
 |some f=>.ok f
def By(s:CS):Bb→List Int
 | []=>[]
 |b::e=>(match CQ s.sol b.t with
   |none=>[]
   |some f=>(Aq f).filter λv=>!b.all.contains v)++By s e
def GA(s:CS)(e:Bb)(name:lU)(t:T1)(value:Bool)(ln co:Int):RI Bb :=
 if value then (match G1 s t ln co with
   |.error x=>.error x
   |.ok f=>.ok (⟨name,f,(Aq f).filter λv=>!(By s e).contains v⟩::e))
 else .ok (⟨name,t,[]⟩::e)
def Bq:List Int→CS→Ty×CS
 | [],s=>(.nil,s)
 |_::l,s=>((A7 s).1.cons (Bq l (A7 s).2).1,(Bq l (A7 s).2).2)
def Ij(s:CS)(tx:lU)(k:Nat)(ln co:Int):RI (Ty×T1×CS):=match AS s.cons tx with
 |none=>.error (ln,co,11)
 |some m=>if (m.args.len:Int)==k then .ok (Du m.vars (Bq m.vars s).1 m.args,Cp m.out m.vars (Bq m.vars s).1,(Bq m.vars s).2) else .error (ln,co,11)
def Mo:Bb→lU→Option Bd
 | [],_=>none
 |b::e,n=>if b.name==n then some b else Mo e n
def GZ(s:CS)(e:Bb)(tx:lU)(ln co:Int):RI (T1×CS):=match Mo e tx with
 |none=>.error (ln,co,11)
 |some b=>match G1 s b.t ln co with
   |.error x=>.error x
   |.ok f =>
     let vs:=(Aq f).filter λv=>b.all.contains v
     .ok (Cp f vs (Bq vs s).1,(Bq vs s).2)
def Ti(f:Int→Nd→Bool):Nd→Bool
 |.nil=>true
 |.cons op _ _ _ _ k r=>f op k&&Ti f r
def Cq:Nat→Int→Nd→Bool
 |0,_,_=>false
 |n+1,op,kids =>
   if op==1||op==2||op==3||op==4||op==5||op==7 then true
   else if op==6||op==13 then Ti (Cq n) kids else false
abbrev LA:=CS→Bb→Int→Int→Int→lU→Int→Nd→RI (T1×CS)
def Ea(f:LA)(e:Bb):CS→Nd→RI (Ty×CS)
 |s,.nil=>.ok (.nil,s)
 |s,.cons op ln co tx nm k r=>match f s e op ln co tx nm k with
   |.error x=>.error x
   |.ok (t,s1)=>match Ea f e s1 r with
     |.error x=>.error x
     |.ok (l,s2)=>.ok (t.cons l,s2)
def FY(f:LA)(e:Bb):CS→Ty→Nd→RI CS
 |s,a,.cons op ln co tx nm k r=>match f s e op ln co tx nm k with
   |.error x=>.error x
   |.ok (t,s1)=>match EP s1 a.hd t ln co with
     |.error x=>.error x
     |.ok s2=>FY f e s2 a.tl r
 |s,_,.nil=>.ok s
def J6(f:LA)(e:Bb):CS→T1→Nd→RI (T1×CS)
 |s,t,.nil=>.ok (t,s)
 |s,t,.cons op ln co tx nm k r=>match f s e op ln co tx nm k with
   |.error x=>.error x
   |.ok (a,s1)=>match EP (A7 s1).2 t (.con Ei (a.cons (A7 s1).1.one)) ln co with
     |.error x=>.error x
     |.ok s2=>J6 f e s2 (A7 s1).1 r
def Fc:CS→Bb→Nd→Ty×Bb×CS
 |s,e,.nil=>(.nil,e,s)
 |s,e,.cons _ _ _ _ _ _ .nil=>(.nil,e,s)
 |s,e,.cons op _ _ tx _ _ r =>
   let e1:=if op==22 then ⟨tx,(A7 s).1,[]⟩::e else e
   let (l,e2,s2):=Fc (A7 s).2 e1 r
   ((A7 s).1.cons l,e2,s2)
def Nd.last:Nd→Option N
 |.nil=>none
 |.cons op ln co tx nm k .nil=>some ⟨op,ln,co,tx,nm,k⟩
 |.cons _ _ _ _ _ _ r=>r.last
def Ty.last:Ty→T1
 |.nil=>.var 0
 |.var n .nil=>.var n
 |.con tx k .nil=>.con tx k
 |.var _ r=>r.last
 |.con _ _ r=>r.last
abbrev Mj:=CS→Bb→Int→Int→Int→lU→Int→Nd→RI (T1×Bb×CS)
def FZ(f:Mj):CS→Bb→Ty→Nd→RI (Bb×CS)
 |s,e,_,.nil=>.ok (e,s)
 |s,e,a,.cons op ln co tx nm k r=>match f s e op ln co tx nm k with
   |.error x=>.error x
   |.ok (q,e1,s1)=>match EP s1 a.hd q ln co with
     |.error x=>.error x
     |.ok s2=>FZ f s2 e1 a.tl r
def Fb(f:Mj):CS→Bb→Nd→RI (Ty×Bb×CS)
 |s,e,.nil=>.ok (.nil,e,s)
 |s,e,.cons op ln co tx nm k r=>match f s e op ln co tx nm k with
   |.error x=>.error x
   |.ok (q,e1,s1)=>match Fb f s1 e1 r with
     |.error x=>.error x
     |.ok (l,e2,s2)=>.ok (q.cons l,e2,s2)
def CV(f:Mj)(s:CS)(e:Bb)(op ln co:Int)(tx:lU)(kids:Nd):RI (T1×Bb×CS) :=
 if op==21 then .ok ((A7 s).1,e,(A7 s).2)
 else if op==22 then .ok ((A7 s).1,⟨tx,(A7 s).1,[]⟩::e,(A7 s).2)
 else if op==23 then .ok (c0 bI,e,s)
 else if op==24 then .ok (c0 bS,e,s)
 else if op==25 then .ok (c0 bU,e,s)
 else if op==26 then (match Ij s tx kids.len ln co with
   |.error x=>.error x
   |.ok (args,out,s1)=>match FZ f s1 e args kids with
     |.error x=>.error x
     |.ok (e2,s2)=>.ok (out,e2,s2))
 else if op==27 then (match Fb f s e kids with
   |.error x=>.error x
   |.ok (l,e2,s2)=>.ok (.con Q9 l,e2,s2))
 else .ok (.var 0,e,s)
def Cm:Nat→Mj
 |0,_,_,_,ln,co,_,_,_=>.error (ln,co,11)
 |n+1,s,e,op,ln,co,tx,_,kids=>match CV (Cm n) s e op ln co tx kids with
   |.error x=>.error x
   |.ok (t,e1,s1)=>match G1 s1 t ln co with
     |.error x=>.error x
     |.ok _=>.ok (t,e1,s1)
def Dw(n:Nat)(f:LA)(e:Bb)(pt:T1):CS→Option T1→Nd→RI (T1×CS)
 |s,t,.nil=>.ok (t.getD (.var 0),s)
 |s,t,.cons _ _ _ _ _ ks r=>match ks with
   |.cons op ln co tx nm pk (.cons bop bln bco btx bnm bk _)=>(match Cm n s e op ln co tx nm pk with
     |.error x=>.error x
     |.ok (q,inner,s1)=>match EP s1 pt q ln co with
       |.error x=>.error x
       |.ok s2=>match f s2 inner bop bln bco btx bnm bk with
         |.error x=>.error x
         |.ok (rt,s3)=>match t with
           |some t0=>(match EP s3 t0 rt bln bco with
             |.error x=>.error x
             |.ok s4=>Dw n f e pt s4 (some t0) r)
           |none=>Dw n f e pt s3 (some rt) r)
   |_=>.ok (t.getD (.var 0),s)
def GQ(f:LA)(s:CS)(e:Bb)(ln co:Int)(tx:lU)(op0 ln0 co0:Int)(tx0:lU)(nm0:Int)(k0:Nd):RI (T1×CS) :=
 match f (A7 s).2 (⟨tx,(A7 s).1,[]⟩::e) op0 ln0 co0 tx0 nm0 k0 with
 |.error x=>.error x
 |.ok (t,s1)=>match EP s1 (A7 s).1 t ln co with
   |.error x=>.error x
   |.ok s2=>.ok (t,s2)
def Bi(n:Nat)(f:LA)(s:CS)(e:Bb)(op ln co:Int)(tx:lU)(kids:Nd):RI (T1×CS) :=
 if op==1 then .ok (c0 bI,s)
 else if op==2 then .ok (c0 bF,s)
 else if op==3 then .ok (c0 bS,s)
 else if op==4 then .ok (c0 bU,s)
 else if op==5 then GZ s e tx ln co
 else if op==6 then (match Ij s tx kids.len ln co with
   |.error x=>.error x
   |.ok (args,out,s1)=>match FY f e s1 args kids with
     |.error x=>.error x
     |.ok s2=>.ok (out,s2))
 else if op==7 then (match kids.last with
   |none=>.ok (.var 0,s)
   |some b =>
     let p:=Fc s e kids
     match f p.2.2 p.2.1 b.op b.ln b.co b.tx b.nm b.kids with
     |.error x=>.error x
     |.ok (t,s1)=>.ok (Hj (p.1.snoc t),s1))
 else if op==8 then (match kids with
   |.nil=>.ok (.var 0,s)
   |.cons o l c x m k r=>match f s e o l c x m k with
     |.error x=>.error x
     |.ok (t,s1)=>J6 f e s1 t r)
 else if op==9 then (match kids with
   |.cons o l c x m k (.cons o2 l2 c2 x2 m2 k2 _)=>(match f s e o l c x m k with
     |.error x=>.error x
     |.ok (t,s1)=>match (if tx==[95] then .ok e else GA s1 e tx t (Cq (n+1) o k) ln co) with
       |.error x=>.error x
       |.ok e1=>f s1 e1 o2 l2 c2 x2 m2 k2)
   |_=>.ok (.var 0,s))
 else if op==10 then (match kids with
   |.cons o l c x m k (.cons o2 l2 c2 x2 m2 k2 _)=>(match GQ f s e ln co tx o l c x m k with
     |.error x=>.error x
     |.ok (t,s1)=>match GA s1 e tx t true ln co with
       |.error x=>.error x
       |.ok e1=>f s1 e1 o2 l2 c2 x2 m2 k2)
   |_=>.ok (.var 0,s))
 else if op==11 then (match kids with
   |.cons o l c x m k (.cons o2 l2 c2 x2 m2 k2 (.cons o3 l3 c3 x3 m3 k3 _))=>(match f s e o l c x m k with
     |.error x=>.error x
     |.ok (t,s1)=>match EP s1 (c0 bB) t l c with
       |.error x=>.error x
       |.ok s2=>match f s2 e o2 l2 c2 x2 m2 k2 with
         |.error x=>.error x
         |.ok (t2,s3)=>match f s3 e o3 l3 c3 x3 m3 k3 with
           |.error x=>.error x
           |.ok (t3,s4)=>match EP s4 t2 t3 l3 c3 with
             |.error x=>.error x
             |.ok s5=>.ok (t2,s5))
   |_=>.ok (.var 0,s))
 else if op==12 then (match Ea f e s kids with
   |.error x=>.error x
   |.ok (l,s1)=>.ok (l.last,s1))
 else if op==13 then (match Ea f e s kids with
   |.error x=>.error x
   |.ok (l,s1)=>.ok (.con Q9 l,s1))
 else if op==14 then (match kids with
   |.nil=>.ok (.var 0,s)
   |.cons o l c x m k r=>match f s e o l c x m k with
     |.error x=>.error x
     |.ok (t,s1)=>Dw n f e t s1 none r)
 else if op==15 then (match kids with
   |.nil=>.ok (.var 0,s)
   |.cons o l c x m k r=>match f s e o l c x m k with
     |.error x=>.error x
     |.ok (t,s1)=>Dw n f e (c0 bX) s1 (some t) r)
 else if op==16 then (match kids with
   |.nil=>.ok (.var 0,s)
   |.cons o l c x m k _=>match f s e o l c x m k with
     |.error x=>.error x
     |.ok (t,s1)=>match EP s1 (c0 bX) t l c with
       |.error x=>.error x
       |.ok s2=>.ok (A7 s2))
 else (match kids with
   |.nil=>.ok (.var 0,s)
   |.cons o l c x m k _=>f s e o l c x m k)
def Cb:Nat→LA
 |0,_,_,_,ln,co,_,_,_=>.error (ln,co,11)
 |n+1,s,e,op,ln,co,tx,_,kids=>match Bi n (Cb n) s e op ln co tx kids with
   |.error x=>.error x
   |.ok (t,s1)=>match G1 s1 t ln co with
     |.error x=>.error x
     |.ok _=>.ok (t,s1)
def G4:lU:=[32,105,110,116,32,102,108,111,97,116,32,115,116,114,105,110,103,32,117,110,105,116,32,98,111,111,108,32,101,120,110,32]
def PB:lU:=[32,116,117,112,108,101,32,114,101,102,32,112,114,101,102,32]
def FR(datas:List (lU×Int))(vars:List (lU×T1)):Nd→RI Ty
 |.nil=>.ok .nil
 |.cons op ln co tx _ kids r =>
   let one:RI T1:=if op==31 then (match AS vars tx with
       |some t=>.ok t
       |none=>.error (ln,co,11))
     else if (if Dp G4 ([32]++tx++[32]) then (kids.len:Int)==0
         else if tx==Ei then (kids.len:Int)==2
         else if Dp PB ([32]++tx++[32]) then true
         else match AS datas tx with|some c=>c==(kids.len:Int)|none=>false)
       then (match FR datas vars kids with|.error x=>.error x|.ok k=>.ok (.con tx k))
       else .error (ln,co,11)
   match one with
   |.error x=>.error x
   |.ok t=>match FR datas vars r with
     |.error x=>.error x
     |.ok l=>.ok (t.cons l)
def DY(ln co:Int):Nd→Int→List (lU×T1)→Ty→List Int→RI (Int×List (lU×T1)×Ty×List Int)
 |.nil,v,m,self,nums=>.ok (v,m,self,nums)
 |.cons op _ _ tx _ _ r,v,m,self,nums =>
   if op==31 then (if (AS m tx).isSome then .error (ln,co,11) else DY ln co r (v-1) ((tx,.var (v-1))::m) (self.snoc (.var (v-1))) (nums++[v-1]))
   else DY ln co r v m self nums
def Dz(datas:List (lU×Int))(m:List (lU×T1))(out:T1)(nums:List Int):Nd→List (lU×Mk)→RI (List (lU×Mk))
 |.nil,c=>.ok c
 |.cons op ln co tx _ kids r,c =>
   if op==42 then (if (AS c tx).isSome then .error (ln,co,11) else match FR datas m kids with
     |.error x=>.error x
     |.ok args=>Dz datas m out nums r ((tx,⟨args,out,nums⟩)::c))
   else Dz datas m out nums r c
def G3(s:CS)(ln co:Int)(tx:lU)(kids:Nd):RI CS :=
 if (AS s.datas tx).isSome||Dp G4 ([32]++tx++[32]) then .error (ln,co,11)
 else match DY ln co kids s.vars [] .nil [] with
   |.error x=>.error x
   |.ok (v,m,self,nums) =>
     let datas:=(tx,(nums.length:Int))::s.datas
     match Dz datas m (.con tx self) nums kids s.cons with
     |.error x=>.error x
     |.ok cons=>.ok {s with datas:=datas,cons:=cons,vars:=v}
def Dq(s:CS)(e:Bb)(op ln co:Int)(tx:lU)(kids:Nd):RI (Option (lU×T1)×Bb×CS) :=
 if op==41 then (match G3 s ln co tx kids with
   |.error x=>.error x
   |.ok s1=>.ok (none,e,s1))
 else match kids with
   |.nil=>.ok (some (tx,.var 0),e,s)
   |.cons o l c x m k r =>
     if op==43 then (if s.roots.contains tx then .error (ln,co,11) else match FR s.datas [] (.cons o l c x m k .nil) with
         |.error x=>.error x
         |.ok w=>match r with
           |.nil=>.ok (some (tx,.var 0),e,s)
           |.cons o2 l2 c2 x2 m2 k2 _=>match Cb (k2.size+1) {s with roots:=tx::s.roots} e o2 l2 c2 x2 m2 k2 with
             |.error x=>.error x
             |.ok (t2,s1)=>match EP s1 w.hd t2 ln co with
               |.error x=>.error x
               |.ok s2=>.ok (some (tx,.con CK w),⟨tx,.con CK w,[]⟩::e,s2))
     else if op==44 then (match Cb (k.size+1) s e o l c x m k with
       |.error x=>.error x
       |.ok (t,s1)=>match GA s1 e tx t (Cq (k.size+1) o k) ln co with
         |.error x=>.error x
         |.ok e1=>.ok (some (tx,t),e1,s1))
     else if op==45 then (match GQ (Cb (k.size+1)) s e ln co tx o l c x m k with
       |.error x=>.error x
       |.ok (t,s1)=>match GA s1 e tx t true ln co with
         |.error x=>.error x
         |.ok e1=>.ok (some (tx,t),e1,s1))
     else (match Cb (k.size+1) s e o l c x m k with
       |.error x=>.error x
       |.ok (t,s1)=>.ok (some ([],t),e,s1))
def Ec:CS→Bb→Nd→List (lU×T1)→RI (List (lU×T1)×CS)
 |s,_,.nil,out=>.ok (out,s)
 |s,e,.cons op ln co tx _ k r,out=>match Dq s e op ln co tx k with
   |.error x=>.error x
   |.ok (none,e1,s1)=>Ec s1 e1 r out
   |.ok (some b,e1,s1)=>Ec s1 e1 r (out++[b])
def SR:Nat→Nat→lU
 |0,_=>[]
 |k+1,n=>if n<10 then [UInt8.ofNat (48+n)] else SR k (n / 10)++[UInt8.ofNat (48+n % 10)]
def D1(i:Nat):lU:=[39,UInt8.ofNat (97+i % 26)]++(if i<26 then [] else SR 20 (i / 26))
def Dr(vs:List Int):Ty→lU
 |.nil=>[]
 |.var n r=>32::((match Dv vs n with|some i=>D1 i|none=>[])++Dr vs r)
 |.con tx .nil r=>32::(tx++Dr vs r)
 |.con tx k r=>32::([40]++tx++Dr vs k++[41]++Dr vs r)
def O5(t:T1):lU:=(Dr (Aq t) t.one).drop 1
def JO(s:CS):List (lU×T1)→RI (List (lU×lU))
 | []=>.ok []
 |(n,t)::l=>match G1 s t 0 0 with
   |.error x=>.error x
   |.ok f=>match JO s l with
     |.error x=>.error x
     |.ok r=>.ok ((n,O5 f)::r)
def aI:Int := -1
def iZ:List (lU×Ty) :=
 let n:=c0 bI;let f:=c0 bF;let s:=c0 bS;let b:=c0 bB;let u:=c0 bU
 let a:=T1.var aI;let r:=T1.con I6 a.one;let p:=T1.con CK a.one
 let l2 (x y:T1):Ty:=x.cons y.one
 let l3 (x y z:T1):Ty:=x.cons (y.cons z.one)
 let ad (names:List lU) (t:Ty):List (lU×Ty):=names.map λx=>(x,t)
 ad [[43],[45],[42],[100,105,118],[109,111,100]] (l3 n n n)++ad [[110,101,103]] (l2 n n)++ad [[60],[60,61],[61]] (l3 n n b) ++
 ad [[102,43],[102,45],[102,42],[102,47]] (l3 f f f)++ad [[102,115,113,114,116],[102,110,101,103]] (l2 f f)++ad [[102,60],[102,61],[102,97,104,101,97,100]] (l3 f f b) ++
 ad [[105,116,111,102]] (l2 n f)++ad [[102,116,111,105]] (l2 f n)++ad [[102,98,105,116,115]] (l2 f s)++ad [[110,97,110],[105,110,102]] f.one ++
 ad [[99,97,116]] (l3 s s s)++ad [[108,101,110],[111,114,100],[97,116,111,105]] (l2 s n)++ad [[115,117,98]] (s.cons (l3 n n s))++ad [[115,61],[115,60]] (l3 s s b) ++
 ad [[105,116,111,97],[99,104,114]] (l2 n s)++ad [[112,114,105,110,116]] (l2 s u)++ad [[114,101,97,100]] (l2 u s)++ad [[114,101,102]] (l2 a r)++ad [[103,101,116]] (l2 r a) ++
 ad [[115,101,116]] (l3 r a u)++ad [[110,101,119]] (l2 a p)++ad [[108,111,97,100]] (l2 p a)++ad [[115,116,111,114,101]] (l3 p a u)
def Pq:Bb:=(iZ.map λp=>(⟨p.1,Hj p.2,[aI]⟩:Bd)).reverse
def rV:List (lU×Mk) :=
 [([70,97,105,108],⟨(c0 bS).one,c0 bX,[]⟩),([79,117,116],⟨.nil,c0 bX,[]⟩),([75,101,101,112],⟨.nil,c0 bX,[]⟩),([65,98,111,114,116],⟨.nil,c0 bX,[]⟩),([77,97,116,99,104],⟨.nil,c0 bX,[]⟩),([68,105,118],⟨.nil,c0 bX,[]⟩),
  ([84,114,117,101],⟨.nil,c0 bB,[]⟩),([70,97,108,115,101],⟨.nil,c0 bB,[]⟩)]
def aG:CS:=⟨[],0,rV,[],[],-1⟩
def CA(nds:Nd):RI (List (lU×lU)):=match Ec aG Pq nds [] with
 |.error x=>.error x
 |.ok (out,s)=>JO s out
end Go.SP
namespace Go.SP
open Go.SW Go.RowKit
namespace T1
def op:T1→Int
 |.var _=>0
 |.con _ _=>1
def num:T1→Int
 |.var n=>n
 |.con _ _=>0
def tx:T1→lU
 |.var _=>[]
 |.con t _=>t
def kids:T1→Ty
 |.var _=>.nil
 |.con _ k=>k
end T1
def tC(t:T1)(a:Option Addr)(c:Nat):List Value:=[.int .i64 t.op,.int .i64 t.num,S t.tx,.slice a t.kids.len c]
abbrev tV(t:T1)(a:Option Addr)(c:Nat):Value:=.agg #[.int .i64 t.op,.int .i64 t.num,S t.tx,.slice a t.kids.len c]
def Ik(w:World)(f:Fq):Ty→Nat→Nat→Prop
 |.nil,_,_=>True
 |.var n r,b,off=>(∃a c,Cs w f b off [.int .i64 0,.int .i64 n,S [],.slice a 0 c])∧Ik w f r b (off+4)
 |.con tx k r,b,off=>(∃a c,Cs w f b off [.int .i64 1,.int .i64 0,S tx,.slice a k.len c]∧k.len≤c∧(k=.nil∨∃b' off',a=some ⟨b',off',none⟩∧Ik w f k b' off'))∧Ik w f r b (off+4)
def Al(w:World)(f:Fq)(k:Ty)(a:Option Addr)(c:Nat):Prop:=k.len≤c∧(k=.nil∨∃b off,a=some ⟨b,off,none⟩∧Ik w f k b off)
variable {f f':Fq}{co ln nm:Int}{l:List Value}{b i off:Nat}{U:Nat→Prop}{r:Nd}{a:Option Addr}{T:TypeId}{w w':World}
theorem Ik.mono(hF:Hm w f w' f'):∀(k:Ty)(b off:Nat),Ik w f k b off→Ik w' f' k b off
 |.nil,_,_,_=>trivial
 |.var _ r,b,off,⟨⟨a,c,h1⟩,h2⟩=>⟨⟨a,c,h1.mono hF⟩,Ik.mono hF r b _ h2⟩
 |.con _ k r,b,off,⟨⟨a,c,h1,h2,h3⟩,h4⟩=>⟨⟨a,c,h1.mono hF,h2,h3.imp id λ⟨b',off',h5,h6⟩=>⟨b',off',h5,Ik.mono hF k b' off' h6⟩⟩,Ik.mono hF r b _ h4⟩
theorem Al.mono{k:Ty}{c:Nat}:EY (λw f=>Al w f k a c):=λ_ _ _ _ h hF=>⟨h.1,h.2.imp id λ⟨b,off,h1,h2⟩=>⟨b,off,h1,Ik.mono hF k b off h2⟩⟩
theorem Al.nil(w:World)(f:Fq)(a:Option Addr)(c:Nat):Al w f .nil a c:=⟨Nat.zero_le _,.inl rfl⟩
theorem Ik.cons{t:T1}{r:Ty}:Ik w f (t.cons r) b off↔(∃a c,Cs w f b off (tC t a c)∧Al w f t.kids a c)∧Ik w f r b (off+4):=by
 cases t with
 |var n=>exact⟨λ⟨⟨a,c,h1⟩,h2⟩=>⟨⟨a,c,h1,Al.nil _ _ _ _⟩,h2⟩,λ⟨⟨a,c,h1,_⟩,h2⟩=>⟨⟨a,c,h1⟩,h2⟩⟩
 |con tx k=>exact⟨λ⟨⟨a,c,h1,h2,h3⟩,h4⟩=>⟨⟨a,c,h1,h2,h3⟩,h4⟩,λ⟨⟨a,c,h1,h2⟩,h4⟩=>⟨⟨a,c,h1,h2.1,h2.2⟩,h4⟩⟩
theorem Ik.app:∀{x y:Ty}{b off:Nat},Ik w f x b off→Ik w f y b (off+x.len*4)→Ik w f (x.app y) b off
 |.nil,_,b,off,_,h=>by simpa[Ty.len,Ty.app] using h
 |.var _ r,y,b,off,h,hy=>⟨h.1,Ik.app h.2 (by rw[show off+4+r.len*4=off+(r.len+1)*4 by omega];exact hy)⟩
 |.con _ _ r,y,b,off,h,hy=>⟨h.1,Ik.app h.2 (by rw[show off+4+r.len*4=off+(r.len+1)*4 by omega];exact hy)⟩
def BI(w:World)(f:Fq)(a:Option Addr)(i:Nat)(r:Ty):Prop:=r=.nil∨∃b off,a=some ⟨b,off,none⟩∧Ik w f r b (off+i*4)
theorem BI.mono{r:Ty}:EY (λw f=>BI w f a i r):=λ_ _ _ _ h hF=>h.imp id λ⟨b,off,h1,h2⟩=>⟨b,off,h1,Ik.mono hF r b _ h2⟩
theorem Al.at{k:Ty}{c:Nat}(h:Al w f k a c):BI w f a 0 k:=h.2.imp id λ⟨b,off,h1,h2⟩=>⟨b,off,h1,by simpa using h2⟩
theorem BI.head{t:T1}{r:Ty}(h:BI w f a i (t.cons r)):∃b off ka kc,a=some ⟨b,off,none⟩∧Cs w f b (off+i*4) (tC t ka kc)∧Al w f t.kids ka kc∧BI w f a (i+1) r:=by
 rcases h with h|⟨b,off,h1,h2⟩
 · cases t <;> cases h
 · obtain⟨⟨ka,kc,h3,h4⟩,h5⟩:=Ik.cons.1 h2
   exact⟨b,off,ka,kc,h1,h3,h4,.inr ⟨b,off,h1,by rw[show off+(i+1)*4=off+i*4+4 by omega];exact h5⟩⟩
def NS(w:World)(f:Fq):Nd→Nat→Nat→Prop
 |.nil,_,_=>True
 |.cons op ln co tx nm k r,b,off=>(∃a c,Cs w f b off [.int .i64 op,.int .i64 ln,.int .i64 co,S tx,.int .i64 nm,.slice a k.len c]∧k.len≤c∧(k=.nil∨∃b' off',a=some ⟨b',off',none⟩∧NS w f k b' off'))∧NS w f r b (off+6)
def AD(w:World)(f:Fq)(k:Nd)(a:Option Addr)(c:Nat):Prop:=k.len≤c∧(k=.nil∨∃b off,a=some ⟨b,off,none⟩∧NS w f k b off)
theorem NS.mono(hF:Hm w f w' f'):∀(k:Nd)(b off:Nat),NS w f k b off→NS w' f' k b off
 |.nil,_,_,_=>trivial
 |.cons _ _ _ _ _ k r,b,off,⟨⟨a,c,h1,h2,h3⟩,h4⟩=>⟨⟨a,c,h1.mono hF,h2,h3.imp id λ⟨b',off',h5,h6⟩=>⟨b',off',h5,NS.mono hF k b' off' h6⟩⟩,NS.mono hF r b _ h4⟩
theorem AD.mono{k:Nd}{c:Nat}:EY (λw f=>AD w f k a c):=λ_ _ _ _ h hF=>⟨h.1,h.2.imp id λ⟨b,off,h1,h2⟩=>⟨b,off,h1,NS.mono hF k b off h2⟩⟩
def AU(w:World)(f:Fq)(a:Option Addr)(i:Nat)(r:Nd):Prop:=r=.nil∨∃b off,a=some ⟨b,off,none⟩∧NS w f r b (off+i*6)
theorem AU.mono:EY (λw f=>AU w f a i r):=λ_ _ _ _ h hF=>h.imp id λ⟨b,off,h1,h2⟩=>⟨b,off,h1,NS.mono hF r b _ h2⟩
theorem AD.at{k:Nd}{c:Nat}(h:AD w f k a c):AU w f a 0 k:=h.2.imp id λ⟨b,off,h1,h2⟩=>⟨b,off,h1,by simpa using h2⟩
def Kd(op ln co:Int)(tx:lU)(nm:Int)(a:Option Addr)(n c:Nat):List Value:=[.int .i64 op,.int .i64 ln,.int .i64 co,S tx,.int .i64 nm,.slice a n c]
theorem AU.head{op:Int}{tx:lU}{k:Nd}(h:AU w f a i (.cons op ln co tx nm k r)):∃b off ka kc,a=some ⟨b,off,none⟩∧Cs w f b (off+i*6) (Kd op ln co tx nm ka k.len kc)∧AD w f k ka kc∧AU w f a (i+1) r:=by
 rcases h with h|⟨b,off,h1,⟨ka,kc,h3,h4⟩,h5⟩
 · cases h
 · exact⟨b,off,ka,kc,h1,h3,h4,.inr ⟨b,off,h1,by rw[show off+(i+1)*6=off+i*6+6 by omega];exact h5⟩⟩
def Rh(w:World):Fq:=λb=>match w.heap[b]? with
 |some (.cells cs _ (0,0))=>cs.size
 |_=>0
theorem Cs.all{m:List Value}(hb:AI w b l T)(h:l.drop off=m):Cs w (Rh w) b off m:=λj v hj=>by
 have h1:l[off+j]?=some v:=by rw[← List.getElem?_drop,h,hj]
 obtain⟨hl,_⟩:=List.getElem?_eq_some_iff.1 h1;refine⟨?_,by rw[hb.cell,h1]⟩;unfold Rh;unfold AI at hb;rw[hb];simpa using hl
theorem Cs.le{m:List Value}(h:Cs w f b off (l++m)):Cs w f b off l:=λj v hj=>h j v (by
 obtain⟨hl,_⟩:=List.getElem?_eq_some_iff.1 hj;rw[List.getElem?_append_left hl];exact hj)
theorem Fy.toG(hb:AI w b l T):∀(k:Nd)(off:Nat),Fy U w k (l.drop off)→(∀(k':Nd)(a:Option Addr)(n c:Nat),k'.size<k.size→GN U w a n c k'→AD w (Rh w) k' a c)→NS w (Rh w) k b off
 |.nil,_,_,_=>trivial
 |.cons op ln co tx nm kids r,off,⟨a,n,c,l',h1,h2,h3⟩,ih=>by
   have hn:n=kids.len:=h2.1;have hk:=ih kids a n c (by simp only[Nd.size];omega) h2;refine⟨⟨a,c,?_,hk⟩,Fy.toG hb r (off+6) ?_ (λk' a n c hs=>ih k' a n c (by simp only[Nd.size];omega))⟩
   · have:=Cs.all hb h1
     rw[hn] at this;exact Cs.le (m:=l') this
   · rw[← List.drop_drop,h1];exact h3
theorem GN.toF:∀(m:Nat)(k:Nd)(a:Option Addr)(n c:Nat),k.size<m→GN U w a n c k→AD w (Rh w) k a c
 |0,_,_,_,_,h,_=>by omega
 |m+1,k,a,n,c,hm,⟨h1,h2,h3⟩=>by
   refine⟨oM,?_⟩;rcases h3 with h3|⟨b,off,l,T,_,ha,hb,hc⟩
   · left
     cases k with
     |nil=>rfl
     |cons _ _ _ _ _ _ _=>rw[h3] at h1;cases h1
   · exact .inr ⟨b,off,ha,Fy.toG hb k off hc (λk' a n c hs=>GN.toF m k' a n c oM)⟩
end Go.SP
namespace Go.SP
open Go.SW Go.RowKit
def BG(w:World)(f:Fq)(l:List Int)(a:Option Addr)(c:Nat):Prop:=l.length≤c∧(l=[]∨∃b off,a=some ⟨b,off,none⟩∧Cs w f b off (l.map λn=>Value.int .i64 n))
variable {f:Fq}{l:List Value}{b i off:Nat}{a:Option Addr}{w:World}
theorem BG.mono{l:List Int}{c:Nat}:EY (λw f=>BG w f l a c):=λ_ _ _ _ h hF=>⟨h.1,h.2.imp id λ⟨b,off,h1,h2⟩=>⟨b,off,h1,h2.mono hF⟩⟩
theorem Cs.at{v:Value}(h:Cs w f b off l)(hi:l[i]?=some v):Cs w f b (off+i) [v]:=λj u hj=>by
 cases j with
 |zero=>simp at hj;subst hj;simpa using h i v hi
 |succ j=>simp at hj
theorem BG.get{l:List Int}{c:Nat}{n:Int}(h:BG w f l a c)(hi:l[i]?=some n):∃b off,a=some ⟨b,off,none⟩∧Cs w f b (off+i*1) [.int .i64 n]:=by
 rcases h.2 with h|⟨b,off,h1,h2⟩
 · subst h;simp at hi
 · exact⟨b,off,h1,by rw[Nat.mul_one];exact Cs.at h2 (by rw[List.getElem?_map,hi];rfl)⟩
theorem O7{n:Int}:∀{l:List Int},Dv l n=none→l.contains n=false
 | [],_=>rfl
 |k::l,h=>by
   unfold Dv at h
   split at h
   · cases h
   · rename_i hk
     have:Dv l n=none:=by cases hx:Dv l n with|none=>rfl|some i=>rw[hx] at h;cases h
     rw[List.contains_cons,O7 this];have:¬n=k:=λe=>hk (by simp[e]);simp[this]
theorem Lj{n:Int}:∀{l:List Int}{i:Nat},Dv l n=some i→l.contains n=true∧i<l.length∧l[i]?=some n
 | [],_,h=>by cases h
 |k::l,i,h=>by
   unfold Dv at h
   split at h
   · rename_i hk
     have e:k=n:=by simpa using hk
     cases h
     subst e;simp
   · cases hx:Dv l n with
     |none=>rw[hx] at h;cases h
     |some j =>
       rw[hx] at h
       cases h
       have:=Lj hx;exact⟨by rw[List.contains_cons,this.1,Bool.or_true],by simp;exact this.2.1,by simpa using this.2.2⟩
theorem US{n:Int}:∀{l:List Int}{i:Nat},(l.take i).contains n=false→l[i]?=some n→Dv l n=some i
 | [],i,_,h=>by simp at h
 |k::l,0,_,h=>by simp at h;subst h;simp[Dv]
 |k::l,i+1,hn,h=>by
   simp only[List.take_succ_cons,List.contains_cons,Bool.or_eq_false_iff] at hn
   have hk:(k==n)=false:=by
     have:=hn.1
     cases hh:k==n with
     |false=>rfl
     |true =>
       have e:k=n:=by simpa using hh
       subst e;simp at this
   have:=US hn.2 (by simpa using h);simp[Dv,hk,this]
theorem N5{n:Int}{l:List Int}(h:l.contains n=false):Dv l n=none:=by
 cases hx:Dv l n with
 |none=>rfl
 |some i=>rw[(Lj hx).1] at h;cases h
def WT(l:List Int)(n:Int):Int:=match Dv l n with
 |some i=>i
 |none => -1
theorem BA{α:Type}{l:List α}{x:α}(h:l[i]?=some x):l.take (i+1)=l.take i++[x]:=by
 obtain⟨hl,he⟩:=List.getElem?_eq_some_iff.1 h;rw[List.take_succ_eq_append_getElem hl,he]
end Go.SP
namespace Go.SP
open Go.SW Go.RowKit
def Ty.size:Ty→Nat
 |.nil=>0
 |.var _ r=>r.size+1
 |.con _ k r=>k.size+r.size+1
def Ty.bnd:Ty→Prop
 |.nil=>True
 |.var _ r=>r.bnd
 |.con tx k r=>(k.len≤200000∧tx.length≤1000000)∧k.bnd∧r.bnd
def T1.bnd(t:T1):Prop:=(t.kids.len≤200000∧t.tx.length≤1000000)∧t.kids.bnd
theorem T1.bnd_cons{t:T1}{r:Ty}:(t.cons r).bnd↔t.bnd∧r.bnd:=by
 cases t with
 |var n=>exact⟨λh=>⟨⟨⟨Nat.zero_le _,Nat.zero_le _⟩,tQ⟩,h⟩,λh=>h.2⟩
 |con tx k=>exact⟨λh=>⟨⟨h.1,h.2.1⟩,h.2.2⟩,λh=>⟨h.1.1,h.1.2,h.2⟩⟩
theorem T1.len_cons(t:T1)(r:Ty):(t.cons r).len=r.len+1:=by cases t <;> rfl
theorem T1.size_cons(t:T1)(r:Ty):(t.cons r).size=t.kids.size+r.size+1:=by cases t <;> simp[T1.cons,Ty.size,T1.kids]
theorem Ty.len_app:∀x y:Ty,(x.app y).len=x.len+y.len
 |.nil,y=>by simp[Ty.app,Ty.len]
 |.var _ r,y=>by simp[Ty.app,Ty.len,Ty.len_app r y];omega
 |.con _ _ r,y=>by simp[Ty.app,Ty.len,Ty.len_app r y];omega
theorem Ty.app_assoc:∀x y z:Ty,(x.app y).app z=x.app (y.app z)
 |.nil,_,_=>rfl
 |.var _ r,y,z=>by simp[Ty.app,Ty.app_assoc r y z]
 |.con _ _ r,y,z=>by simp[Ty.app,Ty.app_assoc r y z]
theorem Ty.app_nil:∀x:Ty,x.app .nil=x
 |.nil=>rfl
 |.var _ r=>by simp[Ty.app,Ty.app_nil r]
 |.con _ _ r=>by simp[Ty.app,Ty.app_nil r]
theorem T1.one_app(t:T1)(r:Ty):t.one.app r=t.cons r:=by cases t <;> rfl
theorem Ty.len_snoc(x:Ty)(t:T1):(x.snoc t).len=x.len+1:=by unfold Ty.snoc T1.one;rw[Ty.len_app,T1.len_cons];rfl
theorem Ty.snoc_app(x:Ty)(t:T1)(r:Ty):(x.snoc t).app r=x.app (t.cons r):=by unfold Ty.snoc;rw[Ty.app_assoc,T1.one_app]
theorem Ty.cases1(k:Ty)(h:0<k.len):∃t r,k=T1.cons t r:=by
 cases k with
 |nil=>simp[Ty.len] at h
 |var n r=>exact⟨.var n,r,rfl⟩
 |con tx k r=>exact⟨.con tx k,r,rfl⟩
theorem Ty.len0{k:Ty}(h:k.len=0):k=.nil:=by cases k <;> simp_all [Ty.len]
def Be(w:World)(f:Fq):Ty→List Value→Prop
 |.nil,xs=>xs=[]
 |.var n r,xs=>∃a c xs',xs=[.int .i64 0,.int .i64 n,S [],.slice a 0 c]++xs'∧Be w f r xs'
 |.con tx k r,xs=>∃a c xs',xs=[.int .i64 1,.int .i64 0,S tx,.slice a k.len c]++xs'∧Al w f k a c∧Be w f r xs'
variable {f f':Fq}{l xs:List Value}{b off:Nat}{a:Option Addr}{w w':World}
theorem Be.mono'(hF:Hm w f w' f'):∀(k:Ty)(xs:List Value),Be w f k xs→Be w' f' k xs
 |.nil,_,h=>h
 |.var _ r,_,⟨a,c,xs',h1,h2⟩=>⟨a,c,xs',h1,Be.mono' hF r xs' h2⟩
 |.con _ k r,_,⟨a,c,xs',h1,h2,h3⟩=>⟨a,c,xs',h1,Al.mono _ _ _ _ h2 hF,Be.mono' hF r xs' h3⟩
theorem Be.mono{k:Ty}:EY (λw f=>Be w f k xs):=λ_ _ _ _ h hF=>Be.mono' hF k xs h
theorem Be.snoc{t:T1}{c:Nat}(ht:Al w f t.kids a c):∀{k:Ty}{xs:List Value},Be w f k xs→Be w f (k.snoc t) (xs++tC t a c)
 |.nil,xs,h=>by
   have h:xs=[]:=h;subst h
   cases t with
   |var n=>exact⟨a,c,[],rfl,rfl⟩
   |con tx k=>exact⟨a,c,[],rfl,ht,rfl⟩
 |.var _ r,_,⟨a',c',xs',h1,h2⟩=>⟨a',c',xs'++tC t a c,by rw[h1,List.append_assoc],Be.snoc ht h2⟩
 |.con _ k r,_,⟨a',c',xs',h1,h2,h3⟩=>⟨a',c',xs'++tC t a c,by rw[h1,List.append_assoc],h2,Be.snoc ht h3⟩
theorem Cs.drop{m:List Value}(h:Cs w f b off (l++m)):Cs w f b (off+l.length) m:=λj v hj=>by
 have:=h (l.length+j) v (by rw[List.getElem?_append_right (by omega)];simpa using hj);rwa[← Nat.add_assoc] at this
theorem Be.toG:∀{k:Ty}{xs:List Value}{off:Nat},Be w f k xs→Cs w f b off xs→Ik w f k b off
 |.nil,_,_,_,_=>trivial
 |.var _ r,_,off,⟨a,c,xs',h1,h2⟩,hC=>by
   subst h1;exact⟨⟨a,c,Cs.le hC⟩,Be.toG h2 (Cs.drop hC)⟩
 |.con _ k r,_,off,⟨a,c,xs',h1,h2,h3⟩,hC=>by
   subst h1;exact⟨⟨a,c,Cs.le hC,h2⟩,Be.toG h3 (Cs.drop hC)⟩
theorem Be.toF{c:Nat}{k:Ty}(h:Be w f k xs)(hC:Cs w f b 0 xs)(hc:k.len≤c):Al w f k (some ⟨b,0,none⟩) c:=⟨hc,.inr ⟨b,0,rfl,Be.toG h hC⟩⟩
theorem Be.len:∀{k:Ty}{xs:List Value},Be w f k xs→xs.length=k.len*4
 |.nil,xs,h=>by have h:xs=[]:=h;subst h;rfl
 |.var _ r,_,⟨a,c,xs',h1,h2⟩=>by subst h1;have:=Be.len h2;simp[Ty.len,this];omega
 |.con _ k r,_,⟨a,c,xs',h1,h2,h3⟩=>by subst h1;have:=Be.len h3;simp[Ty.len,this];omega
theorem RO(a b c vs:List Value)(h:b.length=vs.length):DU (a++(b++c)) a.length vs=(a++vs)++c:=by
 rw[LM vs _ _ (by simp;omega)];have h1:(a++(b++c)).take a.length=a:=by simp
 have h2:(a++(b++c)).drop (a.length+vs.length)=c:=by
   rw[← List.drop_drop];simp[← h]
 rw[h1,h2]
def sX(P:Program)(fid:FuncId)(m:Nat):Prop:=∀(w:World)(f:Fq)(_:Vl w f)(t:T1)(a:Option Addr)(c:Nat),t.kids.size<m→t.bnd→Al w f t.kids a c →
 Bo P fid #[tV t a c] w (Bx (α:=Option Addr×Nat) (λx=>tV t x.1 x.2) (λ_=>True) (λx=>[λw f=>Al w f t.kids x.1 x.2]) w f)
end Go.SP
namespace Go.SP
open Go.SW Go.RowKit
theorem XL(t:T1)(a:Option Addr)(c:Nat):∀v∈tC t a c,v.oneCell'=true:=by
 intro v hv;unfold tC at hv;simp only[List.mem_cons,List.not_mem_nil,or_false] at hv;rcases hv with rfl|rfl|rfl|rfl <;> rfl
variable {f:Fq}{b:Nat}{w:World}
theorem Ik.cells:∀{k:Ty}{off:Nat},Ik w f k b off→∃xs,Be w f k xs∧Cs w f b off xs∧∀v∈xs,v.oneCell'=true
 |.nil,_,_=>⟨[],rfl,(λj v hj=>by simp at hj),λv hv=>by cases hv⟩
 |.var n r,off,⟨⟨a,c,h1⟩,h2⟩=>by
   obtain⟨xs,h3,h4,h5⟩:=Ik.cells h2;refine⟨_++xs,⟨a,c,xs,rfl,h3⟩,?_,?_⟩
   · intro j v hj
     rcases Nat.lt_or_ge j 4 with hj4|hj4
     · exact h1 j v (by rwa[List.getElem?_append_left (by simpa using hj4)] at hj)
     · rw[List.getElem?_append_right (by simpa using hj4)] at hj
       have:=h4 (j-4) v (by simpa using hj);rwa[show off+4+(j-4)=off+j by omega] at this
   · intro v hv
     rcases List.mem_append.1 hv with hv|hv
     · exact XL (.var n) a c v hv
     · exact h5 v hv
 |.con tx k r,off,⟨⟨a,c,h1,hk⟩,h2⟩=>by
   obtain⟨xs,h3,h4,h5⟩:=Ik.cells h2;refine⟨_++xs,⟨a,c,xs,rfl,hk,h3⟩,?_,?_⟩
   · intro j v hj
     rcases Nat.lt_or_ge j 4 with hj4|hj4
     · exact h1 j v (by rwa[List.getElem?_append_left (by simpa using hj4)] at hj)
     · rw[List.getElem?_append_right (by simpa using hj4)] at hj
       have:=h4 (j-4) v (by simpa using hj);rwa[show off+4+(j-4)=off+j by omega] at this
   · intro v hv
     rcases List.mem_append.1 hv with hv|hv
     · exact XL (.con tx k) a c v hv
     · exact h5 v hv
end Go.SP
namespace Go.SP
open Go.SW Go.RowKit
variable {X:Cx}{f:Fq}{Fs:List (World→Fq→Prop)}{B:List FB}{H:List HB}{xs:List Value}{m:Nat}{a:Option Addr}{e:TypeId}{w:World}
theorem Me{R:List RB}{c:Nat}{k:Ty}(hM:AO X w f H (⟨e,4,a,c,m,xs⟩::R) B Fs)(hL:Be w f k xs)(h0:0<k.len):∃f',AO X w f' H R B Fs∧Al w f' k a c:=by
 have hr:=hM.row _ (.head _);have hlen:=Be.len hL;have hm:m=k.len:=by have:=hr.1;simp only at this;omega
 rcases hr.2 with ⟨_,_,h⟩|⟨b,l,ha,_,hmc,_⟩
 · simp only at h;omega
 · simp only at ha hmc
   subst ha;obtain⟨f',hM'⟩:=(hM.more (B':=[]) (F':=[λw f=>Be w f k xs]) (λ_ h=>by cases h) (AE.mem ⟨hL,tQ⟩) (Aw.mem ⟨Be.mono,tQ⟩)).done (i:=0) rfl rfl;exact⟨f',hM'.less (List.Sublist.refl _) (List.Sublist.refl _) (λe he=>.tail _ he) (λφ h=>.tail _ h),Be.toF (hM'.fact (i:=0) rfl) (hM'.fro _ (.head _)) oM⟩
end Go.SP
namespace Go.SP
open Go.SW Go.RowKit
variable {f:Fq}{a:Option Addr}{w:World}
theorem Al.cells{k:Ty}{c:Nat}(h:Al w f k a c)(h0:0<k.len):∃x:Nat×Nat×List Value,(a=some ⟨x.1,x.2.1,none⟩∧(∀v∈x.2.2,v.oneCell'=true)∧x.2.2.length=k.len*4)∧Cs w f x.1 x.2.1 x.2.2∧Be w f k x.2.2:=by
 rcases h.2 with h|⟨b,off,h1,h2⟩
 · subst h;cases h0
 · obtain⟨xs,h3,h4,h5⟩:=Ik.cells h2
   exact⟨(b,off,xs),⟨h1,h5,Be.len h3⟩,h4,h3⟩
def FG(w:World)(f:Fq):BT→List (Int×Value)→Prop
 | [],es=>es=[]
 |(n,t)::s,es=>∃a c es',es=(n,tV t a c)::es'∧Al w f t.kids a c∧FG w f s es'
variable {f':Fq}{fr pr:Int}{Fs:List (World→Fq→Prop)}{mb sb:Nat}{MI:Nat→Prop}{T:TypeId}{w':World}
theorem FG.mono(hF:Hm w f w' f'):∀(s:BT)(es:List (Int×Value)),FG w f s es→FG w' f' s es
 | [],_,h=>h
 |(_,_)::s,_,⟨a,c,es',h1,h2,h3⟩=>⟨a,c,es',h1,Al.mono _ _ _ _ h2 hF,FG.mono hF s es' h3⟩
def Is:BT→Prop
 | []=>True
 |(n,t)::s=>CC s n=none∧(∀m,t=.var m→m≠n∧CC s m=none)∧t.bnd∧Is s
def dO:BT→Prop
 | []=>True
 |(n,t)::s=>CC s n=none∧(∀m,t=.var m→m≠n∧CC s m=none)∧dO s
theorem Is.v:∀{s:BT},Is s→dO s
 | [],_=>trivial
 |(_,_)::_,h=>⟨h.1,h.2.1,Is.v h.2.2.2⟩
theorem FG.look:∀{s:BT}{es:List (Int×Value)},FG w f s es→∀n,(CC s n=none→Em es n=none)∧∀t,CC s n=some t→∃a c,Em es n=some (tV t a c)∧Al w f t.kids a c
 | [],es,h,n=>by
   have h:es=[]:=h;subst h;exact⟨λ_=>rfl,λt h=>by cases h⟩
 |(k,t)::s,es,⟨a,c,es',h1,h2,h3⟩,n=>by
   subst h1;have ih:=FG.look h3 n;simp only[CC,Em]
   by_cases hk:k=n
   · subst hk
     refine⟨λh=>by simp at h,λt' h=>?_⟩;simp at h;subst h;exact⟨a,c,by simp,h2⟩
   · have e1:(k==n)=false:=by simpa using hk
     have e2:(n==k)=false:=by simpa using λe=>hk e.symm
     rw[e1,e2];simpa using ih
theorem FG.dis:∀{s:BT}{es:List (Int×Value)},FG w f s es→Is s→Ir es
 | [],es,h,_=>by have h:es=[]:=h;subst h;trivial
 |(k,t)::s,es,⟨a,c,es',h1,h2,h3⟩,hw=>by
   subst h1;exact⟨(FG.look h3 k).1 hw.1,FG.dis h3 hw.2.2.2⟩
def BB(T:TypeId)(sb mb:Nat)(s:BT)(fr pr:Int)(w:World)(f:Fq):Prop:=AI w sb [.map (some mb),.int .i64 fr,.int .i64 pr] T∧∃es,BF EB w mb es∧FG w f s es
theorem BB.stab{s:BT}(h1:MI sb)(h2:MI mb):EU MI (BB T sb mb s fr pr):=λ_ _ _ _ ⟨hb,es,hm,hs⟩ hF h=>⟨(h sb h1).trans hb,es,hm.heap (h mb h2),FG.mono hF s es hs⟩
abbrev LC(sb mb:Nat):Nat→Prop:=λb=>b=sb∨b=mb
abbrev XS(T:TypeId)(sb mb:Nat)(s:BT)(fr pr:Int)(w:World)(f:Fq):Cx:=⟨LC sb mb,LC sb mb,BB T sb mb s fr pr,w,f⟩
theorem dS{s:BT}(hv:Vl w f)(hS:BB T sb mb s fr pr w f)(hf:f sb=0∧f mb=0)(hF:AE Fs w f)(hm:Aw Fs):AO (XS T sb mb s fr pr w f) w f [] [] [] Fs where
 stp:=LG.refl _ _
 old _ _:=rfl
 val:=hv
 ent:=Hm.refl _ _
 res:=hS
 stab:=BB.stab (.inl rfl) (.inr rfl)
 mi b hb:=by
   rcases hb with rfl|rfl
   · exact⟨hS.1.lt,hf.1,.inr (.inl rfl)⟩
   · obtain⟨_,es,h,_⟩:=hS;exact⟨h.lt,hf.2,.inr (.inr rfl)⟩
 blk _ h:=by cases h
 row _ h:=by cases h
 nd:=List.nodup_nil
 own _ h:=by cases h
 hnw _ h:=by cases h
 rnw _ h:=by cases h
 fro _ h:=by cases h
 fac:=hF.mem
 mono:=hm.mem
def IB:BT→Int→Option Nat
 | [],_=>none
 |(k,_)::s,n=>if k==n then some 0 else (IB s n).map (· + 1)
def E0(s:BT):T1→Nat
 |.con _ _=>0
 |.var n=>match IB s n with
   |none=>0
   |some p=>p+1
theorem RV{n:Int}:∀{s:BT},CC s n=none↔IB s n=none
 | []=>by simp[CC,IB]
 |(k,t)::s=>by
   have:=RV (n:=n) (s:=s);simp only[CC,IB]
   split <;> simp[this]
theorem Ib{n:Int}{t:T1}:∀{s:BT},dO s→CC s n=some t→∃p,IB s n=some p∧E0 s t≤p
 | [],_,h=>by cases h
 |(k,t0)::s,hw,h=>by
   simp only[CC] at h
   split at h
   · rename_i hk
     cases h
     have e:k=n:=by simpa using hk
     subst e;refine⟨0,by simp[IB],?_⟩
     cases t with
     |con _ _=>simp[E0]
     |var m =>
       obtain⟨h1,h2⟩:=hw.2.1 m rfl;have e1:(k==m)=false:=by simpa using λe=>h1 e.symm
       simp[E0,IB,e1,RV.1 h2]
   · rename_i hk
     obtain⟨p,h1,h2⟩:=Ib hw.2.2 h;have e1:(k==n)=false:=by simpa using hk
     refine⟨p+1,by simp[IB,e1,h1],?_⟩
     cases t with
     |con _ _=>simp[E0]
     |var m =>
       have hv:∀s:BT,E0 s (.var m)=(match IB s m with|none=>0|some p=>p+1):=λ_=>rfl;rw[hv] at h2 ⊢;simp only[IB]
       cases hkm:(k==m) with
       |true=>simp
       |false =>
         simp only[Bool.false_eq_true,if_false]
         cases hp:IB s m with
         |none=>simp
         |some q =>
           rw[hp] at h2;simp only[Option.map_some] at h2 ⊢;have h3:q+1≤p:=h2;show q+1+1≤p+1;exact Nat.succ_le_succ h3
theorem Us{n:Int}:∀{s:BT}{p:Nat},IB s n=some p→p<s.length
 | [],_,h=>by cases h
 |(k,t)::s,p,h=>by
   simp only[IB] at h
   split at h
   · cases h;simp
   · cases hp:IB s n with
     |none=>rw[hp] at h;cases h
     |some q=>rw[hp] at h;cases h;have:=Us hp;simp;exact this
theorem Uy(s:BT)(t:T1):E0 s t≤s.length:=by
 cases t with
 |con _ _=>simp[E0]
 |var n =>
   have hv:E0 s (.var n)=(match IB s n with|none=>0|some p=>p+1):=rfl;rw[hv]
   cases hp:IB s n with
   |none=>simp
   |some p=>exact Us hp
theorem Kt{s:BT}(hw:dO s):∀(k j:Nat)(t:T1),E0 s t≤k→E0 s t≤j→Hy s k t=Hy s j t
 |k,j,.con tx ks,_,_=>by cases k <;> cases j <;> rfl
 |k,j,.var n,hk,hj=>by
   cases hl:CC s n with
   |none =>
     have:∀k,Hy s k (.var n)=.var n:=λk=>by cases k <;> simp[Hy,hl]
     rw[this,this]
   |some t =>
     obtain⟨p,h1,h2⟩:=Ib hw hl;have hr:E0 s (.var n)=p+1:=by simp[E0,h1]
     rw[hr] at hk hj
     cases k with
     |zero=>omega
     |succ k =>
       cases j with
       |zero=>omega
       |succ j =>
         simp only[Hy,hl];exact Kt hw k j t oM oM
theorem Ng{s:BT}{n:Int}(h:CC s n=none):Ap s (.var n)=.var n:=by simp[Ap,Hy,h]
theorem Gr(s:BT)(tx:lU)(k:Ty):Ap s (.con tx k)=.con tx k:=rfl
theorem QB{s:BT}{n:Int}{t:T1}(hw:dO s)(h:CC s n=some t):Ap s (.var n)=Ap s t:=by
 obtain⟨p,h1,h2⟩:=Ib hw h;have:=Us h1;unfold Ap
 conv=>lhs;rw[Hy];simp only[h]
 exact Kt hw _ _ t oM (by have:=Uy s t;omega)
theorem Mn{s:BT}{n:Int}{t:T1}(hw:dO s)(h:CC s n=some t):E0 s t<E0 s (.var n):=by
 obtain⟨p,h1,h2⟩:=Ib hw h;have hv:E0 s (.var n)=p+1:=by simp[E0,h1]
 rw[hv];omega
theorem SB{s:BT}{n:Int}{t:T1}(hw:Is s)(h:CC s n=some t):Ap s (.var n)=Ap s t:=QB hw.v h
theorem dT{s:BT}{n:Int}{t:T1}(hw:Is s)(h:CC s n=some t):E0 s t<E0 s (.var n):=Mn hw.v h
theorem Ny{n:Int}{t:T1}:∀{s:BT},Is s→CC s n=some t→t.bnd
 | [],_,h=>by cases h
 |(k,t0)::s,hw,h=>by
   simp only[CC] at h
   split at h
   · cases h;exact hw.2.2.1
   · exact Ny hw.2.2.2 h
theorem DV{t:T1}(h:(t.op==0)=true):∃n,t=.var n:=by
 cases t with
 |var n=>exact⟨n,rfl⟩
 |con _ _=>cases h
theorem Fe{t:T1}(h:(t.op==0)=false):∃tx k,t=.con tx k:=by
 cases t with
 |var n=>cases h
 |con tx k=>exact⟨tx,k,rfl⟩
end Go.SP
namespace Go.SW
open Go.RowKit
section
variable{P:Program}{σ:Ba}{w:World}{ty:TypeId}
variable {caps:List Operand}{vs:List Value}
theorem Qi{f:FuncId}{g:Operand}{args:List Operand}{caps:List Value}{ts:Array TypeId}(he:B3 P f)(hg:ev σ g=some (.func (.func f) #[] caps.toArray))(ha:Ii σ args=some vs) :
   Enters P σ (.call {callee:=.value g,args:=args.toArray,argTypes:=ts}) ty w f (vs++caps).toArray:=λρ _ _ _ _ hρ=>by
 have h:=Ep hρ ha;have e:=he (vs++caps).toArray w;simp[execOp,resolve,hρ _ _ hg,Deferred.ofValue,invoke,h];simpa using e
theorem Ni{f:FuncId}(ha:Ii σ caps=some vs):AG P σ (.makeFunc (.func f) #[] caps.toArray) ty w (.func (.func f) #[] vs.toArray) w:=λρ _ _ _ _ hρ=>by
 have h:=Ep hρ ha;simp[execOp,Instr.makeFunc,h]
end
end Go.SW
namespace Go.SP
open Go.SW Go.RowKit
def B2(b:BT):Nat→Ty→Option Nat
 |k,.nil=>some k
 |0,.var _ _=>none
 |0,.con _ _ _=>none
 |k+1,.var n r=>match Ap b (.var n) with
   |.var _=>B2 b k r
   |.con _ ks=>B2 b k (ks.app r)
 |k+1,.con _ ks r=>B2 b k (ks.app r)
theorem Fv(b:BT):∀(k:Nat)(t:Ty),JN b k t=(B2 b k t).isSome
 |k,.nil=>by cases k <;> rfl
 |0,.var _ _=>rfl
 |0,.con _ _ _=>rfl
 |k+1,.var n r=>by
   simp only[JN,B2]
   cases Ap b (.var n) with
   |var _=>exact Fv b k r
   |con _ ks=>exact Fv b k _
 |k+1,.con _ ks r=>by simp only[JN,B2];exact Fv b k _
theorem Js(b:BT):∀(k:Nat)(x y:Ty),B2 b k (x.app y)=(B2 b k x).bind λj=>B2 b j y
 |k,.nil,y=>by cases k <;> rfl
 |0,.var _ _,y=>rfl
 |0,.con _ _ _,y=>rfl
 |k+1,.var n r,y=>by
   simp only[Ty.app,B2]
   cases Ap b (.var n) with
   |var _=>exact Js b k r y
   |con _ ks =>
     simp only;rw[← Ty.app_assoc];exact Js b k _ y
 |k+1,.con _ ks r,y=>by
   simp only[Ty.app,B2];rw[← Ty.app_assoc];exact Js b k _ y
theorem Ej(b:BT):∀(k:Nat)(x:Ty)(j:Nat),B2 b k x=some j→j≤k
 |k,.nil,j,h=>by cases k <;> (cases h;exact Nat.le_refl _)
 |0,.var _ _,_,h=>by cases h
 |0,.con _ _ _,_,h=>by cases h
 |k+1,.var n r,j,h=>by
   simp only[B2] at h
   split at h
   · have:=Ej b k _ j h;omega
   · have:=Ej b k _ j h;omega
 |k+1,.con _ ks r,j,h=>by
   simp only[B2] at h;have:=Ej b k _ j h;omega
theorem IF(b:BT)(k:Nat)(t:T1)(r:Ty):B2 b k (t.cons r)=(B2 b k t.one).bind λj=>B2 b j r:=by rw[← T1.one_app,Js]
theorem Jv(b:BT)(k:Nat)(t:T1):B2 b (k+1) t.one=B2 b k (Ap b t).kids:=by
 cases t with
 |var n =>
   simp only[T1.one,T1.cons,B2]
   cases Ap b (.var n) with
   |var _=>cases k <;> rfl
   |con _ ks=>simp only[Ty.app_nil];rfl
 |con tx ks =>
   simp only[T1.one,T1.cons,B2,Gr,Ty.app_nil];rfl
theorem Kf(b:BT)(t:T1):B2 b 0 t.one=none:=by cases t <;> rfl
theorem On{s:BT}(hw:Is s):∀(k:Nat)(t:T1),t.bnd→(Hy s k t).bnd
 |0,t,h=>h
 |k+1,.con _ _,h=>h
 |k+1,.var n,h=>by
   simp only[Hy]
   split
   · exact h
   · rename_i t' hl;exact On hw k t' (Ny hw hl)
theorem Cn{s:BT}(hw:Is s){t:T1}(h:t.bnd):(Ap s t).bnd:=On hw _ t h
end Go.SP
namespace Go.SP
open Go.SW Go.RowKit
variable {f f':Fq}{fr pr:Int}{Fs:List (World→Fq→Prop)}{l:List Value}{mb nb sb:Nat}{M MI:Nat→Prop}{T:TypeId}{w':World}
theorem BB.keep{s:BT}{w:World}(h:BB T sb mb s fr pr w f)(hE:C2 M w f w' f')(hF:Hm w f w' f')(h1:¬M sb)(h2:¬M mb):BB T sb mb s fr pr w' f':=by
 obtain⟨hb,es,hm,hs⟩:=h;exact⟨(hE.stp.block sb hb.lt h1).trans hb,es,hm.heap (hE.stp.block mb hm.lt h2),FG.mono hF s es hs⟩
theorem oZ{w:World}(hv:Vl w f)(hb:AI w nb l T)(hf:f nb=0)(hF:AE Fs w f)(hm:Aw Fs):AO ⟨λb=>b=nb,λ_=>False,λ_ _=>True,w,f⟩ w f [⟨nb,l,T,false⟩] [] [] Fs where
 stp:=LG.refl _ _
 old _ _:=rfl
 val:=hv
 ent:=Hm.refl _ _
 res:=trivial
 stab _ _ _ _ _ _ _:=trivial
 mi _ h:=h.elim
 blk e h:=by
   rcases List.mem_cons.1 h with rfl|h
   · exact hb
   · cases h
 row _ h:=by cases h
 nd:=by simp[C8]
 own b h:=by
   have:b=nb:=by simpa[C8] using h
   subst this;exact⟨hf,.inr rfl,λh=>h⟩
 hnw e h hn:=by
   rcases List.mem_cons.1 h with rfl|h
   · cases hn
   · cases h
 rnw _ h:=by cases h
 fro _ h:=by cases h
 fac:=hF.mem
 mono:=hm.mem
theorem RZ{I:World→Fq→Prop}{w:World}(hv:Vl w f)(hI:I w f)(hst:EU M I)(hm:∀b,M b→b<w.heap.size∧f b=0)(hF:AE Fs w f)(hmo:Aw Fs):AO ⟨M,M,I,w,f⟩ w f [] [] [] Fs where
 stp:=LG.refl _ _
 old _ _:=rfl
 val:=hv
 ent:=Hm.refl _ _
 res:=hI
 stab:=hst
 mi b h:=⟨(hm b h).1,(hm b h).2,.inr h⟩
 blk _ h:=by cases h
 row _ h:=by cases h
 nd:=List.nodup_nil
 own _ h:=by cases h
 hnw _ h:=by cases h
 rnw _ h:=by cases h
 fro _ h:=by cases h
 fac:=hF.mem
 mono:=hmo.mem
def J4(nb:Nat)(n:Int)(w:World)(_:Fq):Prop:=AI w nb [.int .i64 n] 3
theorem J4.stab{n:Int}(h:MI nb):EU MI (J4 nb n):=λ_ _ _ _ hb _ hm=>(hm nb h).trans hb
def rO(P:Program)(fid:FuncId)(T:TypeId)(g:FuncId)(k:Nat):Prop:=∀(w:World)(f:Fq)(_:Vl w f)(sb mb:Nat)(s:BT)(fr pr:Int)(nb:Nat),BB T sb mb s fr pr w f→Is s→sb≠nb→mb≠nb→f nb=0→J4 nb (1000-(k:Int)) w f→k≤1000→∀(t:T1)(a:Option Addr)(c:Nat),t.bnd→Al w f t.kids a c →
 Bo P fid #[.pointer (some ⟨sb,0,none⟩),tV t a c,.func (.func g) #[] #[.pointer (some ⟨nb,0,none⟩)]] w (EC (α:=Int) (λ_=>.bool (B2 s k t.one).isSome) (λx=>∀j,B2 s k t.one=some j→x=1000-(j:Int)) (λb=>b=nb) (λx=>J4 nb x) (λ_=>[]) w f)
end Go.SP
namespace Go.SW
open Go.RowKit
variable {Q:AT}{nw:Bool}{X:Cx}{f:Fq}{Fs:List (World→Fq→Prop)}{ds:List Deferred}{B:List FB}{fs:List Fr}{H H':List HB}{l:List Value}{b i n:Nat}{T:TypeId}
theorem AO.give{w:World}{R:List RB}(h:AO X w f H R B Fs)(hg:Hd H i=some ⟨b,l,T,nw⟩)(hs:Ke H i=some H') :
   AO {X with MI:=λk=>X.MI k∨k=b,I:=λw f=>X.I w f∧AI w b l T} w f H' R B Fs:=by
 have hblk:AI w b l T:=h.blk _ (BH hg);have hown:=h.own b (List.mem_append.2 (.inl (List.mem_map.2 ⟨_,BH hg,rfl⟩)));have hsub:=K8 hs;have hnd:(H.map HB.b++IE R).Nodup:=h.nd;have hbR:b∉C8 H' R:=Kq (L:=IE R) hg hs hnd;have hso:(C8 H' R).Sublist (C8 H R):=List.Sublist.append (hsub.map _) (List.Sublist.refl _)
 exact {h with
         res:=⟨h.res,hblk⟩,
         stab:=λw1 f1 w2 f2 hI hF hb=>⟨h.stab w1 f1 w2 f2 hI.1 hF λk hm=>hb k (.inl hm),(hb b (.inr rfl)).trans hI.2⟩,
         mi:=λk hk=>by
           rcases hk with hk|rfl
           · exact h.mi k hk
           · exact⟨hblk.lt,hown.1,hown.2.1⟩,
         blk:=λe he=>h.blk e (hsub.subset he),nd:=hso.nodup h.nd,
         own:=λk hk=>⟨(h.own k (hso.subset hk)).1,(h.own k (hso.subset hk)).2.1,λhm=>by
           rcases hm with hm|rfl
           · exact (h.own k (hso.subset hk)).2.2 hm
           · exact hbR hk⟩,
         hnw:=λe he=>h.hnw e (hsub.subset he)}
theorem oQ{P:Program}{R:List RB}{σ:Ba}{k:Kc}(i:Nat)(hg:Hd H i=some ⟨b,l,T,nw⟩)(hs:Ke H i=some H')
   (h:A3 P n Q ds {X with MI:=λk=>X.MI k∨k=b,I:=λw f=>X.I w f∧AI w b l T} R B Fs k fs σ H'):A3 P n Q ds X R B Fs k fs σ H:=λw f hM=>h w f (hM.give hg hs)
end Go.SW
namespace Go.SW
open Go.RowKit
variable {Q:AT}{X:Cx}{f:Fq}{Fs:List (World→Fq→Prop)}{ds:List Deferred}{B:List FB}{fs:List Fr}{H:List HB}{b n:Nat}{w':World}
theorem FX.fle{w:World}(h:FX b w w')(hf:f b=0):Hm w f w' f:=λk=>⟨Nat.le_refl _,λo ho=>De (h.block k (λe=>by rw[e,hf] at ho;omega)) o⟩
theorem fY{P:Program}{R:List RB}{σ:Ba}{k:Kc}{α:Type}(I2:α→World→Fq→Prop)(h1:∀w f,X.I w f→∃x,I2 x w f)(hst:∀x,EU X.MI (I2 x))
   (h:∀x,A3 P n Q ds {X with I:=I2 x} R B Fs k fs σ H):A3 P n Q ds X R B Fs k fs σ H:=λw f hM=>by
 obtain⟨x,hx⟩:=h1 w f hM.res;exact h x w f {hM with res:=hx,stab:=hst x}
end Go.SW
namespace Go.SP
open Go.SW Go.RowKit
theorem Kv{s:BT}{x:Int}:∀(k:Nat)(a b:Ty)(j:Nat),B2 s k a=some j→CE s x k (a.app b)=(CE s x k a&&CE s x j b)
 |k,.nil,b,j,h=>by
   have e:j=k:=by cases k <;> (cases h;rfl)
   subst e
   cases j <;> simp[Ty.app,CE]
 |0,.var _ _,_,_,h=>by cases h
 |0,.con _ _ _,_,_,h=>by cases h
 |k+1,.var n r,b,j,h=>by
   simp only[Ty.app,B2,CE] at h ⊢
   cases hh:Ap s (.var n) with
   |var m=>rw[hh] at h;simp only at h ⊢;rw[Kv k r b j h,Bool.and_assoc]
   |con tx ks=>rw[hh] at h;simp only at h ⊢;rw[← Ty.app_assoc];exact Kv k _ b j h
 |k+1,.con tx ks r,b,j,h=>by
   simp only[Ty.app,B2,CE] at h ⊢;rw[← Ty.app_assoc];exact Kv k _ b j h
variable {j k:Nat}
theorem O4{s:BT}{x:Int}{t:T1}{r:Ty}(h:B2 s k t.one=some j):CE s x k (t.cons r)=(CE s x k t.one&&CE s x j r):=by rw[← T1.one_app];exact Kv k t.one r j h
def VF(x:Int):T1→Bool
 |.var m=>!(m==x)
 |.con _ _=>true
theorem IK(s:BT)(x:Int)(k:Nat)(t:T1):CE s x (k+1) t.one=(VF x (Ap s t)&&CE s x k (Ap s t).kids):=by
 cases t with
 |var n =>
   simp only[T1.one,T1.cons,CE]
   cases Ap s (.var n) with
   |var m=>cases k <;> simp[VF,T1.kids,CE]
   |con tx ks=>simp[VF,T1.kids,Ty.app_nil]
 |con tx ks=>simp[T1.one,T1.cons,CE,Gr,VF,T1.kids,Ty.app_nil]
def qL(P:Program)(fid:FuncId)(T:TypeId)(g:FuncId)(k:Nat):Prop:=∀(w:World)(f:Fq)(_:Vl w f)(sb mb:Nat)(s:BT)(fr pr:Int)(xb:Nat)(x:Int),BB T sb mb s fr pr w f→Is s→AI w xb [.int .i64 x] 3→∀(t:T1)(a:Option Addr)(c j:Nat),t.bnd→Al w f t.kids a c→B2 s k t.one=some j →
 Bo P fid #[.pointer (some ⟨sb,0,none⟩),tV t a c,.func (.func g) #[] #[.pointer (some ⟨xb,0,none⟩)]] w (Bx (α:=Unit) (λ_=>.bool (CE s x k t.one)) (λ_=>True) (λ_=>[]) w f)
def IH(s:BT)(n:Int)(t:T1):Int×BT:=match Ck s n t with
 |.error e=>(e,s)
 |.ok s'=>(0,s')
end Go.SP
namespace Go.SP
open Go.SW Go.RowKit
def eA(T:TypeId)(sb mb:Nat)(s:BT)(fr pr:Int)(es:List (Int×Value))(w:World)(f:Fq):Prop:=AI w sb [.map (some mb),.int .i64 fr,.int .i64 pr] T∧BF EB w mb es∧FG w f s es
variable {fr pr:Int}{es:List (Int×Value)}{mb sb:Nat}{MI:Nat→Prop}{T:TypeId}
theorem eA.stab{s:BT}(h1:MI sb)(h2:MI mb):EU MI (eA T sb mb s fr pr es):=λ_ _ _ _ ⟨hb,hm,hs⟩ hF h=>⟨(h sb h1).trans hb,hm.heap (h mb h2),FG.mono hF s es hs⟩
theorem WG{s:BT}{n:Int}{t:T1}(h:Hh s t=false):IH s n t=(4,s):=by simp[IH,Ck,h]
theorem Zo{s:BT}{n:Int}{t:T1}(h:Hh s t=true)(h2:CE s n 1000 t.one=false):IH s n t=(11,s):=by simp[IH,Ck,h,h2]
theorem YE{s:BT}{n:Int}{t:T1}(h:Hh s t=true)(h2:CE s n 1000 t.one=true):IH s n t=(0,(n,t)::s):=by simp[IH,Ck,h,h2]
end Go.SP
namespace Go.SW
open Go.RowKit
variable {Q:AT}{af:Array Edge}{ag:Bool}{X:Cx}{Fs:List (World→Fq→Prop)}{ds:List Deferred}{B:List FB}{fs:List Fr}{H:List HB}{l l' vs:List Value}{b k n off:Nat}{x:Operand}{g:Option (Nat×Bool)}{pos:String}{T:TypeId}{I':World→Fq→Prop}
theorem SJ{P:Program}{R:List RB}{σ:Ba}{all r:List Oper}{ty T':TypeId}{y:Operand}{v:Value}
   (hg:gd all σ g=some true) (hx:ev σ x=some (.pointer (some ⟨b,off,none⟩))) (hy:ev σ y=some v) (hv:Hl v=some vs) (hT:AM P T=some (ag,k)) (hk:Nat.beq vs.length k=true) (h1:L9 vs=true) (hp:NL l off vs=some l') (hmi:X.MI b)
   (hb:∀w f,X.I w f→AI w b l T') (hI:∀w f w',X.I w f→AO X w f H R B Fs→FX b w w'→AI w' b l' T'→I' w' f) (hst:EU X.MI I')
   (h:A3 P n Q ds {X with I:=I' } R B Fs (.ops all r) fs σ H):A3 P n Q ds X R B Fs (.ops all (⟨none,.store T x y,ty,pos,af,g⟩::r)) fs σ H:=λw f hM =>
 Bp hg (A2 hx hy hv hT hk (hb w f hM.res) h1 hp λw' hb' hC=>h w' f (hM.chgI hmi hC (hI w f w' hM.res hM hC hb') hst))
def tJ(P:Program)(n:Nat){α:Type}(p:α→Prop)(s:α→Ba)(X:α→Cx)(H:α→List HB)(R:α→List RB)(B:α→List FB)(Fs:α→List (World→Fq→Prop))(ds:List Deferred)(Q:AT):AT :=
 {q:=λe σ ds' w=>match e with
     |.normal=>∃x,p x∧ds'=ds∧Le (s x) σ∧∃f,AO (X x) w f (H x) (R x) (B x) (Fs x)
     |e=>Q.q e σ ds' w,
   p:=Q.p}
section
variable{P:Program}{n:Nat}{Q:AT}{ds:List Deferred}{X:Cx}{R:List RB}{B:List FB}{Fs:List (World→Fq→Prop)}{fs:List Fr}{σ:Ba}{H:List HB}
theorem Nv{c:Code}{α:Type}(p:α→Prop)(s:α→Ba)(X':α→Cx)(H':α→List HB)(R':α→List RB)(B':α→List FB)(F':α→List (World→Fq→Prop))(h1:A3 P n (tJ P n p s X' H' R' B' F' ds (Lz P n Q fs)) ds X R B Fs (.code c) [] σ H)
   (h2:∀x,p x→A3 P n Q ds (X' x) (R' x) (B' x) (F' x) (.out .normal) fs (s x) (H' x)):A3 P n Q ds X R B Fs (.code c) fs σ H:=λw f hM a ha=>by
 refine wp_mono (h1 w f hM a ha) λe a' w' he=>?_
 cases e with
 |normal =>
   obtain⟨σ',ds',hs,x,hp,rfl,hl,f',hm⟩:=he;exact⟨s x,_,hs.le hl,h2 x hp w' f' hm⟩
 |panic c=>exact he
 |outgrown=>exact he
 |ret=>exact he
 |exit i=>exact he
 |goto i=>exact he
theorem HE{α:Type}{p:α→Prop}{s:α→Ba}{X':α→Cx}{H':α→List HB}{R':α→List RB}{B':α→List FB}{F':α→List (World→Fq→Prop)}(x:α)(hp:p x)(hl:Le (s x) σ)(hM:∀w f,AO X w f H R B Fs→∃f,AO (X' x) w f (H' x) (R' x) (B' x) (F' x)):A3 P n (tJ P n p s X' H' R' B' F' ds Q) ds X R B Fs (.out .normal) [] σ H :=
 λw f hm=>⟨x,hp,rfl,hl,hM w f hm⟩
end
end Go.SW
namespace Go.SP
open Go.SW Go.RowKit
def JZ(f:BT→Ty→Ty→Except Int (Nat×BT))(b:BT)(x y:T1)(r q:Ty):Except Int (Nat×BT) :=
 match x,y with
 |.var n,.var m=>if n==m then f b r q else (match Ck b n (.var m) with|.error e=>.error e|.ok b'=>f b' r q)
 |.var n,.con ty kb=>(match Ck b n (.con ty kb) with|.error e=>.error e|.ok b'=>f b' r q)
 |.con tx ka,.var m=>(match Ck b m (.con tx ka) with|.error e=>.error e|.ok b'=>f b' r q)
 |.con tx ka,.con ty kb=>if !(tx==ty)||(ka.len:Int) != kb.len then .error 11 else f b (ka.app r) (kb.app q)
def Gq:Nat→BT→Ty→Ty→Except Int (Nat×BT)
 |k,b,.nil,_=>.ok (k,b)
 |0,_,.var _ _,_=>.error 4
 |0,_,.con _ _ _,_=>.error 4
 |k+1,b,.var n r,y=>JZ (Gq k) b (Ap b (.var n)) (Ap b y.hd) r y.tl
 |k+1,b,.con tx ka r,y=>JZ (Gq k) b (.con tx ka) (Ap b y.hd) r y.tl
def rP{α β:Type}(g:α→β):Except Int α→Except Int β
 |.error e=>.error e
 |.ok x=>.ok (g x)
def QM{α β:Type}(g:α→Except Int β):Except Int α→Except Int β
 |.error e=>.error e
 |.ok x=>g x
theorem RH:∀(k:Nat)(b:BT)(x y:Ty),Lp k b x y=rP (·.2) (Gq k b x y):=by
 intro k
 induction k with
 |zero=>intro b x y;cases x <;> rfl
 |succ k ih =>
   have h1:∀b x y r q,HX (Lp k) b x y r q=rP (·.2) (JZ (Gq k) b x y r q):=by
     intro b x y r q
     cases x with
     |var n =>
       cases y with
       |var m =>
         simp only[HX,JZ]
         cases (n==m) with
         |true=>simp only[if_true];exact ih _ _ _
         |false =>
           simp only[Bool.false_eq_true,if_false]
           cases Ck b n (.var m) with
           |error e=>rfl
           |ok b'=>exact ih _ _ _
       |con ty kb =>
         simp only[HX,JZ]
         cases Ck b n (.con ty kb) with
         |error e=>rfl
         |ok b'=>exact ih _ _ _
     |con tx ka =>
       cases y with
       |var m =>
         simp only[HX,JZ]
         cases Ck b m (.con tx ka) with
         |error e=>rfl
         |ok b'=>exact ih _ _ _
       |con ty kb =>
         simp only[HX,JZ]
         split
         · rfl
         · exact ih _ _ _
   intro b x y
   cases x with
   |nil=>rfl
   |var n r=>exact h1 _ _ _ _ _
   |con tx ka r=>exact h1 _ _ _ _ _
theorem T1.hd_cons(t:T1)(r:Ty):(t.cons r).hd=t:=by cases t <;> rfl
theorem T1.tl_cons(t:T1)(r:Ty):(t.cons r).tl=r:=by cases t <;> rfl
theorem bN(k:Nat)(b:BT)(x:T1)(r y:Ty):Gq (k+1) b (x.cons r) y=JZ (Gq k) b (Ap b x) (Ap b y.hd) r y.tl:=by cases x <;> rfl
theorem nK:∀(k:Nat)(b:BT)(x y r q:Ty),x.len=y.len→Gq k b (x.app r) (y.app q)=QM (λz=>Gq z.1 z.2 r q) (Gq k b x y):=by
 intro k
 induction k with
 |zero =>
   intro b x y r q h
   cases x with
   |nil =>
     have:y=.nil:=Ty.len0 (by simpa[Ty.len] using h.symm);subst this;rfl
   |var n x=>rfl
   |con tx ka x=>rfl
 |succ k ih =>
   have h1:∀b u v x y r q,x.len=y.len→JZ (Gq k) b u v (x.app r) (y.app q)=QM (λz=>Gq z.1 z.2 r q) (JZ (Gq k) b u v x y):=by
     intro b u v x y r q h
     cases u with
     |var n =>
       cases v with
       |var m =>
         simp only[JZ]
         cases (n==m) with
         |true=>simp only[if_true];exact ih _ _ _ _ _ h
         |false =>
           simp only[Bool.false_eq_true,if_false]
           cases Ck b n (.var m) with
           |error e=>rfl
           |ok b'=>exact ih _ _ _ _ _ h
       |con ty kb =>
         simp only[JZ]
         cases Ck b n (.con ty kb) with
         |error e=>rfl
         |ok b'=>exact ih _ _ _ _ _ h
     |con tx ka =>
       cases v with
       |var m =>
         simp only[JZ]
         cases Ck b m (.con tx ka) with
         |error e=>rfl
         |ok b'=>exact ih _ _ _ _ _ h
       |con ty kb =>
         simp only[JZ]
         split
         · rfl
         · rename_i hc
           have hl:ka.len=kb.len:=by
             simp only[Bool.or_eq_true,not_or,bne_iff_ne,ne_eq,Decidable.not_not] at hc;omega
           rw[← Ty.app_assoc,← Ty.app_assoc];exact ih _ _ _ _ _ (by rw[Ty.len_app,Ty.len_app,hl,h])
   intro b x y r q h
   cases x with
   |nil =>
     have:y=.nil:=Ty.len0 (by simpa[Ty.len] using h.symm);subst this;rfl
   |var n x =>
     obtain⟨u,y,rfl⟩:=Ty.cases1 y (by rw[← h];simp[Ty.len]);have e1:(u.cons y).app q=u.cons (y.app q):=by cases u <;> rfl
     rw[e1];show JZ (Gq k) b (Ap b (.var n)) (Ap b (u.cons (y.app q)).hd) (x.app r) (u.cons (y.app q)).tl=QM _ (JZ (Gq k) b (Ap b (.var n)) (Ap b (u.cons y).hd) x (u.cons y).tl);rw[T1.hd_cons,T1.tl_cons,T1.hd_cons,T1.tl_cons];exact h1 _ _ _ _ _ _ _ (by rw[T1.len_cons] at h;simpa[Ty.len] using h)
   |con tx ka x =>
     obtain⟨u,y,rfl⟩:=Ty.cases1 y (by rw[← h];simp[Ty.len]);have e1:(u.cons y).app q=u.cons (y.app q):=by cases u <;> rfl
     rw[e1];show JZ (Gq k) b (.con tx ka) (Ap b (u.cons (y.app q)).hd) (x.app r) (u.cons (y.app q)).tl=QM _ (JZ (Gq k) b (.con tx ka) (Ap b (u.cons y).hd) x (u.cons y).tl);rw[T1.hd_cons,T1.tl_cons,T1.hd_cons,T1.tl_cons];exact h1 _ _ _ _ _ _ _ (by rw[T1.len_cons] at h;simpa[Ty.len] using h)
theorem R5(k:Nat)(b:BT)(x y:T1)(r q:Ty)(h:r.len=q.len):Gq k b (x.cons r) (y.cons q)=QM (λz=>Gq z.1 z.2 r q) (Gq k b x.one y.one):=by
 rw[← T1.one_app,← T1.one_app];exact nK k b x.one y.one r q (by unfold T1.one;rw[T1.len_cons,T1.len_cons])
theorem JS(k:Nat)(b:BT)(x y:T1):Gq (k+1) b x.one y.one=JZ (Gq k) b (Ap b x) (Ap b y) .nil .nil:=by
 unfold T1.one;rw[bN,T1.hd_cons,T1.tl_cons]
theorem cJ(b:BT)(x y:T1):Gq 0 b x.one y.one=.error 4:=by cases x <;> rfl
theorem MP{s:BT}(hw:dO s):∀(k:Nat)(t:T1)(n:Int),E0 s t≤k→Hy s k t=.var n→CC s n=none
 |0,.con _ _,_,_,h=>by cases h
 |0,.var m,n,hr,h=>by
   cases h
   cases hl:CC s m with
   |none=>rfl
   |some t=>have:=Mn hw hl;omega
 |k+1,.con _ _,_,_,h=>by cases h
 |k+1,.var m,n,hr,h=>by
   simp only[Hy] at h
   cases hl:CC s m with
   |none=>rw[hl] at h;cases h;exact hl
   |some t =>
     rw[hl] at h;exact MP hw k t n (by have:=Mn hw hl;omega) h
theorem Nr{s:BT}(hw:dO s){t:T1}{n:Int}(h:Ap s t=.var n):CC s n=none:=MP hw _ t n (by have:=Uy s t;omega) h
theorem Fp{s:BT}(hw:Is s){t:T1}{n:Int}(h:Ap s t=.var n):CC s n=none:=Nr hw.v h
theorem TD{s:BT}(hw:dO s)(t:T1):Ap s (Ap s t)=Ap s t:=by
 cases h:Ap s t with
 |con tx k=>exact Gr s tx k
 |var n=>exact Ng (Nr hw h)
theorem KP{s:BT}(hw:Is s)(t:T1):Ap s (Ap s t)=Ap s t:=TD hw.v t
theorem Pp{s s':BT}(hw:Is s){n:Int}{t:T1}(hn:CC s n=none)(ht:Ap s t=t)(hb:t.bnd)(h:Ck s n t=.ok s'):Is s':=by
 unfold Ck at h
 split at h
 · split at h
   · rename_i hs hf
     cases h
     refine⟨hn,λm hm=>?_,hb,hw⟩;subst hm;refine⟨λe=>?_,Fp hw ht⟩;have:=IK s n 999 (.var m);rw[hf,ht,e] at this;simp[VF] at this
   · cases h
 · cases h
def fA(P:Program)(fid:FuncId)(T:TypeId)(k:Nat):Prop:=∀(w:World)(f:Fq)(_:Vl w f)(sb mb:Nat)(s:BT)(fr:Int),BB T sb mb s fr (10000-(k:Int)) w f→(f sb=0∧f mb=0)→sb≠mb→Is s→k≤10000→∀(t u:T1)(a:Option Addr)(c:Nat)(a2:Option Addr)(c2:Nat),t.bnd→u.bnd→Al w f t.kids a c→Al w f u.kids a2 c2 →
 Bo P fid #[.pointer (some ⟨sb,0,none⟩),tV t a c,tV u a2 c2] w (EC (α:=Int×BT×Int) (λx=>.int .i64 x.1) (λx=>(∀z,Gq k s t.one u.one=.ok z→x.1=0∧x.2.1=z.2∧x.2.2=10000-(z.1:Int)∧Is z.2)∧∀e,Gq k s t.one u.one=.error e→x.1=e∧e≠0) (LC sb mb) (λx=>BB T sb mb x.2.1 fr x.2.2) (λ_=>[]) w f)
theorem rL:∀(k:Nat)(b:BT)(x y:Ty)(z:Nat×BT),Gq k b x y=.ok z→z.1≤k:=by
 intro k
 induction k with
 |zero=>intro b x y z h;cases x <;> cases h;exact Nat.le_refl _
 |succ k ih =>
   have h1:∀b u v r q z,JZ (Gq k) b u v r q=.ok z→z.1≤k:=by
     intro b u v r q z h;unfold JZ at h
     repeat' split at h
     all_goals first|exact ih _ _ _ _ h|cases h
   intro b x y z h
   cases x with
   |nil=>cases h;exact Nat.le_refl _
   |var n r=>have:=h1 _ _ _ _ _ _ h;omega
   |con tx ka r=>have:=h1 _ _ _ _ _ _ h;omega
end Go.SP
namespace Go.SP
theorem OY{s:BT}{n:Int}{t:T1}{e:Int}(h:Ck s n t=.error e):e≠0:=by
 unfold Ck at h
 split at h
 · split at h
   · cases h
   · cases h;decide
 · cases h;decide
end Go.SP
namespace Go.SP
open Go.SW Go.RowKit
theorem GC(s:BT)(k:Nat):AN s k .nil=.nil:=by cases k <;> rfl
theorem O6{s:BT}:∀(k:Nat)(x:Ty)(j:Nat),B2 s k x=some j→∀m,k-j≤m→AN s m x=AN s k x:=by
 intro k
 induction k using Nat.strongRecOn with
 |_ k ih =>
   intro x j h m hm
   have key:∀(k' m':Nat)(ks r:Ty),k'<k→B2 s k' (ks.app r)=some j→k'-j≤m'→AN s m' ks=AN s k' ks∧AN s m' r=AN s k' r:=by
     intro k' m' ks r hk hr hm';rw[Js] at hr
     cases hj:B2 s k' ks with
     |none=>rw[hj] at hr;cases hr
     |some j1 =>
       rw[hj] at hr;have hr:B2 s j1 r=some j:=hr;have h1:=Ej s _ _ _ hj;have h2:=Ej s _ _ _ hr;exact⟨ih k' hk ks j1 hj m' oM,(ih j1 oM r j hr m' oM).trans (ih j1 oM r j hr k' oM).symm⟩
   cases x with
   |nil=>rw[GC,GC]
   |var n r =>
     cases k with
     |zero=>cases h
     |succ k =>
       simp only[B2] at h
       cases hh:Ap s (.var n) with
       |var q =>
         rw[hh] at h;have h3:=Ej s _ _ _ h;obtain⟨m,rfl⟩:∃m',m=m'+1:=⟨m-1,oM⟩;simp only[AN,hh];rw[(key k m .nil r (by omega) h (by omega)).2]
       |con tx ks =>
         rw[hh] at h;have h3:=Ej s _ _ _ h;obtain⟨m,rfl⟩:∃m',m=m'+1:=⟨m-1,oM⟩;simp only[AN,hh];have:=key k m ks r oM h oM;rw[this.1,this.2]
   |con tx ks r =>
     cases k with
     |zero=>cases h
     |succ k =>
       simp only[B2] at h;have h3:=Ej s _ _ _ h;obtain⟨m,rfl⟩:∃m',m=m'+1:=⟨m-1,oM⟩;simp only[AN];have:=key k m ks r oM h oM;rw[this.1,this.2]
theorem N4{s:BT}(k:Nat)(t:T1):(AN s (k+1) t.one).hd=(match Ap s t with|.var m=>.var m|.con tx ks=>.con tx (AN s k ks)):=by
 cases t with
 |var n =>
   simp only[T1.one,T1.cons,AN]
   cases Ap s (.var n) <;> rfl
 |con tx ks=>rw[Gr];rfl
variable {j k:Nat}
theorem KZ{s:BT}{t:T1}{r:Ty}{j2:Nat}(h:B2 s k t.one=some j)(h2:B2 s j r=some j2):AN s k (t.cons r)=(AN s k t.one).hd.cons (AN s j r):=by
 cases k with
 |zero=>rw[Kf] at h;cases h
 |succ k =>
   have h3:j≤k:=by rw[Jv] at h;exact Ej s _ _ _ h
   have hf:=O6 j r j2 h2 k oM;rw[N4]
   cases t with
   |var n =>
     simp only[T1.cons,AN]
     cases Ap s (.var n) with
     |var m=>simp only[T1.cons];rw[hf]
     |con tx ks=>simp only[T1.cons];rw[hf]
   |con tx ks=>rw[Gr];simp only[T1.cons,AN];rw[hf]
theorem Wh{s:BT}(hw:Is s):∀(k:Nat)(x:Ty),x.bnd→(AN s k x).bnd∧(AN s k x).len≤x.len:=by
 intro k
 induction k with
 |zero=>intro x _;cases x <;> exact⟨tQ,Nat.zero_le _⟩
 |succ k ih =>
   intro x hx
   cases x with
   |nil=>exact⟨tQ,Nat.le_refl _⟩
   |var n r =>
     have h1:=Cn hw (t:=.var n) ⟨⟨Nat.zero_le _,Nat.zero_le _⟩,tQ⟩;have h2:=ih r hx;simp only[AN]
     cases hh:Ap s (.var n) with
     |var m=>exact⟨h2.1,by simp only[Ty.len];omega⟩
     |con tx ks =>
       rw[hh] at h1;have h3:=ih ks h1.2;exact⟨⟨⟨Nat.le_trans h3.2 h1.1.1,h1.1.2⟩,h3.1,h2.1⟩,by simp only[Ty.len];omega⟩
   |con tx ks r =>
     have h2:=ih r hx.2.2;have h3:=ih ks hx.2.1;exact⟨⟨⟨Nat.le_trans h3.2 hx.1.1,hx.1.2⟩,h3.1,h2.1⟩,by simp only[AN,Ty.len];omega⟩
theorem Gf{t:T1}(h:t.bnd):t.one.bnd:=T1.bnd_cons.2 ⟨h,tQ⟩
theorem ZM{x:Ty}(h:x.bnd):x.hd.bnd:=by
 cases x with
 |nil=>exact⟨⟨Nat.zero_le _,Nat.zero_le _⟩,tQ⟩
 |var n r=>exact⟨⟨Nat.zero_le _,Nat.zero_le _⟩,tQ⟩
 |con tx k r=>exact⟨h.1,h.2.1⟩
theorem ZC{s:BT}(hw:Is s){t:T1}(h:t.bnd)(k:Nat):(AN s k t.one).hd.bnd:=ZM (Wh hw k _ (Gf h)).1
def gD(P:Program)(fid:FuncId)(T:TypeId)(k:Nat):Prop:=∀(w:World)(f:Fq)(_:Vl w f)(sb mb:Nat)(s:BT)(fr pr:Int),BB T sb mb s fr pr w f→Is s→∀(t:T1)(a:Option Addr)(c j:Nat),t.bnd→Al w f t.kids a c→B2 s k t.one=some j →
 Bo P fid #[.pointer (some ⟨sb,0,none⟩),tV t a c] w (Bx (α:=Option Addr×Nat) (λx=>tV (AN s k t.one).hd x.1 x.2) (λ_=>True) (λx=>[λw f=>Al w f (AN s k t.one).hd.kids x.1 x.2]) w f)
end Go.SP
namespace Go.SP
open Go.SW Go.RowKit
variable {f:Fq}{i:Nat}{a:Option Addr}{w:World}
theorem Al.get{t:T1}:∀{k:Ty}{b off i:Nat},Ik w f k b off→k.get i=some t→∃ka kc,Cs w f b (off+i*4) (tC t ka kc)∧Al w f t.kids ka kc
 |k,b,off,0,h,hi=>by
   obtain⟨t2,r,rfl⟩:∃t r,k=T1.cons t r:=by
     cases k with
     |nil=>cases hi
     |var n r=>exact⟨.var n,r,rfl⟩
     |con tx q r=>exact⟨.con tx q,r,rfl⟩
   have e:t2=t:=by cases t2 <;> (cases hi;rfl)
   subst e;obtain⟨b2,off2,ka,kc,h1,h2,h3,_⟩:=BI.head (a:=some ⟨b,off,none⟩) (i:=0) (.inr ⟨b,off,rfl,by simpa using h⟩)
   cases h1
   exact⟨ka,kc,by simpa using h2,h3⟩
 |k,b,off,i+1,h,hi=>by
   obtain⟨t2,r,rfl⟩:∃t r,k=T1.cons t r:=by
     cases k with
     |nil=>cases hi
     |var n r=>exact⟨.var n,r,rfl⟩
     |con tx q r=>exact⟨.con tx q,r,rfl⟩
   have e:r.get i=some t:=by cases t2 <;> exact hi
   obtain⟨b2,off2,ka,kc,h1,_,_,h4⟩:=BI.head (a:=some ⟨b,off,none⟩) (i:=0) (.inr ⟨b,off,rfl,by simpa using h⟩);rcases h4 with rfl|⟨b3,off3,h5,h6⟩
   · cases e
   · cases h5
     obtain⟨ka,kc,h7,h8⟩:=Al.get h6 e;exact⟨ka,kc,by rw[show off+(i+1)*4=off+(0+1)*4+i*4 by omega];exact h7,h8⟩
theorem Al.nth{t:T1}{k:Ty}{c:Nat}(h:Al w f k a c)(hi:k.get i=some t):∃b off ka kc,a=some ⟨b,off,none⟩∧Cs w f b (off+i*4) (tC t ka kc)∧Al w f t.kids ka kc:=by
 rcases h.2 with rfl|⟨b,off,h1,h2⟩
 · cases hi
 · obtain⟨ka,kc,h3,h4⟩:=Al.get h2 hi
   exact⟨b,off,ka,kc,h1,h3,h4⟩
theorem GW{t:T1}:∀{k:Ty}{i:Nat},k.bnd→k.get i=some t→t.bnd
 |.nil,_,_,h=>by cases h
 |.var n r,0,_,h=>by cases h;exact⟨⟨Nat.zero_le _,Nat.zero_le _⟩,tQ⟩
 |.con tx q r,0,hb,h=>by cases h;exact⟨hb.1,hb.2.1⟩
 |.var n r,i+1,hb,h=>GW (k:=r) hb h
 |.con tx q r,i+1,hb,h=>GW (k:=r) hb.2.2 h
theorem T6{k:Ty}(h:i<k.len):∃t,k.get i=some t:=by
 induction k generalizing i with
 |nil=>simp[Ty.len] at h
 |var n r ih=>cases i with
   |zero=>exact⟨_,rfl⟩
   |succ i=>exact ih (by simp only[Ty.len] at h;omega)
 |con tx q r _ ih=>cases i with
   |zero=>exact⟨_,rfl⟩
   |succ i=>exact ih (by simp only[Ty.len] at h;omega)
theorem X8{k:Ty}(h:k.len≤i):k.get i=none:=by
 induction k generalizing i with
 |nil=>rfl
 |var n r ih=>cases i with
   |zero=>simp[Ty.len] at h
   |succ i=>exact ih (by simp only[Ty.len] at h;omega)
 |con tx q r _ ih=>cases i with
   |zero=>simp[Ty.len] at h
   |succ i=>exact ih (by simp only[Ty.len] at h;omega)
theorem OS(l:List Int)(y:Ty)(t:T1)(r:Ty):Du l y (t.cons r)=(Cp t l y).cons (Du l y r):=by
 cases t with
 |var n =>
   simp only[T1.cons,Du,Cp,T1.one]
   cases (Dv l n).bind y.get with
   |none=>rfl
   |some t=>cases t <;> rfl
 |con tx k=>rfl
theorem H7{l:List Int}{y:Ty}(hy:y.bnd):∀x:Ty,x.bnd→(Du l y x).bnd∧(Du l y x).len=x.len
 |.nil,_=>⟨tQ,rfl⟩
 |.var n r,hx=>by
   have h2:=H7 (l:=l) hy r hx;simp only[Du]
   cases hg:(Dv l n).bind y.get with
   |none=>exact⟨h2.1,by simp only[Ty.len];omega⟩
   |some t =>
     obtain⟨i,_,hi⟩:=Option.bind_eq_some_iff.1 hg;exact⟨T1.bnd_cons.2 ⟨GW hy hi,h2.1⟩,by rw[T1.len_cons];simp only[Ty.len];omega⟩
 |.con tx k r,hx=>by
   have h2:=H7 (l:=l) hy r hx.2.2;have h3:=H7 (l:=l) hy k hx.2.1;exact⟨⟨⟨by rw[h3.2];exact hx.1.1,hx.1.2⟩,h3.1,h2.1⟩,by simp only[Du,Ty.len];omega⟩
theorem ID{l:List Int}{y:Ty}(hy:y.bnd){t:T1}(h:t.bnd):(Cp t l y).bnd:=ZM (H7 hy _ (Gf h)).1
theorem M1{l:List Int}{y:Ty}{n:Int}:Cp (.var n) l y=((Dv l n).bind y.get).getD (.var n):=by
 simp only[Cp,T1.one,T1.cons,Du]
 cases (Dv l n).bind y.get with
 |none=>rfl
 |some t=>cases t <;> rfl
theorem X7{l:List Int}{y:Ty}{tx:lU}{k:Ty}:Cp (.con tx k) l y=.con tx (Du l y k):=rfl
def fZ(P:Program)(fid:FuncId)(m:Nat):Prop:=∀(w:World)(f:Fq)(_:Vl w f)(l:List Int)(la:Option Addr)(lc:Nat)(y:Ty)(ya:Option Addr)(yc:Nat),l.length≤1000000→y.len≤200000→y.bnd→BG w f l la lc→Al w f y ya yc→∀(t:T1)(a:Option Addr)(c:Nat),t.kids.size<m→t.bnd→Al w f t.kids a c →
 Bo P fid #[tV t a c,.slice la l.length lc,.slice ya y.len yc] w (Bx (α:=Option Addr×Nat) (λx=>tV (Cp t l y) x.1 x.2) (λ_=>True) (λx=>[λw f=>Al w f (Cp t l y).kids x.1 x.2]) w f)
end Go.SP
namespace Go.SW
open Go.RowKit
section
variable{X:Cx}{w w':World}{f f':Fq}{H:List HB}{R:List RB}{B:List FB}{Fs:List (World→Fq→Prop)}
variable {I':World→Fq→Prop}
theorem AO.callJ{MI':Nat→Prop}(h:AO X w f H R B Fs)(he:C2 X.MI w f w' f')(hI:I' w' f')(hst:EU MI' I')(hmi:∀b,MI' b→X.MI b∨(w.heap.size≤b∧b<w'.heap.size∧f' b=0)):AO {X with MI:=MI',I:=I' } w' f' H R B Fs :=
 have h1:AO {X with I:=λ_ _=>True} w' f' H R B Fs:=h.callI he tQ (λ_ _ _ _ _ _ _=>trivial)
 {h1 with
   res:=hI,stab:=hst,
   mi:=λb hb=>by
     rcases hmi b hb with hb|⟨h2,h3,h4⟩
     · exact h1.mi b hb
     · exact⟨h3,h4,.inl (Nat.le_trans h.stp.size h2)⟩,
   own:=λb hb=>⟨(h1.own b hb).1,(h1.own b hb).2.1,λhm=>by
     rcases hmi b hm with hm|⟨h2,_,_⟩
     · exact (h1.own b hb).2.2 hm
     · exact Nat.lt_irrefl _ (Nat.lt_of_lt_of_le (h.lt hb) h2)⟩}
end
def JV{α:Type}(val:α→Value)(q:α→Prop)(M:Nat→Prop)(MI':α→Nat→Prop)(I':α→World→Fq→Prop)(F':α→List (World→Fq→Prop))(w:World)(f:Fq)(v:Value)(w':World):Prop:=∃x f',v=val x∧q x∧C2 M w f w' f'∧(∀b,MI' x b→M b∨(w.heap.size≤b∧b<w'.heap.size∧f' b=0))∧I' x w' f'∧AE (F' x) w' f'
section
variable{P:Program}{n:Nat}{Q:AT}{ds:List Deferred}{X:Cx}{R:List RB}{B:List FB}{Fs:List (World→Fq→Prop)}{fs:List Fr}{σ:Ba}{H:List HB}
variable{all r:List Oper}{ty T:TypeId}{pos:String}{af:Array Edge}{g:Option (Nat×Bool)}{d:Nat}{x y:Operand}
variable {args:Array Value}{nw:Bool}{fid:FuncId}{XX:List PanicEntry→World→Prop}{xs zl:List Value}{bytes cs k:Nat}{Ts e:TypeId}
theorem S5{op:Op}{α:Type}{val:α→Value}{q:α→Prop}{MI':α→Nat→Prop}{I':α→World→Fq→Prop}{F':α→List (World→Fq→Prop)}
   (hg:gd all σ g=some true) (hd:Nat.blt d n=true) (he:∀w,Enters P σ op ty w fid args)
   (hc:∀w f,AO X w f H R B Fs→BD P fid args w (JV val q X.MI MI' I' F' w f) XX) (hst:∀x,EU (MI' x) (I' x)) (hm:∀x,Aw (F' x))
   (hp:∀w f c w',AO X w f H R B Fs→XX c w'→Q.p c σ ds w')
   (h:∀x,q x→A3 P n Q ds {X with MI:=MI' x,I:=I' x} R B (F' x++Fs) (.ops all r) fs (AA σ d (val x)) H):A3 P n Q ds X R B Fs (.ops all (⟨some d,op,ty,pos,af,g⟩::r)) fs σ H:=λw f hM=>by
 refine Bp hg (BX hd (he w) (hc w f hM) ?_ ?_)
 · rintro v w' ⟨x,f',rfl,hq,hE,hmi,hI,hF⟩
   exact h x hq w' f' ((hM.callJ hE hI (hst x) hmi).more (B':=[]) (λ_ h=>by cases h) hF.mem (hm x).mem)
 · intro c w' hX
   rw[Lx];exact hp w f c w' hM hX
theorem MA{size:Nat}{a:Option Addr}{c src:Nat}{news:List Value}{MI':Option Addr→Nat→Prop}{I':Option Addr→Nat→World→Fq→Prop}(j:Nat)(hg:gd all σ g=some true)(hd:Nat.blt d n=true)(hT:Lb P T=some (e,size,bytes,zl))(hzl:Nat.beq zl.length size=true)(hsz:Nat.blt 0 size=true)
   (hs:ev σ x=some (.slice a k c)) (hx:ev σ y=some (.slice (some ⟨src,0,none⟩) 1 cs)) (hH:Hd H j=some ⟨src,news,Ts,nw⟩) (hl:Nat.beq news.length size=true) (h1:L9 news=true) (h47:(k+1)*bytes≤140737488355328) (h63:k+1≤9223372036854775807)
   (hrow:∀w f,X.I w f→BQ w e size a c k xs) (hmi:∀b,rb a=some b→X.MI b) (hMI:∀a' b,MI' a' b→X.MI b∨rb a'=some b) (hI:∀w f w' a' c',X.I w f→AO X w f H R B Fs→BQ w' e size a' c' (k+1) (xs++news)→En a w a' w'→I' a' c' w' f) (hst:∀a' c',EU (MI' a') (I' a' c'))
   (h:∀a' c',A3 P n Q ds {X with MI:=MI' a',I:=I' a' c' } R B Fs (.ops all r) fs (AA σ d (.slice a' (k+1) c')) H) :
   A3 P n Q ds X R B Fs (.ops all (⟨some d,.call {callee:=.builtin .append,args:=#[x,y],argTypes:=#[T,T]},ty,pos,af,g⟩::r)) fs σ H:=λw f hM =>
 Bp hg (AY hd hT hzl hsz hs hx (hrow w f hM.res) (hM.blk _ (BH hH)) hl h1 h47 h63 λa' c' w' hr hG=>h a' c' w' f (hM.callJ ⟨⟨hG.os,hG.tape,hG.output,hG.size,λb hb hm=>hG.block b hb λe=>hm (hmi b e.symm)⟩,λ_ _=>rfl,λb hb=>hM.val b (Nat.le_trans hG.size hb)⟩ (hI w f w' a' c' hM.res hM hr hG) (hst a' c') λb hb=>by
   rcases hMI a' b hb with hb|hb
   · exact .inl hb
   · rcases hG.own with ho|ho
     · exact .inl (hmi b (ho.symm.trans hb))
     · have e:b=w.heap.size:=Option.some.inj (hb.symm.trans ho)
       subst e;exact .inr ⟨Nat.le_refl _,hr.lt hb,hM.val _ (Nat.le_refl _)⟩))
end
variable {b:Nat}{M:Nat→Prop}
theorem C2.done{w w':World}{f f':Fq}(h:C2 M w f w' f')(hb:w.heap.size≤b)(hl:b<w'.heap.size)(n:Nat):C2 M w f w' (λk=>if k=b then n else f' k) :=
 ⟨h.stp,λk hk=>by show (if k=b then n else f' k)=f k;rw[if_neg (by omega)];exact h.old k hk,λk hk=>by show (if k=b then n else f' k)=0;rw[if_neg (by omega)];exact h.val k hk⟩
end Go.SW
namespace Go.SP
open Go.SW Go.RowKit
def GX(l:List Int):List (Int×Value):=l.reverse.map λn=>(n,.bool true)
theorem Qh(n:Int):∀l:List Int,Em (l.map λn=>(n,Value.bool true)) n=if l.contains n then some (.bool true) else none
 | []=>rfl
 |k::l=>by
   have:=Qh n l;simp only[List.map,Em,List.contains_cons]
   by_cases hk:n=k
   · subst hk;simp
   · have e:(n==k)=false:=by simpa using hk
     rw[e,this];simp
theorem Tv(n:Int)(l:List Int):Em (GX l) n=if l.contains n then some (.bool true) else none:=by
 unfold GX;rw[Qh];simp
theorem Sj:∀l:List Int,l.Nodup→Ir (l.map λn=>(n,Value.bool true))
 | [],_=>trivial
 |k::l,h=>by
   have h':=List.nodup_cons.1 h;refine⟨?_,Sj l h'.2⟩;rw[Qh,if_neg];simpa using h'.1
theorem Kl{l:List Int}(h:l.Nodup):Ir (GX l):=Sj _ ((List.reverse_perm l).nodup_iff.2 h)
def LQ(ob mb:Nat)(a:Option Addr)(b:Nat):Prop:=b=ob∨b=mb∨rb a=some b
structure DF(T:TypeId)(ob mb:Nat)(sl:Value)(lm:List Int)(a:Option Addr)(c:Nat)(l:List Int)(w:World)(f:Fq):Prop where
 blk:AI w ob [sl] T
 map:BF EB w mb (GX lm)
 row:BQ w 3 1 a c l.length (l.map λn=>.int .i64 n)
 ne:ob≠mb∧rb a≠some ob∧rb a≠some mb
 nd:lm.Nodup
theorem DF.stab{T:TypeId}{ob mb:Nat}{sl:Value}{lm:List Int}{a:Option Addr}{c:Nat}{l:List Int}:EU (LQ ob mb a) (DF T ob mb sl lm a c l):=λ_ _ _ _ h hF hb =>
 ⟨(hb ob (.inl rfl)).trans h.blk,h.map.heap (hb mb (.inr (.inl rfl))),⟨h.row.1,h.row.2.imp id λ⟨b,q,h1,h2,h3⟩=>⟨b,q,h1,(hb b (.inr (.inr (by rw[h1];rfl)))).trans h2,h3⟩⟩,h.ne,h.nd⟩
abbrev PJ(T:TypeId)(ob mb:Nat)(a:Option Addr)(c:Nat)(l:List Int):World→Fq→Prop:=DF T ob mb (.slice a l.length c) l a c l
variable {b:Nat}{M:Nat→Prop}{w0:World}
theorem DF.lt{T:TypeId}{ob mb:Nat}{sl:Value}{lm:List Int}{a:Option Addr}{c:Nat}{l:List Int}{w:World}{f:Fq}(h:DF T ob mb sl lm a c l w f)(hb:LQ ob mb a b):b<w.heap.size:=by
 rcases hb with rfl|rfl|hb
 · exact h.blk.lt
 · exact h.map.lt
 · exact h.row.lt hb
theorem Wd(t:T1)(r:Ty)(l:List Int):C7 (t.cons r) l=C7 r (C7 t.one l):=by cases t <;> rfl
theorem IZ:∀(x:Ty)(l:List Int),(C7 x l).length≤x.size+l.length
 |.nil,l=>by simp[C7]
 |.var n r,l=>by
   have:=IZ r (if l.contains n then l else l++[n]);simp only[C7,Ty.size]
   split at this <;> simp_all <;> omega
 |.con tx k r,l=>by
   have h1:=IZ k l;have h2:=IZ r (C7 k l);simp only[C7,Ty.size];omega
def gO(P:Program)(fid:FuncId)(T:TypeId)(m:Nat):Prop:=∀(w:World)(f:Fq)(_:Vl w f)(ob mb:Nat)(a:Option Addr)(c:Nat)(l:List Int),PJ T ob mb a c l w f→(∀b,LQ ob mb a b→f b=0)→∀(t:T1)(ta:Option Addr)(tc:Nat),t.kids.size<m→t.kids.size+1+l.length≤1000000→t.bnd→Al w f t.kids ta tc →
 Bo P fid #[tV t ta tc,.map (some mb),.pointer (some ⟨ob,0,none⟩)] w (JV (α:=Option Addr×Nat) (λ_=>.tuple #[]) (λ_=>True) (LQ ob mb a) (λx=>LQ ob mb x.1) (λx=>PJ T ob mb x.1 x.2 (C7 t.one l)) (λ_=>[]) w f)
theorem DF.int{T:TypeId}{ob mb:Nat}{sl:Value}{lm:List Int}{a:Option Addr}{c:Nat}{l:List Int}{w:World}{f0 f:Fq}(h:DF T ob mb sl lm a c l w f)(hE:C2 M w0 f0 w f)(hn:∀b,rb a=some b→w0.heap.size≤b):∃f',C2 M w0 f0 w f'∧BG w f' l a c:=by
 obtain⟨hl,⟨ha,hc,hz⟩|⟨b,q,ha,hb,hmc,_,hq,ht⟩⟩:=h.row
 · exact⟨f,hE,oM,.inl (by cases l with|nil=>rfl|cons _ _=>simp at hz)⟩
 · refine⟨λk=>if k=b then l.length else f k,hE.done (hn b (by rw[ha];rfl)) hb.lt _,hmc,.inr ⟨b,0,ha,λj v hj=>?_⟩⟩
   have hj2:j<l.length:=by have:=(List.getElem?_eq_some_iff.1 hj).1;simpa using this
   refine⟨?_,?_⟩
   · show 0+j<(if b=b then l.length else f b)
     rw[if_pos rfl];omega
   · rw[Nat.zero_add,hb.cell]
     rw[← ht,List.getElem?_take] at hj
     split at hj
     · exact hj
     · cases hj
end Go.SP
namespace Go.SP
open Go.SW Go.RowKit
theorem Vm(n:Int)(l:List Int):(Em (GX l) n).getD (.bool false)=.bool (l.contains n):=by
 rw[Tv];cases l.contains n <;> rfl
theorem UR{n:Int}{l:List Int}(h:l.contains n=false):Em (GX l) n=none:=by rw[Tv,h];rfl
theorem O1(n:Int)(l:List Int):GX (l++[n])=(n,.bool true)::GX l:=by simp[GX]
section
variable{T:TypeId}{ob mb:Nat}{sl sl':Value}{lm l:List Int}{a a':Option Addr}{c c':Nat}{w w':World}{f f':Fq}{n:Int}
theorem DF.app(h:DF T ob mb sl lm a c l w f)(hr:BQ w' 3 1 a' c' (l.length+1) (l.map (λn=>Value.int .i64 n)++[.int .i64 n]))(hG:En a w a' w'):DF T ob mb sl lm a' c' (l++[n]) w' f' where
 blk:=h.blk.grow hG (λe=>h.ne.2.1 e.symm)
 map:=h.map.heap (hG.block mb h.map.lt (λe=>h.ne.2.2 e.symm))
 row:=by simpa using hr
 ne:=⟨h.ne.1,λe=>hG.own.elim (λo=>h.ne.2.1 (o.symm.trans e)) (λo=>absurd h.blk.lt (by rw[← Option.some.inj (o.symm.trans e)];exact Nat.lt_irrefl _)),λe=>hG.own.elim (λo=>h.ne.2.2 (o.symm.trans e)) (λo=>absurd h.map.lt (by rw[← Option.some.inj (o.symm.trans e)];exact Nat.lt_irrefl _))⟩
 nd:=h.nd
variable {xs:List Value}{b:Nat}{e:TypeId}
theorem BQ.chgB{size:Nat}{a:Option Addr}{c n:Nat}(h:BQ w e size a c n xs)(hC:FX b w w')(hne:rb a≠some b):BQ w' e size a c n xs :=
 ⟨h.1,h.2.imp id λ⟨g,q,h1,h2,h3⟩=>⟨g,q,h1,(hC.block g (λe=>hne (by rw[h1,← e];rfl))).trans h2,h3⟩⟩
theorem DF.mapped{q:List Int}(h:DF T ob mb sl l a c q w f)(hC:FX mb w w')(hm:BF EB w' mb ((n,.bool true)::GX l))(hn:l.contains n=false):DF T ob mb sl (l++[n]) a c q w' f' where
 blk:=(hC.block ob h.ne.1).trans h.blk
 map:=by rw[O1];exact hm
 row:=BQ.chgB h.row hC h.ne.2.2
 ne:=h.ne
 nd:=by
   have h9:n∉l:=by simpa using hn
   exact List.nodup_append.2 ⟨h.nd,List.nodup_cons.2 ⟨by simp,List.nodup_nil⟩,λx hx y hy e=>by simp at hy;subst hy;subst e;exact h9 hx⟩
theorem DF.store(h:DF T ob mb sl lm a c l w f)(hC:FX ob w w')(hb:AI w' ob [sl'] T):DF T ob mb sl' lm a c l w' f' where
 blk:=hb
 map:=h.map.heap (hC.block mb (λe=>h.ne.1 e.symm))
 row:=BQ.chgB h.row hC h.ne.2.1
 ne:=h.ne
 nd:=h.nd
end
variable {b:Nat}
theorem LQ.or{ob mb:Nat}{a a':Option Addr}(h:LQ ob mb a' b):LQ ob mb a b∨rb a'=some b:=h.elim (λh=>.inl (.inl h)) λh=>h.elim (λh=>.inl (.inr (.inl h))) .inr
theorem Mg(n:Int)(l:List Int):C7 (T1.var n).one l=if l.contains n then l else l++[n]:=rfl
theorem Xl(tx:lU)(k:Ty)(l:List Int):C7 (T1.con tx k).one l=C7 k l:=rfl
end Go.SP
namespace Go.SW
open Go.RowKit
section
variable{P:Program}{σ:Ba}{w:World}{ty T T':TypeId}{x y:Operand}
variable {t t':TypeId}
theorem aQ{k:IntKind}{a b:Int}(m:Int)(hx:ev σ x=some (.int k a))(hy:ev σ y=some (.int k b))(hb:b≠0)(h:k.wrap (a.tdiv b)=m):AG P σ (.binOp .quo t x y t') ty w (.int k m) w :=
 λρ _ _ _ _ hρ=>by simp[execOp,hρ _ _ hx,hρ _ _ hy,eqGuard,binOp,Op.intDiv,hb,h]
theorem dA{k:IntKind}{a b:Int}(m:Int)(hx:ev σ x=some (.int k a))(hy:ev σ y=some (.int k b))(hb:b≠0)(h:a.tmod b=m):AG P σ (.binOp .rem t x y t') ty w (.int k m) w :=
 λρ _ _ _ _ hρ=>by simp[execOp,hρ _ _ hx,hρ _ _ hy,eqGuard,binOp,Op.intDiv,hb,h]
theorem Yb{k:IntKind}{n:Int}{l:lU}(hx:ev σ x=some (.int k n))(hc:jK P T T'=true)(h:Utf8.encode n=⟨l.toArray⟩):AG P σ (.convert T T' x) ty w (S l) w:=by
 unfold jK at hc
 cases hs:P.underlying T with
 |none=>rw[hs] at hc;cases hc
 |some s =>
   cases hd:P.underlying T' with
   |none=>rw[hs,hd] at hc;cases hc
   |some d =>
     rw[hs,hd] at hc
     cases d <;> simp at hc
     exact λρ _ _ _ _ hρ=>by
       simp[execOp,hρ _ _ hx,convert,run_underlying hs,run_underlying hd,Conv.intToString,h,S]
end
variable {Q:AT}{X:Cx}{f:Fq}{Fs:List (World→Fq→Prop)}{ds:List Deferred}{B:List FB}{fs:List Fr}{H H':List HB}{l:List Value}{b i n:Nat}{w':World}
theorem AO.toRow{w:World}{R:List RB}{T:TypeId}(h:AO X w f H R B Fs)(hg:Hd H i=some ⟨b,l,T,true⟩)(hs:Ke H i=some H')(size c:Nat)(hl:l.length=c*size)(hc:c≤maxLen):AO X w f H' (⟨T,size,some ⟨b,0,none⟩,c,c,l⟩::R) B Fs:=by
 have hblk:AI w b l T:=h.blk _ (BH hg);have hmem:b∈C8 H R:=List.mem_append.2 (.inl (List.mem_map.2 ⟨_,BH hg,rfl⟩));have hown:=h.own b hmem;have hsub:=K8 hs;have hnd:(H.map HB.b++IE R).Nodup:=h.nd;have hbR:b∉C8 H' R:=Kq (L:=IE R) hg hs hnd;have hso:(C8 H' R).Sublist (C8 H R):=List.Sublist.append (hsub.map _) (List.Sublist.refl _)
 have hp:∀k,k∈C8 H' (⟨T,size,some ⟨b,0,none⟩,c,c,l⟩::R)→k=b∨k∈C8 H' R:=λk hk=>by
   have hk':k∈H'.map HB.b++b::R.filterMap (λr=>rb r.a):=hk;rcases List.mem_append.1 hk' with hk' | hk'
   · exact .inr (List.mem_append.2 (.inl hk'))
   · rcases List.mem_cons.1 hk' with rfl|hk'
     · exact .inl rfl
     · exact .inr (List.mem_append.2 (.inr hk'))
 exact {h with
         blk:=λe he=>h.blk e (hsub.subset he),
         row:=λr hr=>by
           rcases List.mem_cons.1 hr with rfl|hr
           · exact⟨hl,.inr ⟨b,l,rfl,hblk,Nat.le_refl _,hc,hl,by rw[← hl];exact List.take_length⟩⟩
           · exact h.row r hr,
         nd:=by
           show (H'.map HB.b++b::R.filterMap (λr=>rb r.a)).Nodup;exact List.perm_middle.nodup_iff.2 (List.nodup_cons.2 ⟨hbR,hso.nodup h.nd⟩),
         own:=λk hk=>by
           rcases hp k hk with rfl|hk
           · exact hown
           · exact h.own k (hso.subset hk),
         hnw:=λe he=>h.hnw e (hsub.subset he),
         rnw:=λr hr k hk=>by
           rcases List.mem_cons.1 hr with rfl|hr
           · cases hk;exact h.hnw _ (BH hg) rfl
           · exact h.rnw r hr k hk}
theorem mS{P:Program}{R:List RB}{σ:Ba}{k:Kc}{T:TypeId}(i size c:Nat)(hg:Hd H i=some ⟨b,l,T,true⟩)(hs:Ke H i=some H')(hl:Nat.beq l.length (c*size)=true)(hc:c≤maxLen)
   (h:A3 P n Q ds X (⟨T,size,some ⟨b,0,none⟩,c,c,l⟩::R) B Fs k fs σ H'):A3 P n Q ds X R B Fs k fs σ H:=λw f hM=>h w f (hM.toRow hg hs size c (Nat.eq_of_beq_eq_true hl) hc)
theorem Below.exm{w:World}(h:Below w.heap.size w w')(hv:∀b,w.heap.size≤b→f b=0)(M:Nat→Prop):C2 M w f w' f:=⟨⟨h.os,h.tape,h.output,h.size,λk hk _=>h.block k hk⟩,λ_ _=>rfl,λb hb=>hv b (Nat.le_trans h.size hb)⟩
end Go.SW
namespace Go.SP
open Go.SW Go.RowKit
def NP(vs:List Int)(t:T1):lU:=(Dr vs t.one).drop 1
theorem KR(vs:List Int)(t:T1)(r:Ty):Dr vs (t.cons r)=32::(NP vs t++Dr vs r):=by
 cases t with
 |var n=>simp[NP,T1.one,T1.cons,Dr]
 |con tx k=>cases k <;> simp[NP,T1.one,T1.cons,Dr]
theorem XG(vs:List Int)(n:Int):NP vs (.var n)=(match Dv vs n with|some i=>D1 i|none=>[]):=by
 simp[NP,T1.one,T1.cons,Dr] <;> cases Dv vs n <;> rfl
theorem Vf(vs:List Int)(tx:lU):NP vs (.con tx .nil)=tx:=by simp[NP,T1.one,T1.cons,Dr]
theorem Zb(vs:List Int)(tx:lU)(k:Ty)(h:k.len≠0):NP vs (.con tx k)=[40]++(tx++Dr vs k)++[41]:=by
 cases k with
 |nil=>exact absurd rfl h
 |var n r=>simp[NP,T1.one,T1.cons,Dr]
 |con tx k r=>simp[NP,T1.one,T1.cons,Dr]
theorem MS(s:lU)(l:List lU)(x:lU):Lib.joinTail s (l++[x])=Lib.joinTail s l++(s++x):=by simp[Lib.joinTail]
theorem MV:∀k n,(SR k n).length≤k
 |0,_=>Nat.le_refl _
 |k+1,n=>by
   unfold SR
   split
   · simp
   · have:=MV k (n / 10);simp;omega
theorem Ur(i:Nat):(D1 i).length≤22:=by
 unfold D1
 split
 · simp
 · have:=MV 20 (i / 26);simp;omega
theorem Kg(vs:List Int):∀x:Ty,x.bnd→(Dr vs x).length≤x.size*1000100
 |.nil,_=>by simp[Dr]
 |.var n r,h=>by
   have h2:=Kg vs r h;rw[show Ty.var n r=(T1.var n).cons r from rfl,KR,T1.size_cons,XG]
   have h3:(match Dv vs n with|some i=>D1 i|none=>[]).length≤22:=by
     cases Dv vs n with
     |none=>simp
     |some i=>exact Ur i
   simp only[List.length_cons,List.length_append,T1.kids,Ty.size] at h3 ⊢;omega
 |.con tx k r,h=>by
   have h2:=Kg vs r h.2.2;have h3:=Kg vs k h.2.1;have h4:=h.1.2;rw[show Ty.con tx k r=(T1.con tx k).cons r from rfl,KR,T1.size_cons]
   have h5:(NP vs (.con tx k)).length≤tx.length+k.size*1000100+2:=by
     by_cases hk:k.len=0
     · obtain rfl:=Ty.len0 hk
       rw[Vf];exact Nat.le_trans (Nat.le_add_right _ _) (Nat.le_add_right _ _)
     · rw[Zb vs tx k hk];simp;omega
   simp only[List.length_cons,List.length_append,T1.kids] at h5 ⊢;omega
theorem Uv(i:Nat):Utf8.encode (97+((i % 26:Nat):Int))=⟨[UInt8.ofNat (97+i % 26)].toArray⟩:=by
 have h:∀j,j<26→Utf8.encode (97+((j:Nat):Int))=⟨[UInt8.ofNat (97+j)].toArray⟩:=dC;exact h _ (Nat.mod_lt _ oM)
theorem Pg:∀(k n:Nat),n<10 ^ (k+1)→SR (k+1) n=Lib.decDigits n
 |0,n,h=>by
   have:n<10:=by simpa using h
   rw[Lib.decDigits,SR,if_pos this,dif_pos this]
 |k+1,n,h=>by
   rw[Lib.decDigits,SR]
   by_cases h1:n<10
   · rw[if_pos h1,dif_pos h1]
   · rw[if_neg h1,dif_neg h1,Pg k (n / 10) (by rw[Nat.pow_succ] at h;omega)]
def KS(vs:List Int)(es:List (Int×Value)):Prop:=Ir es∧∀n,Em es n=(Dv vs n).map λi=>S (D1 i)
variable {es:List (Int×Value)}
theorem KS.get{vs:List Int}(h:KS vs es)(n:Int):(Em es n).getD (S [])=S (NP vs (.var n)):=by
 rw[h.2,XG]
 cases Dv vs n <;> rfl
def gH(P:Program)(fid:FuncId)(m:Nat):Prop:=∀(w:World)(f:Fq)(_:Vl w f)(mb:Nat)(vs:List Int)(es:List (Int×Value)),BF EB w mb es→KS vs es→∀(t:T1)(a:Option Addr)(c:Nat),t.kids.size<m→t.kids.size≤1000000→t.bnd→Al w f t.kids a c →
 Bo P fid #[tV t a c,.map (some mb)] w (Bx (α:=Unit) (λ_=>S (NP vs t)) (λ_=>True) (λ_=>[]) w f)
end Go.SP
namespace Go.SP
open Go.SW Go.RowKit
theorem Q2(x n:Int):∀l:List Int,Dv (l++[n]) x=(match Dv l x with|some j=>some j|none=>if n==x then some l.length else none)
 | []=>by simp[Dv]
 |k::l=>by
   have ih:=Q2 x n l;simp only[List.cons_append,Dv]
   by_cases hk:(k==x)=true
   · rw[if_pos hk,if_pos hk]
   · rw[if_neg hk,if_neg hk,ih]
     cases Dv l x with
     |some j=>rfl
     |none=>by_cases hn:(n==x)=true <;> simp[hn]
theorem KS.nil:KS [] []:=⟨tQ,λ_=>rfl⟩
variable {f:Fq}{es:List (Int×Value)}{l:List Value}{b i m mb sb:Nat}
theorem KS.snoc{l:List Int}(h:KS l es){n:Int}(hn:l.contains n=false):Em es n=none∧KS (l++[n]) ((n,S (D1 l.length))::es):=by
 have h0:Em es n=none:=by rw[h.2,N5 hn];rfl
 refine⟨h0,⟨h0,h.1⟩,λx=>?_⟩;rw[Q2];simp only[Em]
 by_cases hx:x=n
 · subst hx;rw[N5 hn];simp
 · have e1:(x==n)=false:=by simpa using hx
   have e2:(n==x)=false:=by simpa using λe:n=x=>hx e.symm
   rw[e1,e2,h.2]
   cases Dv l x <;> simp
theorem HF:∀(x:Ty)(l:List Int),l.Nodup→(C7 x l).Nodup
 |.nil,_,h=>h
 |.var n r,l,h=>by
   simp only[C7];apply HF r
   split
   · exact h
   · rename_i hn
     have h9:n∉l:=by simpa using hn
     exact List.nodup_append.2 ⟨h,List.nodup_cons.2 ⟨by simp,List.nodup_nil⟩,λx hx y hy e=>by simp at hy;subst hy;subst e;exact h9 hx⟩
 |.con tx k r,l,h=>HF r _ (HF k l h)
theorem Tj{l:List Int}(h:l.Nodup){n:Int}(hi:l[i]?=some n):(l.take i).contains n=false:=by
 have hlt:=(List.getElem?_eq_some_iff.1 hi).1;have e:l=l.take i++l.drop i:=(List.take_append_drop i l).symm
 have hd:n∈l.drop i:=by
   rw[List.drop_eq_getElem_cons hlt,(List.getElem?_eq_some_iff.1 hi).2];exact .head _
 rw[e] at h;have:=(List.nodup_append.1 h).2.2;have hn:n∉l.take i:=λhm=>this n hm n hd rfl;simpa using hn
theorem Gw(t:T1):(Aq t).length≤t.kids.size+1:=by
 have:=IZ t.one [];have e:t.one.size=t.kids.size+0+1:=T1.size_cons t .nil;rw[e] at this;simpa[Aq] using this
theorem BB.new{T:TypeId}{w:World}(h1:AI w sb [.map (some mb),.int .i64 0,.int .i64 0] T)(h2:BF EB w mb []):BB T sb mb [] 0 0 w f:=⟨h1,[],h2,rfl⟩
theorem mJ{w:World}{T:TypeId}(h:AI w b l T)(hm:BF EB w m es):b≠m:=λe=>by
 subst e;obtain⟨es,c,h3,_⟩:=hm;have h4:=h.symm.trans h3
 cases h4
structure Ad where
 cb:Nat
 sb:Nat
 mb:Nat
 km:Nat
 dm:Nat
 rm:Nat
def Bz(A:Ad)(b:Nat):Prop:=b=A.cb∨b=A.sb∨b=A.mb∨b=A.km∨b=A.dm∨b=A.rm
structure Ad.ok(A:Ad):Prop where
 cs:A.cb≠A.sb
 cm:A.cb≠A.mb∧A.cb≠A.km∧A.cb≠A.dm∧A.cb≠A.rm
 sm:A.sb≠A.mb∧A.sb≠A.km∧A.sb≠A.dm∧A.sb≠A.rm
 mm:A.mb≠A.km∧A.mb≠A.dm∧A.mb≠A.rm∧A.km≠A.dm∧A.km≠A.rm∧A.dm≠A.rm
def aA(m:Mk)(aa:Option Addr)(ac:Nat)(oa:Option Addr)(oc:Nat)(va:Option Addr)(vc:Nat):List Value:=.slice aa m.args.len ac::(tC m.out oa oc++[.slice va m.vars.length vc])
def BU(w:World)(f:Fq):List (lU×Mk)→List (lU×Value)→Prop
 | [],es=>es=[]
 |(k,m)::l,es=>∃aa ac oa oc va vc es',es=(k,.agg (aA m aa ac oa oc va vc).toArray)::es'∧Al w f m.args aa ac∧Al w f m.out.kids oa oc∧BG w f m.vars va vc∧BU w f l es'
variable {A:Ad}{s:CS}{f f':Fq}{b:Nat}{a:Option Addr}{TS:TypeId}{w w':World}
theorem BU.mono(hF:Hm w f w' f'):∀(l:List (lU×Mk))(es:List (lU×Value)),BU w f l es→BU w' f' l es
 | [],_,h=>h
 |(_,_)::l,_,⟨aa,ac,oa,oc,va,vc,es',h1,h2,h3,h4,h5⟩=>⟨aa,ac,oa,oc,va,vc,es',h1,Al.mono _ _ _ _ h2 hF,Al.mono _ _ _ _ h3 hF,BG.mono _ _ _ _ h4 hF,BU.mono hF l es' h5⟩
theorem BU.look{n:lU}:∀{l:List (lU×Mk)}{es:List (lU×Value)},BU w f l es→(AS l n=none→Em es n=none)∧∀m,AS l n=some m→∃aa ac oa oc va vc,Em es n=some (.agg (aA m aa ac oa oc va vc).toArray)∧Al w f m.args aa ac∧Al w f m.out.kids oa oc∧BG w f m.vars va vc
 | [],es,h=>by
   have h:es=[]:=h;subst h;exact⟨λ_=>rfl,λt h=>by cases h⟩
 |(k,m)::l,es,⟨aa,ac,oa,oc,va,vc,es',h1,h2,h3,h4,h5⟩=>by
   subst h1;have ih:=BU.look (n:=n) h5;simp only[AS,Em]
   by_cases hk:k=n
   · subst hk
     refine⟨λh=>by simp at h,λt' h=>?_⟩;simp at h;subst h;exact⟨aa,ac,oa,oc,va,vc,by simp,h2,h3,h4⟩
   · have e1:(k==n)=false:=by simpa using hk
     have e2:(n==k)=false:=by simpa using λe:n=k=>hk e.symm
     rw[e1,e2];simpa using ih
structure As(T TS:TypeId)(A:Ad)(s:CS)(w:World)(f:Fq):Prop where
 blk:AI w A.cb [.pointer (some ⟨A.sb,0,none⟩),.map (some A.km),.map (some A.dm),.map (some A.rm),.int .i64 s.vars] T
 sol:∃pr,BB TS A.sb A.mb s.sol s.fresh pr w f
 cons:∃es,BF BN w A.km es∧BU w f s.cons es
 datas:BF BN w A.dm (s.datas.map λp=>(p.1,.int .i64 p.2))
 roots:BF BN w A.rm (s.roots.map λk=>(k,.bool true))
theorem As.stab{T:TypeId}:EU (Bz A) (As T TS A s):=λw f w' f' h hF hb =>
 ⟨(
   hb _ (.inl rfl)).trans h.blk,let ⟨pr,hs⟩:=h.sol;⟨pr,BB.stab (MI:=LC A.sb A.mb) (.inl rfl) (.inr rfl) _ _ _ _ hs hF λb hm=>hb b (hm.elim (λe=>.inr (.inl e)) λe=>.inr (.inr (.inl e)))⟩,
   let ⟨es,h1,h2⟩:=h.cons;⟨es,h1.heap (hb _ (.inr (.inr (.inr (.inl rfl))))),BU.mono hF _ _ h2⟩,h.datas.heap (hb _ (.inr (.inr (.inr (.inr (.inl rfl)))))),h.roots.heap (hb _ (.inr (.inr (.inr (.inr (.inr rfl))))))⟩
theorem As.lt{T:TypeId}(h:As T TS A s w f)(hb:Bz A b):b<w.heap.size:=by
 rcases hb with rfl|rfl|rfl|rfl|rfl|rfl
 · exact h.blk.lt
 · obtain⟨_,hs⟩:=h.sol;exact hs.1.lt
 · obtain⟨_,_,_,hm,_⟩:=h.sol;exact hm.lt
 · obtain⟨_,hm,_⟩:=h.cons;exact hm.lt
 · exact h.datas.lt
 · exact h.roots.lt
structure Dy(s:CS):Prop where
 sol:Is s.sol
 cons:∀k m,AS s.cons k=some m→m.args.len≤200000∧m.args.bnd∧m.out.bnd∧m.vars.length≤200000
 dc:Ir (s.cons.map λp=>(p.1,Value.bool true))
 dd:Ir (s.datas.map λp=>(p.1,Value.int .i64 p.2))
 dr:Ir (s.roots.map λk=>(k,Value.bool true))
 fr:0≤s.fresh
def AF(w:World)(f:Fq):Bb→Option Addr→Prop
 | [],a=>a=none
 |b::e,a=>∃k ta tc va vc ra,a=some ⟨k,0,none⟩∧Cs w f k 0 (S b.name::(tC b.t ta tc++[.slice va b.all.length vc,.pointer ra]))∧Al w f b.t.kids ta tc∧BG w f b.all va vc∧AF w f e ra
theorem AF.mono'(hF:Hm w f w' f'):∀(e:Bb)(a:Option Addr),AF w f e a→AF w' f' e a
 | [],_,h=>h
 |_::e,_,⟨k,ta,tc,va,vc,ra,h1,h2,h3,h4,h5⟩=>⟨k,ta,tc,va,vc,ra,h1,h2.mono hF,Al.mono _ _ _ _ h3 hF,BG.mono _ _ _ _ h4 hF,AF.mono' hF e ra h5⟩
theorem AF.mono{e:Bb}:EY (λw f=>AF w f e a):=λ_ _ _ _ h hF=>AF.mono' hF e a h
def F9(e:Bb):Prop:=∀b,b∈e→b.t.bnd∧b.all.length≤1000000
def trI(T:TypeId)(e:Er):List PanicEntry:=[{v:=.iface T (.agg #[.int .i64 e.1,.int .i64 e.2.1,.int .i64 e.2.2]),recovered:=false}]
def PanE(T:TypeId)(M:Nat→Prop)(q:Er→Prop)(w:World)(f:Fq)(c:List PanicEntry)(w':World):Prop:=∃er f',c=trI T er∧q er∧C2 M w f w' f'
abbrev XC(T TS:TypeId)(A:Ad)(s:CS)(w:World)(f:Fq):Cx:=⟨Bz A,Bz A,As T TS A s,w,f⟩
theorem Kr{T:TypeId}{Fs:List (World→Fq→Prop)}(hv:Vl w f)(hC:As T TS A s w f)(hf:∀b,Bz A b→f b=0)(hF:AE Fs w f)(hm:Aw Fs):AO (XC T TS A s w f) w f [] [] [] Fs :=
 RZ (M:=Bz A) hv hC As.stab (λb hb=>⟨hC.lt hb,hf b hb⟩) hF hm
theorem Wq{s:BT}:∀(k:Nat)(x:Ty)(j:Nat),B2 s k x=some j→(AN s k x).size+j≤k:=by
 intro k
 induction k using Nat.strongRecOn with
 |_ k ih =>
   intro x j h
   have key:∀(k':Nat)(ks r:Ty),k'<k→B2 s k' (ks.app r)=some j→(AN s k' ks).size+(AN s k' r).size+j≤k':=by
     intro k' ks r hk hr;rw[Js] at hr
     cases hj:B2 s k' ks with
     |none=>rw[hj] at hr;cases hr
     |some j1 =>
       rw[hj] at hr;have hr:B2 s j1 r=some j:=hr;have h1:=Ej s _ _ _ hj;have h2:=ih k' hk ks j1 hj;have h3:=ih j1 oM r j hr;rw[O6 j1 r j hr k' (by omega)];omega
   cases x with
   |nil=>rw[GC];cases k <;> (cases h;simp[Ty.size])
   |var n r =>
     cases k with
     |zero=>cases h
     |succ k =>
       simp only[B2] at h
       cases hh:Ap s (.var n) with
       |var q =>
         rw[hh] at h;have:=key k .nil r oM h;simp only[AN,hh,Ty.size];rw[GC] at this;simp only[Ty.size] at this;omega
       |con tx ks =>
         rw[hh] at h;have:=key k ks r oM h;simp only[AN,hh,Ty.size];omega
   |con tx ks r =>
     cases k with
     |zero=>cases h
     |succ k =>
       simp only[B2] at h;have:=key k ks r oM h;simp only[AN,Ty.size];omega
theorem ZQ(s:BT)(k:Nat)(t:T1):AN s (k+1) t.one=(AN s (k+1) t.one).hd.one:=by
 cases t with
 |var n =>
   simp only[T1.one,T1.cons,AN]
   cases Ap s (.var n) <;> (simp only[GC];rfl)
 |con tx ks=>simp only[T1.one,T1.cons,AN,GC];rfl
theorem Ic{s:BT}{t u:T1}(h:CQ s t=some u):u.kids.size+1≤1000:=by
 unfold CQ at h
 split at h
 · rename_i hs
   rw[Hh,Fv] at hs;obtain⟨j,hj⟩:=Option.isSome_iff_exists.1 hs;have h1:=Wq 1000 t.one j hj;have h2:=ZQ s 999 t
   cases h
   have h3:(AN s 1000 t.one).size=(AN s 1000 t.one).hd.kids.size+0+1:=(congrArg Ty.size h2).trans (T1.size_cons _ .nil);omega
 · cases h
theorem Jj{s:BT}(hw:Is s){t u:T1}(hb:t.bnd)(h:CQ s t=some u):u.bnd:=by
 unfold CQ at h
 split at h
 · cases h;exact ZC hw hb 1000
 · cases h
end Go.SP
namespace Go.SW
open Go.RowKit Go.SP
variable {args:Array Value}{f f':Fq}{fid:FuncId}{M:Nat→Prop}{w w':World}
theorem AO.exmI{X:Cx}{H:List HB}{R:List RB}{B:List FB}{Fs:List (World→Fq→Prop)}(h:AO X w f H R B Fs)(hs:∀b,M b→X.MI b)(he:C2 M w f w' f'):C2 X.M X.w0 X.f0 w' f' :=
 (h.callI (I':=λ_ _=>True) (he.mono hs) tQ (λ_ _ _ _ _ _ _=>trivial)).exm
section
variable{P:Program}{n:Nat}{Q:AT}{ds:List Deferred}{X:Cx}{R:List RB}{B:List FB}{Fs:List (World→Fq→Prop)}{fs:List Fr}{σ:Ba}{H:List HB}
variable{all r:List Oper}{ty T:TypeId}{pos:String}{af:Array Edge}{g:Option (Nat×Bool)}{d:Nat}
theorem D5{op:Op}{α:Type}{val:α→Value}{q:α→Prop}{I':α→World→Fq→Prop}{F':α→List (World→Fq→Prop)}{pe:Er→Prop}
   (hg:gd all σ g=some true) (hd:Nat.blt d n=true) (he:∀w,Enters P σ op ty w fid args) (hs:∀b,M b→X.MI b)
   (hc:∀w f,AO X w f H R B Fs→BD P fid args w (EC val q X.MI I' F' w f) (PanE T M pe w f)) (hst:∀x,EU X.MI (I' x)) (hm:∀x,Aw (F' x))
   (hp:∀er w' f',pe er→C2 X.M X.w0 X.f0 w' f'→Q.p (trI T er) σ ds w')
   (h:∀x,q x→A3 P n Q ds {X with I:=I' x} R B (F' x++Fs) (.ops all r) fs (AA σ d (val x)) H):A3 P n Q ds X R B Fs (.ops all (⟨some d,op,ty,pos,af,g⟩::r)) fs σ H :=
 NT (XX:=λc w'=>∃er f',c=trI T er∧pe er∧C2 X.M X.w0 X.f0 w' f') hg hd he (λw f hM=>(hc w f hM).mono (λ_ _ h=>h) λ_ _ ⟨er,f',h1,h2,h3⟩=>⟨er,f',h1,h2,hM.exmI hs h3⟩) hst hm (λ_ _ _ _ _ ⟨er,f',h1,h2,h3⟩=>h1▸hp er _ f' h2 h3) h
theorem M6{op:Op}{pe:Er→Prop}
   (hg:gd all σ g=some true) (hd:Nat.blt d n=true) (he:∀w,Enters P σ op ty w fid args) (hs:∀b,M b→X.MI b)
   (hc:∀w f,AO X w f H R B Fs→BD P fid args w (λ_ _=>False) (PanE T M pe w f))
   (hp:∀er w' f',pe er→C2 X.M X.w0 X.f0 w' f'→Q.p (trI T er) σ ds w'):A3 P n Q ds X R B Fs (.ops all (⟨some d,op,ty,pos,af,g⟩::r)) fs σ H :=
 D5 (α:=Unit) (val:=λ_=>.tuple #[]) (q:=λ_=>False) (I':=λ_ _ _=>True) (F':=λ_=>[]) hg hd he hs (λw f hM=>(hc w f hM).mono (λ_ _ h=>h.elim) λ_ _ h=>h) (λ_ _ _ _ _ _ _ _=>trivial) (λ_=>trivial) hp (λ_ h=>h.elim)
end
end Go.SW
namespace Go.SP
open Go.SW Go.RowKit
variable {A:Ad}{s:CS}{f f':Fq}{fr pr:Int}{M:Nat→Prop}{TS:TypeId}{w w' w0:World}
theorem LC.c:∀b,LC A.sb A.mb b→Bz A b:=λ_ h=>h.elim (λe=>.inr (.inl e)) λe=>.inr (.inr (.inl e))
theorem As.solved{T:TypeId}(h:As T TS A s w f)(hA:A.ok)(hv:Vl w f)(hz:∀b,LC A.sb A.mb b→f b=0)(hE:C2 (LC A.sb A.mb) w f w' f'){s':BT}(hS:BB TS A.sb A.mb s' fr pr w' f'):As T TS A {s with sol:=s',fresh:=fr} w' f' where
 blk:=(hE.stp.block _ (h.lt (.inl rfl)) (λe=>e.elim hA.cs hA.cm.1)).trans h.blk
 sol:=⟨pr,hS⟩
 cons:=let ⟨es,h1,h2⟩:=h.cons;⟨es,h1.heap (hE.stp.block _ h1.lt (λe=>e.elim (λe=>hA.sm.2.1 e.symm) (λe=>hA.mm.1 e.symm))),BU.mono (hE.fle hv hz) _ _ h2⟩
 datas:=h.datas.heap (hE.stp.block _ h.datas.lt (λe=>e.elim (λe=>hA.sm.2.2.1 e.symm) (λe=>hA.mm.2.1 e.symm)))
 roots:=h.roots.heap (hE.stp.block _ h.roots.lt (λe=>e.elim (λe=>hA.sm.2.2.2 e.symm) (λe=>hA.mm.2.2.1 e.symm)))
theorem aE{P:Program}{n:Nat}{Q:AT}{ds:List Deferred}{f0:Fq}{T:TypeId}{R:List RB}{B:List FB}{Fs:List (World→Fq→Prop)}{fs:List Fr}{σ:Ba}{H:List HB}{k:Kc}
   (h:∀pr,A3 P n Q ds ⟨M,Bz A,λw f=>As T TS A s w f∧BB TS A.sb A.mb s.sol s.fresh pr w f,w0,f0⟩ R B Fs k fs σ H):A3 P n Q ds ⟨M,Bz A,As T TS A s,w0,f0⟩ R B Fs k fs σ H :=
 fY (X:=⟨M,Bz A,As T TS A s,w0,f0⟩) (λpr w f=>As T TS A s w f∧BB TS A.sb A.mb s.sol s.fresh pr w f) (λw f h=>let ⟨pr,hp⟩:=h.sol;⟨pr,h,hp⟩) (λpr w f w' f' h hF hb=>⟨As.stab w f w' f' h.1 hF hb,BB.stab (MI:=LC A.sb A.mb) (.inl rfl) (.inr rfl) _ _ _ _ h.2 hF λb hm=>hb b (LC.c b hm)⟩) h
end Go.SP
namespace Go.SP
open Go.SW Go.RowKit
def DX(fr:Int):Nat→Ty
 |0=>.nil
 |n+1=>.var (fr+1) (DX (fr+1) n)
theorem Fh:∀(n:Nat)(fr:Int),(DX fr n).len=n
 |0,_=>rfl
 |n+1,fr=>by simp only[DX,Ty.len];rw[Fh n]
theorem HT:∀(n:Nat)(fr:Int),(DX fr n).bnd
 |0,_=>trivial
 |n+1,fr=>HT n (fr+1)
theorem L4:∀(n:Nat)(fr:Int),DX fr (n+1)=(DX fr n).snoc (.var (fr+n+1))
 |0,fr=>by simp[DX,Ty.snoc,Ty.app,T1.one,T1.cons]
 |n+1,fr=>by
   have:=L4 n (fr+1);rw[DX,this];show _=Ty.var _ _
   congr 2
   simp;omega
theorem BE:∀(l:List Int)(s:CS),Bq l s=(DX s.fresh l.length,{s with fresh:=s.fresh+l.length})
 | [],s=>by simp[Bq,DX]
 |_::l,s=>by
   have h:=BE l (A7 s).2;simp only[Bq,T1.cons,DX,List.length_cons];rw[h];simp only[A7,T1.cons];have e:s.fresh+1+(l.length:Int)=s.fresh+((l.length+1:Nat):Int):=oM;rw[e]
variable {s:CS}
theorem Dy.fresh(h:Dy s){n:Int}(hn:0≤n):Dy {s with fresh:=n}:={h with fr:=hn}
end Go.SP
namespace Go.SP
open Go.SW Go.RowKit
variable {Q:AT}{A:Ad}{σ:Ba}{s:CS}{f:Fq}{Fs:List (World→Fq→Prop)}{ds:List Deferred}{B:List FB}{fs:List Fr}{H:List HB}{n:Nat}{M:Nat→Prop}{P:Program}{T TS:TypeId}{w w0:World}
theorem BU.keys{n:lU}:∀{l:List (lU×Mk)}{es:List (lU×Value)},BU w f l es→(Em (l.map λp=>(p.1,Value.bool true)) n=none→Em es n=none)
 | [],es,h,_=>by have h:es=[]:=h;subst h;rfl
 |(k,m)::l,es,⟨_,_,_,_,_,_,es',h1,_,_,_,h5⟩,hn=>by
   subst h1;simp only[List.map,Em] at hn ⊢
   split at hn
   · cases hn
   · rename_i hk;rw[if_neg hk];exact BU.keys h5 hn
theorem BU.dis:∀{l:List (lU×Mk)}{es:List (lU×Value)},BU w f l es→Ir (l.map λp=>(p.1,Value.bool true))→Ir es
 | [],es,h,_=>by have h:es=[]:=h;subst h;trivial
 |(k,m)::l,es,⟨_,_,_,_,_,_,es',h1,_,_,_,h5⟩,hd=>by
   subst h1;exact⟨BU.keys h5 hd.1,BU.dis h5 hd.2⟩
theorem wA{f0:Fq}{R:List RB}{k:Kc}
   (h:∀es,A3 P n Q ds ⟨M,Bz A,λw f=>As T TS A s w f∧BF BN w A.km es∧BU w f s.cons es,w0,f0⟩ R B Fs k fs σ H):A3 P n Q ds ⟨M,Bz A,As T TS A s,w0,f0⟩ R B Fs k fs σ H :=
 fY (X:=⟨M,Bz A,As T TS A s,w0,f0⟩) (λes w f=>As T TS A s w f∧BF BN w A.km es∧BU w f s.cons es) (λw f h=>let ⟨es,h1,h2⟩:=h.cons;⟨es,h,h1,h2⟩) (λes w f w' f' h hF hb=>⟨As.stab w f w' f' h.1 hF hb,h.2.1.heap (hb _ (.inr (.inr (.inr (.inl rfl))))),BU.mono hF _ _ h.2.2⟩) h
end Go.SP
namespace Go.SW
open Go.RowKit Go.SP
variable {Q:AT}{σ:Ba}{X:Cx}{Fs:List (World→Fq→Prop)}{ds:List Deferred}{B:List FB}{fs:List Fr}{H:List HB}{n:Nat}{P:Program}
theorem LF{R:List RB}{k:Kc}{r:RB}(φ:World→Fq→Prop)(hm:EY φ)(hr:∀w f,AO X w f H (r::R) B Fs→∃f',AO X w f' H R B Fs∧φ w f')
   (h:A3 P n Q ds X R B (φ::Fs) k fs σ H):A3 P n Q ds X (r::R) B Fs k fs σ H:=λw f hM=>by
 obtain⟨f',hM',hφ⟩:=hr w f hM;exact h w f' (hM'.more (B':=[]) (F':=[φ]) (λ_ h=>by cases h) (AE.mem ⟨hφ,tQ⟩) (Aw.mem ⟨hm,tQ⟩))
end Go.SW
namespace Go.SP
open Go.SW Go.RowKit
variable {X:Cx}{f:Fq}{Fs:List (World→Fq→Prop)}{B:List FB}{H:List HB}{xs:List Value}{m:Nat}{a:Option Addr}{e:TypeId}{w:World}
theorem Ha{R:List RB}{c:Nat}{k:Ty}(hM:AO X w f H (⟨e,4,a,c,m,xs⟩::R) B Fs)(hL:Be w f k xs):∃f',AO X w f' H R B Fs∧Al w f' k a c:=by
 rcases Nat.eq_zero_or_pos k.len with h0|h0
 · obtain rfl:=Ty.len0 h0
   exact⟨f,hM.less (List.Sublist.refl _) (List.sublist_cons_self _ _) (λ_ h=>h) (λ_ h=>h),Al.nil _ _ _ _⟩
 · exact Me hM hL h0
theorem LK{R:List RB}{c:Nat}{l:List Int}(hM:AO X w f H (⟨3,1,a,c,l.length,l.map λn=>.int .i64 n⟩::R) B Fs):∃f',AO X w f' H R B Fs∧BG w f' l a c:=by
 have hr:=hM.row _ (.head _);rcases hr.2 with ⟨_,_,hz⟩|⟨b,q,ha,hb,hmc,_,hq,ht⟩
 · simp only at hz
   exact⟨f,hM.less (List.Sublist.refl _) (List.sublist_cons_self _ _) (λ_ h=>h) (λ_ h=>h),oM,.inl (by cases l with|nil=>rfl|cons _ _=>simp at hz)⟩
 · simp only at ha
   subst ha;obtain⟨f',hM'⟩:=hM.done (i:=0) rfl rfl;refine⟨f',hM'.less (List.Sublist.refl _) (List.Sublist.refl _) (λ_ h=>.tail _ h) (λ_ h=>h),hmc,.inr ⟨b,0,rfl,hM'.fro _ (.head _)⟩⟩
end Go.SP
namespace Go.SW
open Go.RowKit Go.SP
section
variable{κ:Type}[BEq κ]{K:qY κ}[LawfulBEq κ]
theorem NZ(x:κ):∀(es:List MapEntry)(l:List (κ×Value))(i:Nat)(v:Value),es.map (λe=>(e.key,e.val))=l.map (λp=>(K.enc p.1,p.2))→Lc x l=some v →
   ∃j e,Instr.findNow K.desc (K.enc x) es i=some (some (i+j,v))∧es[j]?=some e∧e.key=K.enc x∧e.val=v
 | [],[],i,v,_,h=>by cases h
 | [],_::_,_,_,h,_=>by simp at h
 |_::_,[],_,_,h,_=>by simp at h
 |e::es,p::l,i,v,h,hl=>by
   simp only[List.map_cons,List.cons.injEq,Prod.mk.injEq] at h;obtain⟨⟨hk,hv⟩,hr⟩:=h;have hs:Instr.sameNow K.desc (K.enc x) e.key=some (x==p.1):=by rw[hk];exact K.same x p.1
   obtain⟨pk,pv⟩:=p;unfold Instr.findNow;unfold Lc at hl;rw[hs]
   cases hc:x==pk with
   |true =>
     rw[hc] at hl;have hl:pv=v:=by simpa using hl
     have he:x=pk:=by simpa using hc
     subst he;exact⟨0,e,by simp[hv,hl],rfl,hk,hv.trans hl⟩
   |false =>
     rw[hc] at hl;obtain⟨j,e',h1,h2,h3⟩:=NZ x es l (i+1) v hr (by simpa using hl);exact⟨j+1,e',by simp only[h1];congr 3;omega,h2,h3⟩
variable{P:Program}{n:Nat}{Q:AT}{ds:List Deferred}{X:Cx}{R:List RB}{B:List FB}{Fs:List (World→Fq→Prop)}{fs:List Fr}{σ:Ba}{H:List HB}{w:World}
variable{all r:List Oper}{ty T k e:TypeId}{pos:String}{af:Array Edge}{g:Option (Nat×Bool)}{d m:Nat}{x y z:Operand}{a:κ}{l:List (κ×Value)}
theorem SF{v:Value}(hT:FD P T=some (k,e))(hk:P.underlying k=some K.desc)(hsb:Instr.sameBits 10000 (K.enc a) (K.enc a)=true)(hm:BF K w m l)(hd:Ir l)(hn:Em l a=some v):∃w',(Instr.mapUpdate T (.map (some m)) (K.enc a) v).run P w=.ok () w'∧BF K w' m l∧FX m w w':=by
 have hu:=Jm hT;obtain⟨es,c,h1,h2⟩:=id hm;obtain⟨j,e',hj,he,hek,hev⟩:=NZ (K:=K) a es l.reverse 0 v h2 (by rw[Pf a l hd];exact hn);have hget:(getObj m).run P w=.ok (.map es.toArray c) w:=by simp[getObj,Sem.run,h1]
 have hlt:=hm.lt;have hck:=λb=>K.chk P k w a b hk
 have hset:∀o,(setObj m o).run P w=.ok () {w with heap:=w.heap.setIfInBounds m o}:=λo=>by
   simp[setObj,Sem.run,h1]
 rw[Nat.zero_add] at hj;refine⟨{w with heap:=w.heap.setIfInBounds m (.map (es.toArray.modify j λe=>{e with key:=K.enc a,val:=v}) c)},?_,?_,?_⟩
 · simp only[Instr.mapUpdate,Sem.run_bind,run_underlying hu,Result.andThen_ok,hget]
   simp only[hck,Result.andThen_ok,Instr.findKey,Sem.run_bind,run_underlying hk,hj];simp only[Sem.run_pure,Result.andThen_ok,List.getElem?_toArray,he,Option.map_some,Option.getD_some,hek,Instr.keyThatStays,hsb,if_true];exact hset _
 · refine⟨es.modify j λe=>{e with key:=K.enc a,val:=v},c,?_,?_⟩
   · rw[show (es.modify j λe=>{e with key:=K.enc a,val:=v}).toArray=es.toArray.modify j λe=>{e with key:=K.enc a,val:=v} from Array.ext' (by simp)]
     simp[hlt]
   · rw[← h2]
     apply List.ext_getElem?;intro i;rw[List.getElem?_map,List.getElem?_map,List.getElem?_modify]
     by_cases hij:j=i
     · subst hij
       rw[he];simp[hek,hev]
     · simp[hij]
 · refine⟨rfl,rfl,rfl,by simp,λi him=>?_⟩
   show (w.heap.setIfInBounds m _)[i]?=_;rw[Array.getElem?_setIfInBounds_ne (λe=>him e.symm)]
variable {I':World→Fq→Prop}
theorem uB{v:Value}(hg:gd all σ g=some true)(hx:ev σ x=some (.map (some m)))(hy:ev σ y=some (K.enc a))(hz:ev σ z=some v)(hT:FD P T=some (k,e))(hk:P.underlying k=some K.desc)(hsb:Instr.sameBits 10000 (K.enc a) (K.enc a)=true)(hmi:X.MI m)(hd:Ir l)(hn:Em l a=some v)
   (hm:∀w f,X.I w f→BF K w m l) (hI:∀w f w',X.I w f→AO X w f H R B Fs→FX m w w'→BF K w' m l→I' w' f) (hst:EU X.MI I')
   (h:A3 P n Q ds {X with I:=I' } R B Fs (.ops all r) fs σ H):A3 P n Q ds X R B Fs (.ops all (⟨none,.mapUpdate T x y z,ty,pos,af,g⟩::r)) fs σ H:=λw f hM=>by
 obtain⟨w',h1,h2,h3⟩:=SF (v:=v) hT hk hsb (hm w f hM.res) hd hn;refine Bp hg (IN (w':=w') (λρ _ _ _ _ hρ=>?_) (h w' f (hM.chgI hmi h3 (hI w f w' hM.res hM h3 h2) hst)));simp only[execOp,hρ _ _ hx,hρ _ _ hy,hρ _ _ hz];rw[Sem.run_bind,h1];rfl
omit [LawfulBEq κ] in
theorem ZP(hg:gd all σ g=some true)(hd:Nat.blt d n=true)
   (h:∀m,¬X.MI m→A3 P n Q ds {X with MI:=λb=>X.MI b∨b=m,I:=λw f=>X.I w f∧BF K w m []} R B Fs (.ops all r) fs (AA σ d (.map (some m))) H):A3 P n Q ds X R B Fs (.ops all (⟨some d,.makeMap T none,ty,pos,af,g⟩::r)) fs σ H:=λw f hM=>by
 refine Bp hg (Ab (v:=.map (some w.heap.size)) (w':=w.alloc (.map #[] 0)) hd (λρ _ _ _ _ hρ=>by simp[execOp,Instr.makeMap]) (h w.heap.size (λhm=>Nat.lt_irrefl _ (hM.mi _ hm).1) _ f ?_));have h1:AO X (w.alloc (.map #[] 0)) f H R B Fs:=hM.call0 (C2.of_ext (Jn w _) hM.val);have hnew:∀b,b∈C8 H R→b≠w.heap.size:=λb hb e=>Nat.lt_irrefl _ (e▸hM.lt hb)
 exact {h1 with
         res:=⟨h1.res,[],0,heap_alloc_new w _,rfl⟩,
         stab:=λw1 f1 w2 f2 hI hF hb=>⟨h1.stab w1 f1 w2 f2 hI.1 hF λb hm=>hb b (.inl hm),hI.2.heap (hb _ (.inr rfl))⟩,
         mi:=λb hb=>by
           rcases hb with hb|rfl
           · exact h1.mi b hb
           · exact⟨by rw[Gy];omega,hM.val _ (Nat.le_refl _),.inl hM.stp.size⟩,
         own:=λb hb=>⟨(h1.own b hb).1,(h1.own b hb).2.1,λhm=>by
           rcases hm with hm|rfl
           · exact (h1.own b hb).2.2 hm
           · exact hnew _ hb rfl⟩}
end
end Go.SW
namespace Go.SP
open Go.SW Go.RowKit
def Kx(T TS:TypeId)(A:Ad)(s:CS)(m:Nat)(l:List Int)(w:World)(f:Fq):Prop:=As T TS A s w f∧BF EB w m (GX l)
variable {A:Ad}{s:CS}{f:Fq}{mb:Nat}{M:Nat→Prop}{TS:TypeId}{w' w0:World}
theorem Kx.stab{T:TypeId}{m:Nat}{l:List Int}:EU (λb=>Bz A b∨b=m) (Kx T TS A s m l):=λw f w' f' h hF hb =>
 ⟨As.stab w f w' f' h.1 hF λb hm=>hb b (.inl hm),h.2.heap (hb _ (.inr rfl))⟩
theorem As.chg{T:TypeId}{m:Nat}{w:World}(h:As T TS A s w f)(hC:FX m w w')(hm:¬Bz A m)(hf:f m=0):As T TS A s w' f :=
 As.stab w f w' f h (FX.fle hC hf) λb hb=>hC.block b λe=>hm (e▸hb)
theorem NO(l:List Int)(v n:Int):(l++[v]).contains n=(l.contains n||v==n):=by
 cases h:(v==n) with
 |true =>
   have:v=n:=by simpa using h
   subst this;simp
 |false =>
   have:¬v=n:=by simpa using h
   simp;intro h2;exact absurd h2.symm this
theorem wV(n:Int):Instr.sameBits 10000 (EB.enc n) (EB.enc n)=true:=by
 show Instr.sameBits 10000 (.int .i64 n) (.int .i64 n)=true;simp[Instr.sameBits]
theorem Kh(l:List Int)(v n:Int)(q:List Int)(b:Bool):(((if l.contains v then l else l++[v]).contains n||q.contains n)||b)=((l.contains n||(v::q).contains n)||b):=by
 have h1:(v::q).contains n=((v==n)||q.contains n):=by
   rw[List.contains_cons];congr 1
   cases h:(v==n) with
   |true =>
     have:v=n:=by simpa using h
     subst this;simp
   |false =>
     have:¬v=n:=by simpa using h
     simpa using λe:n=v=>this e.symm
 rw[h1]
 split
 · rename_i hc
   cases hv:(v==n) with
   |true =>
     have:v=n:=by simpa using hv
     subst this;rw[hc];simp
   |false=>simp
 · rw[NO,Bool.or_assoc (l.contains n)]
theorem Oa{l:List Int}{v:Int}(h:l.Nodup):(if l.contains v then l else l++[v]).Nodup:=by
 split
 · exact h
 · rename_i hc
   refine List.nodup_append.2 ⟨h,List.pairwise_singleton _ _,λa ha b hb e=>?_⟩;obtain rfl:b=v:=by simpa using hb
   subst e;exact hc (by simpa using ha)
theorem tA{P:Program}{n:Nat}{Q:AT}{ds:List Deferred}{f0:Fq}{T:TypeId}{R:List RB}{B:List FB}{Fs:List (World→Fq→Prop)}{fs:List Fr}{σ:Ba}{H:List HB}
   {all r:List Oper} {ty TM k e:TypeId} {pos:String} {af:Array Edge} {g:Option (Nat×Bool)} {x y z:Operand} {l:List Int} {v:Int} (hg:gd all σ g=some true) (hx:ev σ x=some (.map (some mb))) (hy:ev σ y=some (.int .i64 v)) (hz:ev σ z=some (.bool true))
   (hT:FD P TM=some (k,e)) (hk:P.underlying k=some (.int .i64)) (hmn:¬Bz A mb) (hnd:l.Nodup)
   (h:A3 P n Q ds ⟨M,λb=>Bz A b∨b=mb,Kx T TS A s mb (if l.contains v then l else l++[v]),w0,f0⟩ R B Fs (.ops all r) fs σ H) :
   A3 P n Q ds ⟨M,λb=>Bz A b∨b=mb,Kx T TS A s mb l,w0,f0⟩ R B Fs (.ops all (⟨none,.mapUpdate TM x y z,ty,pos,af,g⟩::r)) fs σ H:=by
 cases hc:l.contains v with
 |true =>
   rw[hc] at h;exact uB (K:=EB) (a:=v) (l:=GX l) (I':=Kx T TS A s mb l) hg hx hy hz hT hk (wV v) (.inr rfl) (Kl hnd) (by rw[Tv,hc];rfl) (λw f h=>h.2) (λw f w2 h hM hC hm=>⟨h.1.chg hC hmn (hM.mi mb (.inr rfl)).2.1,hm⟩) Kx.stab h
 |false =>
   rw[hc] at h;exact Zd (K:=EB) (a:=v) (l:=GX l) (I':=Kx T TS A s mb (l++[v])) hg hx hy hz hT hk (.inr rfl) (Kl hnd) (UR hc) (λw f h=>h.2) (λw f w2 h hM hC hm=>⟨h.1.chg hC hmn (hM.mi mb (.inr rfl)).2.1,by rw[O1];exact hm⟩) Kx.stab h
theorem F9.cons{e:Bb}(h:F9 e){b:Bd}(h1:b.t.bnd)(h2:b.all.length≤1000000):F9 (b::e):=λb2 hb=>by
 rcases List.mem_cons.1 hb with rfl|hb
 · exact⟨h1,h2⟩
 · exact h b2 hb
theorem Nd.len_le:∀x:Nd,x.len≤x.size
 |.nil=>Nat.le_refl _
 |.cons _ _ _ _ _ k r=>by have:=Nd.len_le r;simp only[Nd.len,Nd.size];omega
theorem Nd.cases1(x:Nd)(h:0<x.len):∃op ln co tx nm k r,x=.cons op ln co tx nm k r:=by
 cases x with
 |nil=>simp[Nd.len] at h
 |cons op ln co tx nm k r=>exact⟨op,ln,co,tx,nm,k,r,rfl⟩
theorem Nd.len0{x:Nd}(h:x.len=0):x=.nil:=by
 cases x with
 |nil=>rfl
 |cons=>simp[Nd.len] at h
def Nd.wfm:Nd→Nat→Prop
 |.nil,m=>m=0∨m=1∨m=9
 |.cons op _ _ _ _ k r,m =>
   let X:Prop:=(1≤op∧op≤5)∨(op=6∧k.wfm 0)∨(op=7∧k.wfm 4)∨((op=8∨op=12)∧0<k.len∧k.wfm 0)∨((op=9∨op=10)∧k.wfm 6)∨(op=11∧k.wfm 7)∨(op=13∧k.wfm 0)∨((op=14∨op=15)∧k.wfm 5)∨((op=16∨op=17)∧k.wfm 3)
   match m with
   |0=>X∧r.wfm 0
   |1=>k.wfm 8∧r.wfm 1
   |2=>r.wfm 3
   |3=>X
   |4=>(r=.nil∧X)∨(r≠.nil∧r.wfm 4)
   |5=>X∧0<r.len∧r.wfm 1
   |6=>X∧r.wfm 3
   |7=>X∧r.wfm 6
   |8=>((21≤op∧op≤27)∧k.wfm 9)∧r.wfm 3
   |9=>((21≤op∧op≤27)∧k.wfm 9)∧r.wfm 9
   |_=>False
def Gx(op:Int)(k:Nd):Prop:=(1≤op∧op≤5)∨(op=6∧k.wfm 0)∨(op=7∧k.wfm 4)∨((op=8∨op=12)∧0<k.len∧k.wfm 0)∨((op=9∨op=10)∧k.wfm 6)∨(op=11∧k.wfm 7)∨(op=13∧k.wfm 0)∨((op=14∨op=15)∧k.wfm 5)∨((op=16∨op=17)∧k.wfm 3)
section
variable{op ln co nm:Int}{tx:lU}{k r:Nd}
theorem lZ:(Nd.cons op ln co tx nm k r).wfm 0↔Gx op k∧r.wfm 0:=Iff.rfl
theorem uD:(Nd.cons op ln co tx nm k r).wfm 1↔k.wfm 8∧r.wfm 1:=Iff.rfl
theorem vP:(Nd.cons op ln co tx nm k r).wfm 8↔((21≤op∧op≤27)∧k.wfm 9)∧r.wfm 3:=Iff.rfl
theorem VC:(Nd.cons op ln co tx nm k r).wfm 3↔Gx op k:=Iff.rfl
theorem rC:(Nd.cons op ln co tx nm k r).wfm 4↔(r=.nil∧Gx op k)∨(r≠.nil∧r.wfm 4):=Iff.rfl
theorem tU:(Nd.cons op ln co tx nm k r).wfm 6↔Gx op k∧r.wfm 3:=Iff.rfl
end
abbrev nV(op ln co:Int)(tx:lU)(nm:Int)(k:Nd)(na:Option Addr)(nc:Nat):Value:=.agg #[.int .i64 op,.int .i64 ln,.int .i64 co,S tx,.int .i64 nm,.slice na k.len nc]
def YC(P:Program)(fid:FuncId)(n:Nat):Prop:=∀(w:World)(f:Fq)(_:Vl w f)(op ln co nm:Int)(tx:lU)(kids:Nd)(na:Option Addr)(nc:Nat),kids.size<n→kids.size≤1000000→AD w f kids na nc →
 Bo P fid #[nV op ln co tx nm kids na nc] w (Bx (α:=Unit) (λ_=>.bool (Cq n op kids)) (λ_=>True) (λ_=>[]) w f)
end Go.SP
namespace Go.SW
open Go.RowKit
variable {σ':Ba}{vs:List Value}{d:Nat}{x0 x1 x10 x2 x3 x4 x5 x6 x7 x8 x9:Value}{a0 a1 a10 a11 a12 a13 a2 a3 a4 a5 a6 a7 a8 a9:World→Fq→Prop}
theorem lE{σ:Ba}(h:Le σ' σ:=by (repeat (first|exact IL _|refine A6 ?_ rfl))):Le σ' σ:=h
theorem wL{σ:Ba}{a0:Nat}(h0:σ a0=some x0):Le (AA e0 a0 x0) σ:=A6 (IL _) h0
@[reducible] def E2(a0:Nat)(x0:Value)(a1:Nat)(x1:Value):Ba:=AA (AA e0 a0 x0) a1 x1
theorem wU{σ:Ba}{a0 a1 a2:Nat}(h0:σ a0=some x0)(h1:σ a1=some x1)(h2:σ a2=some x2):Le (AA (AA (AA e0 a0 x0) a1 x1) a2 x2) σ:=A6 (A6 (A6 (IL _) h0) h1) h2
@[reducible] def E3(a0:Nat)(x0:Value)(a1:Nat)(x1:Value)(a2:Nat)(x2:Value):Ba:=AA (AA (AA e0 a0 x0) a1 x1) a2 x2
theorem uA{σ:Ba}{a0 a1 a2 a3:Nat}(h0:σ a0=some x0)(h1:σ a1=some x1)(h2:σ a2=some x2)(h3:σ a3=some x3):Le (AA (AA (AA (AA e0 a0 x0) a1 x1) a2 x2) a3 x3) σ:=A6 (A6 (A6 (A6 (IL _) h0) h1) h2) h3
@[reducible] def E4(a0:Nat)(x0:Value)(a1:Nat)(x1:Value)(a2:Nat)(x2:Value)(a3:Nat)(x3:Value):Ba:=AA (AA (AA (AA e0 a0 x0) a1 x1) a2 x2) a3 x3
theorem vR{σ:Ba}{a0 a1 a2 a3 a4:Nat}(h0:σ a0=some x0)(h1:σ a1=some x1)(h2:σ a2=some x2)(h3:σ a3=some x3)(h4:σ a4=some x4):Le (AA (AA (AA (AA (AA e0 a0 x0) a1 x1) a2 x2) a3 x3) a4 x4) σ:=A6 (A6 (A6 (A6 (A6 (IL _) h0) h1) h2) h3) h4
@[reducible] def E5(a0:Nat)(x0:Value)(a1:Nat)(x1:Value)(a2:Nat)(x2:Value)(a3:Nat)(x3:Value)(a4:Nat)(x4:Value):Ba:=AA (AA (AA (AA (AA e0 a0 x0) a1 x1) a2 x2) a3 x3) a4 x4
theorem xB{σ:Ba}{a0 a1 a2 a3 a4 a5:Nat}(h0:σ a0=some x0)(h1:σ a1=some x1)(h2:σ a2=some x2)(h3:σ a3=some x3)(h4:σ a4=some x4)(h5:σ a5=some x5):Le (AA (AA (AA (AA (AA (AA e0 a0 x0) a1 x1) a2 x2) a3 x3) a4 x4) a5 x5) σ:=A6 (A6 (A6 (A6 (A6 (A6 (IL _) h0) h1) h2) h3) h4) h5
@[reducible] def E6(a0:Nat)(x0:Value)(a1:Nat)(x1:Value)(a2:Nat)(x2:Value)(a3:Nat)(x3:Value)(a4:Nat)(x4:Value)(a5:Nat)(x5:Value):Ba:=AA (AA (AA (AA (AA (AA e0 a0 x0) a1 x1) a2 x2) a3 x3) a4 x4) a5 x5
theorem xD{σ:Ba}{a0 a1 a2 a3 a4 a5 a6:Nat}(h0:σ a0=some x0)(h1:σ a1=some x1)(h2:σ a2=some x2)(h3:σ a3=some x3)(h4:σ a4=some x4)(h5:σ a5=some x5)(h6:σ a6=some x6):Le (AA (AA (AA (AA (AA (AA (AA e0 a0 x0) a1 x1) a2 x2) a3 x3) a4 x4) a5 x5) a6 x6) σ:=A6 (A6 (A6 (A6 (A6 (A6 (A6 (IL _) h0) h1) h2) h3) h4) h5) h6
@[reducible] def E7(a0:Nat)(x0:Value)(a1:Nat)(x1:Value)(a2:Nat)(x2:Value)(a3:Nat)(x3:Value)(a4:Nat)(x4:Value)(a5:Nat)(x5:Value)(a6:Nat)(x6:Value):Ba:=AA (AA (AA (AA (AA (AA (AA e0 a0 x0) a1 x1) a2 x2) a3 x3) a4 x4) a5 x5) a6 x6
theorem oR{σ:Ba}{a0 a1 a2 a3 a4 a5 a6 a7:Nat}(h0:σ a0=some x0)(h1:σ a1=some x1)(h2:σ a2=some x2)(h3:σ a3=some x3)(h4:σ a4=some x4)(h5:σ a5=some x5)(h6:σ a6=some x6)(h7:σ a7=some x7):Le (AA (AA (AA (AA (AA (AA (AA (AA e0 a0 x0) a1 x1) a2 x2) a3 x3) a4 x4) a5 x5) a6 x6) a7 x7) σ:=A6 (A6 (A6 (A6 (A6 (A6 (A6 (A6 (IL _) h0) h1) h2) h3) h4) h5) h6) h7
@[reducible] def E8(a0:Nat)(x0:Value)(a1:Nat)(x1:Value)(a2:Nat)(x2:Value)(a3:Nat)(x3:Value)(a4:Nat)(x4:Value)(a5:Nat)(x5:Value)(a6:Nat)(x6:Value)(a7:Nat)(x7:Value):Ba:=AA (AA (AA (AA (AA (AA (AA (AA e0 a0 x0) a1 x1) a2 x2) a3 x3) a4 x4) a5 x5) a6 x6) a7 x7
theorem WV{σ:Ba}{a0 a1 a2 a3 a4 a5 a6 a7 a8:Nat}(h0:σ a0=some x0)(h1:σ a1=some x1)(h2:σ a2=some x2)(h3:σ a3=some x3)(h4:σ a4=some x4)(h5:σ a5=some x5)(h6:σ a6=some x6)(h7:σ a7=some x7)(h8:σ a8=some x8):Le (AA (AA (AA (AA (AA (AA (AA (AA (AA e0 a0 x0) a1 x1) a2 x2) a3 x3) a4 x4) a5 x5) a6 x6) a7 x7) a8 x8) σ:=A6 (A6 (A6 (A6 (A6 (A6 (A6 (A6 (A6 (IL _) h0) h1) h2) h3) h4) h5) h6) h7) h8
@[reducible] def E9(a0:Nat)(x0:Value)(a1:Nat)(x1:Value)(a2:Nat)(x2:Value)(a3:Nat)(x3:Value)(a4:Nat)(x4:Value)(a5:Nat)(x5:Value)(a6:Nat)(x6:Value)(a7:Nat)(x7:Value)(a8:Nat)(x8:Value):Ba:=AA (AA (AA (AA (AA (AA (AA (AA (AA e0 a0 x0) a1 x1) a2 x2) a3 x3) a4 x4) a5 x5) a6 x6) a7 x7) a8 x8
@[reducible] def wM(a0:Nat)(x0:Value)(a1:Nat)(x1:Value)(a2:Nat)(x2:Value)(a3:Nat)(x3:Value)(a4:Nat)(x4:Value)(a5:Nat)(x5:Value)(a6:Nat)(x6:Value)(a7:Nat)(x7:Value)(a8:Nat)(x8:Value)(a9:Nat)(x9:Value):Ba:=AA (AA (AA (AA (AA (AA (AA (AA (AA (AA e0 a0 x0) a1 x1) a2 x2) a3 x3) a4 x4) a5 x5) a6 x6) a7 x7) a8 x8) a9 x9
theorem vB{σ:Ba}{a0 a1 a2 a3 a4 a5 a6 a7 a8 a9 a10:Nat}(h0:σ a0=some x0)(h1:σ a1=some x1)(h2:σ a2=some x2)(h3:σ a3=some x3)(h4:σ a4=some x4)(h5:σ a5=some x5)(h6:σ a6=some x6)(h7:σ a7=some x7)(h8:σ a8=some x8)(h9:σ a9=some x9)(h10:σ a10=some x10):Le (AA (AA (AA (AA (AA (AA (AA (AA (AA (AA (AA e0 a0 x0) a1 x1) a2 x2) a3 x3) a4 x4) a5 x5) a6 x6) a7 x7) a8 x8) a9 x9) a10 x10) σ:=A6 (A6 (A6 (A6 (A6 (A6 (A6 (A6 (A6 (A6 (A6 (IL _) h0) h1) h2) h3) h4) h5) h6) h7) h8) h9) h10
@[reducible] def oS(a0:Nat)(x0:Value)(a1:Nat)(x1:Value)(a2:Nat)(x2:Value)(a3:Nat)(x3:Value)(a4:Nat)(x4:Value)(a5:Nat)(x5:Value)(a6:Nat)(x6:Value)(a7:Nat)(x7:Value)(a8:Nat)(x8:Value)(a9:Nat)(x9:Value)(a10:Nat)(x10:Value):Ba:=AA (AA (AA (AA (AA (AA (AA (AA (AA (AA (AA e0 a0 x0) a1 x1) a2 x2) a3 x3) a4 x4) a5 x5) a6 x6) a7 x7) a8 x8) a9 x9) a10 x10
@[reducible] def wX(a0:Nat)(x0:Value)(a1:Nat)(x1:Value)(a2:Nat)(x2:Value)(a3:Nat)(x3:Value)(a4:Nat)(x4:Value)(a5:Nat)(x5:Value)(a6:Nat)(x6:Value)(a7:Nat)(x7:Value)(a8:Nat)(x8:Value)(a9:Nat)(x9:Value)(a10:Nat)(x10:Value)(a11:Nat)(x11:Value):Ba:=AA (AA (AA (AA (AA (AA (AA (AA (AA (AA (AA (AA e0 a0 x0) a1 x1) a2 x2) a3 x3) a4 x4) a5 x5) a6 x6) a7 x7) a8 x8) a9 x9) a10 x10) a11 x11
theorem sI{σ:Ba}{a0 a1 a2 a3 a4 a5 a6 a7 a8 a9 a10 a11 a12 a13 a14 a15:Nat}{x11 x12 x13 x14 x15:Value}(h0:σ a0=some x0)(h1:σ a1=some x1)(h2:σ a2=some x2)(h3:σ a3=some x3)(h4:σ a4=some x4)(h5:σ a5=some x5)(h6:σ a6=some x6)(h7:σ a7=some x7)(h8:σ a8=some x8)(h9:σ a9=some x9)(h10:σ a10=some x10)(h11:σ a11=some x11)(h12:σ a12=some x12)(h13:σ a13=some x13)(h14:σ a14=some x14)(h15:σ a15=some x15):Le (AA (AA (AA (AA (AA (AA (AA (AA (AA (AA (AA (AA (AA (AA (AA (AA e0 a0 x0) a1 x1) a2 x2) a3 x3) a4 x4) a5 x5) a6 x6) a7 x7) a8 x8) a9 x9) a10 x10) a11 x11) a12 x12) a13 x13) a14 x14) a15 x15) σ:=A6 (A6 (A6 (A6 (A6 (A6 (A6 (A6 (A6 (A6 (A6 (A6 (A6 (A6 (A6 (A6 (IL _) h0) h1) h2) h3) h4) h5) h6) h7) h8) h9) h10) h11) h12) h13) h14) h15
@[reducible] def oJ(a0:Nat)(x0:Value)(a1:Nat)(x1:Value)(a2:Nat)(x2:Value)(a3:Nat)(x3:Value)(a4:Nat)(x4:Value)(a5:Nat)(x5:Value)(a6:Nat)(x6:Value)(a7:Nat)(x7:Value)(a8:Nat)(x8:Value)(a9:Nat)(x9:Value)(a10:Nat)(x10:Value)(a11:Nat)(x11:Value)(a12:Nat)(x12:Value)(a13:Nat)(x13:Value)(a14:Nat)(x14:Value)(a15:Nat)(x15:Value):Ba:=AA (AA (AA (AA (AA (AA (AA (AA (AA (AA (AA (AA (AA (AA (AA (AA e0 a0 x0) a1 x1) a2 x2) a3 x3) a4 x4) a5 x5) a6 x6) a7 x7) a8 x8) a9 x9) a10 x10) a11 x11) a12 x12) a13 x13) a14 x14) a15 x15
theorem mR{α:Type}{F' Fs:List α}(ix:List Nat)(h:ix.map (nth Fs)=F'.map some:=by rfl):∀φ,φ∈F'→φ∈Fs:=λφ hφ=>by
 have h1:some φ∈ix.map (nth Fs):=by rw[h];exact List.mem_map.2 ⟨φ,hφ,rfl⟩
 obtain⟨i,_,hi⟩:=List.mem_map.1 h1;rw[Ek] at hi;exact List.mem_of_getElem? hi
theorem sK{α:Type}{a:α}{l l':List α}(h:l.Sublist l'):(a::l).Sublist (a::l'):=.cons_cons _ h
theorem sD{α:Type}{a:α}{l l':List α}(h:l.Sublist l'):l.Sublist (a::l'):=.cons _ h
theorem sZ{α:Type}:([]:List α).Sublist []:=.slnil
theorem sR{α:Type}{l:List α}:l.Sublist l:=List.Sublist.refl _
theorem nE{α:Type _}{p:α→Prop}:∀e,e∈([]:List α)→p e:=λ_ h=>by cases h
theorem EG{α:Sort _}{β:α→Sort _}{γ:(a:α)→β a→Sort _}{δ:(a:α)→(b:β a)→γ a b→Sort _}:∀(a:α)(b:β a)(c:γ a b)(_:δ a b c),True:=λ_ _ _ _=>trivial
@[reducible] def rd:List Nat→OT→OT
 | [],t=>t
 |i::l,t=>.rd i (rd l t)
section
variable{X:Cx}{w:World}{f:Fq}{H:List HB}{R:List RB}{B:List FB}{Fs:List (World→Fq→Prop)}
theorem AO.mz(h:AO X w f H R B Fs):∀b,X.MI b→f b=0:=λb hb=>(h.mi b hb).2.1
theorem AO.f0(h:AO X w f H R B (a0::Fs)):a0 w f:=h.fac _ (List.mem_of_getElem? (i:=0) rfl)
theorem AO.f1(h:AO X w f H R B (a0::a1::Fs)):a1 w f:=h.fac _ (List.mem_of_getElem? (i:=1) rfl)
theorem AO.f2(h:AO X w f H R B (a0::a1::a2::Fs)):a2 w f:=h.fac _ (List.mem_of_getElem? (i:=2) rfl)
theorem AO.f3(h:AO X w f H R B (a0::a1::a2::a3::Fs)):a3 w f:=h.fac _ (List.mem_of_getElem? (i:=3) rfl)
theorem AO.f4(h:AO X w f H R B (a0::a1::a2::a3::a4::Fs)):a4 w f:=h.fac _ (List.mem_of_getElem? (i:=4) rfl)
theorem AO.f5(h:AO X w f H R B (a0::a1::a2::a3::a4::a5::Fs)):a5 w f:=h.fac _ (List.mem_of_getElem? (i:=5) rfl)
theorem AO.f6(h:AO X w f H R B (a0::a1::a2::a3::a4::a5::a6::Fs)):a6 w f:=h.fac _ (List.mem_of_getElem? (i:=6) rfl)
theorem AO.f7(h:AO X w f H R B (a0::a1::a2::a3::a4::a5::a6::a7::Fs)):a7 w f:=h.fac _ (List.mem_of_getElem? (i:=7) rfl)
theorem AO.f8(h:AO X w f H R B (a0::a1::a2::a3::a4::a5::a6::a7::a8::Fs)):a8 w f:=h.fac _ (List.mem_of_getElem? (i:=8) rfl)
theorem AO.f9(h:AO X w f H R B (a0::a1::a2::a3::a4::a5::a6::a7::a8::a9::Fs)):a9 w f:=h.fac _ (List.mem_of_getElem? (i:=9) rfl)
theorem AO.f10(h:AO X w f H R B (a0::a1::a2::a3::a4::a5::a6::a7::a8::a9::a10::Fs)):a10 w f:=h.fac _ (List.mem_of_getElem? (i:=10) rfl)
theorem AO.f12(h:AO X w f H R B (a0::a1::a2::a3::a4::a5::a6::a7::a8::a9::a10::a11::a12::Fs)):a12 w f:=h.fac _ (List.mem_of_getElem? (i:=12) rfl)
theorem AO.f13(h:AO X w f H R B (a0::a1::a2::a3::a4::a5::a6::a7::a8::a9::a10::a11::a12::a13::Fs)):a13 w f:=h.fac _ (List.mem_of_getElem? (i:=13) rfl)
theorem AO.f16{a14 a15 a16:World→Fq→Prop}(h:AO X w f H R B (a0::a1::a2::a3::a4::a5::a6::a7::a8::a9::a10::a11::a12::a13::a14::a15::a16::Fs)):a16 w f:=h.fac _ (List.mem_of_getElem? (i:=16) rfl)
theorem AO.b0{a0:FB}(h:AO X w f H R (a0::B) Fs):Cs w f a0.b a0.off a0.l:=h.fro _ (List.mem_of_getElem? (i:=0) rfl)
theorem AO.b1{a0 a1:FB}(h:AO X w f H R (a0::a1::B) Fs):Cs w f a1.b a1.off a1.l:=h.fro _ (List.mem_of_getElem? (i:=1) rfl)
theorem AO.b2{a0 a1 a2:FB}(h:AO X w f H R (a0::a1::a2::B) Fs):Cs w f a2.b a2.off a2.l:=h.fro _ (List.mem_of_getElem? (i:=2) rfl)
theorem AO.b3{a0 a1 a2 a3:FB}(h:AO X w f H R (a0::a1::a2::a3::B) Fs):Cs w f a3.b a3.off a3.l:=h.fro _ (List.mem_of_getElem? (i:=3) rfl)
theorem AO.b4{a0 a1 a2 a3 a4:FB}(h:AO X w f H R (a0::a1::a2::a3::a4::B) Fs):Cs w f a4.b a4.off a4.l:=h.fro _ (List.mem_of_getElem? (i:=4) rfl)
theorem AO.b5{a0 a1 a2 a3 a4 a5:FB}(h:AO X w f H R (a0::a1::a2::a3::a4::a5::B) Fs):Cs w f a5.b a5.off a5.l:=h.fro _ (List.mem_of_getElem? (i:=5) rfl)
theorem AO.b6{a0 a1 a2 a3 a4 a5 a6:FB}(h:AO X w f H R (a0::a1::a2::a3::a4::a5::a6::B) Fs):Cs w f a6.b a6.off a6.l:=h.fro _ (List.mem_of_getElem? (i:=6) rfl)
theorem AO.b7{a0 a1 a2 a3 a4 a5 a6 a7:FB}(h:AO X w f H R (a0::a1::a2::a3::a4::a5::a6::a7::B) Fs):Cs w f a7.b a7.off a7.l:=h.fro _ (List.mem_of_getElem? (i:=7) rfl)
theorem AO.k0{a0:HB}(h:AO X w f (a0::H) R B Fs):AI w a0.b a0.l a0.T:=h.blk _ (List.mem_of_getElem? (i:=0) rfl)
theorem uQ{a0:HB}{H:List HB}:a0∈a0::H:=List.mem_of_getElem? (i:=0) rfl
theorem AO.k1{a0 a1:HB}(h:AO X w f (a0::a1::H) R B Fs):AI w a1.b a1.l a1.T:=h.blk _ (List.mem_of_getElem? (i:=1) rfl)
theorem gU{a0 a1:HB}{H:List HB}:a1∈a0::a1::H:=List.mem_of_getElem? (i:=1) rfl
theorem AO.k2{a0 a1 a2:HB}(h:AO X w f (a0::a1::a2::H) R B Fs):AI w a2.b a2.l a2.T:=h.blk _ (List.mem_of_getElem? (i:=2) rfl)
theorem UZ{a0 a1 a2:HB}{H:List HB}:a2∈a0::a1::a2::H:=List.mem_of_getElem? (i:=2) rfl
theorem AO.k3{a0 a1 a2 a3:HB}(h:AO X w f (a0::a1::a2::a3::H) R B Fs):AI w a3.b a3.l a3.T:=h.blk _ (List.mem_of_getElem? (i:=3) rfl)
theorem UK{a0 a1 a2 a3:HB}{H:List HB}:a3∈a0::a1::a2::a3::H:=List.mem_of_getElem? (i:=3) rfl
theorem AO.k4{a0 a1 a2 a3 a4:HB}(h:AO X w f (a0::a1::a2::a3::a4::H) R B Fs):AI w a4.b a4.l a4.T:=h.blk _ (List.mem_of_getElem? (i:=4) rfl)
theorem Xq{a0 a1 a2 a3 a4:HB}{H:List HB}:a4∈a0::a1::a2::a3::a4::H:=List.mem_of_getElem? (i:=4) rfl
theorem vF{a0 a1 a2 a3 a4 a5:HB}{H:List HB}:a5∈a0::a1::a2::a3::a4::a5::H:=List.mem_of_getElem? (i:=5) rfl
end
section
variable{P:Program}{σ:Ba}{ty:TypeId}
theorem eC{f:FuncId}{g:Operand}{args:List Operand}{ts:Array TypeId}(he:B3 P f)(hg:ev σ g=some (.func (.func f) #[] #[]))(ha:Ii σ args=some vs) :
   ∀w,Enters P σ (.call {callee:=.value g,args:=args.toArray,argTypes:=ts}) ty w f vs.toArray:=λ_=>Ax he hg ha
theorem C3{fn:Func}{v:Value}{X:Cx}{H:List HB}{R:List RB}{B:List FB}{Fs:List (World→Fq→Prop)}(hr:fn.results=#[.tmp d])(h:σ d=some v):∀w f,AO X w f H R B Fs→TK P fn σ w v:=λ_ _ _=>A9 hr (Ah h)
end
section
variable{P:Program}{n:Nat}{Q:AT}{ds:List Deferred}{X:Cx}{R:List RB}{B:List FB}{Fs:List (World→Fq→Prop)}{fs:List Fr}{σ:Ba}{H Hk:List HB}{l:List Oper}
variable {id:Nat}
theorem Cv(ix:List Nat)(hm:P.follows .mixedOrders=true)(t:OT)(hk:L0 H ix=some Hk)(hok:(t.ok l.toArray true (Array.replicate l.length false)&&(t.even true l.length&&Region.noSelect l.toArray))=true) 
   (h:CN P n (Lz P n Q fs) ds X R B Fs l Hk B (λ_=>True) true t σ H) (hpi:PI Q:=by exact λ_ _ _ _ _ h=>h):A3 P n Q ds X R B Fs (.code (.region id l.toArray true)) fs σ H:=by
 simp only[Bool.and_eq_true] at hok;exact Ki (λ_=>True) (λ_ _ _ _=>trivial) ix hm t hk hok.1 hok.2.1 hok.2.2 hpi h
theorem Au{B0:List FB}{k:OT}(ix:List Nat)(hk:L0 H ix=some Hk)(h:CN P n Q ds X R B0 Fs l Hk B0 (λ_=>True) true k σ H):A3 P n (VR P n l Q (Kp Hk B0 (λ_=>True)) k) ds X R B0 Fs (.out .normal) [] σ H :=
 AW ix (λ_ _ _ _=>trivial) hk (λ_ h=>h) h
theorem CP{k:Kc}(φ:World→Fq→Prop)(h1:∀w f,AO X w f H R B Fs→φ w f)(hm:EY φ)(h:A3 P n Q ds X R B (φ::Fs) k fs σ H):A3 P n Q ds X R B Fs k fs σ H:=λw f hM =>
 h w f (hM.more (B':=[]) (F':=[φ]) (λ_ h=>by cases h) (AE.mem ⟨h1 w f hM,tQ⟩) (Aw.mem ⟨hm,tQ⟩))
variable{all r:List Oper}{ty T:TypeId}{pos:String}{af:Array Edge}{g:Option (Nat×Bool)}{d:Nat}{op:Op}{fid:FuncId}{args:Array Value}
theorem CR{c:Value}(hg:gd all σ g=some true)(hd:Nat.blt d n=true)(he:∀w,Enters P σ op ty w fid args)(hc:∀w f,AO X w f H R B Fs→Bo P fid args w λv w'=>v=c∧AR w w')
   (h:A3 P n Q ds X R B Fs (.ops all r) fs (AA σ d c) H):A3 P n Q ds X R B Fs (.ops all (⟨some d,op,ty,pos,af,g⟩::r)) fs σ H :=
 Br (α:=Unit) (val:=λ_=>c) (q:=λ_=>True) (F':=λ_=>[]) hg hd he (λw f hM=>(hc w f hM).mono λ_ _ ⟨h1,h2⟩=>⟨(),f,h1,tQ,C2.of_ext h2 hM.val,tQ⟩) (λ_=>trivial) (λ_ _=>h)
end
theorem oE{α:Type}{p:α→Prop}{a:α}(h:p a):∀e,e∈[a]→p e:=λe he=>by
 cases he with
 |head=>exact h
 |tail _ h=>cases h
end Go.SW
namespace Go.SW
open Go.RowKit Go.SP
variable {f:Fq}{co ln nm:Int}{j:Nat}{r:Nd}{w:World}{φ:World→Fq→Prop}
theorem AO.fn{X:Cx}{H:List HB}{R:List RB}{B:List FB}{Fs:List (World→Fq→Prop)}(h:AO X w f H R B Fs)(hj:nth Fs j=some φ):φ w f:=h.fac _ (by rw[Ek] at hj;exact List.mem_of_getElem? hj)
section
variable{P:Program}{n:Nat}{Q:AT}{ds:List Deferred}{X:Cx}{R:List RB}{B:List FB}{Fs:List (World→Fq→Prop)}{fs:List Fr}{σ:Ba}{H:List HB}{k:Kc}{na:Option Addr}{i c:Nat}
theorem HD{op:Int}{tx:lU}{q:Nd}(j:Nat)(hj:nth Fs j=some (λw f=>AU w f na i (.cons op ln co tx nm q r)))
   (h:∀x:Nat×Nat×Option Addr×Nat,na=some ⟨x.1,x.2.1,none⟩→A3 P n Q ds X R (⟨x.1,x.2.1+i*6,Kd op ln co tx nm x.2.2.1 q.len x.2.2.2⟩::B) ((λw f=>AD w f q x.2.2.1 x.2.2.2)::(λw f=>AU w f na (i+1) r)::Fs) k fs σ H):A3 P n Q ds X R B Fs k fs σ H :=
 Kb (α:=Nat×Nat×Option Addr×Nat) (λx=>na=some ⟨x.1,x.2.1,none⟩) (λ_=>[_]) (λ_=>[_,_]) (λ_ _ hM=>let ⟨b,off,ka,kc,h1,h2,h3,h4⟩:=AU.head (hM.fn hj);⟨(b,off,ka,kc),h1,oE h2,AE.mem ⟨h3,h4,tQ⟩⟩) (λ_=>Aw.mem ⟨AD.mono,AU.mono,tQ⟩) h
theorem uY{x:Nd}(j:Nat)(hj:nth Fs j=some (λw f=>AD w f x na c))(h:A3 P n Q ds X R B ((λw f=>AU w f na 0 x)::Fs) k fs σ H):A3 P n Q ds X R B Fs k fs σ H:=CP _ (λ_ _ hM=>AD.at (hM.fn hj)) AU.mono h
theorem Xo{x y:Nd}(j:Nat)(hj:nth Fs j=some (λw f=>AD w f x na c))(e:x=y)(h:A3 P n Q ds X R B ((λw f=>AU w f na 0 y)::Fs) k fs σ H):A3 P n Q ds X R B Fs k fs σ H:=CP _ (λ_ _ hM=>by rw[← e];exact AD.at (hM.fn hj)) AU.mono h
theorem WN{t:T1}{r:Ty}(j:Nat)(hj:nth Fs j=some (λw f=>BI w f na i (t.cons r)))
   (h:∀x:Nat×Nat×Option Addr×Nat,na=some ⟨x.1,x.2.1,none⟩→A3 P n Q ds X R (⟨x.1,x.2.1+i*4,tC t x.2.2.1 x.2.2.2⟩::B) ((λw f=>Al w f t.kids x.2.2.1 x.2.2.2)::(λw f=>BI w f na (i+1) r)::Fs) k fs σ H):A3 P n Q ds X R B Fs k fs σ H :=
 Kb (α:=Nat×Nat×Option Addr×Nat) (λx=>na=some ⟨x.1,x.2.1,none⟩) (λ_=>[_]) (λ_=>[_,_]) (λ_ _ hM=>let ⟨b,off,ka,kc,h1,h2,h3,h4⟩:=BI.head (hM.fn hj);⟨(b,off,ka,kc),h1,oE h2,AE.mem ⟨h3,h4,tQ⟩⟩) (λ_=>Aw.mem ⟨Al.mono,BI.mono,tQ⟩) h
theorem kO{l:List Int}{v:Int}(j:Nat)(hj:nth Fs j=some (λw f=>BG w f l na c))(hx:l[i]?=some v)
   (h:∀x:Nat×Nat,na=some ⟨x.1,x.2,none⟩→A3 P n Q ds X R (⟨x.1,x.2+i*1,[.int .i64 v]⟩::B) Fs k fs σ H):A3 P n Q ds X R B Fs k fs σ H :=
 Kb (α:=Nat×Nat) (λx=>na=some ⟨x.1,x.2,none⟩) (λ_=>[_]) (λ_=>[]) (λ_ _ hM=>let ⟨b,off,h1,h2⟩:=BG.get (hM.fn hj) hx;⟨(b,off),h1,oE h2,nE⟩) (λ_=>Aw.mem tQ) h
end
end Go.SW
namespace Go.SW
open Go.RowKit
open Go.SP (Qv)
def R6(T:TypeId)(q:Int×Int→Prop)(w:World)(f:Fq)(c:List PanicEntry)(w':World):Prop:=∃e f',c=Qv T e∧q e∧C2 (λ_=>False) w f w' f'
def YS{α:Type}(e:TypeId)(size:Nat)(n:α→Nat)(xs:α→List Value)(q:α→Prop)(F':α→List (World→Fq→Prop))(w:World)(f:Fq)(v:Value)(w':World):Prop :=
 ∃x a c f',v=.slice a (n x) c∧q x∧C2 (λ_=>False) w f w' f'∧BQ w' e size a c (n x) (xs x)∧(∀b,rb a=some b→w.heap.size≤b∧f' b=0)∧AE (F' x) w' f'
variable {f f':Fq}{pe:Int×Int→Prop}{xs:List Value}{w w':World}
theorem AO.addRow{X:Cx}{H:List HB}{R:List RB}{B:List FB}{Fs:List (World→Fq→Prop)}(h:AO X w f H R B Fs)(hE:C2 (λ_=>False) w f w' f'){e:TypeId}{size c n:Nat}{a:Option Addr}
   (hr:BQ w' e size a c n xs) (hb:∀b,rb a=some b→w.heap.size≤b∧f' b=0):AO X w' f' H (⟨e,size,a,c,n,xs⟩::R) B Fs:=by
 have h1:=h.call0 hE
 cases ha:rb a with
 |none =>
   have ho:C8 H (⟨e,size,a,c,n,xs⟩::R)=C8 H R:=by simp only[C8,List.filterMap_cons,ha]
   exact {h1 with
     row:=λr hm=>by rcases List.mem_cons.1 hm with rfl|hm;exact hr;exact h1.row r hm,
     nd:=by rw[ho];exact h1.nd,
     own:=by rw[ho];exact h1.own,
     rnw:=λr hm b hb=>by rcases List.mem_cons.1 hm with rfl|hm;(rw[ha] at hb;cases hb);exact h1.rnw r hm b hb}
 |some b =>
   obtain⟨hn,hz⟩:=hb b ha;have ho:C8 H (⟨e,size,a,c,n,xs⟩::R)=H.map (·.b)++b::(R.filterMap λr=>rb r.a):=by simp only[C8,List.filterMap_cons,ha]
   have hp:(H.map (·.b)++b::(R.filterMap λr=>rb r.a)).Perm (b::C8 H R):=List.perm_middle;have hw0:X.w0.heap.size≤b:=Nat.le_trans h.stp.size hn
   exact {h1 with
     row:=λr hm=>by rcases List.mem_cons.1 hm with rfl|hm;exact hr;exact h1.row r hm,
     nd:=by rw[ho];exact hp.nodup_iff.2 (List.nodup_cons.2 ⟨λhm=>by have:=h.lt hm;omega,h1.nd⟩),
     own:=λk hk=>by
       rw[ho] at hk;rcases List.mem_cons.1 (hp.mem_iff.1 hk) with rfl|hk
       · exact⟨hz,.inl hw0,λhm=>by have:=(h.mi _ hm).1;omega⟩
       · exact h1.own k hk,
     rnw:=λr hm b' hb'=>by
       rcases List.mem_cons.1 hm with rfl|hm
       · rw[ha] at hb';cases hb';exact hw0
       · exact h1.rnw r hm b' hb' }
section
variable{P:Program}{n:Nat}{Q:AT}{ds:List Deferred}{X:Cx}{R:List RB}{B:List FB}{Fs:List (World→Fq→Prop)}{fs:List Fr}{σ:Ba}{H:List HB}
variable{all r:List Oper}{ty T:TypeId}{pos:String}{af:Array Edge}{g:Option (Nat×Bool)}{d:Nat}{op:Op}{fid:FuncId}{args:Array Value}{α:Type}
theorem Ji{val:α→Value}{q:α→Prop}{F':α→List (World→Fq→Prop)}
   (hg:gd all σ g=some true) (hd:Nat.blt d n=true) (he:∀w,Enters P σ op ty w fid args)
   (hc:∀w f,AO X w f H R B Fs→BD P fid args w (Bx val q F' w f) (R6 T pe w f)) (hm:∀x,Aw (F' x))
   (hp:∀e w' f',pe e→C2 X.M X.w0 X.f0 w' f'→Q.p (Qv T e) σ ds w')
   (h:∀x,q x→A3 P n Q ds X R B (F' x++Fs) (.ops all r) fs (AA σ d (val x)) H):A3 P n Q ds X R B Fs (.ops all (⟨some d,op,ty,pos,af,g⟩::r)) fs σ H:=λw f hM=>by
 refine Bp hg (BX hd (he w) (hc w f hM) ?_ ?_)
 · rintro v w' ⟨x,f',rfl,hq,hE,hF⟩
   exact h x hq w' f' ((hM.call0 hE).more (B':=[]) (λ_ h=>by cases h) hF.mem (hm x).mem)
 · rintro c w' ⟨e,f',rfl,hq,hE⟩
   rw[Lx];exact hp e w' f' hq (hM.call0 hE).exm
theorem kL(hg:gd all σ g=some true)(hd:Nat.blt d n=true)(he:∀w,Enters P σ op ty w fid args)
   (hc:∀w f,AO X w f H R B Fs→BD P fid args w (λ_ _=>False) (R6 T pe w f))
   (hp:∀e w' f',pe e→C2 X.M X.w0 X.f0 w' f'→Q.p (Qv T e) σ ds w'):A3 P n Q ds X R B Fs (.ops all (⟨some d,op,ty,pos,af,g⟩::r)) fs σ H :=
 Ji (α:=Unit) (val:=λ_=>.tuple #[]) (q:=λ_=>False) (F':=λ_=>[]) hg hd he (λw f hM=>(hc w f hM).mono (λ_ _ h=>h.elim) λ_ _ h=>h) (λ_=>trivial) hp (λ_ h=>h.elim)
theorem VY{e:TypeId}{size:Nat}{m:α→Nat}{xs:α→List Value}{q:α→Prop}{F':α→List (World→Fq→Prop)}
   (hg:gd all σ g=some true) (hd:Nat.blt d n=true) (he:∀w,Enters P σ op ty w fid args)
   (hc:∀w f,AO X w f H R B Fs→BD P fid args w (YS e size m xs q F' w f) (R6 T pe w f)) (hm:∀x,Aw (F' x))
   (hp:∀e w' f',pe e→C2 X.M X.w0 X.f0 w' f'→Q.p (Qv T e) σ ds w')
   (h:∀x a c,q x→A3 P n Q ds X (⟨e,size,a,c,m x,xs x⟩::R) B (F' x++Fs) (.ops all r) fs (AA σ d (.slice a (m x) c)) H):A3 P n Q ds X R B Fs (.ops all (⟨some d,op,ty,pos,af,g⟩::r)) fs σ H:=λw f hM=>by
 refine Bp hg (BX hd (he w) (hc w f hM) ?_ ?_)
 · rintro v w' ⟨x,a,c,f',rfl,hq,hE,hr,hb,hF⟩
   exact h x a c hq w' f' ((hM.addRow hE hr hb).more (B':=[]) (λ_ h=>by cases h) hF.mem (hm x).mem)
 · rintro c w' ⟨e,f',rfl,hq,hE⟩
   rw[Lx];exact hp e w' f' hq (hM.call0 hE).exm
end
end Go.SW
namespace Go.SP
open Go.SW Go.RowKit
def WU(w:World)(f:Fq):Fo→Nat→Nat→Prop
 |.nil,_,_=>True
 |.cons t k r,b,off=>(∃a c,Cs w f b off [.int .i64 t.k,.int .i64 t.ln,.int .i64 t.co,.int .i64 t.nm,S t.tx,.slice a k.len c]∧k.len≤c∧(k=.nil∨∃b' off',a=some ⟨b',off',none⟩∧WU w f k b' off'))∧WU w f r b (off+6)
def DG(w:World)(f:Fq)(k:Fo)(a:Option Addr)(c:Nat):Prop:=k.len≤c∧(k=.nil∨∃b off,a=some ⟨b,off,none⟩∧WU w f k b off)
variable {f f':Fq}{co ln nm:Int}{xs ys:List Value}{b:Nat}{w w':World}
theorem WU.mono(hF:Hm w f w' f'):∀(k:Fo)(b off:Nat),WU w f k b off→WU w' f' k b off
 |.nil,_,_,_=>trivial
 |.cons _ k r,b,off,⟨⟨a,c,h1,h2,h3⟩,h4⟩=>⟨⟨a,c,h1.mono hF,h2,h3.imp id λ⟨b',off',h5,h6⟩=>⟨b',off',h5,WU.mono hF k b' off' h6⟩⟩,WU.mono hF r b _ h4⟩
theorem DG.mono{k:Fo}{a:Option Addr}{c:Nat}:EY (λw f=>DG w f k a c):=λ_ _ _ _ h hF=>⟨h.1,h.2.imp id λ⟨b,off,h1,h2⟩=>⟨b,off,h1,WU.mono hF k b off h2⟩⟩
theorem DG.nil(w:World)(f:Fq)(a:Option Addr)(c:Nat):DG w f .nil a c:=⟨Nat.zero_le _,.inl rfl⟩
def EJ(w:World)(f:Fq)(a:Option Addr)(i:Nat)(r:Fo):Prop:=r=.nil∨∃b off,a=some ⟨b,off,none⟩∧WU w f r b (off+i*6)
theorem EJ.mono{a:Option Addr}{i:Nat}{r:Fo}:EY (λw f=>EJ w f a i r):=λ_ _ _ _ h hF=>h.imp id λ⟨b,off,h1,h2⟩=>⟨b,off,h1,WU.mono hF r b _ h2⟩
theorem DG.at{k:Fo}{a:Option Addr}{c:Nat}(h:DG w f k a c):EJ w f a 0 k:=h.2.imp id λ⟨b,off,h1,h2⟩=>⟨b,off,h1,by simpa using h2⟩
def uT(t:AK)(a:Option Addr)(n c:Nat):List Value:=[.int .i64 t.k,.int .i64 t.ln,.int .i64 t.co,.int .i64 t.nm,S t.tx,.slice a n c]
abbrev fV(t:AK)(a:Option Addr)(n c:Nat):Value:=.agg #[.int .i64 t.k,.int .i64 t.ln,.int .i64 t.co,.int .i64 t.nm,S t.tx,.slice a n c]
theorem EJ.head{a:Option Addr}{i:Nat}{t:AK}{k r:Fo}(h:EJ w f a i (.cons t k r)):∃b off ka kc,a=some ⟨b,off,none⟩∧Cs w f b (off+i*6) (uT t ka k.len kc)∧DG w f k ka kc∧EJ w f a (i+1) r:=by
 rcases h with h|⟨b,off,h1,⟨ka,kc,h3,h4⟩,h5⟩
 · cases h
 · exact⟨b,off,ka,kc,h1,h3,h4,.inr ⟨b,off,h1,by rw[show off+(i+1)*6=off+i*6+6 by omega];exact h5⟩⟩
theorem EJ.rest{a:Option Addr}{t:AK}{k r:Fo}{c:Nat}(h:DG w f (.cons t k r) a c):DG w f r (ES a c 6) (c-1):=by
 obtain⟨h1,h2⟩:=h;simp only[Fo.len] at h1;refine⟨oM,?_⟩;rcases h2 with h2|⟨b,off,rfl,h3,h4⟩
 · cases h2
 · by_cases hc:c=1
   · left
     cases r with
     |nil=>rfl
     |cons _ _ _=>simp only[Fo.len] at h1;omega
   · exact .inr ⟨b,off+1*6,by unfold ES;rw[if_neg hc];rfl,h4⟩
def BV(w:World)(f:Fq):Nd→List Value→Prop
 |.nil,xs=>xs=[]
 |.cons op ln co tx nm k r,xs=>∃a c xs',xs=Kd op ln co tx nm a k.len c++xs'∧AD w f k a c∧BV w f r xs'
theorem BV.mono'(hF:Hm w f w' f'):∀(k:Nd)(xs:List Value),BV w f k xs→BV w' f' k xs
 |.nil,_,h=>h
 |.cons _ _ _ _ _ _ r,_,⟨a,c,xs',h1,h2,h3⟩=>⟨a,c,xs',h1,AD.mono _ _ _ _ h2 hF,BV.mono' hF r xs' h3⟩
theorem BV.mono{k:Nd}:EY (λw f=>BV w f k xs):=λ_ _ _ _ h hF=>BV.mono' hF k xs h
theorem BV.app{y:Nd}(hy:BV w f y ys):∀{x:Nd}{xs:List Value},BV w f x xs→BV w f (x.app y) (xs++ys)
 |.nil,xs,h=>by have h:xs=[]:=h;subst h;exact hy
 |.cons _ _ _ _ _ _ r,_,⟨a,c,xs',h1,h2,h3⟩=>⟨a,c,xs'++ys,by rw[h1,List.append_assoc],h2,BV.app hy h3⟩
theorem BV.one{op:Int}{tx:lU}{k:Nd}{a:Option Addr}{c:Nat}(h:AD w f k a c):BV w f (.cons op ln co tx nm k .nil) (Kd op ln co tx nm a k.len c):=⟨a,c,[],by simp,h,rfl⟩
theorem BV.len:∀{k:Nd}{xs:List Value},BV w f k xs→xs.length=k.len*6
 |.nil,xs,h=>by have h:xs=[]:=h;subst h;rfl
 |.cons _ _ _ _ _ _ r,_,⟨a,c,xs',h1,h2,h3⟩=>by subst h1;have:=BV.len h3;simp[Nd.len,Kd,this];omega
theorem BV.toG:∀{k:Nd}{xs:List Value}{off:Nat},BV w f k xs→Cs w f b off xs→NS w f k b off
 |.nil,_,_,_,_=>trivial
 |.cons _ _ _ _ _ k r,_,off,⟨a,c,xs',h1,h2,h3⟩,hC=>by
   subst h1;exact⟨⟨a,c,Cs.le hC,h2⟩,BV.toG h3 (Cs.drop hC)⟩
theorem BV.toF{c:Nat}{k:Nd}(h:BV w f k xs)(hC:Cs w f b 0 xs)(hc:k.len≤c):AD w f k (some ⟨b,0,none⟩) c:=⟨hc,.inr ⟨b,0,rfl,BV.toG h hC⟩⟩
theorem JU{X:Cx}{H:List HB}{R:List RB}{B:List FB}{Fs:List (World→Fq→Prop)}{e:TypeId}{a:Option Addr}{c m:Nat}{k:Nd}(hM:AO X w f H (⟨e,6,a,c,m,xs⟩::R) B Fs)(hL:BV w f k xs):∃f',AO X w f' H R B Fs∧AD w f' k a c:=by
 have hr:=hM.row _ (.head _);have hlen:=BV.len hL;have hm:m=k.len:=by have:=hr.1;simp only at this;omega
 rcases hr.2 with ⟨_,_,h⟩|⟨b,l,ha,_,hmc,_⟩
 · simp only at h
   have h0:k=.nil:=by
     cases k with
     |nil=>rfl
     |cons _ _ _ _ _ _ _=>simp only[Nd.len] at hm;omega
   exact⟨f,hM.less (List.Sublist.refl _) (List.sublist_cons_self _ _) (λ_ h=>h) (λ_ h=>h),by rw[h0];exact⟨Nat.zero_le _,.inl rfl⟩⟩
 · simp only at ha hmc
   subst ha;obtain⟨f',hM'⟩:=(hM.more (B':=[]) (F':=[λw f=>BV w f k xs]) (λ_ h=>by cases h) (AE.mem ⟨hL,tQ⟩) (Aw.mem ⟨BV.mono,tQ⟩)).done (i:=0) rfl rfl;exact⟨f',hM'.less (List.Sublist.refl _) (List.Sublist.refl _) (λe he=>.tail _ he) (λφ h=>.tail _ h),BV.toF (hM'.fact (i:=0) rfl) (hM'.fro _ (.head _)) oM⟩
end Go.SP
namespace Go.SP
open Go.SW Go.RowKit
theorem Nd.app_len:∀x y:Nd,(x.app y).len=x.len+y.len
 |.nil,y=>by simp[Nd.app,Nd.len]
 |.cons _ _ _ _ _ _ r,y=>by simp only[Nd.app,Nd.len,Nd.app_len r y];omega
section
variable{m:AK→Fo→R N}{t:AK}{k r:Fo}{a:N}{dn:Nd}{e:Int×Int}
theorem TJ(h:m t k=.ok a):(match Bk m (.cons t k r) with|.error e=>.error e|.ok b=>.ok (dn.app b):R Nd)=(match Bk m r with|.error e=>.error e|.ok b=>.ok ((dn.app a.one).app b)):=by
 simp only[Bk,h]
 cases Bk m r with
 |error e=>rfl
 |ok b=>simp only[Nd.app_assoc];rfl
theorem Wb(h:m t k=.error e):(match Bk m (.cons t k r) with|.error e=>.error e|.ok b=>.ok (dn.app b):R Nd)=.error e:=by simp only[Bk,h]
theorem Rm{l:Fo}:Bk m l=(match Bk m l with|.error e=>.error e|.ok b=>.ok (Nd.nil.app b)):=by cases Bk m l <;> rfl
end
theorem Fo.cases1:∀r:Fo,0<r.len→∃t k q,r=.cons t k q
 |.nil,h=>by cases h
 |.cons t k q,_=>⟨t,k,q,rfl⟩
theorem Fo.len0:∀{r:Fo},r.len=0→r=.nil
 |.nil,_=>rfl
 |.cons _ _ _,h=>by simp[Fo.len] at h
abbrev H8(x:R N)(w:World)(f:Fq):Value→World→Prop:=Bx (α:=N×Option Addr×Nat) (λy=>nV y.1.op y.1.ln y.1.co y.1.tx y.1.nm y.1.kids y.2.1 y.2.2) (λy=>x=.ok y.1) (λy=>[λw f=>AD w f y.1.kids y.2.1 y.2.2]) w f
abbrev HM(T:TypeId)(x:R N)(w:World)(f:Fq):List PanicEntry→World→Prop:=R6 T (λe=>x=.error e) w f
end Go.SP
namespace Go.SP
open Go.SW Go.RowKit
variable {f:Fq}{w w':World}
theorem YS.fro{T:TypeId}{q:Nd×List Value→Prop}{v:Value}(hv:Vl w f)(h:YS T 6 (λx:Nd×List Value=>x.1.len) (λx=>x.2) q (λx=>[λw f=>BV w f x.1 x.2]) w f v w') :
   Bx (α:=(Nd×List Value)×Option Addr×Nat) (λy=>.slice y.2.1 y.1.1.len y.2.2) (λy=>q y.1) (λy=>[λw f=>AD w f y.1.1 y.2.1 y.2.2]) w f v w':=by
 obtain⟨x,a,c,f',h1,h2,h3,h4,h5,h6,-⟩:=h;have hM:=(BS hv (Fs:=[]) tQ tQ).addRow h3 h4 h5;obtain⟨f2,hM2,h7⟩:=JU hM h6;exact⟨(x,a,c),f2,h1,h2,hM2.exm,h7,tQ⟩
end Go.SP
namespace Go.SP
open Go.SW Go.RowKit
variable {lo x:Operand}{w:World}
theorem GK{P:Program}{σ:Ba}{ty T e:TypeId}{k len m c:Nat}{a:Option Addr}(hl:len=m+1)(hx:ev σ x=some (.slice a len c))(hlo:ev σ lo=some (.int .i64 1))(hs:Ih P T=some (e,k)):AG P σ (.slice T x (some lo) none none) ty w (.slice (ES a c k) m (c-1)) w:=by
 subst hl;exact U7 hx hlo hs
end Go.SP
namespace Go.SP
open Go.SW Go.RowKit
variable {f:Fq}{xs:List Value}{w:World}
theorem BV.one':∀{k:Nd}{xs:List Value},BV w f k xs→∀v∈xs,v.oneCell'=true
 |.nil,xs,h,v,hv=>by have h:xs=[]:=h;subst h;cases hv
 |.cons _ _ _ _ _ _ r,_,⟨a,c,xs',h1,h2,h3⟩,v,hv=>by
   subst h1;rcases List.mem_append.1 hv with hv|hv
   · simp only[Kd,List.mem_cons,List.not_mem_nil,or_false] at hv
     rcases hv with rfl|rfl|rfl|rfl|rfl|rfl <;> rfl
   · exact BV.one' h3 v hv
theorem BV.cons'{nd:N}{r:Nd}{a:Option Addr}{c:Nat}(h:AD w f nd.kids a c)(hr:BV w f r xs):BV w f (nd.cons r) (Kd nd.op nd.ln nd.co nd.tx nd.nm a nd.kids.len c++xs):=⟨a,c,xs,rfl,h,hr⟩
theorem Fo.two:∀l:Fo,(∃p pk b bk,l=.cons p pk (.cons b bk .nil))∨l.len≠2
 |.nil=>.inr (by simp[Fo.len])
 |.cons _ _ .nil=>.inr (by simp[Fo.len])
 |.cons p pk (.cons b bk .nil)=>.inl ⟨p,pk,b,bk,rfl⟩
 |.cons _ _ (.cons _ _ (.cons _ _ r))=>.inr (by simp only[Fo.len];omega)
theorem Fo.three:∀l:Fo,(∃p pk b bk c ck,l=.cons p pk (.cons b bk (.cons c ck .nil)))∨l.len≠3
 |.nil=>.inr (by simp[Fo.len])
 |.cons _ _ .nil=>.inr (by simp[Fo.len])
 |.cons _ _ (.cons _ _ .nil)=>.inr (by simp[Fo.len])
 |.cons p pk (.cons b bk (.cons c ck .nil))=>.inl ⟨p,pk,b,bk,c,ck,rfl⟩
 |.cons _ _ (.cons _ _ (.cons _ _ (.cons _ _ r)))=>.inr (by simp only[Fo.len];omega)
theorem Fo.single:∀l:Fo,(∃p pk,l=.cons p pk .nil)∨l.len≠1
 |.nil=>.inr (by simp[Fo.len])
 |.cons p pk .nil=>.inl ⟨p,pk,rfl⟩
 |.cons _ _ (.cons _ _ r)=>.inr (by simp only[Fo.len];omega)
section
variable{n:Nat}{ex:AK→Fo→R N}{t:AK}{l:Fo}
theorem pU(h:l.len≠2):Bj n ex t [102,110] l=.error (t.ln,t.co):=by
 unfold Bj;rw[if_pos (by decide)]
 split
 · simp[Fo.len] at h
 · rfl
theorem nD(h:l.len≠3):Bj n ex t [108,101,116] l=.error (t.ln,t.co):=by
 unfold Bj;rw[if_neg (by decide),if_pos (by decide)]
 split
 · simp[Fo.len] at h
 · rfl
theorem gX(h:l.len≠3):Bj n ex t [114,101,99] l=.error (t.ln,t.co):=by
 unfold Bj;rw[if_neg (by decide),if_neg (by decide),if_pos (by decide)]
 split
 · simp[Fo.len] at h
 · rfl
theorem ZH{w:lU}(hw:w=[114,97,105,115,101]∨w=[116,114,97,110,115,97,99,116])(h:l.len≠1):Bj n ex t w l=.error (t.ln,t.co):=by
 unfold Bj;rw[if_neg (by rcases hw with rfl|rfl <;> decide),if_neg (by rcases hw with rfl|rfl <;> decide),if_neg (by rcases hw with rfl|rfl <;> decide),if_neg (by rcases hw with rfl|rfl <;> decide),if_neg (by rcases hw with rfl|rfl <;> decide),if_neg (by rcases hw with rfl|rfl <;> decide),if_neg (by rcases hw with rfl|rfl <;> decide),if_pos (by rcases hw with rfl|rfl <;> decide)]
 split
 · simp[Fo.len] at h
 · rfl
end
end Go.SP
namespace Go.SW
open Go.RowKit Go.SP
section
variable{P:Program}{n:Nat}{Q:AT}{ds:List Deferred}{X:Cx}{R:List RB}{B:List FB}{Fs:List (World→Fq→Prop)}{fs:List Fr}{σ:Ba}{H:List HB}{k:Kc}{na:Option Addr}{i c:Nat}{t:AK}{q r:Fo}
theorem Mh(j:Nat)(hj:nth Fs j=some (λw f=>EJ w f na i (.cons t q r)))
   (h:∀x:Nat×Nat×Option Addr×Nat,na=some ⟨x.1,x.2.1,none⟩→A3 P n Q ds X R (⟨x.1,x.2.1+i*6,uT t x.2.2.1 q.len x.2.2.2⟩::B) ((λw f=>DG w f q x.2.2.1 x.2.2.2)::(λw f=>EJ w f na (i+1) r)::Fs) k fs σ H):A3 P n Q ds X R B Fs k fs σ H :=
 Kb (α:=Nat×Nat×Option Addr×Nat) (λx=>na=some ⟨x.1,x.2.1,none⟩) (λ_=>[_]) (λ_=>[_,_]) (λ_ _ hM=>let ⟨b,off,ka,kc,h1,h2,h3,h4⟩:=EJ.head (hM.fn hj);⟨(b,off,ka,kc),h1,oE h2,AE.mem ⟨h3,h4,tQ⟩⟩) (λ_=>Aw.mem ⟨DG.mono,EJ.mono,tQ⟩) h
variable {b o:Nat}
theorem WW(j:Nat)(hj:nth Fs j=some (λw f=>EJ w f (some ⟨b,o,none⟩) i (.cons t q r)))
   (h:∀x:Option Addr×Nat,A3 P n Q ds X R (⟨b,o+i*6,uT t x.1 q.len x.2⟩::B) ((λw f=>DG w f q x.1 x.2)::(λw f=>EJ w f (some ⟨b,o,none⟩) (i+1) r)::Fs) k fs σ H):A3 P n Q ds X R B Fs k fs σ H :=
 Mh j hj λx e=>by
   obtain⟨b',o',ka,kc⟩:=x
   cases e
   exact h (ka,kc)
theorem OX{x:Fo}(j:Nat)(hj:nth Fs j=some (λw f=>DG w f x na c))(h:A3 P n Q ds X R B ((λw f=>EJ w f na 0 x)::Fs) k fs σ H):A3 P n Q ds X R B Fs k fs σ H:=CP _ (λ_ _ hM=>DG.at (hM.fn hj)) EJ.mono h
theorem iD(j:Nat)(hj:nth Fs j=some (λw f=>DG w f (.cons t q r) na c))(h:A3 P n Q ds X R B ((λw f=>DG w f r (ES na c 6) (c-1))::Fs) k fs σ H):A3 P n Q ds X R B Fs k fs σ H:=CP _ (λ_ _ hM=>EJ.rest (hM.fn hj)) DG.mono h
end
end Go.SW
namespace Go.SW
open Go.RowKit
def vX(w:World)(e:FB):Prop:=∀j v,e.l[j]?=some v→w.cell? ⟨e.b,e.off+j,none⟩=some v
def BK(w:World):List FB→Prop
 | []=>True
 |e::l=>vX w e∧BK w l
theorem Ar(w:World):BK w []:=trivial
variable {σ:Ba}{l:List Value}{b:Nat}{T:TypeId}
theorem kB{w:World}{B:List FB}(h:AI w b l T)(hB:BK w B):BK w (⟨b,0,l⟩::B) :=
 ⟨λj v hj=>by rw[h.cell,Nat.zero_add];exact hj,hB⟩
theorem BK.get{w:World}:∀{B:List FB}{i:Nat}{e:FB},BK w B→nth B i=some e→vX w e
 |_::_,0,_,h,hg=>by cases hg;exact h.1
 |_::B,i+1,e,h,hg=>BK.get (B:=B) h.2 hg
section
variable(P:Program)(n:Nat)(Q:AT)(ds:List Deferred)(w:World)(B:List FB)(tb:Vr)
def sA(k:Kc)(fs:List Fr)(σ:Ba):Prop:=match k with
 |.code c=>GU P n c (Lz P n Q fs) σ ds w
 |.ops all l=>G2 P n all.toArray (Lz P n Q fs) l σ ds w
 |.out e=>(Lz P n Q fs).q e σ ds w
def II:Nat→List Nat→Kc→List Fr→Ba→Prop
 |0,_,k,fs,σ=>True→sA P n Q ds w k fs σ
 |m+1,hs,.code c,fs,σ=>(match c with
   |.skip=>II m hs (.out .normal) fs σ
   |.ret=>II m hs (.out .ret) fs σ
   |.exit i=>II m hs (.out (.exit i)) fs σ
   |.seq a b=>II m hs (.code a) (.sq b::fs) σ
   |.block i a=>II m hs (.code a) (.bk i::fs) σ
   |.region _ ⟨l⟩ false=>II m hs (.ops l l) fs σ
   |.cond x a b=>(match ev σ x with
     |some (.bool true)=>II m hs (.code a) fs σ
     |some (.bool false)=>II m hs (.code b) fs σ
     |_=>False)
   |_=>False)
 |m+1,hs,.out e,fs,σ=>(match fs with
   | []=>False
   |.sq y::fs=>(match e with
     |.normal=>II m hs (.code y) fs σ
     |.ret=>II m hs (.out .ret) fs σ
     |.exit i=>II m hs (.out (.exit i)) fs σ
     |_=>False)
   |.bk i::fs=>(match e with
     |.normal=>II m hs (.out .normal) fs σ
     |.ret=>II m hs (.out .ret) fs σ
     |.exit j=>(match Nat.beq j i with
       |true=>II m hs (.out .normal) fs σ
       |false=>II m hs (.out (.exit j)) fs σ)
     |_=>False))
 |m+1,hs,.ops all [],fs,σ=>II m hs (.out .normal) fs σ
 |m+1,hs,.ops all (⟨dst,op,ty,pos,af,g⟩::r),fs,σ=>(match gd all σ g with
   |none=>False
   |some false=>(match dst with
     |some d=>(match Nat.blt d n with
       |true=>II m hs (.ops all r) fs (AA σ d undef)
       |false=>False)
     |none=>False)
   |some true=>(match dst with
     |none=>False
     |some d=>(match Nat.blt d n with|false=>False|true=>(match op with
       |.load T x=>(match hs with
         |h::q::hs=>(match ev σ x,nC tb.ti T with
           |some (.pointer (some ⟨b,o,none⟩)),some (a,k)=>(match nth B h with
             |some ⟨b',off,l⟩=>(match a with
               |false=>(match nth l q with
                 |some v=>(b'=b∧off+q=o)∧II m hs (.ops all r) fs (AA σ d v)
                 |none=>False)
               |true=>(match SD l q k with
                 |some vs=>(b'=b∧off+q=o)∧II m hs (.ops all r) fs (AA σ d (.agg ⟨vs⟩))
                 |none=>False))
             |none=>False)
           |_,_=>False)
         |_=>False)
       |.indexAddr T x y=>(match ev σ x,ev σ y,Vc tb.sl T with
         |some (.slice (some ⟨b,o,none⟩) len _),some (.int _ i),some (_,k)=>(0≤i∧i<len)∧II m hs (.ops all r) fs (AA σ d (.pointer (some ⟨b,o+i.toNat*k,none⟩)))
         |_,_,_=>False)
       |.index T x y=>(match ev σ x,ev σ y,oK tb.st T with
         |some (.string ⟨⟨s⟩⟩),some (.int _ i),true=>(0≤i∧i<s.length)∧∀c,s[i.toNat]?=some c→II m hs (.ops all r) fs (AA σ d (.int .u8 c.toNat))
         |_,_,_=>False)
       |.binOp .add T x y T'=>(match ev σ x,ev σ y with
         |some (.int .i64 a),some (.int .i64 b)=>PV (a+b)∧II m hs (.ops all r) fs (AA σ d (.int .i64 (a+b)))
         |_,_=>False)
       |.binOp .sub T x y T'=>(match ev σ x,ev σ y with
         |some (.int .i64 a),some (.int .i64 b)=>PV (a-b)∧II m hs (.ops all r) fs (AA σ d (.int .i64 (a-b)))
         |_,_=>False)
       |op=>(match pv tb σ op with
         |some v=>II m hs (.ops all r) fs (AA σ d v)
         |none=>False)))))
end
section
variable{P:Program}{n:Nat}{Q:AT}{ds:List Deferred}{w:World}{B:List FB}{tb:Vr}
theorem Ft(ht:tb.Ok P)(hB:BK w B):∀(m:Nat)(hs:List Nat)(k:Kc)(fs:List Fr)(σ:Ba),II P n Q ds w B tb m hs k fs σ→sA P n Q ds w k fs σ
 |0,_,_,_,_,h=>h tQ
 |m+1,hs,.code c,fs,σ,h=>by
   have ih:=Ft ht hB m;unfold II at h
   split at h
   · exact H2 (ih _ _ _ _ h)
   · exact Jt (ih _ _ _ _ h)
   · exact K7 (ih _ _ _ _ h)
   · exact BR (ih _ _ _ _ h)
   · exact DP (ih _ _ _ _ h)
   · exact Cz (ih _ _ _ _ h)
   · split at h
     · rename_i hx;exact F4 hx rfl (ih _ _ _ _ h)
     · rename_i hx;exact Jo hx rfl (ih _ _ _ _ h)
     · exact h.elim
   · exact h.elim
 |m+1,hs,.out e,fs,σ,h=>by
   have ih:=Ft ht hB m;unfold II at h
   split at h
   · exact h.elim
   · split at h
     · exact Dh (ih _ _ _ _ h)
     · exact Vg (ih _ _ _ _ h)
     · exact UM (ih _ _ _ _ h)
     · exact h.elim
   · split at h
     · exact D4 (ih _ _ _ _ h)
     · exact UL (ih _ _ _ _ h)
     · split at h
       · rename_i hb
         have e:=Nat.eq_of_beq_eq_true hb;subst e;exact Oo (ih _ _ _ _ h)
       · rename_i hb;exact fC hb (ih _ _ _ _ h)
     · exact h.elim
 |m+1,hs,.ops all [],fs,σ,h=>by
   unfold II at h;exact Ae (Ft ht hB m _ _ _ _ h)
 |m+1,hs,.ops all (⟨dst,op,ty,pos,af,g⟩::r),fs,σ,h=>by
   have ih:=Ft ht hB m;unfold II at h
   split at h
   · exact h.elim
   · rename_i hg
     split at h
     · split at h
       · rename_i hd;exact MB hg hd (ih _ _ _ _ h)
       · exact h.elim
     · exact h.elim
   · rename_i hg
     refine Bp hg ?_
     split at h
     · exact h.elim
     · split at h
       · exact h.elim
       rename_i hd
       split at h
       · split at h
         · split at h
           · rename_i hx hT
             split at h
             · rename_i hB'
               have hc:=hB.get hB'
               split at h
               · split at h
                 · rename_i v hv
                   obtain⟨⟨rfl,rfl⟩,h⟩:=h;rw[Ek] at hv;exact Ab hd (Iw hx (FQ ht.ti hT) (hc _ v hv)) (ih _ _ _ _ h)
                 · exact h.elim
               · split at h
                 · rename_i vs hv
                   obtain⟨⟨rfl,rfl⟩,h⟩:=h;obtain⟨hk,hg2⟩:=P2 hv;exact Ab hd (K2 hx (FQ ht.ti hT) hk (λj v hj=>by have:=hc _ v (hg2 j v hj);rwa[← Nat.add_assoc] at this)) (ih _ _ _ _ h)
                 · exact h.elim
             · exact h.elim
           · exact h.elim
         · exact h.elim
       · split at h
         · rename_i hx hy hT
           exact Ab hd (M0 hx hy (JP ht.sl hT) h.1) (ih _ _ _ _ h.2)
         · exact h.elim
       · split at h
         · rename_i s _ i hx hy hT
           obtain⟨h1,h⟩:=h;have hlt:i.toNat<s.length:=oM;exact Ab hd (Dk hx hy (Po ht.st hT) h1.1 (List.getElem?_eq_getElem hlt)) (ih _ _ _ _ (h _ (List.getElem?_eq_getElem hlt)))
         · exact h.elim
       · split at h
         · rename_i hx hy
           exact Ab hd (Nf hx hy h.1) (ih _ _ _ _ h.2)
         · exact h.elim
       · split at h
         · rename_i hx hy
           exact Ab hd (GD hx hy h.1) (ih _ _ _ _ h.2)
         · exact h.elim
       · split at h
         · rename_i v hv
           exact Ab hd (Qk ht hv) (ih _ _ _ _ h)
         · exact h.elim
theorem gL{all r:List Oper}(fs:List Fr)(ht:tb.Ok P)(m:Nat)(hs:List Nat)(hB:BK w B)(h:II P n Q ds w B tb m hs (.ops all r) fs σ):G2 P n all.toArray (Lz P n Q fs) r σ ds w:=Ft ht hB m hs _ fs σ h
theorem gP{c:Code}(fs:List Fr)(ht:tb.Ok P)(m:Nat)(hs:List Nat)(hB:BK w B)(h:II P n Q ds w B tb m hs (.code c) fs σ):GU P n c (Lz P n Q fs) σ ds w:=Ft ht hB m hs _ fs σ h
theorem gQ{e:Exit}(fs:List Fr)(ht:tb.Ok P)(m:Nat)(hs:List Nat)(hB:BK w B)(h:II P n Q ds w B tb m hs (.out e) fs σ):(Lz P n Q fs).q e σ ds w:=Ft ht hB m hs _ fs σ h
theorem sL{all:Array Oper}{r:List Oper}{Q:AT}{b:Bool}(t:Nat)(hx:σ t=some (.bool b))(h1:b=true→G2 P n all Q r (AA σ t (.bool true)) ds w)(h2:b=false→G2 P n all Q r (AA σ t (.bool false)) ds w):G2 P n all Q r σ ds w:=by
 cases b with
 |true=>exact λa ha=>h1 rfl a (ha.le (A6 (le_refl _) hx))
 |false=>exact λa ha=>h2 rfl a (ha.le (A6 (le_refl _) hx))
theorem sP{c:Code}{Q:AT}{b:Bool}(t:Nat)(hx:σ t=some (.bool b))(h1:b=true→GU P n c Q (AA σ t (.bool true)) ds w)(h2:b=false→GU P n c Q (AA σ t (.bool false)) ds w):GU P n c Q σ ds w:=by
 cases b with
 |true=>exact My (A6 (le_refl _) hx) (h1 rfl)
 |false=>exact My (A6 (le_refl _) hx) (h2 rfl)
theorem kP{c:Code}{Q:AT}{b:Bool}(t:Nat)(c':Bool)(hx:σ t=some (.bool b))(hb:b=c')(h:GU P n c Q (AA σ t (.bool c')) ds w):GU P n c Q σ ds w:=by
 subst hb;exact My (A6 (le_refl _) hx) h
end
def rK(σ0:Ba)(I:World→Prop)(ds0:List Deferred)(Q:AT):AT :=
 {q:=λe σ ds w=>match e with|.normal=>Le σ0 σ∧ds=ds0∧I w|e=>Q.q e σ ds w,p:=Q.p}
theorem Pl{P:Program}{n:Nat}{Q:AT}{ds:List Deferred}{w:World}{x y:Code}(σ0:Ba)(I:World→Prop)(h1:GU P n x (rK σ0 I ds Q) σ ds w)(h2:∀w',I w'→GU P n y Q σ0 ds w'):GU P n (.seq x y) Q σ ds w :=
 BR λa ha=>wp_mono (h1 a ha) λe a' w' he=>by
   cases e with
   |normal=>obtain⟨σ',ds',hs,hl,rfl,hI⟩:=he;exact⟨σ',_,hs,My hl (h2 w' hI)⟩
   |panic c=>exact he
   |outgrown=>exact he
   |ret=>exact he
   |exit i=>exact he
   |goto i=>exact he
theorem Ou{σ0:Ba}{I:World→Prop}{ds:List Deferred}{Q:AT}{w:World}(hl:Le σ0 σ)(h:I w):(rK σ0 I ds Q).q .normal σ ds w:=⟨hl,rfl,h⟩
end Go.SW
namespace Go.Proofs.YtelmolopaolbcaaGreatDoor
open Go.SW Go.RowKit Go.Proofs.Tryz
theorem Ly:Lb prog 54=some (3,1,8,[.int .i64 0]):=kR
theorem CU:Lb prog 72=some (76,4,56,[.int .i64 0,.int .i64 0,.string ⟨#[]⟩,.slice none 0 0]):=kR
theorem QS:Lb prog 96=some (9,1,16,[.string ⟨#[]⟩]):=kR
theorem UI:bQ prog 3 21=some .i32:=kR
theorem Bu:B3 prog 28:=Am func28 kR kR
theorem Df:B3 prog 55:=Am func55 kR kR
theorem GH:B3 prog 56:=Am func56 kR kR
theorem Yq:B3 prog 61:=Am func61 kR kR
theorem KM:B3 prog 63:=Am func63 kR kR
theorem mP:B3 prog 67:=Am func67 kR kR
theorem Xj:B3 prog 68:=Am func68 kR kR
theorem XJ:B3 prog 73:=Am func73 kR kR
theorem YM:B3 prog 84:=Am func84 kR kR
theorem Qs:B3 prog 85:=Am func85 kR kR
theorem YI:B3 prog 87:=Am func87 kR kR
theorem Xp:B3 prog 93:=Am func93 kR kR
theorem lI:B3 prog 95:=Am func95 kR kR
theorem YH:B3 prog 96:=Am func96 kR kR
theorem Tg:B3 prog 97:=Am func97 kR kR
theorem Gj:B3 prog 116:=Am func116 kR kR
theorem P3:B3 prog 117:=Am func117 kR kR
theorem Mb:B3 prog 121:=Am func121 kR kR
theorem cD:B3 prog 122:=Am func122 kR kR
theorem dV:B3 prog 140:=Am func140 kR kR
theorem cS:ED prog 76 0=some 0:=kR
theorem bP:ED prog 76 1=some 1:=kR
theorem dM:ED prog 76 2=some 2:=kR
theorem aV:ED prog 76 3=some 3:=kR
theorem YU:ED prog 163 0=some 0:=kR
theorem ZZ:ED prog 163 1=some 1:=kR
theorem Xz:ED prog 163 2=some 2:=kR
theorem cA:jK prog 21 9=true:=kR
theorem Mf:FD prog 139=some (3,4):=kR
theorem Yg:FD prog 144=some (3,9):=kR
theorem TV:FD prog 161=some (3,76):=kR
theorem Ak:prog.follows .mixedOrders=true:=kR
theorem pI:LB prog 76=some [(0,1),(1,1),(2,1),(3,1)]:=kR
theorem jW:LB prog 163=some [(0,1),(1,1),(2,1)]:=kR
theorem qC:Ih prog 54=some (3,1):=kR
theorem RL:Ih prog 72=some (76,4):=kR
theorem rR:Ih prog 96=some (9,1):=kR
theorem Hz:AM prog 3=some (false,1):=kR
theorem Zw:AM prog 9=some (false,1):=kR
theorem OM:AM prog 54=some (false,1):=kR
theorem Y9:AM prog 72=some (false,1):=kR
theorem AV:AM prog 76=some (true,4):=kR
theorem Sx:AM prog 161=some (false,1):=kR
theorem NX:prog.underlying 3=some (.int .i64):=kR
theorem rT:prog.underlying 79=some (.pointer 163):=kR
theorem eO:zO prog 4=some (.bool false):=kR
theorem vJ:zO prog 9=some (.string ⟨#[]⟩):=kR
theorem MJ:zO prog 76=some (.agg #[.int .i64 0,.int .i64 0,.string ⟨#[]⟩,.slice none 0 0]):=kR
theorem vC:GP prog 3=some [.int .i64 0]:=kR
theorem uH:GP prog 9=some [.string ⟨#[]⟩]:=kR
theorem pH:GP prog 54=some [.slice none 0 0]:=kR
theorem sY:GP prog 76=some [.int .i64 0,.int .i64 0,.string ⟨#[]⟩,.slice none 0 0]:=kR
theorem lM:GP prog 163=some [.map none,.int .i64 0,.int .i64 0]:=kR
theorem Eh:B3 prog 24:=Am func24 kR kR
theorem FN:B3 prog 26:=Am func26 kR kR
theorem C6:B3 prog 27:=Am func27 kR kR
theorem HQ:B3 prog 29:=Am func29 kR kR
theorem SA:B3 prog 30:=Am func30 kR kR
theorem Fk:B3 prog 33:=Am func33 kR kR
theorem Pm:B3 prog 58:=Am func58 kR kR
theorem oG:B3 prog 59:=Am func59 kR kR
theorem nL:B3 prog 60:=Am func60 kR kR
theorem kC:B3 prog 62:=Am func62 kR kR
theorem XT:B3 prog 64:=Am func64 kR kR
theorem jZ:B3 prog 65:=Am func65 kR kR
theorem JE:B3 prog 66:=Am func66 kR kR
theorem P7:B3 prog 69:=Am func69 kR kR
theorem Yf:B3 prog 89:=Am func89 kR kR
theorem Qp:B3 prog 92:=Am func92 kR kR
theorem kT:B3 prog 94:=Am func94 kR kR
theorem eL:B3 prog 114:=Am func114 kR kR
theorem OZ:B3 prog 118:=Am func118 kR kR
theorem OV:B3 prog 119:=Am func119 kR kR
theorem cX:B3 prog 136:=Am func136 kR kR
theorem aH:ED prog 74 0=some 0:=kR
theorem aK:ED prog 74 1=some 1:=kR
theorem aX:ED prog 74 2=some 3:=kR
theorem eI:ED prog 74 4=some 5:=kR
theorem cY:ED prog 84 0=some 0:=kR
theorem dU:ED prog 84 1=some 1:=kR
theorem ZI:ED prog 120 0=some 0:=kR
theorem XP:ED prog 120 1=some 1:=kR
theorem Xu:ED prog 120 2=some 5:=kR
theorem X6:ED prog 128 0=some 0:=kR
theorem Zp:ED prog 128 1=some 4:=kR
theorem ZA:ED prog 130 0=some 0:=kR
theorem Yh:ED prog 130 1=some 1:=kR
theorem Zc:ED prog 130 2=some 6:=kR
theorem OI:FD prog 80=some (9,120):=kR
theorem pV:oN prog 67=true:=kR
theorem qM:LB prog 67=some [(0,2),(2,1)]:=kR
theorem iG:LB prog 128=some [(0,4),(4,1)]:=kR
theorem mK:LB prog 130=some [(0,1),(1,5),(6,1)]:=kR
theorem N3:Ih prog 46=some (74,6):=kR
theorem Ex:AM prog 27=some (true,2):=kR
theorem Iu:AM prog 46=some (false,1):=kR
theorem qQ:AM prog 69=some (false,1):=kR
theorem B4:AM prog 74=some (true,6):=kR
theorem IX:AM prog 79=some (false,1):=kR
theorem OG:AM prog 80=some (false,1):=kR
theorem iH:AM prog 120=some (true,6):=kR
theorem nT:AM prog 128=some (true,5):=kR
theorem FH:prog.underlying 9=some .string:=kR
theorem qJ:prog.underlying 69=some (.pointer 130):=kR
theorem PS:zO prog 120=some (.agg #[.slice none 0 0,.int .i64 0,.int .i64 0,.string ⟨#[]⟩,.slice none 0 0,.slice none 0 0]):=kR
theorem pA:GP prog 67=some [.int .i64 0,.int .i64 0,.int .i64 0]:=kR
theorem sM:GP prog 74=some [.int .i64 0,.int .i64 0,.int .i64 0,.string ⟨#[]⟩,.int .i64 0,.slice none 0 0]:=kR
theorem jN:GP prog 120=some [.slice none 0 0,.int .i64 0,.int .i64 0,.string ⟨#[]⟩,.slice none 0 0,.slice none 0 0]:=kR
theorem kY:GP prog 128=some [.int .i64 0,.int .i64 0,.string ⟨#[]⟩,.slice none 0 0,.slice none 0 0]:=kR
theorem hZ:GP prog 130=some [.string ⟨#[]⟩,.int .i64 0,.int .i64 0,.string ⟨#[]⟩,.slice none 0 0,.slice none 0 0,.pointer none]:=kR
theorem UO:Lb prog 49=some (91,2,32,[.string ⟨#[]⟩,.string ⟨#[]⟩]):=kR
theorem S0:Lb prog 121=some (124,6,80,[.string ⟨#[]⟩,.int .i64 0,.int .i64 0,.int .i64 0,.string ⟨#[]⟩,.slice none 0 0]):=kR
theorem Za:B3 prog 21:=Am func21 kR kR
theorem mV:B3 prog 22:=Am func22 kR kR
theorem jP:B3 prog 23:=Am func23 kR kR
theorem M9:B3 prog 25:=Am func25 kR kR
theorem Xk:B3 prog 31:=Am func31 kR kR
theorem mO:B3 prog 32:=Am func32 kR kR
theorem kN:B3 prog 52:=Am func52 kR kR
theorem kW:B3 prog 53:=Am func53 kR kR
theorem lH:B3 prog 54:=Am func54 kR kR
theorem OU:B3 prog 57:=Am func57 kR kR
theorem lP:B3 prog 81:=Am func81 kR kR
theorem kX:B3 prog 82:=Am func82 kR kR
theorem Pr:B3 prog 83:=Am func83 kR kR
theorem lV:B3 prog 88:=Am func88 kR kR
theorem Z7:B3 prog 90:=Am func90 kR kR
theorem YA:B3 prog 91:=Am func91 kR kR
theorem aN:ED prog 67 0=some 0:=kR
theorem bR:ED prog 67 1=some 2:=kR
theorem dK:ED prog 84 2=some 2:=kR
theorem aO:ED prog 84 3=some 3:=kR
theorem eG:ED prog 84 4=some 4:=kR
theorem bZ:ED prog 91 1=some 1:=kR
theorem ZL:ED prog 118 0=some 0:=kR
theorem Zz:ED prog 118 1=some 1:=kR
theorem Xr:ED prog 118 3=some 3:=kR
theorem ZU:ED prog 124 0=some 0:=kR
theorem Yx:ED prog 124 2=some 2:=kR
theorem OW:Yv prog 20=true:=kR
theorem RS:FD prog 81=some (9,3):=kR
theorem Vp:FD prog 82=some (9,4):=kR
theorem Lr:FD prog 133=some (9,76):=kR
theorem pW:LB prog 27=some [(0,1),(1,1)]:=kR
theorem sH:LB prog 84=some [(0,1),(1,1),(2,1),(3,1),(4,1)]:=kR
theorem qG:LB prog 91=some [(0,1),(1,1)]:=kR
theorem mH:LB prog 118=some [(0,1),(1,1),(2,1),(3,1)]:=kR
theorem iU:LB prog 120=some [(0,1),(1,4),(5,1)]:=kR
theorem mT:LB prog 124=some [(0,1),(1,1),(2,4)]:=kR
theorem pY:Ih prog 49=some (91,2):=kR
theorem oA:Ih prog 115=some (118,4):=kR
theorem jU:Ih prog 121=some (124,6):=kR
theorem iS:pZ prog 67=true:=kR
theorem H0:AM prog 28=some (false,1):=kR
theorem ZV:AM prog 49=some (false,1):=kR
theorem rM:AM prog 67=some (true,3):=kR
theorem QC:AM prog 81=some (false,1):=kR
theorem gJ:AM prog 82=some (false,1):=kR
theorem nN:AM prog 118=some (true,4):=kR
theorem JF:AM prog 121=some (false,1):=kR
theorem lN:AM prog 124=some (true,6):=kR
theorem eR:zO prog 3=some (.int .i64 0):=kR
theorem sO:GP prog 27=some [.int .i64 0,.int .i64 0]:=kR
theorem rZ:GP prog 28=some [.int .i64 0]:=kR
theorem pN:GP prog 49=some [.slice none 0 0]:=kR
theorem sT:GP prog 84=some [.pointer none,.map none,.map none,.map none,.int .i64 0]:=kR
theorem sB:GP prog 91=some [.string ⟨#[]⟩,.string ⟨#[]⟩]:=kR
theorem oB:GP prog 118=some [.string ⟨#[]⟩,.string ⟨#[]⟩,.int .i64 0,.int .i64 0]:=kR
theorem iF:GP prog 121=some [.slice none 0 0]:=kR
theorem kJ:GP prog 124=some [.string ⟨#[]⟩,.int .i64 0,.int .i64 0,.int .i64 0,.string ⟨#[]⟩,.slice none 0 0]:=kR
theorem L5:Lb prog 46=some (74,6,72,[.int .i64 0,.int .i64 0,.int .i64 0,.string ⟨#[]⟩,.int .i64 0,.slice none 0 0]):=kR
theorem X5:B3 prog 16:=Am func16 kR kR
theorem Zl:B3 prog 17:=Am func17 kR kR
theorem CZ:B3 prog 18:=Am func18 kR kR
theorem mY:B3 prog 19:=Am func19 kR kR
theorem mU:B3 prog 20:=Am func20 kR kR
theorem AB:B3 prog 40:=Am func40 kR kR
theorem G6:B3 prog 41:=Am func41 kR kR
theorem Y1:B3 prog 42:=Am func42 kR kR
theorem Uq:B3 prog 43:=Am func43 kR kR
theorem Zt:B3 prog 44:=Am func44 kR kR
theorem Bh:B3 prog 45:=Am func45 kR kR
theorem nB:B3 prog 46:=Am func46 kR kR
theorem MO:B3 prog 47:=Am func47 kR kR
theorem JM:B3 prog 48:=Am func48 kR kR
theorem Dj:B3 prog 49:=Am func49 kR kR
theorem Zk:B3 prog 50:=Am func50 kR kR
theorem SC:B3 prog 51:=Am func51 kR kR
theorem JT:B3 prog 78:=Am func78 kR kR
theorem HP:B3 prog 79:=Am func79 kR kR
theorem kE:B3 prog 80:=Am func80 kR kR
theorem dG:B3 prog 108:=Am func108 kR kR
theorem UJ:B3 prog 109:=Am func109 kR kR
theorem Qr:B3 prog 110:=Am func110 kR kR
theorem LL:B3 prog 111:=Am func111 kR kR
theorem PF:B3 prog 133:=Am func133 kR kR
theorem Qe:B3 prog 134:=Am func134 kR kR
theorem cZ:ED prog 61 0=some 0:=kR
theorem Xx:ED prog 108 0=some 0:=kR
theorem Yi:ED prog 108 1=some 1:=kR
theorem XU:ED prog 108 2=some 3:=kR
theorem Ya:ED prog 108 3=some 4:=kR
theorem Zr:ED prog 110 0=some 0:=kR
theorem ZO:ED prog 110 1=some 5:=kR
theorem rA:LB prog 74=some [(0,1),(1,2),(3,1),(4,1),(5,1)]:=kR
theorem K1:Ih prog 63=some (110,6):=kR
theorem nG:pZ prog 61=true:=kR
theorem tK:AM prog 61=some (true,2):=kR
theorem qW:AM prog 63=some (false,1):=kR
theorem mZ:AM prog 110=some (true,6):=kR
theorem pQ:GP prog 46=some [.slice none 0 0]:=kR
theorem pT:GP prog 61=some [.int .i64 0,.int .i64 0]:=kR
theorem nY:GP prog 110=some [.int .i64 0,.int .i64 0,.int .i64 0,.int .i64 0,.string ⟨#[]⟩,.slice none 0 0]:=kR
theorem XD:Lb prog 25=some (34,2,32,[.string ⟨#[]⟩,.string ⟨#[]⟩]):=kR
theorem fL:Lb prog 37=some (40,3,40,[.string ⟨#[]⟩,.string ⟨#[]⟩,.int .i64 0]):=kR
theorem fS:B3 prog 6:=Am func6 kR kR
theorem eX:B3 prog 8:=Am func8 kR kR
theorem IJ:B3 prog 10:=Am func10 kR kR
theorem nR:B3 prog 11:=Am func11 kR kR
theorem nJ:B3 prog 12:=Am func12 kR kR
theorem mL:B3 prog 13:=Am func13 kR kR
theorem oF:B3 prog 14:=Am func14 kR kR
theorem lO:B3 prog 15:=Am func15 kR kR
theorem Zh:B3 prog 34:=Am func34 kR kR
theorem oC:B3 prog 35:=Am func35 kR kR
theorem lX:B3 prog 36:=Am func36 kR kR
theorem X9:B3 prog 70:=Am func70 kR kR
theorem iO:B3 prog 71:=Am func71 kR kR
theorem TY:B3 prog 72:=Am func72 kR kR
theorem eB:ED prog 34 0=some 0:=kR
theorem dH:ED prog 34 1=some 1:=kR
theorem aS:ED prog 38 0=some 0:=kR
theorem cW:ED prog 38 1=some 1:=kR
theorem cG:ED prog 40 0=some 0:=kR
theorem aY:ED prog 40 1=some 1:=kR
theorem aW:ED prog 98 0=some 0:=kR
theorem dY:ED prog 98 1=some 1:=kR
theorem bE:ED prog 98 2=some 2:=kR
theorem UC:FD prog 94=some (9,74):=kR
theorem pF:LB prog 34=some [(0,1),(1,1)]:=kR
theorem pK:LB prog 40=some [(0,1),(1,1),(2,1)]:=kR
theorem rN:LB prog 98=some [(0,1),(1,1),(2,1)]:=kR
theorem nO:Xv prog 27=true:=kR
theorem tD:Ih prog 25=some (34,2):=kR
theorem ZW:Ih prog 36=some (38,2):=kR
theorem qX:Ih prog 37=some (40,3):=kR
theorem VK:AM prog 4=some (false,1):=kR
theorem tF:AM prog 34=some (true,2):=kR
theorem sE:AM prog 40=some (true,3):=kR
theorem fJ:AM prog 94=some (false,1):=kR
theorem L7:AM prog 96=some (false,1):=kR
theorem eY:prog.underlying 4=some .bool:=kR
theorem Xa:zO prog 74=some (.agg #[.int .i64 0,.int .i64 0,.int .i64 0,.string ⟨#[]⟩,.int .i64 0,.slice none 0 0]):=kR
theorem rU:GP prog 34=some [.string ⟨#[]⟩,.string ⟨#[]⟩]:=kR
theorem sG:GP prog 40=some [.string ⟨#[]⟩,.string ⟨#[]⟩,.int .i64 0]:=kR
theorem rG:GP prog 98=some [.map none,.slice none 0 0,.bool false]:=kR
end Go.Proofs.YtelmolopaolbcaaGreatDoor
