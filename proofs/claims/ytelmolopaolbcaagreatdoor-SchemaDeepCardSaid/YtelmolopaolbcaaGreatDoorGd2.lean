/- What it rests on, part 2. -/
import Derived.Test.YtelmolopaolbcaaGreatDoorGd1
import Derived.Laws.MakeOwn
import Derived.Lib.Join
import Derived.Lib.ItoaNum
set_option linter.unusedVariables false
set_option linter.unusedSimpArgs false
namespace Go.SW
open Go.RowKit
structure C2(M:Nat→Prop)(w:World)(f:Fq)(w':World)(f':Fq):Prop where
 stp:LH M w w'
 old:∀b,b<w.heap.size→f' b=f b
 val:∀b,w'.heap.size≤b→f' b=0
variable {af:Array Edge}{args:Array Value}{σ':Bb}{fid:FuncId}{H':List HB}{XX:List PanicEntry→World→Prop}{l:List Value}{d i:Nat}{M M':Nat→Prop}{g:Option (Nat×Bool)}{dst:Option Tmp}{pos:String}{ty:TypeId}{R0:Value→World→Prop}{I' φ:World→Fq→Prop}
theorem C2.fle{w w':World}{f f':Fq}(h:C2 M w f w' f')(hv:∀b,w.heap.size≤b→f b=0)(hm:∀b,M b→f b=0):Hp w f w' f':=λb=>by
 rcases Nat.lt_or_ge b w.heap.size with hb|hb
 · refine⟨by rw[h.old b hb];exact Nat.le_refl _,λo ho=>Di (h.stp.block b hb λhh=>?_) o⟩
   rw[hm b hh] at ho;omega
 · refine⟨by rw[hv b hb];exact Nat.zero_le _,λo ho=>?_⟩
   rw[hv b hb] at ho;omega
theorem C2.refl(M:Nat→Prop){w:World}{f:Fq}(hv:∀b,w.heap.size≤b→f b=0):C2 M w f w f:=⟨LH.refl _ _,λ_ _=>rfl,hv⟩
theorem C2.mono{w w':World}{f f':Fq}(h:C2 M w f w' f')(hm:∀b,M b→M' b):C2 M' w f w' f':=⟨h.stp.mono hm,h.old,h.val⟩
theorem C2.of_ext{w w':World}{f:Fq}(h:AS w w')(hv:∀b,w.heap.size≤b→f b=0):C2 (λ_=>False) w f w' f:=⟨LH.of_ext h,λ_ _=>rfl,λb hb=>hv b (Nat.le_trans h.size hb)⟩
theorem AO.exm{X:Cx}{w:World}{f:Fq}{H:List HB}{R:List RB}{B:List FB}{Fs:List (World→Fq→Prop)}(h:AO X w f H R B Fs):C2 X.M X.w0 X.f0 w f:=⟨h.stp,h.old,h.val⟩
section
variable{X:Cx}{w w':World}{f f':Fq}{H:List HB}{R:List RB}{B:List FB}{Fs:List (World→Fq→Prop)}
theorem AO.call0(h:AO X w f H R B Fs)(he:C2 (λ_=>False) w f w' f'):AO X w' f' H R B Fs :=
 have hF:=he.fle h.val (λ_ h=>h.elim)
 h.step (he.stp.mono λ_ h=>h.elim) hF he.old he.val (λb hb=>he.stp.block b (h.lt hb) λh=>h) (λb hb=>he.stp.block b (h.mi b hb).1 λh=>h)
theorem AO.callI(h:AO X w f H R B Fs)(he:C2 X.MI w f w' f')(hI:I' w' f')(hst:EV X.MI I'):AO {X with I:=I' } w' f' H R B Fs :=
 have hF:=he.fle h.val (λb hb=>(h.mi b hb).2.1);have hown:∀b,b∈C6 H R→w'.heap[b]?=w.heap[b]?:=λb hb=>he.stp.block b (h.lt hb) (h.own b hb).2.2
 {stp:=⟨he.stp.os.trans h.stp.os,he.stp.tape.trans h.stp.tape,he.stp.output.trans h.stp.output,Nat.le_trans h.stp.size he.stp.size,λk hk hm=>(he.stp.block k (Nat.lt_of_lt_of_le hk h.stp.size) λhh=>by
       rcases (h.mi k hh).2.2 with h1|h1
       · exact absurd hk (Nat.not_lt.2 h1)
       · exact hm h1).trans (h.stp.block k hk hm)⟩,
   old:=λb hb=>(he.old b (Nat.lt_of_lt_of_le hb h.stp.size)).trans (h.old b hb),val:=he.val,ent:=h.ent.trans hF,res:=hI,stab:=hst,
   mi:=λb hb=>⟨Nat.lt_of_lt_of_le (h.mi b hb).1 he.stp.size,(he.old b (h.mi b hb).1).trans (h.mi b hb).2.1,(h.mi b hb).2.2⟩,
   blk:=λe hh=>(hown e.b (List.mem_append.2 (.inl (List.mem_map.2 ⟨e,hh,rfl⟩)))).trans (h.blk e hh),
   row:=λr hr=>by
     refine⟨(h.row r hr).1,(h.row r hr).2.imp id ?_⟩;rintro⟨b,l,h1,h2,h3⟩;exact⟨b,l,h1,(hown b (List.mem_append.2 (.inr (List.mem_filterMap.2 ⟨r,hr,by rw[h1];rfl⟩)))).trans h2,h3⟩,
   nd:=h.nd,
   own:=λb hb=>⟨(he.old b (h.lt hb)).trans (h.own b hb).1,(h.own b hb).2⟩,hnw:=h.hnw,rnw:=h.rnw,
   fro:=λe hh=>(h.fro e hh).mono hF,fac:=λφ hφ=>h.mono φ hφ _ _ _ _ (h.fac φ hφ) hF,mono:=h.mono}
theorem AO.more{B':List FB}{F':List (World→Fq→Prop)}(h:AO X w f H R B Fs)(hB:∀e,e∈B'→Cs w f e.b e.off e.l)(hF:∀φ,φ∈F'→φ w f)(hm:∀φ,φ∈F'→Fc φ):AO X w f H R (B'++B) (F'++Fs) :=
 {h with
   fro:=λe he=>(List.mem_append.1 he).elim (hB e) (h.fro e),
   fac:=λφ hφ=>(List.mem_append.1 hφ).elim (hF φ) (h.fac φ),
   mono:=λφ hφ=>(List.mem_append.1 hφ).elim (hm φ) (h.mono φ)}
theorem AO.less{R':List RB}{B':List FB}{F':List (World→Fq→Prop)}(h:AO X w f H R B Fs)(hH:H'.Sublist H)(hR:R'.Sublist R)(hB:∀e,e∈B'→e∈B)(hF:∀φ,φ∈F'→φ∈Fs):AO X w f H' R' B' F' :=
 have hs:(C6 H' R').Sublist (C6 H R):=List.Sublist.append (hH.map _) (hR.filterMap _)
 {h with
   blk:=λe he=>h.blk e (hH.subset he),row:=λr hr=>h.row r (hR.subset hr),nd:=hs.nodup h.nd,own:=λb hb=>h.own b (hs.subset hb),hnw:=λe he=>h.hnw e (hH.subset he),rnw:=λr hr=>h.rnw r (hR.subset hr),
   fro:=λe he=>h.fro e (hB e he),fac:=λφ hφ=>h.fac φ (hF φ hφ),mono:=λφ hφ=>h.mono φ (hF φ hφ)}
theorem AO.fact(h:AO X w f H R B Fs)(hi:nth Fs i=some φ):φ w f:=by
 rw[Ep] at hi;exact h.fac _ (List.mem_of_getElem? hi)
end
section
variable{P:Program}{n:Nat}{Q:AU}{ds:List Deferred}{X:Cx}{R:List RB}{B:List FB}{Fs:List (World→Fq→Prop)}{tb:VV}{fs:List Fr}{σ:Bb}{H:List HB}
theorem go{k:JZ}(ht:tb.Ok P)(m:Nat)(hs:List Nat)(h:ex P n Q ds X R B Fs tb m hs k fs σ H):A3 P n Q ds X R B Fs k fs σ H:=Ix ht m hs k fs σ H h
theorem y{α:Type}{a:α}{p:Prop}(h:p):a=a∧p:=⟨rfl,h⟩
theorem y2{α β:Type}{a:α}{b:β}{p:Prop}(h:p):(a=a∧b=b)∧p:=⟨⟨rfl,rfl⟩,h⟩
def kG:JZ→Bool
 |.out _=>false
 |_=>true
theorem A3.le{k:JZ}(hk:kG k=true)(hl:Le σ' σ)(h:A3 P n Q ds X R B Fs k fs σ' H):A3 P n Q ds X R B Fs k fs σ H:=λw f hM=>by
 have:=h w f hM
 cases k with
 |code c=>exact ND hl this
 |ops all l=>exact λa ha=>this a (ha.le hl)
 |out e=>cases hk
theorem AJ{k:JZ}{b:Bool}(t:Nat)(hk:kG k=true)(hx:σ t=some (.bool b))(h1:b=true→A3 P n Q ds X R B Fs k fs (AA σ t (.bool true)) H)(h2:b=false→A3 P n Q ds X R B Fs k fs (AA σ t (.bool false)) H):A3 P n Q ds X R B Fs k fs σ H:=by
 cases b with
 |true=>exact A3.le hk (A6 (le_refl _) hx) (h1 rfl)
 |false=>exact A3.le hk (A6 (le_refl _) hx) (h2 rfl)
theorem uS{k:JZ}{b:Bool}(t:Nat)(c:Bool)(hk:kG k=true)(hx:σ t=some (.bool b))(hb:b=c)(h1:A3 P n Q ds X R B Fs k fs (AA σ t (.bool c)) H):A3 P n Q ds X R B Fs k fs σ H:=by
 subst hb;exact A3.le hk (A6 (le_refl _) hx) h1
theorem KP{k:JZ}{α:Type}(p:α→Prop)(B':α→List FB)(F':α→List (World→Fq→Prop))(hφ:∀w f,AO X w f H R B Fs→∃x,p x∧(∀e,e∈B' x→Cs w f e.b e.off e.l)∧∀φ,φ∈F' x→φ w f)(hm:∀x φ,φ∈F' x→Fc φ)
   (h:∀x,p x→A3 P n Q ds X R (B' x++B) (F' x++Fs) k fs σ H):A3 P n Q ds X R B Fs k fs σ H:=λw f hM=>by
 obtain⟨x,hp,hB,hF⟩:=hφ w f hM;exact h x hp w f (hM.more hB hF (hm x))
theorem Io{k:JZ}{p:Prop}(hφ:∀w f,AO X w f H R B Fs→p)(h:p→A3 P n Q ds X R B Fs k fs σ H):A3 P n Q ds X R B Fs k fs σ H:=λw f hM=>h (hφ w f hM) w f hM
theorem L7:∀fs:List Fr,(L8 P n Q fs).p=Q.p
 | []=>rfl
 |.sq _::fs=>L7 fs
 |.bk _::fs=>L7 fs
theorem wC{all r:List Oper}{op:Op}{α:Type}{val:α→Value}{q:α→Prop}{F':α→List (World→Fq→Prop)}(hg:gd all σ g=some true)(hd:Nat.blt d n=true)(he:∀w,Enters P σ op ty w fid args)
   (hc:∀w f,AO X w f H R B Fs→Bo P fid args w λv w'=>∃x f',v=val x∧q x∧C2 (λ_=>False) w f w' f'∧∀φ,φ∈F' x→φ w' f') (hm:∀x φ,φ∈F' x→Fc φ)
   (h:∀x,q x→A3 P n Q ds X R B (F' x++Fs) (.ops all r) fs (AA σ d (val x)) H):A3 P n Q ds X R B Fs (.ops all (⟨some d,op,ty,pos,af,g⟩::r)) fs σ H:=λw f hM=>by
 refine B1 hg (A4 hd (he w) (hc w f hM) ?_);rintro v w' ⟨x,f',rfl,hq,hE,hF⟩;exact h x hq w' f' ((hM.call0 hE).more (B':=[]) (λ_ h=>by cases h) hF (hm x))
theorem wK{all r:List Oper}{op:Op}{α:Type}{val:α→Value}{q:α→Prop}{I':α→World→Fq→Prop}{F':α→List (World→Fq→Prop)}
   (hg:gd all σ g=some true) (hd:Nat.blt d n=true) (he:∀w,Enters P σ op ty w fid args)
   (hc:∀w f,AO X w f H R B Fs→BB P fid args w (λv w'=>∃x f',v=val x∧q x∧C2 X.MI w f w' f'∧I' x w' f'∧∀φ,φ∈F' x→φ w' f') XX) (hst:∀x,EV X.MI (I' x)) (hm:∀x φ,φ∈F' x→Fc φ)
   (hp:∀w f c w',AO X w f H R B Fs→XX c w'→Q.p c σ ds w')
   (h:∀x,q x→A3 P n Q ds {X with I:=I' x} R B (F' x++Fs) (.ops all r) fs (AA σ d (val x)) H):A3 P n Q ds X R B Fs (.ops all (⟨some d,op,ty,pos,af,g⟩::r)) fs σ H:=λw f hM=>by
 refine B1 hg (BX hd (he w) (hc w f hM) ?_ ?_)
 · rintro v w' ⟨x,f',rfl,hq,hE,hI,hF⟩
   exact h x hq w' f' ((hM.callI hE hI (hst x)).more (B':=[]) (λ_ h=>by cases h) hF (hm x))
 · intro c w' hX
   rw[L7];exact hp w f c w' hM hX
theorem CW{all r:List Oper}{op:Op}{v:Value}(hg:gd all σ g=some true)(hd:Nat.blt d n=true)(hr:∀w f,AO X w f H R B Fs→AG P σ op ty w v w)
   (h:A3 P n Q ds X R B Fs (.ops all r) fs (AA σ d v) H):A3 P n Q ds X R B Fs (.ops all (⟨some d,op,ty,pos,af,g⟩::r)) fs σ H:=λw f hM=>B1 hg (Ab hd (hr w f hM) (h w f hM))
theorem tY{all r:List Oper}{op:Op}{v:Value}(hg:gd all σ g=some true)(hr:∀w,lO P σ op ty w v w)
   (h:∀w f,AO X w f H R B Fs→Q.p [{v,recovered:=false}] σ ds w):A3 P n Q ds X R B Fs (.ops all (⟨dst,op,ty,pos,af,g⟩::r)) fs σ H:=λw f hM=>B1 hg (Cf (hr w) (by rw[L7];exact h w f hM))
def sX(P:Program)(n:Nat){α:Type}(m:α→Nat)(p:α→Prop)(s:α→Bb)(X:α→Cx)(H:α→List HB)(R:α→List RB)(B:α→List FB)(Fs:α→List (World→Fq→Prop))(ds:List Deferred)(k:Nat)(Q:AU):AU :=
 {q:=λe σ ds' w=>match e with
     |.normal=>∃x,m x<k∧p x∧ds'=ds∧Le (s x) σ∧∃f,AO (X x) w f (H x) (R x) (B x) (Fs x)
     |e=>Q.q e σ ds' w,
   p:=Q.p}
theorem Fp{c:Code}{α:Type}(m:α→Nat)(p:α→Prop)(s:α→Bb)(X':α→Cx)(H':α→List HB)(R':α→List RB)(B':α→List FB)(F':α→List (World→Fq→Prop))(x0:α)(h0:p x0)(hl:Le (s x0) σ)
   (hM:∀w f,AO X w f H R B Fs→AO (X' x0) w f (H' x0) (R' x0) (B' x0) (F' x0))
   (body:∀x,p x→A3 P n (sX P n m p s X' H' R' B' F' ds (m x) (L8 P n Q fs)) ds (X' x) (R' x) (B' x) (F' x) (.code c) [] (s x) (H' x)):A3 P n Q ds X R B Fs (.code (.loop c)) fs σ H:=λw f hm=>by
 refine DD (λk σ ds' w=>∃x,m x=k∧p x∧ds'=ds∧σ=s x∧∃f,AO (X' x) w f (H' x) (R' x) (B' x) (F' x)) (m x0) (s x0) hl ⟨x0,rfl,h0,rfl,rfl,f,hM w f hm⟩ ?_;rintro k σ ds' w ⟨x,rfl,hp,rfl,rfl,f,hm⟩;have:=body x hp w f hm;intro a ha;refine wp_mono (this a ha) λe a' w' he=>?_
 cases e with
 |normal =>
   obtain⟨σ',ds',hs,y,hy,hpy,rfl,hly,f',hm'⟩:=he;exact⟨σ',_,hs,m y,s y,hy,hly,y,rfl,hpy,rfl,rfl,f',hm'⟩
 |panic c=>exact he
 |outgrown=>exact he
 |ret=>exact he
 |exit i=>exact he
 |goto i=>exact he
theorem CX{α:Type}{m:α→Nat}{p:α→Prop}{s:α→Bb}{X':α→Cx}{H':α→List HB}{R':α→List RB}{B':α→List FB}{F':α→List (World→Fq→Prop)}{k:Nat}(x:α)(hk:m x<k)(hp:p x)(hl:Le (s x) σ)
   (hM:∀w f,AO X w f H R B Fs→∃f,AO (X' x) w f (H' x) (R' x) (B' x) (F' x)):A3 P n (sX P n m p s X' H' R' B' F' ds k Q) ds X R B Fs (.out .normal) [] σ H :=
 λw f hm=>⟨x,hk,hp,rfl,hl,hM w f hm⟩
theorem ES{α:Type}{m:α→Nat}{p:α→Prop}{s:α→Bb}{X':α→Cx}{H':α→List HB}{R':α→List RB}{B':α→List FB}{F':α→List (World→Fq→Prop)}{k:Nat}(h:A3 P n Q ds X R B Fs (.out (.exit i)) fs σ H):A3 P n (sX P n m p s X' H' R' B' F' ds k (L8 P n Q fs)) ds X R B Fs (.out (.exit i)) [] σ H:=λw f hm=>h w f hm
theorem UF{α:Type}{m:α→Nat}{p:α→Prop}{s:α→Bb}{X':α→Cx}{H':α→List HB}{R':α→List RB}{B':α→List FB}{F':α→List (World→Fq→Prop)}{k:Nat}(h:A3 P n Q ds X R B Fs (.out .ret) fs σ H):A3 P n (sX P n m p s X' H' R' B' F' ds k (L8 P n Q fs)) ds X R B Fs (.out .ret) [] σ H:=λw f hm=>h w f hm
theorem Mr{fn:Func}{c:Code}{w:World}{f:Fq}(hf:P.funcs[fid]?=some fn)(hb:fn.body=some c)(hn:fn.ntmps=n)(hl:Nat.ble l.length n=true)(hM:AO X w f H R B Fs)
   (h:A3 P n (Fg P fn R0 XX) [] X R B Fs (.code c) [] (H5 l 0) H):BB P fid l.toArray w R0 XX:=HO hf hb hn hl (h w f hM)
theorem Ch{fn:Func}{c:Code}{w:World}{f:Fq}(hf:P.funcs[fid]?=some fn)(hb:fn.body=some c)(hn:fn.ntmps=n)(hl:Nat.ble l.length n=true)(hM:AO X w f H R B Fs)
   (h:A3 P n (Fg P fn R0 λ_ _=>False) [] X R B Fs (.code c) [] (H5 l 0) H):Bo P fid l.toArray w R0:=enter hf hb hn hl (h w f hM)
theorem AL{fn:Func}{v:Value}(hv:∀w f,AO X w f H R B Fs→SA P fn σ w v)(h:∀w f,AO X w f H R B Fs→R0 v w):A3 P n (Fg P fn R0 XX) [] X R B Fs (.out .ret) [] σ H:=λw f hM=>Bm (hv w f hM) (h w f hM)
theorem dQ{fn:Func}{v:Value}(hv:∀w f,AO X w f H R B Fs→SA P fn σ w v)(h:∀w f,AO X w f H R B Fs→R0 v w):A3 P n (Fg P fn R0 XX) [] X R B Fs (.out .normal) [] σ H:=λw f hM=>FP (hv w f hM) (h w f hM)
end
def getR:List RB→Nat→Option RB
 | [],_=>none
 |x::_,0=>some x
 |_::l,i+1=>getR l i
def RO:List RB→Nat→RB→Option (List RB)
 | [],_,_=>none
 |_::H,0,e=>some (e::H)
 |x::H,i+1,e=>match RO H i e with
   |some r=>some (x::r)
   |none=>none
def PY:List RB→Nat→Option (List RB)
 | [],_=>none
 |_::H,0=>some H
 |x::H,i+1=>match PY H i with
   |some r=>some (x::r)
   |none=>none
theorem Ds:∀{R:List RB}{i:Nat}{r:RB},getR R i=some r→r∈R
 | [],_,_,h=>by cases h
 |_::_,0,_,h=>by cases h;exact .head _
 |_::R,i+1,r,h=>.tail _ (Ds (R:=R) h)
theorem Q2:∀{R R':List RB}{i:Nat},PY R i=some R'→R'.Sublist R
 | [],_,_,h=>by cases h
 |_::_,_,0,h=>by cases h;exact List.sublist_cons_self _ _
 |x::R,R',i+1,h=>by
   unfold PY at h
   cases hr:PY R i with
   |none=>rw[hr] at h;cases h
   |some r=>rw[hr] at h;cases h;exact (Q2 hr).cons_cons x
def IL(R:List RB):List Nat:=R.filterMap λr=>rb r.a
theorem R3:∀{R R':List RB}{i:Nat}{r r':RB},getR R i=some r→RO R i r'=some R'→(∀x,x∈R'→x=r'∨x∈R)∧∀N,(rb r'.a=rb r.a∨∃k,rb r'.a=some k∧k∉N∧k∉IL R)→(N++IL R).Nodup→(N++IL R').Nodup∧(∀b,b∈IL R'→some b=rb r'.a∨b∈IL R)∧∀x,x∈R'→x=r'∨(x∈R∧(rb x.a=none∨rb x.a≠rb r.a))
 | [],_,_,_,_,h,_=>by cases h
 |x::R,R',0,r,r',hg,hs=>by
   cases hg;cases hs
   refine⟨λy hy=>by rcases List.mem_cons.1 hy with h|h;exact .inl h;exact .inr (.tail _ h),λN hk hn=>?_⟩
   have e1:IL (x::R)=(match rb x.a with|some b=>b::IL R|none=>IL R):=by
     unfold IL;rw[List.filterMap_cons];cases rb x.a <;> rfl
   have e2:IL (r'::R)=(match rb r'.a with|some b=>b::IL R|none=>IL R):=by
     unfold IL;rw[List.filterMap_cons];cases rb r'.a <;> rfl
   have hsub:(N++IL R).Nodup:=by
     rw[e1] at hn
     cases hx:rb x.a with
     |none=>rw[hx] at hn;exact hn
     |some b=>rw[hx] at hn;exact (List.Sublist.append (List.Sublist.refl N) (List.sublist_cons_self b _)).nodup hn
   have hother:∀y,y∈R→rb y.a=none∨rb y.a≠rb x.a:=λy hy=>by
     cases hb:rb y.a with
     |none=>exact .inl rfl
     |some b =>
       refine .inr λe=>?_;rw[e1,← e] at hn;have h2:=(List.nodup_append.1 hn).2.1;exact (List.nodup_cons.1 h2).1 (List.mem_filterMap.2 ⟨y,hy,hb⟩)
   refine⟨?_,?_,?_⟩
   · rcases hk with hk|⟨k,hk,hkN,hkR⟩
     · rw[e2,hk,← e1];exact hn
     · rw[e2,hk]
       have hkR':k∉IL R:=λh=>hkR (by rw[e1];cases rb x.a with|none=>exact h|some b=>exact .tail _ h)
       exact List.nodup_append.2 ⟨(List.nodup_append.1 hsub).1,List.nodup_cons.2 ⟨hkR',(List.nodup_append.1 hsub).2.1⟩,λa ha b hb e=>by
         rcases List.mem_cons.1 hb with rfl|hb
         · exact hkN (e▸ha)
         · exact (List.nodup_append.1 hsub).2.2 a ha b hb e⟩
   · intro b hb
     rw[e2] at hb
     cases hr:rb r'.a with
     |none=>rw[hr] at hb;right;rw[e1];cases rb x.a with|none=>exact hb|some c=>exact .tail _ hb
     |some c =>
       rw[hr] at hb;rcases List.mem_cons.1 hb with rfl|hb
       · exact .inl rfl
       · right;rw[e1];cases rb x.a with|none=>exact hb|some c=>exact .tail _ hb
   · intro y hy
     rcases List.mem_cons.1 hy with h|h
     · exact .inl h
     · exact .inr ⟨.tail _ h,hother y h⟩
 |x::R,R',i+1,r,r',hg,hs=>by
   unfold RO at hs
   cases hr:RO R i r' with
   |none=>rw[hr] at hs;cases hs
   |some R1 =>
     rw[hr] at hs;cases hs;obtain⟨h1,h2⟩:=R3 (R:=R) hg hr
     refine⟨λy hy=>by
       rcases List.mem_cons.1 hy with rfl|hy
       · exact .inr (.head _)
       · rcases h1 y hy with h|h
         · exact .inl h
         · exact .inr (.tail _ h),λN hk hn=>?_⟩
     have ex:∀L:List RB,IL (x::L)=(match rb x.a with|some b=>b::IL L|none=>IL L):=λL=>by
       unfold IL;rw[List.filterMap_cons];cases rb x.a <;> rfl
     cases hx:rb x.a with
     |none =>
       rw[ex,hx] at hn;obtain⟨a1,a2,a3⟩:=h2 N (by rw[ex,hx] at hk;exact hk) hn;refine⟨by rw[ex,hx];exact a1,λb hb=>by rw[ex,hx] at hb;rw[ex,hx];exact a2 b hb,λy hy=>?_⟩;rcases List.mem_cons.1 hy with rfl|hy
       · exact .inr ⟨.head _,.inl hx⟩
       · rcases a3 y hy with h|h
         · exact .inl h
         · exact .inr ⟨.tail _ h.1,h.2⟩
     |some c =>
       rw[ex,hx] at hn;simp only at hn;have hn':((N++[c])++IL R).Nodup:=by simpa using hn
       obtain⟨a1,a2,a3⟩:=h2 (N++[c]) (by
         rw[ex,hx] at hk;rcases hk with hk|⟨k,hk,hkN,hkR⟩
         · exact .inl hk
         · exact .inr ⟨k,hk,λh=>by
             rcases List.mem_append.1 h with h|h
             · exact hkN h
             · exact hkR (by rw[List.mem_singleton] at h;subst h;exact .head _),λh=>hkR (.tail _ h)⟩) hn'
       have hrc:rb r.a≠some c:=λe=>by
         have:c∈IL R:=List.mem_filterMap.2 ⟨r,Ds hg,e⟩;exact (List.nodup_append.1 hn').2.2 c (List.mem_append.2 (.inr (.head _))) c this rfl
       refine⟨by rw[ex,hx];simpa using a1,λb hb=>?_,λy hy=>?_⟩
       · rw[ex,hx] at hb
         rcases List.mem_cons.1 hb with rfl|hb
         · right;rw[ex,hx];exact .head _
         · rcases a2 b hb with h|h
           · exact .inl h
           · right;rw[ex,hx];exact .tail _ h
       · rcases List.mem_cons.1 hy with rfl|hy
         · exact .inr ⟨.head _,.inr (by rw[hx];exact λe=>hrc e.symm)⟩
         · rcases a3 y hy with h|h
           · exact .inl h
           · exact .inr ⟨.tail _ h.1,h.2⟩
section
variable{X:Cx}{w w':World}{f:Fq}{H:List HB}{R R':List RB}{B:List FB}{Fs:List (World→Fq→Prop)}
variable {xs:List Value}{b c' n n':Nat}{a':Option Addr}{e:TypeId}
theorem AO.grow{r:RB}{xs':List Value}(h:AO X w f H R B Fs)(hg:getR R i=some r)(hs:RO R i ⟨r.e,r.size,a',c',n',xs'⟩=some R')(hr:BP w' r.e r.size a' c' n' xs')(hG:EB r.a w a' w'):AO X w' f H R' B Fs:=by
 have hmemr:∀b,rb r.a=some b→b∈C6 H R:=λb hb=>List.mem_append.2 (.inr (List.mem_filterMap.2 ⟨r,Ds hg,hb⟩))
 have hF:Hp w f w' f:=λk=>⟨Nat.le_refl _,λo ho=>by
   have hk:k<w.heap.size:=by
     rcases Nat.lt_or_ge k w.heap.size with hh|hh
     · exact hh
     · have:=h.val k hh;omega
   exact Di (hG.block k hk λe=>by have:=(h.own k (hmemr k e.symm)).1;omega) o⟩
 have hmi:∀k,X.MI k→w'.heap[k]?=w.heap[k]?:=λk hk=>hG.block k (h.mi k hk).1 λe=>(h.own k (hmemr k e.symm)).2.2 hk;have hnew:w.heap.size∉C6 H R:=λhh=>Nat.lt_irrefl _ (h.lt hh);obtain⟨h1,h2⟩:=R3 hg hs
 obtain⟨a1,a2,a3⟩:=h2 (H.map HB.b) (by
   rcases hG.own with ho|ho
   · exact .inl ho
   · exact .inr ⟨_,ho,λhh=>hnew (List.mem_append.2 (.inl hh)),λhh=>hnew (List.mem_append.2 (.inr hh))⟩) h.nd
 have hblk:∀e,e∈H→w'.heap[e.b]?=w.heap[e.b]?:=λe he=>hG.block e.b (h.blk e he).lt λhh=>by
   exact (List.nodup_append.1 h.nd).2.2 e.b (List.mem_map.2 ⟨e,he,rfl⟩) e.b (List.mem_filterMap.2 ⟨r,Ds hg,hh.symm⟩) rfl
 exact {stp:=⟨hG.os.trans h.stp.os,hG.tape.trans h.stp.tape,hG.output.trans h.stp.output,Nat.le_trans h.stp.size hG.size,λk hk hm=>(hG.block k (Nat.lt_of_lt_of_le hk h.stp.size) λe=>by have:=h.rnw r (Ds hg) k e.symm;omega).trans (h.stp.block k hk hm)⟩,
         old:=h.old,val:=λk hk=>h.val k (Nat.le_trans hG.size hk),ent:=h.ent.trans hF,res:=h.stab _ _ _ _ h.res hF hmi,stab:=h.stab,
         mi:=λk hk=>⟨Nat.lt_of_lt_of_le (h.mi k hk).1 hG.size,(h.mi k hk).2⟩,
         blk:=λe he=>(hblk e he).trans (h.blk e he),
         row:=λx hx=>by
           rcases a3 x hx with rfl|⟨hx,hne⟩
           · exact hr
           · exact (h.row x hx).grow hG hne,
         nd:=a1,
         own:=λb hb=>by
           rcases List.mem_append.1 hb with hb|hb
           · exact h.own b (List.mem_append.2 (.inl hb))
           · rcases a2 b hb with hb|hb
             · rcases hG.own with ho|ho
               · exact h.own b (hmemr b (by rw[← ho];exact hb.symm))
               · have:b=w.heap.size:=Option.some.inj (hb.trans ho)
                 subst this;exact⟨h.val _ (Nat.le_refl _),.inl h.stp.size,λhm=>Nat.lt_irrefl _ (h.mi _ hm).1⟩
             · exact h.own b (List.mem_append.2 (.inr hb)),
         hnw:=h.hnw,
         rnw:=λx hx b hb=>by
           rcases a3 x hx with rfl|⟨hx,_⟩
           · rcases hG.own with ho|ho
             · exact h.rnw r (Ds hg) b (by rw[← ho];exact hb)
             · have:b=w.heap.size:=Option.some.inj (hb.symm.trans ho)
               subst this;exact h.stp.size
           · exact h.rnw x hx b hb,
         fro:=λx hx=>(h.fro x hx).mono hF,fac:=λφ hφ=>h.mono φ hφ _ _ _ _ (h.fac φ hφ) hF,mono:=h.mono}
theorem AO.rowNil(h:AO X w f H R B Fs)(e:TypeId)(size:Nat):AO X w f H (⟨e,size,none,0,0,[]⟩::R) B Fs :=
 {h with
   row:=λr hr=>by
     rcases List.mem_cons.1 hr with rfl|hr
     · exact F4 _ _ _
     · exact h.row r hr,
   rnw:=λr hr b hb=>by
     rcases List.mem_cons.1 hr with rfl|hr
     · cases hb
     · exact h.rnw r hr b hb}
theorem AO.done{size c:Nat}(h:AO X w f H R B Fs)(hg:getR R i=some ⟨e,size,some ⟨b,0,none⟩,c,n,xs⟩)(hs:PY R i=some R'):∃f',AO X w f' H R' (⟨b,0,xs⟩::B) Fs:=by
 have hr:=h.row _ (Ds hg);have hown:=h.own b (List.mem_append.2 (.inr (List.mem_filterMap.2 ⟨_,Ds hg,rfl⟩)));have hnw:=h.rnw _ (Ds hg) b rfl;have hlt:b<w.heap.size:=hr.lt rfl
 let f':Fq:=λk=>if k=b then n*size else f k
 have hF:Hp w f w f':=λk=>by
   show f k≤(if k=b then n*size else f k)∧_
   split
   · rename_i hk;subst hk;rw[hown.1];exact⟨Nat.zero_le _,λo ho=>by omega⟩
   · exact⟨Nat.le_refl _,λ_ _=>rfl⟩
 have hne:∀k,k≠b→f' k=f k:=λk hk=>if_neg hk;have hsub:=Q2 hs
 have hbR:b∉C6 H R':=by
   have:∀(R R':List RB)(i:Nat)(N:List Nat),getR R i=some ⟨e,size,some ⟨b,0,none⟩,c,n,xs⟩→PY R i=some R'→(N++IL R).Nodup→b∉N++IL R':=by
     intro R
     induction R with
     |nil=>intro R' i N hg;cases hg
     |cons x R ih =>
       intro R' i N hg hs hn
       cases i with
       |zero =>
         cases hg;cases hs
         have e1:IL (⟨e,size,some ⟨b,0,none⟩,c,n,xs⟩::R)=b::IL R:=rfl;rw[e1] at hn;intro hb;rcases List.mem_append.1 hb with hb|hb
         · exact (List.nodup_append.1 hn).2.2 b hb b (.head _) rfl
         · exact (List.nodup_cons.1 (List.nodup_append.1 hn).2.1).1 hb
       |succ i =>
         unfold PY at hs
         cases hr:PY R i with
         |none=>rw[hr] at hs;cases hs
         |some R1 =>
           rw[hr] at hs;cases hs
           have ex:∀L:List RB,IL (x::L)=(match rb x.a with|some b=>b::IL L|none=>IL L):=λL=>by
             unfold IL;rw[List.filterMap_cons];cases rb x.a <;> rfl
           rw[ex] at hn ⊢
           cases hx:rb x.a with
           |none=>rw[hx] at hn;exact ih R1 i N hg hr hn
           |some k =>
             rw[hx] at hn;have:=ih R1 i (N++[k]) hg hr (by simpa using hn);simpa using this
   exact this R R' i (H.map HB.b) hg hs h.nd
 refine⟨f',{stp:=h.stp,old:=λk hk=>(hne k oM).trans (h.old k hk),val:=λk hk=>(hne k oM).trans (h.val k hk),ent:=h.ent.trans hF,res:=h.stab _ _ _ _ h.res hF (λ_ _=>rfl),stab:=h.stab,
               mi:=λk hk=>⟨(h.mi k hk).1,(hne k (λe=>hown.2.2 (e▸hk))).trans (h.mi k hk).2.1,(h.mi k hk).2.2⟩,
               blk:=h.blk,row:=λr hr=>h.row r (hsub.subset hr),nd:=(List.Sublist.append (List.Sublist.refl _) (hsub.filterMap _)).nodup h.nd,
               own:=λk hk=>by
                 have hk2:k∈C6 H R:=(List.Sublist.append (List.Sublist.refl (H.map (·.b))) (hsub.filterMap _)).subset hk;exact⟨(hne k (λe=>hbR (e▸hk))).trans (h.own k hk2).1,(h.own k hk2).2⟩,
               hnw:=h.hnw,rnw:=λr hr=>h.rnw r (hsub.subset hr),
               fro:=λx hx=>by
                 rcases List.mem_cons.1 hx with rfl|hx
                 · intro j v hj
                   have hj:xs[j]?=some v:=hj;obtain⟨hl,_⟩:=List.getElem?_eq_some_iff.1 hj;rcases hr.2 with ⟨h0,_⟩|⟨b',l,ha,hb,hnc,_,hll,ht⟩
                   · cases h0
                   · cases ha
                     have hxl:xs.length=n*size:=hr.1;have ht:l.take (n*size)=xs:=ht;refine⟨?_,?_⟩
                     · show 0+j<(if b=b then n*size else f b)
                       rw[if_pos rfl];omega
                     · show w.cell? ⟨b,0+j,none⟩=some v
                       rw[hb.cell,Nat.zero_add];rw[← ht,List.getElem?_take] at hj
                       split at hj
                       · exact hj
                       · cases hj
                 · exact (h.fro x hx).mono hF,
               fac:=λφ hφ=>h.mono φ hφ _ _ _ _ (h.fac φ hφ) hF,mono:=h.mono}⟩
end
def AE:List (World→Fq→Prop)→World→Fq→Prop
 | [],_,_=>True
 |φ::l,w,f=>φ w f∧AE l w f
def Ax:List (World→Fq→Prop)→Prop
 | []=>True
 |φ::l=>Fc φ∧Ax l
theorem AE.mem:∀{l:List (World→Fq→Prop)}{w:World}{f:Fq},AE l w f→∀φ,φ∈l→φ w f
 | [],_,_,_,_,h=>by cases h
 |_::_,_,_,h,φ,hφ=>by
   rcases List.mem_cons.1 hφ with rfl|hφ
   · exact h.1
   · exact AE.mem h.2 φ hφ
theorem Ax.mem:∀{l:List (World→Fq→Prop)},Ax l→∀φ,φ∈l→Fc φ
 | [],_,_,h=>by cases h
 |_::_,h,φ,hφ=>by
   rcases List.mem_cons.1 hφ with rfl|hφ
   · exact h.1
   · exact Ax.mem h.2 φ hφ
def Bw{α:Type}(val:α→Value)(q:α→Prop)(F':α→List (World→Fq→Prop))(w:World)(f:Fq)(v:Value)(w':World):Prop:=∃x f',v=val x∧q x∧C2 (λ_=>False) w f w' f'∧AE (F' x) w' f'
def ED{α:Type}(val:α→Value)(q:α→Prop)(MI:Nat→Prop)(I':α→World→Fq→Prop)(F':α→List (World→Fq→Prop))(w:World)(f:Fq)(v:Value)(w':World):Prop:=∃x f',v=val x∧q x∧C2 MI w f w' f'∧I' x w' f'∧AE (F' x) w' f'
def Vl(w:World)(f:Fq):Prop:=∀b,w.heap.size≤b→f b=0
abbrev X0(w:World)(f:Fq):Cx:=⟨λ_=>False,λ_=>False,λ_ _=>True,w,f⟩
theorem BR{w:World}{f:Fq}{Fs:List (World→Fq→Prop)}(hv:Vl w f)(hF:AE Fs w f)(hm:Ax Fs):AO (X0 w f) w f [] [] [] Fs where
 stp:=LH.refl _ _
 old _ _:=rfl
 val:=hv
 ent:=Hp.refl _ _
 res:=trivial
 stab _ _ _ _ _ _ _:=trivial
 mi _ h:=h.elim
 blk _ h:=by cases h
 row _ h:=by cases h
 nd:=List.nodup_nil
 own _ h:=by cases h
 hnw _ h:=by cases h
 rnw _ h:=by cases h
 fro _ h:=by cases h
 fac:=hF.mem
 mono:=hm.mem
theorem AO.vl{X:Cx}{w:World}{f:Fq}{H:List HB}{R:List RB}{B:List FB}{Fs:List (World→Fq→Prop)}(h:AO X w f H R B Fs):Vl w f:=h.val
def Kh:List HB→Nat→Option (List HB)
 | [],_=>none
 |_::H,0=>some H
 |x::H,i+1=>match Kh H i with
   |some r=>some (x::r)
   |none=>none
theorem K8:∀{H H':List HB}{i:Nat},Kh H i=some H'→H'.Sublist H
 | [],_,_,h=>by cases h
 |_::_,_,0,h=>by cases h;exact List.sublist_cons_self _ _
 |x::H,H',i+1,h=>by
   unfold Kh at h
   cases hr:Kh H i with
   |none=>rw[hr] at h;cases h
   |some r=>rw[hr] at h;cases h;exact (K8 hr).cons_cons x
theorem Km:∀{H H':List HB}{i:Nat}{e:HB}{L:List Nat},Hg H i=some e→Kh H i=some H'→(H.map HB.b++L).Nodup→e.b∉H'.map HB.b++L
 | [],_,_,_,_,h,_,_=>by cases h
 |x::H,H',0,e,L,hg,hs,hn=>by
   cases hg;cases hs
   exact (List.nodup_cons.1 hn).1
 |x::H,H',i+1,e,L,hg,hs,hn=>by
   unfold Kh at hs
   cases hr:Kh H i with
   |none=>rw[hr] at hs;cases hs
   |some r =>
     rw[hr] at hs;cases hs;have hn':(x.b::(H.map HB.b++L)).Nodup:=hn;have ih:=Km (H:=H) (L:=L) hg hr (List.nodup_cons.1 hn').2;intro hb;have hb':e.b∈x.b::(r.map HB.b++L):=hb;rcases List.mem_cons.1 hb' with h|h
     · exact (List.nodup_cons.1 hn').1 (by rw[← h];exact List.mem_append.2 (.inl (List.mem_map.2 ⟨e,BG hg,rfl⟩)))
     · exact ih h
section
variable{X:Cx}{w w':World}{f:Fq}{H H':List HB}{R R':List RB}{B:List FB}{Fs:List (World→Fq→Prop)}
variable {b:Nat}
theorem AO.doneH{T:TypeId}(h:AO X w f H R B Fs)(hg:Hg H i=some ⟨b,l,T,true⟩)(hs:Kh H i=some H'):∃f',AO X w f' H' R (⟨b,0,l⟩::B) Fs:=by
 have hblk:=h.blk _ (BG hg);have hown:=h.own b (List.mem_append.2 (.inl (List.mem_map.2 ⟨_,BG hg,rfl⟩)));have hnw:=h.hnw _ (BG hg) rfl;have hlt:b<w.heap.size:=hblk.lt
 let f':Fq:=λk=>if k=b then l.length else f k
 have hF:Hp w f w f':=λk=>by
   show f k≤(if k=b then l.length else f k)∧_
   split
   · rename_i hk;subst hk;rw[hown.1];exact⟨Nat.zero_le _,λo ho=>by omega⟩
   · exact⟨Nat.le_refl _,λ_ _=>rfl⟩
 have hne:∀k,k≠b→f' k=f k:=λk hk=>if_neg hk;have hsub:=K8 hs;have hnd:(H.map HB.b++IL R).Nodup:=h.nd;have hbR:b∉C6 H' R:=Km (L:=IL R) hg hs hnd;have hso:(C6 H' R).Sublist (C6 H R):=List.Sublist.append (hsub.map _) (List.Sublist.refl _);have hnw':X.w0.heap.size≤b:=hnw
 refine⟨f',{stp:=h.stp,old:=λk hk=>(hne k oM).trans (h.old k hk),val:=λk hk=>(hne k oM).trans (h.val k hk),ent:=h.ent.trans hF,res:=h.stab _ _ _ _ h.res hF (λ_ _=>rfl),stab:=h.stab,
               mi:=λk hk=>⟨(h.mi k hk).1,(hne k (λe=>hown.2.2 (e▸hk))).trans (h.mi k hk).2.1,(h.mi k hk).2.2⟩,
               blk:=λe he=>h.blk e (hsub.subset he),row:=h.row,nd:=hso.nodup h.nd,
               own:=λk hk=>⟨(hne k (λe=>hbR (e▸hk))).trans (h.own k (hso.subset hk)).1,(h.own k (hso.subset hk)).2⟩,
               hnw:=λe he=>h.hnw e (hsub.subset he),rnw:=h.rnw,
               fro:=λx hx=>by
                 rcases List.mem_cons.1 hx with rfl|hx
                 · intro j v hj
                   have hj:l[j]?=some v:=hj;obtain⟨hl,_⟩:=List.getElem?_eq_some_iff.1 hj;refine⟨?_,?_⟩
                   · show 0+j<(if b=b then l.length else f b)
                     rw[if_pos rfl];omega
                   · show w.cell? ⟨b,0+j,none⟩=some v
                     have hblk:AI w b l T:=hblk;rw[hblk.cell,Nat.zero_add,hj]
                 · exact (h.fro x hx).mono hF,
               fac:=λφ hφ=>h.mono φ hφ _ _ _ _ (h.fac φ hφ) hF,mono:=h.mono}⟩
end
section
variable{P:Program}{n:Nat}{Q:AU}{ds:List Deferred}{X:Cx}{R R':List RB}{B:List FB}{Fs:List (World→Fq→Prop)}{tb:VV}{fs:List Fr}{σ:Bb}{H:List HB}
variable{all r:List Oper}{ty T:TypeId}{pos:String}{af:Array Edge}{g:Option (Nat×Bool)}{d:Nat}{x y:Operand}
theorem NK{k:JZ}(e:TypeId)(size:Nat)(h:A3 P n Q ds X (⟨e,size,none,0,0,[]⟩::R) B Fs k fs σ H):A3 P n Q ds X R B Fs k fs σ H:=λw f hM=>h w f (hM.rowNil e size)
variable {ag nw:Bool}{news vs xs z zl:List Value}{b bytes cs m o off:Nat}{a:Option Addr}{Ts e:TypeId}
theorem fE{k:JZ}{size c:Nat}(i:Nat)(hg:getR R i=some ⟨e,size,some ⟨b,0,none⟩,c,m,xs⟩)(hs:PY R i=some R')(h:A3 P n Q ds X R' (⟨b,0,xs⟩::B) Fs k fs σ H):A3 P n Q ds X R B Fs k fs σ H:=λw f hM=>by
 obtain⟨f',hM'⟩:=hM.done hg hs;exact h w f' hM'
theorem CG{k:JZ}{H':List HB}{T:TypeId}(i:Nat)(hg:Hg H i=some ⟨b,l,T,true⟩)(hs:Kh H i=some H')(h:A3 P n Q ds X R (⟨b,0,l⟩::B) Fs k fs σ H'):A3 P n Q ds X R B Fs k fs σ H:=λw f hM=>by
 obtain⟨f',hM'⟩:=hM.doneH hg hs;exact h w f' hM'
theorem Da{size:Nat}{c k src:Nat}{R':Option Addr→Nat→List RB}(i j:Nat)(hg:gd all σ g=some true)(hd:Nat.blt d n=true)(hT:Mg P T=some (e,size,bytes,zl))(hzl:Nat.beq zl.length size=true)(hsz:Nat.blt 0 size=true)
   (hs:ev σ x=some (.slice a k c)) (hx:ev σ y=some (.slice (some ⟨src,0,none⟩) 1 cs)) (hR:getR R i=some ⟨e,size,a,c,k,xs⟩) (hH:Hg H j=some ⟨src,news,Ts,nw⟩) (hl:Nat.beq news.length size=true) (h1:LG news=true)
   (hS:∀a' c',RO R i ⟨e,size,a',c',k+1,xs++news⟩=some (R' a' c')) (h47:(k+1)*bytes≤140737488355328) (h63:k+1≤9223372036854775807)
   (h:∀a' c',A3 P n Q ds X (R' a' c') B Fs (.ops all r) fs (AA σ d (.slice a' (k+1) c')) H) :
   A3 P n Q ds X R B Fs (.ops all (⟨some d,.call {callee:=.builtin .append,args:=#[x,y],argTypes:=#[T,T]},ty,pos,af,g⟩::r)) fs σ H:=λw f hM =>
 B1 hg (AY hd hT hzl hsz hs hx (hM.row _ (Ds hR)) (hM.blk _ (BG hH)) hl h1 h47 h63 λa' c' w' hr hG=>h a' c' w' f (hM.grow hR (hS a' c') hr hG))
theorem W6{size:Nat}{c k src:Nat}{R':Option Addr→Nat→List RB}(i j:Nat)(hg:gd all σ g=some true)(hd:Nat.blt d n=true)(hT:Mg P T=some (e,size,bytes,zl))(hzl:Nat.beq zl.length size=true)(hsz:Nat.blt 0 size=true)
   (hs:ev σ x=some (.slice a k c)) (hx:ev σ y=some (.slice (some ⟨src,off,none⟩) m cs)) (hR:getR R i=some ⟨e,size,a,c,k,xs⟩) (hB:nth B j=some ⟨src,off,news⟩) (hl:news.length=m*size) (h1:∀v∈news,v.oneCell'=true) (hm:0<m)
   (hS:∀a' c',RO R i ⟨e,size,a',c',k+m,xs++news⟩=some (R' a' c')) (h47:(k+m)*bytes≤140737488355328) (h63:k+m≤9223372036854775807)
   (h:∀a' c',A3 P n Q ds X (R' a' c') B Fs (.ops all r) fs (AA σ d (.slice a' (k+m) c')) H) :
   A3 P n Q ds X R B Fs (.ops all (⟨some d,.call {callee:=.builtin .append,args:=#[x,y],argTypes:=#[T,T]},ty,pos,af,g⟩::r)) fs σ H:=λw f hM=>by
 obtain⟨a',c',w',hr,hrw,hG⟩:=Vh (ty:=ty) hT hzl hsz hs hx (hM.row _ (Ds hR)) (λj u hj=>by rw[Ed];exact (hM.getB hB j u hj).2) hl h1 hm h47 h63;exact B1 hg (Ab hd hr (h a' c' w' f (hM.grow hR (hS a' c') hrw hG)))
theorem wQ{k:Nat}(hg:gd all σ g=some true)(hd:Nat.blt d n=true)(hT:Ip P T=some (e,k))
   (h:∀b,A3 P n Q ds X (⟨e,k,some ⟨b,0,none⟩,0,0,[]⟩::R) B Fs (.ops all r) fs (AA σ d (.slice (some ⟨b,0,none⟩) 0 0)) H) :
   A3 P n Q ds X R B Fs (.ops all (⟨some d,.buildSlice T 0 #[],ty,pos,af,g⟩::r)) fs σ H:=λw f hM=>by
 obtain⟨i,hu,hi,rfl⟩:=G6 hT
 have hr:(Instr.buildSlice T 0 #[]).run P w=.ok (.slice (some ⟨w.heap.size,0,none⟩) 0 0) (w.alloc (.cells #[] e)):=by
   simp[Instr.buildSlice,run_underlying hu,sizeOf,typeInfo,hi,Instr.fill,newRow,show Array.range 0=#[] from rfl]
 refine B1 hg (Ab hd (v:=.slice (some ⟨w.heap.size,0,none⟩) 0 0) (w':=w.alloc (.cells #[] e)) (λρ _ _ _ _ hρ=>by simp[execOp,hr]) ?_)
 have hM1:=(hM.rowNil e i.size).grow (i:=0) (a':=some ⟨w.heap.size,0,none⟩) (c':=0) (n':=0) (xs':=[]) (w':=w.alloc (.cells #[] e)) rfl rfl
   ⟨by simp,.inr ⟨w.heap.size,[],rfl,LR w [] _,Nat.le_refl _,Nat.zero_le _,by simp,by simp⟩⟩ ⟨rfl,rfl,rfl,by rw[G9];omega,λk hk _=>IB w _ k hk,.inr rfl⟩
 exact h w.heap.size _ f hM1
theorem RY{size:Nat}(hz:z.length=size)(hs:0<size)(m:Nat):madeCells z.toArray (m*size)=(F9 m z).toArray:=by
 rw[← Pt size z hz hs m,← M9 m size z hz hs];rfl
theorem K4{size:Nat}(hz:z.length=size):∀m,(F9 m z).length=m*size
 |0=>by simp[F9]
 |m+1=>by rw[F9,List.length_append,K4 hz m,hz,Nat.add_mul];omega
theorem vI{size:Nat}{x y:Operand}(hg:gd all σ g=some true)(hd:Nat.blt d n=true)(hT:Mg P T=some (e,size,bytes,zl))(hzl:Nat.beq zl.length size=true)(hsz:Nat.blt 0 size=true)
   (hx:ev σ x=some (.int .i64 (m:Int))) (hy:ev σ y=some (.int .i64 (m:Int))) (hb:bytes*m≤281474976710656) (h63:m≤maxLen)
   (h:∀b,A3 P n Q ds X (⟨e,size,some ⟨b,0,none⟩,m,m,F9 m zl⟩::R) B Fs (.ops all r) fs (AA σ d (.slice (some ⟨b,0,none⟩) m m)) H) :
   A3 P n Q ds X R B Fs (.ops all (⟨some d,.makeSlice T x y,ty,pos,af,g⟩::r)) fs σ H:=λw f hM=>by
 unfold Mg at hT
 split at hT
 · rename_i e' hu
   split at hT
   · rename_i i hi
     split at hT
     · rename_i z hz
       injection hT with hT
       obtain⟨rfl,rfl,rfl,rfl⟩:=by simpa using hT
       have hzl':z.cells.toList.length=i.size:=Nat.eq_of_beq_eq_true hzl;have hsz':0<i.size:=Nat.le_of_ble_eq_true hsz;have hm63:(m:Int)≤9223372036854775807:=by have:=h63;unfold maxLen at this;omega
       have hbI:(i.bytes:Int)*(m:Int)≤281474976710656:=by
         have:((i.bytes*m:Nat):Int)≤281474976710656:=oM;rwa[Int.natCast_mul] at this
       have hr:=run_make (P:=P) w T e' i z hu hi hz .i64 .i64 (m:Int) (m:Int) oM oM hbI hm63;simp only[Int.toNat_natCast] at hr
       have hc:madeCells z.cells (m*i.size)=(F9 m z.cells.toList).toArray:=by
         have:=RY (z:=z.cells.toList) hzl' hsz' m;simpa using this
       rw[hc] at hr;refine B1 hg (Ab hd (v:=.slice (some ⟨w.heap.size,0,none⟩) m m) (w':=w.alloc (.cells (F9 m z.cells.toList).toArray e')) ?_ ?_)
       · intro ρ _ _ _ _ hρ
         simp[execOp,hρ _ _ hx,hρ _ _ hy,hr]
       · have hM1:=(hM.rowNil e' i.size).grow (i:=0) (a':=some ⟨w.heap.size,0,none⟩) (c':=m) (n':=m) (xs':=F9 m z.cells.toList) (w':=w.alloc (.cells (F9 m z.cells.toList).toArray e')) rfl rfl
           ⟨K4 hzl' m,.inr ⟨w.heap.size,_,rfl,LR w _ _,Nat.le_refl _,h63,K4 hzl' m,by rw[List.take_of_length_le (by rw[K4 hzl' m];exact Nat.le_refl _)]⟩⟩
           ⟨rfl,rfl,rfl,by rw[G9];omega,λk hk _=>IB w _ k hk,.inr rfl⟩
         exact h w.heap.size _ f hM1
     · cases hT
   · cases hT
 · cases hT
theorem Ow:∀(vs cs:List Value)(o k:Nat),(DV cs o vs).take k=DV (cs.take k) o vs
 | [],_,_,_=>rfl
 |v::vs,cs,o,k=>by rw[DV,DV,Ow vs (cs.set o v) (o+1) k,List.take_set]
theorem uZ{size c k:Nat}{v:Value}(i:Nat)(xs':List Value)(hg:gd all σ g=some true)(hx:ev σ x=some (.pointer (some ⟨b,o,none⟩)))(hy:ev σ y=some v)(hv:Hl v=some vs)(hT:AN P T=some (ag,k))(hk:Nat.beq vs.length k=true)(h1:LG vs=true)
   (hR:getR R i=some ⟨e,size,some ⟨b,0,none⟩,c,m,xs⟩) (hf:o+vs.length≤m*size) (he:DV xs o vs=xs') (hS:RO R i ⟨e,size,some ⟨b,0,none⟩,c,m,xs'⟩=some R')
   (h:A3 P n Q ds X R' B Fs (.ops all r) fs σ H):A3 P n Q ds X R B Fs (.ops all (⟨none,.store T x y,ty,pos,af,g⟩::r)) fs σ H:=λw f hM=>by
 subst he;have hr:=hM.row _ (Ds hR);rcases hr.2 with ⟨h0,_⟩|⟨b',l,ha,hb,hmc,hcm,hll,ht⟩
 · cases h0
 · cases ha
   have hxl:xs.length=m*size:=hr.1;have hll:l.length=c*size:=hll;have ht:l.take (m*size)=xs:=ht;have hms:m*size≤c*size:=Nat.mul_le_mul_right _ hmc;have hb:AI w b l e:=hb;refine B1 hg (IA (Nk hx hy (Gt hv) hT hk hb h1 oM) (h _ f (hM.grow hR hS ?_ ?_)))
   · refine⟨by rw[F7];exact hxl,.inr ⟨b,DV l o vs,rfl,setRow_heap w b _ _ e _ hb,hmc,hcm,by rw[F7];exact hll,?_⟩⟩
     rw[Ow,ht]
   · exact⟨rfl,rfl,rfl,by simp[World.setRow],λk hk hne=>setRow_other w b k _ (λe=>hne (by rw[e];rfl)),.inl rfl⟩
end
def Kp(Hk:List HB)(B:List FB)(J:World→Prop)(w:World):Prop:=(∀e,e∈Hk→AI w e.b e.l e.T)∧(∀e,e∈B→∀(j:Nat)(v:Value),e.l[j]?=some v→w.cell? ⟨e.b,e.off+j,none⟩=some v)∧J w
def L3(H:List HB):List Nat→Option (List HB)
 | []=>some []
 |i::l=>match Hg H i,L3 H l with
   |some e,some r=>some (e::r)
   |_,_=>none
theorem Jl{H:List HB}:∀{ix:List Nat}{Hk:List HB},L3 H ix=some Hk→∀e,e∈Hk→e∈H
 | [],_,h,e,he=>by cases h;cases he
 |i::ix,Hk,h,e,he=>by
   unfold L3 at h
   split at h
   · rename_i e0 r h1 h2
     cases h
     rcases List.mem_cons.1 he with rfl|he
     · exact BG h1
     · exact Jl h2 e he
   · cases h
variable {nw top:Bool}{f:Fq}{b id off:Nat}{T:TypeId}{w:World}
theorem AO.kp{X:Cx}{H Hk:List HB}{R:List RB}{B:List FB}{Fs:List (World→Fq→Prop)}{J:World→Prop}(h:AO X w f H R B Fs)(hs:∀e,e∈Hk→e∈H)(hJ:∀w f,X.I w f→C2 X.M X.w0 X.f0 w f→J w):Kp Hk B J w :=
 ⟨λe he=>h.blk e (hs e he),λe he j v hj=>(h.fro e he j v hj).2,hJ w f h.res h.exm⟩
section
variable(P:Program)(n:Nat)(Q:AU)(ds:List Deferred)(X:Cx)(R:List RB)(B:List FB)(Fs:List (World→Fq→Prop))(tb:VV)(l:List Oper)(Hk:List HB)(B0:List FB)(J:World→Prop)
def CL(top:Bool)(t:OT)(σ:Bb)(H:List HB):Prop:=∀w f,AO X w f H R B Fs→Vg P n l Q (Kp Hk B0 J) top t σ ds w
def UY:Nat→List Nat→OT→Bb→List HB→Prop
 |0,_,t,σ,H=>True→CL P n Q ds X R B Fs l Hk B0 J true t σ H
 |m+1,hs,.rd i k,σ,H=>(match nth l i with
   |some ⟨some d,op,_,_,_,g⟩=>(match Nat.blt d n with
     |false=>False
     |true=>(match gd l σ g with
       |none=>False
       |some false=>UY m hs k (AA σ d undef) H
       |some true=>(match op with
         |.load T x=>(match hs with
           | []=>False
           |h::hs=>(match ev σ x,jK tb.ti T with
             |some (.pointer (some ⟨b,o,none⟩)),some (a,q)=>(match Nat.blt h 100 with
               |true=>(match Hg Hk h with
                 |some ⟨b',c,_,_⟩=>(match a with
                   |false=>(match nth c o with
                     |some v=>b'=b∧UY m hs k (AA σ d v) H
                     |none=>False)
                   |true=>(match Sx c o q with
                     |some vs=>b'=b∧UY m hs k (AA σ d (.agg ⟨vs⟩)) H
                     |none=>False))
                 |none=>False)
               |false=>(match hs with
                 | []=>False
                 |j::hs=>(match nth B0 (h-100) with
                   |some ⟨b',off,c⟩=>(match a with
                     |false=>(match nth c j with
                       |some v=>(b'=b∧off+j=o)∧UY m hs k (AA σ d v) H
                       |none=>False)
                     |true=>(match Sx c j q with
                       |some vs=>(b'=b∧off+j=o)∧UY m hs k (AA σ d (.agg ⟨vs⟩)) H
                       |none=>False))
                   |none=>False)))
             |_,_=>False))
         |.indexAddr T x y=>(match ev σ x,ev σ y,UN tb.sl T with
           |some (.slice (some ⟨b,o,none⟩) len _),some (.int _ i),some (_,q)=>(0≤i∧i<len)∧UY m hs k (AA σ d (.pointer (some ⟨b,o+i.toNat*q,none⟩))) H
           |_,_,_=>False)
         |.binOp .add T x y T'=>(match ev σ x,ev σ y with
           |some (.int .i64 a),some (.int .i64 b)=>P3 (a+b)∧UY m hs k (AA σ d (.int .i64 (a+b))) H
           |some (.string ⟨⟨a⟩⟩),some (.string ⟨⟨b⟩⟩)=>a.length+b.length≤9223372036854775807∧UY m hs k (AA σ d (S (a++b))) H
           |_,_=>False)
         |.binOp .sub T x y T'=>(match ev σ x,ev σ y with
           |some (.int .i64 a),some (.int .i64 b)=>P3 (a-b)∧UY m hs k (AA σ d (.int .i64 (a-b))) H
           |_,_=>False)
         |op=>(match pv tb σ op with
           |some v=>UY m hs k (AA σ d v) H
           |none=>False))))
   |_=>False)
 |_+1,_,_,_,_=>False
end
section
variable{P:Program}{n:Nat}{Q:AU}{ds:List Deferred}{X:Cx}{R:List RB}{B:List FB}{Fs:List (World→Fq→Prop)}{tb:VV}{l:List Oper}{Hk:List HB}{B0:List FB}{J:World→Prop}{σ:Bb}{H:List HB}{fs:List Fr}
theorem F3{S:World→Prop}{op:Op}{k:OT}{v:Value}(hi:nth l i=some ⟨some d,op,ty,pos,af,g⟩)(hd:Nat.blt d n=true)(hg:gd l σ g=some true)(hr:∀w,S w→AG P σ op ty w v w)
   (h:Vg P n l Q S true k (AA σ d v) ds w):Vg P n l Q S top (.rd i k) σ ds w:=λa ha =>
 ⟨_,v,(Ep l i).symm.trans hi,.inl ⟨Jj ha hg,λw hS=>hr w hS a.eval _ _ _ _ ha.ev⟩,h _ (ha.put hd v)⟩
theorem cA{S:World→Prop}{op:Op}{k:OT}(hi:nth l i=some ⟨some d,op,ty,pos,af,g⟩)(hd:Nat.blt d n=true)(hg:gd l σ g=some false)
   (h:Vg P n l Q S true k (AA σ d undef) ds w):Vg P n l Q S top (.rd i k) σ ds w:=λa ha =>
 ⟨_,undef,(Ep l i).symm.trans hi,.inr ⟨Jj ha hg,rfl⟩,h _ (ha.put hd undef)⟩
theorem Kp.blk{c:List Value}(h:Kp Hk B0 J w)(hg:Hg Hk i=some ⟨b,c,T,nw⟩):AI w b c T:=h.1 _ (BG hg)
theorem Kp.cel{c:List Value}(h:Kp Hk B0 J w)(hg:nth B0 i=some ⟨b,off,c⟩):∀(j:Nat)(v:Value),c[j]?=some v→w.cell? ⟨b,off+j,none⟩=some v:=by
 rw[Ep] at hg;exact h.2.1 _ (List.mem_of_getElem? hg)
theorem OJ(ht:tb.Ok P):∀(m:Nat)(hs:List Nat)(t:OT)(σ:Bb)(H:List HB),UY P n Q ds X R B Fs tb l Hk B0 J m hs t σ H→CL P n Q ds X R B Fs l Hk B0 J true t σ H
 |0,_,_,_,_,h=>h tQ
 |m+1,hs,.fin,σ,H,h=>h.elim
 |m+1,hs,.br _ _ _,σ,H,h=>h.elim
 |m+1,hs,.rd i k,σ,H,h=>by
   have ih:=OJ ht m;intro w f hM;unfold UY at h
   split at h
   · rename_i hi
     split at h
     · exact h.elim
     rename_i hd
     split at h
     · exact h.elim
     · rename_i hg
       exact cA hi hd hg (ih _ _ _ _ h w f hM)
     · rename_i hg
       split at h
       · split at h
         · exact h.elim
         · split at h
           · rename_i hx hT
             split at h
             · split at h
               · rename_i hH
                 split at h
                 · split at h
                   · rename_i v hv
                     obtain⟨rfl,h⟩:=h;rw[Ep] at hv;exact F3 hi hd hg (λw hS=>Ai hx (FM ht.ti hT) (hS.blk hH) hv) (ih _ _ _ _ h w f hM)
                   · exact h.elim
                 · split at h
                   · rename_i vs hv
                     obtain⟨rfl,h⟩:=h;exact F3 hi hd hg (λw hS=>CT hx (FM ht.ti hT) (hS.blk hH) hv) (ih _ _ _ _ h w f hM)
                   · exact h.elim
               · exact h.elim
             · split at h
               · exact h.elim
               · split at h
                 · rename_i hB
                   split at h
                   · split at h
                     · rename_i v hv
                       obtain⟨⟨rfl,rfl⟩,h⟩:=h;rw[Ep] at hv;exact F3 hi hd hg (λw hS=>I7 hx (FM ht.ti hT) (hS.cel hB _ v hv)) (ih _ _ _ _ h w f hM)
                     · exact h.elim
                   · split at h
                     · rename_i vs hv
                       obtain⟨⟨rfl,rfl⟩,h⟩:=h;obtain⟨hk,hg2⟩:=PM hv;exact F3 hi hd hg (λw hS=>Kv hx (FM ht.ti hT) hk (λj v hj=>by have:=hS.cel hB _ v (hg2 j v hj);rwa[← Nat.add_assoc] at this)) (ih _ _ _ _ h w f hM)
                     · exact h.elim
                 · exact h.elim
           · exact h.elim
       · split at h
         · rename_i hx hy hT
           exact F3 hi hd hg (λw _=>NG hx hy (JP ht.sl hT) h.1) (ih _ _ _ _ h.2 w f hM)
         · exact h.elim
       · split at h
         · rename_i hx hy;exact F3 hi hd hg (λw _=>Mt hx hy h.1) (ih _ _ _ _ h.2 w f hM)
         · rename_i hx hy;exact F3 hi hd hg (λw _=>Jt hx hy h.1) (ih _ _ _ _ h.2 w f hM)
         · exact h.elim
       · split at h
         · rename_i hx hy;exact F3 hi hd hg (λw _=>GL hx hy h.1) (ih _ _ _ _ h.2 w f hM)
         · exact h.elim
       · split at h
         · rename_i v hv;exact F3 hi hd hg (λw _=>Px ht hv) (ih _ _ _ _ h w f hM)
         · exact h.elim
   · exact h.elim
theorem wT{t:OT}(ht:tb.Ok P)(m:Nat)(hs:List Nat)(h:UY P n Q ds X R B Fs tb l Hk B0 J m hs t σ H):CL P n Q ds X R B Fs l Hk B0 J true t σ H:=OJ ht m hs t σ H h
theorem Te(hpi:PI Q):∀fs:List Fr,PI (L8 P n Q fs)
 | []=>hpi
 |.sq _::fs=>Te hpi fs
 |.bk _::fs=>Te hpi fs
theorem K2(J:World→Prop)(hJ:∀w f,X.I w f→C2 X.M X.w0 X.f0 w f→J w)(ix:List Nat)(hm:P.follows .mixedOrders=true)(t:OT)(hk:L3 H ix=some Hk)(hok:t.ok l.toArray true (Array.replicate l.length false)=true)(hev:t.even true l.length=true)(hsel:Region.noSelect l.toArray=true)(hpi:PI Q)
   (h:CL P n (L8 P n Q fs) ds X R B Fs l Hk B J true t σ H):A3 P n Q ds X R B Fs (.code (.region id l.toArray true)) fs σ H:=λw f hM=>by
 refine DO hm (Kp Hk B J) t hok hev hsel (λw' hE hz=>?_) (Te hpi fs);have hM':AO X w' f H R B Fs:=hM.call0 (C2.of_ext hE hM.val);exact⟨hM'.kp (Jl hk) hJ,h w' f hM'⟩
theorem Bk(h:A3 P n Q ds X R B Fs (.out .normal) fs σ H):CL P n (L8 P n Q fs) ds X R B Fs l Hk B0 J true .fin σ H:=λw f hM=>Bz (h w f hM)
theorem Ag{k o:OT}{x:Oper}(hi:nth l i=some x)(h:A3 P n (Wx P n l Q (Kp Hk B0 J) k) ds X R B Fs (.ops l [x]) [] σ H)(h2:CL P n Q ds X R B Fs l Hk B0 J false o σ H):CL P n Q ds X R B Fs l Hk B0 J top (.br i k o) σ H :=
 λw f hM=>An ((Ep l i).symm.trans hi) (h w f hM) (h2 w f hM)
theorem Aj:CL P n Q ds X R B Fs l Hk B0 J false .fin σ H:=λ_ _ _=>Af
theorem AW{k:OT}(ix:List Nat)(hJ:∀w f,X.I w f→C2 X.M X.w0 X.f0 w f→J w)(hk:L3 H ix=some Hk)(hB:∀e,e∈B0→e∈B)(h:CL P n Q ds X R B Fs l Hk B0 J true k σ H):A3 P n (Wx P n l Q (Kp Hk B0 J) k) ds X R B Fs (.out .normal) [] σ H:=λw f hM =>
 ⟨⟨λe he=>hM.blk e (Jl hk e he),λe he j v hj=>(hM.fro e (hB e he) j v hj).2,hJ w f hM.res hM.exm⟩,h w f hM⟩
theorem CL.le{t:OT}(hl:Le σ' σ)(h:CL P n Q ds X R B Fs l Hk B0 J top t σ' H):CL P n Q ds X R B Fs l Hk B0 J top t σ H:=λw f hM a ha=>h w f hM a (ha.le hl)
theorem Jm{t:OT}{b:Bool}(s:Nat)(hx:σ s=some (.bool b))(h1:b=true→CL P n Q ds X R B Fs l Hk B0 J top t (AA σ s (.bool true)) H)(h2:b=false→CL P n Q ds X R B Fs l Hk B0 J top t (AA σ s (.bool false)) H):CL P n Q ds X R B Fs l Hk B0 J top t σ H:=by
 cases b with
 |true=>exact CL.le (A6 (le_refl _) hx) (h1 rfl)
 |false=>exact CL.le (A6 (le_refl _) hx) (h2 rfl)
theorem Gn{k:OT}{op:Op}{v:Value}(hi:nth l i=some ⟨some d,op,ty,pos,af,g⟩)(hd:Nat.blt d n=true)(hg:gd l σ g=some true)(hr:∀w,Kp Hk B0 J w→AG P σ op ty w v w)
   (h:CL P n Q ds X R B Fs l Hk B0 J true k (AA σ d v) H):CL P n Q ds X R B Fs l Hk B0 J true (.rd i k) σ H:=λw f hM=>F3 hi hd hg hr (h w f hM)
theorem Br{all r:List Oper}{op:Op}{α:Type}{val:α→Value}{q:α→Prop}{F':α→List (World→Fq→Prop)}(hg:gd all σ g=some true)(hd:Nat.blt d n=true)(he:∀w,Enters P σ op ty w fid args)
   (hc:∀w f,AO X w f H R B Fs→Bo P fid args w (Bw val q F' w f)) (hm:∀x,Ax (F' x))
   (h:∀x,q x→A3 P n Q ds X R B (F' x++Fs) (.ops all r) fs (AA σ d (val x)) H):A3 P n Q ds X R B Fs (.ops all (⟨some d,op,ty,pos,af,g⟩::r)) fs σ H :=
 wC hg hd he (λw f hM=>(hc w f hM).mono λv w' ⟨x,f',h1,h2,h3,h4⟩=>⟨x,f',h1,h2,h3,h4.mem⟩) (λx=>(hm x).mem) h
theorem NS{all r:List Oper}{op:Op}{α:Type}{val:α→Value}{q:α→Prop}{I':α→World→Fq→Prop}{F':α→List (World→Fq→Prop)}
   (hg:gd all σ g=some true) (hd:Nat.blt d n=true) (he:∀w,Enters P σ op ty w fid args)
   (hc:∀w f,AO X w f H R B Fs→BB P fid args w (ED val q X.MI I' F' w f) XX) (hst:∀x,EV X.MI (I' x)) (hm:∀x,Ax (F' x))
   (hp:∀w f c w',AO X w f H R B Fs→XX c w'→Q.p c σ ds w')
   (h:∀x,q x→A3 P n Q ds {X with I:=I' x} R B (F' x++Fs) (.ops all r) fs (AA σ d (val x)) H):A3 P n Q ds X R B Fs (.ops all (⟨some d,op,ty,pos,af,g⟩::r)) fs σ H :=
 wK hg hd he (λw f hM=>(hc w f hM).mono (λv w' ⟨x,f',h1,h2,h3,h4,h5⟩=>⟨x,f',h1,h2,h3,h4,h5.mem⟩) λ_ _ h=>h) hst (λx=>(hm x).mem) hp h
end
end Go.SW
namespace Go.SW
open Go.RowKit Go.SP
structure sI(κ:Type)[BEq κ] where
 enc:κ→Value
 desc:TypeDesc
 same:∀a b,Instr.sameNow desc (enc a) (enc b)=some (a==b)
 chk:∀(P:Program)(k:TypeId)(w:World)(a:κ)(b:Bool),P.underlying k=some desc→(Instr.checkKey b 10000 k (enc a)).run P w=.ok () w
def BI:sI lU where
 enc:=S
 desc:=.string
 same a b:=by
   have:Instr.sameNow .string (S a) (S b)=some ((⟨a.toArray⟩:ByteArray)==⟨b.toArray⟩):=rfl;rw[this,beq_toListBytes,OH,OH]
 chk P k w a b hk:=J2 hk
def EA:sI Int where
 enc n:=.int .i64 n
 desc:=.int .i64
 same a b:=by simp[Instr.sameNow]
 chk P k w a b hk:=by rw[Instr.checkKey];simp[run_underlying hk]
section
variable{κ:Type}[BEq κ](K:sI κ)
def BE(w:World)(m:Nat)(l:List (κ×Value)):Prop:=∃(es:List MapEntry)(c:Nat),w.heap[m]?=some (.map es.toArray c)∧es.map (λe=>(e.key,e.val))=l.reverse.map λp=>(K.enc p.1,p.2)
def Em:List (κ×Value)→κ→Option Value
 | [],_=>none
 |(k,v)::l,x=>if x==k then some v else Em l x
def FC(P:Program)(T:TypeId):Option (TypeId×TypeId):=match P.underlying T with
 |some (.map k e)=>some (k,e)
 |_=>none
end
section
variable{κ:Type}[BEq κ]{K:sI κ}
theorem BE.lt{w:World}{m:Nat}{l:List (κ×Value)}(h:BE K w m l):m<w.heap.size:=by
 obtain⟨es,c,h1,_⟩:=h;rcases Nat.lt_or_ge m w.heap.size with h' | h'
 · exact h'
 · rw[Array.getElem?_eq_none h'] at h1;cases h1
variable {f:Fq}{b:Nat}{w':World}{I':World→Fq→Prop}
theorem BE.heap{w:World}{m:Nat}{l:List (κ×Value)}(h:BE K w m l)(he:w'.heap[m]?=w.heap[m]?):BE K w' m l:=let ⟨es,c,h1,h2⟩:=h;⟨es,c,he.trans h1,h2⟩
def KR(x:κ):List (κ×Value)→Option Value
 | []=>none
 |(k,v)::l=>if x==k then some v else KR x l
theorem M3(x:κ):∀(es:List MapEntry)(l:List (κ×Value))(i:Nat),es.map (λe=>(e.key,e.val))=l.map (λp=>(K.enc p.1,p.2)) →
   (∀v,KR x l=some v→∃j,Instr.findNow K.desc (K.enc x) es i=some (some (j,v)))∧(KR x l=none→Instr.findNow K.desc (K.enc x) es i=some none)
 | [],[],i,_=>⟨λv h=>(by cases h),λ_=>rfl⟩
 | [],_::_,_,h=>by simp at h
 |_::_,[],_,h=>by simp at h
 |e::es,p::l,i,h=>by
   simp only[List.map_cons,List.cons.injEq,Prod.mk.injEq] at h;obtain⟨⟨hk,hv⟩,hr⟩:=h;have ih:=M3 x es l (i+1) hr;have hs:Instr.sameNow K.desc (K.enc x) e.key=some (x==p.1):=by rw[hk];exact K.same x p.1
   obtain⟨pk,pv⟩:=p;unfold Instr.findNow KR;rw[hs]
   cases hc:x==pk with
   |true=>exact⟨λv h=>⟨i,by simp at h;simp[hv,h]⟩,λh=>by simp at h⟩
   |false=>exact⟨λv h=>ih.1 v (by simpa using h),λh=>ih.2 (by simpa using h)⟩
theorem Vm(x:κ):∀(a b:List (κ×Value)),KR x (a++b)=(KR x a).or (KR x b)
 | [],b=>by simp[KR]
 |(k,v)::a,b=>by
   simp only[List.cons_append,KR,Vm x a b]
   split <;> rfl
def Iw[BEq κ]:List (κ×Value)→Prop
 | []=>True
 |(k,_)::l=>Em l k=none∧Iw l
variable[LawfulBEq κ]
theorem PS(x:κ):∀l:List (κ×Value),Iw l→KR x l.reverse=Em l x
 | [],_=>rfl
 |(k,v)::l,h=>by
   rw[List.reverse_cons,Vm,PS x l h.2];simp only[KR,Em]
   cases hc:x==k with
   |true =>
     have:x=k:=by simpa using hc
     subst this;rw[h.1];rfl
   |false=>cases Em l x <;> simp
section
variable{P:Program}{n:Nat}{Q:AU}{ds:List Deferred}{X:Cx}{R:List RB}{B:List FB}{Fs:List (World→Fq→Prop)}{fs:List Fr}{σ:Bb}{H:List HB}{w:World}
variable{all r:List Oper}{ty T k e:TypeId}{pos:String}{af:Array Edge}{g:Option (Nat×Bool)}{d m:Nat}{x y z:Operand}{a:κ}{l:List (κ×Value)}
theorem Jy(h:FC P T=some (k,e)):P.underlying T=some (.map k e):=by
 unfold FC at h
 split at h
 · rename_i hu;cases h;exact hu
 · cases h
def zO(P:Program)(e:TypeId):Option Value:=match P.info? e with|some i=>i.zero|none=>none
def eZ(P:Program)(e:TypeId)(z:Value):Prop:=zO P e=some z
theorem QS{z:Value}(h:eZ P e z):∃i,P.info? e=some i∧i.zero=some z:=by
 unfold eZ zO at h
 split at h
 · rename_i i hi;exact⟨i,hi,h⟩
 · cases h
theorem SC{z:Value}{ok:Bool}(hT:FC P T=some (k,e))(hk:P.underlying k=some K.desc)(hz:eZ P e z)(hm:BE K w m l)(hd:Iw l) :
   (Instr.lookup T (.map (some m)) (K.enc a) ok).run P w=.ok (if ok then .tuple #[(Em l a).getD z,.bool (Em l a).isSome] else (Em l a).getD z) w:=by
 have hu:=Jy hT;obtain⟨es,c,h1,h2⟩:=hm;obtain⟨i,hi,hz⟩:=QS hz;have hget:(getObj m).run P w=.ok (.map es.toArray c) w:=by simp[getObj,Sem.run,h1]
 obtain⟨f1,f2⟩:=M3 (K:=K) a es l.reverse 0 h2;rw[PS a l hd] at f1 f2;have hck:=λb=>K.chk P k w a b hk
 cases hc:Em l a with
 |some v =>
   obtain⟨j,hj⟩:=f1 v hc;simp only[Instr.lookup,Sem.run_bind,run_underlying hu,Result.andThen_ok,hget]
   cases ok <;> simp[hck,Instr.findKey,run_underlying hk,hj]
 |none =>
   have hj:=f2 hc;simp only[Instr.lookup,Sem.run_bind,run_underlying hu,Result.andThen_ok,hget]
   cases ok <;> simp[hck,Instr.findKey,run_underlying hk,hj,zeroValue,typeInfo,hi,hz]
theorem Yk{z:Value}{ok:Bool}(hx:ev σ x=some (.map (some m)))(hy:ev σ y=some (K.enc a))(hT:FC P T=some (k,e))(hk:P.underlying k=some K.desc)(hz:eZ P e z)(hm:BE K w m l)(hd:Iw l) :
   AG P σ (.lookup T x y ok) ty w (if ok then .tuple #[(Em l a).getD z,.bool (Em l a).isSome] else (Em l a).getD z) w:=λρ _ _ _ _ hρ=>by
 simp only[execOp,hρ _ _ hx,hρ _ _ hy];rw[Sem.run_bind,SC hT hk hz hm hd];rfl
theorem IJ{z v:Value}(hx:ev σ x=some (.map (some m)))(hy:ev σ y=some (K.enc a))(hT:FC P T=some (k,e))(hk:P.underlying k=some K.desc)(hz:eZ P e z)(hm:BE K w m l)(hd:Iw l)(hl:Em l a=some v):AG P σ (.lookup T x y true) ty w (.tuple #[v,.bool true]) w:=by
 have:=Yk (ty:=ty) (ok:=true) hx hy hT hk hz hm hd;rw[hl] at this;exact this
theorem IG{z:Value}(hx:ev σ x=some (.map (some m)))(hy:ev σ y=some (K.enc a))(hT:FC P T=some (k,e))(hk:P.underlying k=some K.desc)(hz:eZ P e z)(hm:BE K w m l)(hd:Iw l)(hl:Em l a=none):AG P σ (.lookup T x y true) ty w (.tuple #[z,.bool false]) w:=by
 have:=Yk (ty:=ty) (ok:=true) hx hy hT hk hz hm hd;rw[hl] at this;exact this
theorem Lr{z v:Value}(hx:ev σ x=some (.map (some m)))(hy:ev σ y=some (K.enc a))(hT:FC P T=some (k,e))(hk:P.underlying k=some K.desc)(hz:eZ P e z)(hm:BE K w m l)(hd:Iw l)(hl:(Em l a).getD z=v):AG P σ (.lookup T x y false) ty w v w:=by
 have:=Yk (ty:=ty) (ok:=false) hx hy hT hk hz hm hd;rw[← hl];exact this
theorem WB{v:Value}(hT:FC P T=some (k,e))(hk:P.underlying k=some K.desc)(hm:BE K w m l)(hd:Iw l)(hn:Em l a=none):∃w',(Instr.mapUpdate T (.map (some m)) (K.enc a) v).run P w=.ok () w'∧BE K w' m ((a,v)::l)∧FZ m w w':=by
 have hu:=Jy hT;obtain⟨es,c,h1,h2⟩:=id hm;have hj:=(M3 (K:=K) a es l.reverse 0 h2).2 (by rw[PS a l hd];exact hn);have hget:(getObj m).run P w=.ok (.map es.toArray c) w:=by simp[getObj,Sem.run,h1]
 have hlt:=hm.lt;have hck:=λb=>K.chk P k w a b hk
 have hset:(setObj m (.map (es.toArray.push {key:=K.enc a,val:=v,born:=c}) (c+1))).run P w=.ok () {w with heap:=w.heap.setIfInBounds m (.map (es.toArray.push {key:=K.enc a,val:=v,born:=c}) (c+1))}:=by
   simp[setObj,Sem.run,h1]
 refine⟨{w with heap:=w.heap.setIfInBounds m (.map (es.toArray.push {key:=K.enc a,val:=v,born:=c}) (c+1))},?_,?_,?_⟩
 · simp only[Instr.mapUpdate,Sem.run_bind,run_underlying hu,Result.andThen_ok,hget]
   simp only[hck,Result.andThen_ok,Instr.findKey,Sem.run_bind,run_underlying hk,hj];simp only[Sem.run_pure,Result.andThen_ok];exact hset
 · refine⟨es++[{key:=K.enc a,val:=v,born:=c}],c+1,?_,?_⟩
   · simp[hlt]
   · simp[h2]
 · refine⟨rfl,rfl,rfl,by simp,λj hjm=>?_⟩
   show (w.heap.setIfInBounds m _)[j]?=_;rw[Array.getElem?_setIfInBounds_ne (λe=>hjm e.symm)]
theorem AO.chgI{w:World}(h:AO X w f H R B Fs)(hb:X.MI b)(hC:FZ b w w')(hI:I' w' f)(hst:EV X.MI I'):AO {X with I:=I' } w' f H R B Fs :=
 h.callI ⟨⟨hC.os,hC.tape,hC.output,by rw[hC.size];exact Nat.le_refl _,λk _ hm=>hC.block k (λe=>hm (e▸hb))⟩,λ_ _=>rfl,λk hk=>h.val k (by rw[hC.size] at hk;exact hk)⟩ hI hst
theorem Xr{v:Value}(hg:gd all σ g=some true)(hx:ev σ x=some (.map (some m)))(hy:ev σ y=some (K.enc a))(hz:ev σ z=some v)(hT:FC P T=some (k,e))(hk:P.underlying k=some K.desc)(hmi:X.MI m)(hd:Iw l)(hn:Em l a=none)
   (hm:∀w f,X.I w f→BE K w m l) (hI:∀w f w',X.I w f→AO X w f H R B Fs→FZ m w w'→BE K w' m ((a,v)::l)→I' w' f) (hst:EV X.MI I')
   (h:A3 P n Q ds {X with I:=I' } R B Fs (.ops all r) fs σ H):A3 P n Q ds X R B Fs (.ops all (⟨none,.mapUpdate T x y z,ty,pos,af,g⟩::r)) fs σ H:=λw f hM=>by
 obtain⟨w',h1,h2,h3⟩:=WB (v:=v) hT hk (hm w f hM.res) hd hn;refine B1 hg (IA (w':=w') (λρ _ _ _ _ hρ=>?_) (h w' f (hM.chgI hmi h3 (hI w f w' hM.res hM h3 h2) hst)));simp only[execOp,hρ _ _ hx,hρ _ _ hy,hρ _ _ hz];rw[Sem.run_bind,h1];rfl
omit [LawfulBEq κ] in
theorem sS(hg:gd all σ g=some true)(hd:Nat.blt d n=true)
   (h:∀m,A3 P n Q ds {X with MI:=λb=>X.MI b∨b=m,I:=λw f=>X.I w f∧BE K w m []} R B Fs (.ops all r) fs (AA σ d (.map (some m))) H):A3 P n Q ds X R B Fs (.ops all (⟨some d,.makeMap T none,ty,pos,af,g⟩::r)) fs σ H:=λw f hM=>by
 refine B1 hg (Ab (v:=.map (some w.heap.size)) (w':=w.alloc (.map #[] 0)) hd (λρ _ _ _ _ hρ=>by simp[execOp,Instr.makeMap]) (h w.heap.size _ f ?_));have h1:AO X (w.alloc (.map #[] 0)) f H R B Fs:=hM.call0 (C2.of_ext (Jh w _) hM.val);have hnew:∀b,b∈C6 H R→b≠w.heap.size:=λb hb e=>Nat.lt_irrefl _ (e▸hM.lt hb)
 exact {h1 with
         res:=⟨h1.res,[],0,heap_alloc_new w _,rfl⟩,
         stab:=λw1 f1 w2 f2 hI hF hb=>⟨h1.stab w1 f1 w2 f2 hI.1 hF λb hm=>hb b (.inl hm),hI.2.heap (hb _ (.inr rfl))⟩,
         mi:=λb hb=>by
           rcases hb with hb|rfl
           · exact h1.mi b hb
           · exact⟨by rw[G9];omega,hM.val _ (Nat.le_refl _),.inl hM.stp.size⟩,
         own:=λb hb=>⟨(h1.own b hb).1,(h1.own b hb).2.1,λhm=>by
           rcases hm with hm|rfl
           · exact (h1.own b hb).2.2 hm
           · exact hnew _ hb rfl⟩}
end
end
end Go.SW
namespace Go.SW
def nA(P:Program)(T T':TypeId):Bool:=match P.underlying T,P.underlying T' with
 |some _,some .string=>true
 |_,_=>false
end Go.SW
namespace Go.SP
inductive Ty where
 |nil
 |var (n:Int) (r:Ty)
 |con (tx:lU) (k r:Ty)
inductive T1 where
 |var (n:Int)
 |con (tx:lU) (k:Ty)
def T1.cons:T1→Ty→Ty
 |.var n,r=>.var n r
 |.con tx k,r=>.con tx k r
def T1.one(t:T1):Ty:=t.cons .nil
def Ty.app:Ty→Ty→Ty
 |.nil,y=>y
 |.var n r,y=>.var n (r.app y)
 |.con tx k r,y=>.con tx k (r.app y)
def Ty.len:Ty→Nat
 |.nil=>0
 |.var _ r=>r.len+1
 |.con _ _ r=>r.len+1
def Ty.get:Ty→Nat→Option T1
 |.nil,_=>none
 |.var n _,0=>some (.var n)
 |.con tx k _,0=>some (.con tx k)
 |.var _ r,i+1=>r.get i
 |.con _ _ r,i+1=>r.get i
def Ty.snoc(a:Ty)(t:T1):Ty:=a.app t.one
def Ty.hd:Ty→T1
 |.nil=>.var 0
 |.var n _=>.var n
 |.con tx k _=>.con tx k
abbrev BS:=List (Int×T1)
def CD:BS→Int→Option T1
 | [],_=>none
 |(k,t)::s,n=>if k==n then some t else CD s n
def HA(b:BS):Nat→T1→T1
 |0,t=>t
 |k+1,t=>match t with
   |.con tx ks=>.con tx ks
   |.var n=>match CD b n with
     |none=>.var n
     |some t'=>HA b k t'
def Ap(b:BS)(t:T1):T1:=HA b (b.length+1) t
def JK(b:BS):Nat→Ty→Bool
 |_,.nil=>true
 |0,_=>false
 |k+1,.var n r=>match Ap b (.var n) with
   |.var _=>JK b k r
   |.con _ ks=>JK b k (ks.app r)
 |k+1,.con _ ks r=>JK b k (ks.app r)
def Hn(b:BS)(t:T1):Bool:=JK b 1000 t.one
def CF(b:BS)(x:Int):Nat→Ty→Bool
 |_,.nil=>true
 |0,_=>true
 |k+1,.var n r=>match Ap b (.var n) with
   |.var m=>!(m==x)&&CF b x k r
   |.con _ ks=>CF b x k (ks.app r)
 |k+1,.con _ ks r=>CF b x k (ks.app r)
def Cl(b:BS)(n:Int)(t:T1):Except Int BS :=
 if Hn b t then (if CF b n 1000 t.one then .ok ((n,t)::b) else .error 11) else .error 4
def HV(f:BS→Ty→Ty→Except Int BS)(b:BS)(x y:T1)(r q:Ty):Except Int BS :=
 match x,y with
 |.var n,.var m=>if n==m then f b r q else (match Cl b n (.var m) with|.error e=>.error e|.ok b'=>f b' r q)
 |.var n,.con ty kb=>(match Cl b n (.con ty kb) with|.error e=>.error e|.ok b'=>f b' r q)
 |.con tx ka,.var m=>(match Cl b m (.con tx ka) with|.error e=>.error e|.ok b'=>f b' r q)
 |.con tx ka,.con ty kb=>if !(tx==ty)||(ka.len:Int) != kb.len then .error 11 else f b (ka.app r) (kb.app q)
def Ty.tl:Ty→Ty
 |.nil=>.nil
 |.var _ r=>r
 |.con _ _ r=>r
def Lh:Nat→BS→Ty→Ty→Except Int BS
 |_,b,.nil,_=>.ok b
 |0,_,_,_=>.error 4
 |k+1,b,.var n r,y=>HV (Lh k) b (Ap b (.var n)) (Ap b y.hd) r y.tl
 |k+1,b,.con tx ka r,y=>HV (Lh k) b (.con tx ka) (Ap b y.hd) r y.tl
def FW(b:BS)(x y:T1):Except Int BS:=Lh 10000 b x.one y.one
def AM(b:BS):Nat→Ty→Ty
 |_,.nil=>.nil
 |0,_=>.nil
 |k+1,.var n r=>match Ap b (.var n) with
   |.var m=>.var m (AM b k r)
   |.con tx ks=>.con tx (AM b k ks) (AM b k r)
 |k+1,.con tx ks r=>.con tx (AM b k ks) (AM b k r)
def CP(b:BS)(t:T1):Option T1:=if Hn b t then some (AM b 1000 t.one).hd else none
def C5:Ty→List Int→List Int
 |.nil,s=>s
 |.var n r,s=>C5 r (if s.contains n then s else s++[n])
 |.con _ k r,s=>C5 r (C5 k s)
def Aq(t:T1):List Int:=C5 t.one []
def Dv:List Int→Int→Option Nat
 | [],_=>none
 |k::l,n=>if k==n then some 0 else (Dv l n).map (· + 1)
def Dw(l:List Int)(by_:Ty):Ty→Ty
 |.nil=>.nil
 |.var n r=>match (Dv l n).bind by_.get with
   |some t=>t.cons (Dw l by_ r)
   |none=>.var n (Dw l by_ r)
 |.con tx k r=>.con tx (Dw l by_ k) (Dw l by_ r)
def Cn(t:T1)(l:List Int)(by_:Ty):T1:=(Dw l by_ t.one).hd
def bI:lU:=[105,110,116]
def bF:lU:=[102,108,111,97,116]
def bS:lU:=[115,116,114,105,110,103]
def bU:lU:=[117,110,105,116]
def bB:lU:=[98,111,111,108]
def bX:lU:=[101,120,110]
def El:lU:=[45,62]
def QJ:lU:=[116,117,112,108,101]
def I0:lU:=[114,101,102]
def CU:lU:=[112,114,101,102]
def c0(tx:lU):T1:=.con tx .nil
def Hj:Ty→T1
 |.nil=>.var 0
 |.var n .nil=>.var n
 |.con tx k .nil=>.con tx k
 |.var n r=>.con El (.var n (Hj r).one)
 |.con tx k r=>.con El (.con tx k (Hj r).one)
structure Mk where
 args:Ty
 out:T1
 vars:List Int
structure CS where
 sol:BS
 fresh:Int
 cons:List (lU×Mk)
 datas:List (lU×Int)
 roots:List lU
 vars:Int
structure Bd where
 name:lU
 t:T1
 all:List Int
abbrev Ba:=List Bd
abbrev Er:=Int×Int×Int
abbrev RI(α:Type):=Except Er α
def AR{α:Type}:List (lU×α)→lU→Option α
 | [],_=>none
 |(k,v)::l,n=>if k==n then some v else AR l n
def A7(s:CS):T1×CS:=(.var (s.fresh+1),{s with fresh:=s.fresh+1})
def EO(s:CS)(a b:T1)(ln co:Int):RI CS:=match FW s.sol a b with
 |.error e=>.error (ln,co,e)
 |.ok m=>.ok {s with sol:=m}
def GD(s:CS)(t:T1)(ln co:Int):RI T1:=match CP s.sol t with
 |none=>.error (ln,co,4)
 |some f=>.ok f
def Bx(s:CS):Ba→List Int
 | []=>[]
 |b::e=>(match CP s.sol b.t with
   |none=>[]
   |some f=>(Aq f).filter λv=>!b.all.contains v)++Bx s e
def GJ(s:CS)(e:Ba)(name:lU)(t:T1)(value:Bool)(ln co:Int):RI Ba :=
 if value then (match GD s t ln co with
   |.error x=>.error x
   |.ok f=>.ok (⟨name,f,(Aq f).filter λv=>!(Bx s e).contains v⟩::e))
 else .ok (⟨name,t,[]⟩::e)
def Bp:List Int→CS→Ty×CS
 | [],s=>(.nil,s)
 |_::l,s=>((A7 s).1.cons (Bp l (A7 s).2).1,(Bp l (A7 s).2).2)
def Ij(s:CS)(tx:lU)(k:Nat)(ln co:Int):RI (Ty×T1×CS):=match AR s.cons tx with
 |none=>.error (ln,co,11)
 |some m=>if (m.args.len:Int)==k then .ok (Dw m.vars (Bp m.vars s).1 m.args,Cn m.out m.vars (Bp m.vars s).1,(Bp m.vars s).2) else .error (ln,co,11)
def MT:Ba→lU→Option Bd
 | [],_=>none
 |b::e,n=>if b.name==n then some b else MT e n
def Hf(s:CS)(e:Ba)(tx:lU)(ln co:Int):RI (T1×CS):=match MT e tx with
 |none=>.error (ln,co,11)
 |some b=>match GD s b.t ln co with
   |.error x=>.error x
   |.ok f =>
     let vs:=(Aq f).filter λv=>b.all.contains v
     .ok (Cn f vs (Bp vs s).1,(Bp vs s).2)
def Um(f:Int→Nd→Bool):Nd→Bool
 |.nil=>true
 |.cons op _ _ _ _ k r=>f op k&&Um f r
def Cq:Nat→Int→Nd→Bool
 |0,_,_=>false
 |n+1,op,kids =>
   if op==1||op==2||op==3||op==4||op==5||op==7 then true
   else if op==6||op==13 then Um (Cq n) kids else false
abbrev LF:=CS→Ba→Int→Int→Int→lU→Int→Nd→RI (T1×CS)
def Ec(f:LF)(e:Ba):CS→Nd→RI (Ty×CS)
 |s,.nil=>.ok (.nil,s)
 |s,.cons op ln co tx nm k r=>match f s e op ln co tx nm k with
   |.error x=>.error x
   |.ok (t,s1)=>match Ec f e s1 r with
     |.error x=>.error x
     |.ok (l,s2)=>.ok (t.cons l,s2)
def FY(f:LF)(e:Ba):CS→Ty→Nd→RI CS
 |s,a,.cons op ln co tx nm k r=>match f s e op ln co tx nm k with
   |.error x=>.error x
   |.ok (t,s1)=>match EO s1 a.hd t ln co with
     |.error x=>.error x
     |.ok s2=>FY f e s2 a.tl r
 |s,_,.nil=>.ok s
def J4(f:LF)(e:Ba):CS→T1→Nd→RI (T1×CS)
 |s,t,.nil=>.ok (t,s)
 |s,t,.cons op ln co tx nm k r=>match f s e op ln co tx nm k with
   |.error x=>.error x
   |.ok (a,s1)=>match EO (A7 s1).2 t (.con El (a.cons (A7 s1).1.one)) ln co with
     |.error x=>.error x
     |.ok s2=>J4 f e s2 (A7 s1).1 r
def Fa:CS→Ba→Nd→Ty×Ba×CS
 |s,e,.nil=>(.nil,e,s)
 |s,e,.cons _ _ _ _ _ _ .nil=>(.nil,e,s)
 |s,e,.cons op _ _ tx _ _ r =>
   let e1:=if op==22 then ⟨tx,(A7 s).1,[]⟩::e else e
   let (l,e2,s2):=Fa (A7 s).2 e1 r
   ((A7 s).1.cons l,e2,s2)
def Nd.last:Nd→Option N
 |.nil=>none
 |.cons op ln co tx nm k .nil=>some ⟨op,ln,co,tx,nm,k⟩
 |.cons _ _ _ _ _ _ r=>r.last
def Ty.last:Ty→T1
 |.nil=>.var 0
 |.var n .nil=>.var n
 |.con tx k .nil=>.con tx k
 |.var _ r=>r.last
 |.con _ _ r=>r.last
abbrev N2:=CS→Ba→Int→Int→Int→lU→Int→Nd→RI (T1×Ba×CS)
def Ga(f:N2):CS→Ba→Ty→Nd→RI (Ba×CS)
 |s,e,_,.nil=>.ok (e,s)
 |s,e,a,.cons op ln co tx nm k r=>match f s e op ln co tx nm k with
   |.error x=>.error x
   |.ok (q,e1,s1)=>match EO s1 a.hd q ln co with
     |.error x=>.error x
     |.ok s2=>Ga f s2 e1 a.tl r
def EZ(f:N2):CS→Ba→Nd→RI (Ty×Ba×CS)
 |s,e,.nil=>.ok (.nil,e,s)
 |s,e,.cons op ln co tx nm k r=>match f s e op ln co tx nm k with
   |.error x=>.error x
   |.ok (q,e1,s1)=>match EZ f s1 e1 r with
     |.error x=>.error x
     |.ok (l,e2,s2)=>.ok (q.cons l,e2,s2)
def CR(f:N2)(s:CS)(e:Ba)(op ln co:Int)(tx:lU)(kids:Nd):RI (T1×Ba×CS) :=
 if op==21 then .ok ((A7 s).1,e,(A7 s).2)
 else if op==22 then .ok ((A7 s).1,⟨tx,(A7 s).1,[]⟩::e,(A7 s).2)
 else if op==23 then .ok (c0 bI,e,s)
 else if op==24 then .ok (c0 bS,e,s)
 else if op==25 then .ok (c0 bU,e,s)
 else if op==26 then (match Ij s tx kids.len ln co with
   |.error x=>.error x
   |.ok (args,out,s1)=>match Ga f s1 e args kids with
     |.error x=>.error x
     |.ok (e2,s2)=>.ok (out,e2,s2))
 else if op==27 then (match EZ f s e kids with
   |.error x=>.error x
   |.ok (l,e2,s2)=>.ok (.con QJ l,e2,s2))
 else .ok (.var 0,e,s)
def Cp:Nat→N2
 |0,_,_,_,ln,co,_,_,_=>.error (ln,co,11)
 |n+1,s,e,op,ln,co,tx,_,kids=>match CR (Cp n) s e op ln co tx kids with
   |.error x=>.error x
   |.ok (t,e1,s1)=>match GD s1 t ln co with
     |.error x=>.error x
     |.ok _=>.ok (t,e1,s1)
def Dx(n:Nat)(f:LF)(e:Ba)(pt:T1):CS→Option T1→Nd→RI (T1×CS)
 |s,t,.nil=>.ok (t.getD (.var 0),s)
 |s,t,.cons _ _ _ _ _ ks r=>match ks with
   |.cons op ln co tx nm pk (.cons bop bln bco btx bnm bk _)=>(match Cp n s e op ln co tx nm pk with
     |.error x=>.error x
     |.ok (q,inner,s1)=>match EO s1 pt q ln co with
       |.error x=>.error x
       |.ok s2=>match f s2 inner bop bln bco btx bnm bk with
         |.error x=>.error x
         |.ok (rt,s3)=>match t with
           |some t0=>(match EO s3 t0 rt bln bco with
             |.error x=>.error x
             |.ok s4=>Dx n f e pt s4 (some t0) r)
           |none=>Dx n f e pt s3 (some rt) r)
   |_=>.ok (t.getD (.var 0),s)
def GW(f:LF)(s:CS)(e:Ba)(ln co:Int)(tx:lU)(op0 ln0 co0:Int)(tx0:lU)(nm0:Int)(k0:Nd):RI (T1×CS) :=
 match f (A7 s).2 (⟨tx,(A7 s).1,[]⟩::e) op0 ln0 co0 tx0 nm0 k0 with
 |.error x=>.error x
 |.ok (t,s1)=>match EO s1 (A7 s).1 t ln co with
   |.error x=>.error x
   |.ok s2=>.ok (t,s2)
def Bi(n:Nat)(f:LF)(s:CS)(e:Ba)(op ln co:Int)(tx:lU)(kids:Nd):RI (T1×CS) :=
 if op==1 then .ok (c0 bI,s)
 else if op==2 then .ok (c0 bF,s)
 else if op==3 then .ok (c0 bS,s)
 else if op==4 then .ok (c0 bU,s)
 else if op==5 then Hf s e tx ln co
 else if op==6 then (match Ij s tx kids.len ln co with
   |.error x=>.error x
   |.ok (args,out,s1)=>match FY f e s1 args kids with
     |.error x=>.error x
     |.ok s2=>.ok (out,s2))
 else if op==7 then (match kids.last with
   |none=>.ok (.var 0,s)
   |some b =>
     let p:=Fa s e kids
     match f p.2.2 p.2.1 b.op b.ln b.co b.tx b.nm b.kids with
     |.error x=>.error x
     |.ok (t,s1)=>.ok (Hj (p.1.snoc t),s1))
 else if op==8 then (match kids with
   |.nil=>.ok (.var 0,s)
   |.cons o l c x m k r=>match f s e o l c x m k with
     |.error x=>.error x
     |.ok (t,s1)=>J4 f e s1 t r)
 else if op==9 then (match kids with
   |.cons o l c x m k (.cons o2 l2 c2 x2 m2 k2 _)=>(match f s e o l c x m k with
     |.error x=>.error x
     |.ok (t,s1)=>match (if tx==[95] then .ok e else GJ s1 e tx t (Cq (n+1) o k) ln co) with
       |.error x=>.error x
       |.ok e1=>f s1 e1 o2 l2 c2 x2 m2 k2)
   |_=>.ok (.var 0,s))
 else if op==10 then (match kids with
   |.cons o l c x m k (.cons o2 l2 c2 x2 m2 k2 _)=>(match GW f s e ln co tx o l c x m k with
     |.error x=>.error x
     |.ok (t,s1)=>match GJ s1 e tx t true ln co with
       |.error x=>.error x
       |.ok e1=>f s1 e1 o2 l2 c2 x2 m2 k2)
   |_=>.ok (.var 0,s))
 else if op==11 then (match kids with
   |.cons o l c x m k (.cons o2 l2 c2 x2 m2 k2 (.cons o3 l3 c3 x3 m3 k3 _))=>(match f s e o l c x m k with
     |.error x=>.error x
     |.ok (t,s1)=>match EO s1 (c0 bB) t l c with
       |.error x=>.error x
       |.ok s2=>match f s2 e o2 l2 c2 x2 m2 k2 with
         |.error x=>.error x
         |.ok (t2,s3)=>match f s3 e o3 l3 c3 x3 m3 k3 with
           |.error x=>.error x
           |.ok (t3,s4)=>match EO s4 t2 t3 l3 c3 with
             |.error x=>.error x
             |.ok s5=>.ok (t2,s5))
   |_=>.ok (.var 0,s))
 else if op==12 then (match Ec f e s kids with
   |.error x=>.error x
   |.ok (l,s1)=>.ok (l.last,s1))
 else if op==13 then (match Ec f e s kids with
   |.error x=>.error x
   |.ok (l,s1)=>.ok (.con QJ l,s1))
 else if op==14 then (match kids with
   |.nil=>.ok (.var 0,s)
   |.cons o l c x m k r=>match f s e o l c x m k with
     |.error x=>.error x
     |.ok (t,s1)=>Dx n f e t s1 none r)
 else if op==15 then (match kids with
   |.nil=>.ok (.var 0,s)
   |.cons o l c x m k r=>match f s e o l c x m k with
     |.error x=>.error x
     |.ok (t,s1)=>Dx n f e (c0 bX) s1 (some t) r)
 else if op==16 then (match kids with
   |.nil=>.ok (.var 0,s)
   |.cons o l c x m k _=>match f s e o l c x m k with
     |.error x=>.error x
     |.ok (t,s1)=>match EO s1 (c0 bX) t l c with
       |.error x=>.error x
       |.ok s2=>.ok (A7 s2))
 else (match kids with
   |.nil=>.ok (.var 0,s)
   |.cons o l c x m k _=>f s e o l c x m k)
def Cc:Nat→LF
 |0,_,_,_,ln,co,_,_,_=>.error (ln,co,11)
 |n+1,s,e,op,ln,co,tx,_,kids=>match Bi n (Cc n) s e op ln co tx kids with
   |.error x=>.error x
   |.ok (t,s1)=>match GD s1 t ln co with
     |.error x=>.error x
     |.ok _=>.ok (t,s1)
def G5:lU:=[32,105,110,116,32,102,108,111,97,116,32,115,116,114,105,110,103,32,117,110,105,116,32,98,111,111,108,32,101,120,110,32]
def Qm:lU:=[32,116,117,112,108,101,32,114,101,102,32,112,114,101,102,32]
def FJ(datas:List (lU×Int))(vars:List (lU×T1)):Nd→RI Ty
 |.nil=>.ok .nil
 |.cons op ln co tx _ kids r =>
   let one:RI T1:=if op==31 then (match AR vars tx with
       |some t=>.ok t
       |none=>.error (ln,co,11))
     else if (if Dr G5 ([32]++tx++[32]) then (kids.len:Int)==0
         else if tx==El then (kids.len:Int)==2
         else if Dr Qm ([32]++tx++[32]) then true
         else match AR datas tx with|some c=>c==(kids.len:Int)|none=>false)
       then (match FJ datas vars kids with|.error x=>.error x|.ok k=>.ok (.con tx k))
       else .error (ln,co,11)
   match one with
   |.error x=>.error x
   |.ok t=>match FJ datas vars r with
     |.error x=>.error x
     |.ok l=>.ok (t.cons l)
def DX(ln co:Int):Nd→Int→List (lU×T1)→Ty→List Int→RI (Int×List (lU×T1)×Ty×List Int)
 |.nil,v,m,self,nums=>.ok (v,m,self,nums)
 |.cons op _ _ tx _ _ r,v,m,self,nums =>
   if op==31 then (if (AR m tx).isSome then .error (ln,co,11) else DX ln co r (v-1) ((tx,.var (v-1))::m) (self.snoc (.var (v-1))) (nums++[v-1]))
   else DX ln co r v m self nums
def D2(datas:List (lU×Int))(m:List (lU×T1))(out:T1)(nums:List Int):Nd→List (lU×Mk)→RI (List (lU×Mk))
 |.nil,c=>.ok c
 |.cons op ln co tx _ kids r,c =>
   if op==42 then (if (AR c tx).isSome then .error (ln,co,11) else match FJ datas m kids with
     |.error x=>.error x
     |.ok args=>D2 datas m out nums r ((tx,⟨args,out,nums⟩)::c))
   else D2 datas m out nums r c
def GP(s:CS)(ln co:Int)(tx:lU)(kids:Nd):RI CS :=
 if (AR s.datas tx).isSome||Dr G5 ([32]++tx++[32]) then .error (ln,co,11)
 else match DX ln co kids s.vars [] .nil [] with
   |.error x=>.error x
   |.ok (v,m,self,nums) =>
     let datas:=(tx,(nums.length:Int))::s.datas
     match D2 datas m (.con tx self) nums kids s.cons with
     |.error x=>.error x
     |.ok cons=>.ok {s with datas:=datas,cons:=cons,vars:=v}
def Dp(s:CS)(e:Ba)(op ln co:Int)(tx:lU)(kids:Nd):RI (Option (lU×T1)×Ba×CS) :=
 if op==41 then (match GP s ln co tx kids with
   |.error x=>.error x
   |.ok s1=>.ok (none,e,s1))
 else match kids with
   |.nil=>.ok (some (tx,.var 0),e,s)
   |.cons o l c x m k r =>
     if op==43 then (if s.roots.contains tx then .error (ln,co,11) else match FJ s.datas [] (.cons o l c x m k .nil) with
         |.error x=>.error x
         |.ok w=>match r with
           |.nil=>.ok (some (tx,.var 0),e,s)
           |.cons o2 l2 c2 x2 m2 k2 _=>match Cc (k2.size+1) {s with roots:=tx::s.roots} e o2 l2 c2 x2 m2 k2 with
             |.error x=>.error x
             |.ok (t2,s1)=>match EO s1 w.hd t2 ln co with
               |.error x=>.error x
               |.ok s2=>.ok (some (tx,.con CU w),⟨tx,.con CU w,[]⟩::e,s2))
     else if op==44 then (match Cc (k.size+1) s e o l c x m k with
       |.error x=>.error x
       |.ok (t,s1)=>match GJ s1 e tx t (Cq (k.size+1) o k) ln co with
         |.error x=>.error x
         |.ok e1=>.ok (some (tx,t),e1,s1))
     else if op==45 then (match GW (Cc (k.size+1)) s e ln co tx o l c x m k with
       |.error x=>.error x
       |.ok (t,s1)=>match GJ s1 e tx t true ln co with
         |.error x=>.error x
         |.ok e1=>.ok (some (tx,t),e1,s1))
     else (match Cc (k.size+1) s e o l c x m k with
       |.error x=>.error x
       |.ok (t,s1)=>.ok (some ([],t),e,s1))
def DZ:CS→Ba→Nd→List (lU×T1)→RI (List (lU×T1)×CS)
 |s,_,.nil,out=>.ok (out,s)
 |s,e,.cons op ln co tx _ k r,out=>match Dp s e op ln co tx k with
   |.error x=>.error x
   |.ok (none,e1,s1)=>DZ s1 e1 r out
   |.ok (some b,e1,s1)=>DZ s1 e1 r (out++[b])
def TL:Nat→Nat→lU
 |0,_=>[]
 |k+1,n=>if n<10 then [UInt8.ofNat (48+n)] else TL k (n / 10)++[UInt8.ofNat (48+n % 10)]
def D5(i:Nat):lU:=[39,UInt8.ofNat (97+i % 26)]++(if i<26 then [] else TL 20 (i / 26))
def Dt(vs:List Int):Ty→lU
 |.nil=>[]
 |.var n r=>32::((match Dv vs n with|some i=>D5 i|none=>[])++Dt vs r)
 |.con tx .nil r=>32::(tx++Dt vs r)
 |.con tx k r=>32::([40]++tx++Dt vs k++[41]++Dt vs r)
def OP(t:T1):lU:=(Dt (Aq t) t.one).drop 1
def JY(s:CS):List (lU×T1)→RI (List (lU×lU))
 | []=>.ok []
 |(n,t)::l=>match GD s t 0 0 with
   |.error x=>.error x
   |.ok f=>match JY s l with
     |.error x=>.error x
     |.ok r=>.ok ((n,OP f)::r)
def aI:Int := -1
def lI:List (lU×Ty) :=
 let n:=c0 bI;let f:=c0 bF;let s:=c0 bS;let b:=c0 bB;let u:=c0 bU
 let a:=T1.var aI;let r:=T1.con I0 a.one;let p:=T1.con CU a.one
 let l2 (x y:T1):Ty:=x.cons y.one
 let l3 (x y z:T1):Ty:=x.cons (y.cons z.one)
 let ad (names:List lU) (t:Ty):List (lU×Ty):=names.map λx=>(x,t)
 ad [[43],[45],[42],[100,105,118],[109,111,100]] (l3 n n n)++ad [[110,101,103]] (l2 n n)++ad [[60],[60,61],[61]] (l3 n n b) ++
 ad [[102,43],[102,45],[102,42],[102,47]] (l3 f f f)++ad [[102,115,113,114,116],[102,110,101,103]] (l2 f f)++ad [[102,60],[102,61],[102,97,104,101,97,100]] (l3 f f b) ++
 ad [[105,116,111,102]] (l2 n f)++ad [[102,116,111,105]] (l2 f n)++ad [[102,98,105,116,115]] (l2 f s)++ad [[110,97,110],[105,110,102]] f.one ++
 ad [[99,97,116]] (l3 s s s)++ad [[108,101,110],[111,114,100],[97,116,111,105]] (l2 s n)++ad [[115,117,98]] (s.cons (l3 n n s))++ad [[115,61],[115,60]] (l3 s s b) ++
 ad [[105,116,111,97],[99,104,114]] (l2 n s)++ad [[112,114,105,110,116]] (l2 s u)++ad [[114,101,97,100]] (l2 u s)++ad [[114,101,102]] (l2 a r)++ad [[103,101,116]] (l2 r a) ++
 ad [[115,101,116]] (l3 r a u)++ad [[110,101,119]] (l2 a p)++ad [[108,111,97,100]] (l2 p a)++ad [[115,116,111,114,101]] (l3 p a u)
def Pa:Ba:=(lI.map λp=>(⟨p.1,Hj p.2,[aI]⟩:Bd)).reverse
def rB:List (lU×Mk) :=
 [([70,97,105,108],⟨(c0 bS).one,c0 bX,[]⟩),([79,117,116],⟨.nil,c0 bX,[]⟩),([75,101,101,112],⟨.nil,c0 bX,[]⟩),([65,98,111,114,116],⟨.nil,c0 bX,[]⟩),([77,97,116,99,104],⟨.nil,c0 bX,[]⟩),([68,105,118],⟨.nil,c0 bX,[]⟩),
  ([84,114,117,101],⟨.nil,c0 bB,[]⟩),([70,97,108,115,101],⟨.nil,c0 bB,[]⟩)]
def ZS:CS:=⟨[],0,rB,[],[],-1⟩
def C7(nds:Nd):RI (List (lU×lU)):=match DZ ZS Pa nds [] with
 |.error x=>.error x
 |.ok (out,s)=>JY s out
end Go.SP
namespace Go.SP
open Go.SW Go.RowKit
namespace T1
def op:T1→Int
 |.var _=>0
 |.con _ _=>1
def num:T1→Int
 |.var n=>n
 |.con _ _=>0
def tx:T1→lU
 |.var _=>[]
 |.con t _=>t
def kids:T1→Ty
 |.var _=>.nil
 |.con _ k=>k
end T1
def tC(t:T1)(a:Option Addr)(c:Nat):List Value:=[.int .i64 t.op,.int .i64 t.num,S t.tx,.slice a t.kids.len c]
abbrev tV(t:T1)(a:Option Addr)(c:Nat):Value:=.agg #[.int .i64 t.op,.int .i64 t.num,S t.tx,.slice a t.kids.len c]
def Ir(w:World)(f:Fq):Ty→Nat→Nat→Prop
 |.nil,_,_=>True
 |.var n r,b,off=>(∃a c,Cs w f b off [.int .i64 0,.int .i64 n,S [],.slice a 0 c])∧Ir w f r b (off+4)
 |.con tx k r,b,off=>(∃a c,Cs w f b off [.int .i64 1,.int .i64 0,S tx,.slice a k.len c]∧k.len≤c∧(k=.nil∨∃b' off',a=some ⟨b',off',none⟩∧Ir w f k b' off'))∧Ir w f r b (off+4)
def Ak(w:World)(f:Fq)(k:Ty)(a:Option Addr)(c:Nat):Prop:=k.len≤c∧(k=.nil∨∃b off,a=some ⟨b,off,none⟩∧Ir w f k b off)
variable {f f':Fq}{co ln nm:Int}{l:List Value}{b i off:Nat}{U:Nat→Prop}{k r:Nd}{a:Option Addr}{T:TypeId}{w w':World}
theorem Ir.mono(hF:Hp w f w' f'):∀(k:Ty)(b off:Nat),Ir w f k b off→Ir w' f' k b off
 |.nil,_,_,_=>trivial
 |.var _ r,b,off,⟨⟨a,c,h1⟩,h2⟩=>⟨⟨a,c,h1.mono hF⟩,Ir.mono hF r b _ h2⟩
 |.con _ k r,b,off,⟨⟨a,c,h1,h2,h3⟩,h4⟩=>⟨⟨a,c,h1.mono hF,h2,h3.imp id λ⟨b',off',h5,h6⟩=>⟨b',off',h5,Ir.mono hF k b' off' h6⟩⟩,Ir.mono hF r b _ h4⟩
theorem Ak.mono{k:Ty}{c:Nat}:Fc (λw f=>Ak w f k a c):=λ_ _ _ _ h hF=>⟨h.1,h.2.imp id λ⟨b,off,h1,h2⟩=>⟨b,off,h1,Ir.mono hF k b off h2⟩⟩
theorem Ak.nil(w:World)(f:Fq)(a:Option Addr)(c:Nat):Ak w f .nil a c:=⟨Nat.zero_le _,.inl rfl⟩
theorem Ir.cons{t:T1}{r:Ty}:Ir w f (t.cons r) b off↔(∃a c,Cs w f b off (tC t a c)∧Ak w f t.kids a c)∧Ir w f r b (off+4):=by
 cases t with
 |var n=>exact⟨λ⟨⟨a,c,h1⟩,h2⟩=>⟨⟨a,c,h1,Ak.nil _ _ _ _⟩,h2⟩,λ⟨⟨a,c,h1,_⟩,h2⟩=>⟨⟨a,c,h1⟩,h2⟩⟩
 |con tx k=>exact⟨λ⟨⟨a,c,h1,h2,h3⟩,h4⟩=>⟨⟨a,c,h1,h2,h3⟩,h4⟩,λ⟨⟨a,c,h1,h2⟩,h4⟩=>⟨⟨a,c,h1,h2.1,h2.2⟩,h4⟩⟩
theorem Ir.app:∀{x y:Ty}{b off:Nat},Ir w f x b off→Ir w f y b (off+x.len*4)→Ir w f (x.app y) b off
 |.nil,_,b,off,_,h=>by simpa[Ty.len,Ty.app] using h
 |.var _ r,y,b,off,h,hy=>⟨h.1,Ir.app h.2 (by rw[show off+4+r.len*4=off+(r.len+1)*4 by omega];exact hy)⟩
 |.con _ _ r,y,b,off,h,hy=>⟨h.1,Ir.app h.2 (by rw[show off+4+r.len*4=off+(r.len+1)*4 by omega];exact hy)⟩
def BF(w:World)(f:Fq)(a:Option Addr)(i:Nat)(r:Ty):Prop:=r=.nil∨∃b off,a=some ⟨b,off,none⟩∧Ir w f r b (off+i*4)
theorem BF.mono{r:Ty}:Fc (λw f=>BF w f a i r):=λ_ _ _ _ h hF=>h.imp id λ⟨b,off,h1,h2⟩=>⟨b,off,h1,Ir.mono hF r b _ h2⟩
theorem Ak.at{k:Ty}{c:Nat}(h:Ak w f k a c):BF w f a 0 k:=h.2.imp id λ⟨b,off,h1,h2⟩=>⟨b,off,h1,by simpa using h2⟩
theorem BF.head{t:T1}{r:Ty}(h:BF w f a i (t.cons r)):∃b off ka kc,a=some ⟨b,off,none⟩∧Cs w f b (off+i*4) (tC t ka kc)∧Ak w f t.kids ka kc∧BF w f a (i+1) r:=by
 rcases h with h|⟨b,off,h1,h2⟩
 · cases t <;> cases h
 · obtain⟨⟨ka,kc,h3,h4⟩,h5⟩:=Ir.cons.1 h2
   exact⟨b,off,ka,kc,h1,h3,h4,.inr ⟨b,off,h1,by rw[show off+(i+1)*4=off+i*4+4 by omega];exact h5⟩⟩
def NX(w:World)(f:Fq):Nd→Nat→Nat→Prop
 |.nil,_,_=>True
 |.cons op ln co tx nm k r,b,off=>(∃a c,Cs w f b off [.int .i64 op,.int .i64 ln,.int .i64 co,S tx,.int .i64 nm,.slice a k.len c]∧k.len≤c∧(k=.nil∨∃b' off',a=some ⟨b',off',none⟩∧NX w f k b' off'))∧NX w f r b (off+6)
def AD(w:World)(f:Fq)(k:Nd)(a:Option Addr)(c:Nat):Prop:=k.len≤c∧(k=.nil∨∃b off,a=some ⟨b,off,none⟩∧NX w f k b off)
theorem NX.mono(hF:Hp w f w' f'):∀(k:Nd)(b off:Nat),NX w f k b off→NX w' f' k b off
 |.nil,_,_,_=>trivial
 |.cons _ _ _ _ _ k r,b,off,⟨⟨a,c,h1,h2,h3⟩,h4⟩=>⟨⟨a,c,h1.mono hF,h2,h3.imp id λ⟨b',off',h5,h6⟩=>⟨b',off',h5,NX.mono hF k b' off' h6⟩⟩,NX.mono hF r b _ h4⟩
theorem AD.mono{c:Nat}:Fc (λw f=>AD w f k a c):=λ_ _ _ _ h hF=>⟨h.1,h.2.imp id λ⟨b,off,h1,h2⟩=>⟨b,off,h1,NX.mono hF k b off h2⟩⟩
def AT(w:World)(f:Fq)(a:Option Addr)(i:Nat)(r:Nd):Prop:=r=.nil∨∃b off,a=some ⟨b,off,none⟩∧NX w f r b (off+i*6)
theorem AT.mono:Fc (λw f=>AT w f a i r):=λ_ _ _ _ h hF=>h.imp id λ⟨b,off,h1,h2⟩=>⟨b,off,h1,NX.mono hF r b _ h2⟩
theorem AD.at{c:Nat}(h:AD w f k a c):AT w f a 0 k:=h.2.imp id λ⟨b,off,h1,h2⟩=>⟨b,off,h1,by simpa using h2⟩
def Kc(op ln co:Int)(tx:lU)(nm:Int)(a:Option Addr)(n c:Nat):List Value:=[.int .i64 op,.int .i64 ln,.int .i64 co,S tx,.int .i64 nm,.slice a n c]
theorem AT.head{op:Int}{tx:lU}(h:AT w f a i (.cons op ln co tx nm k r)):∃b off ka kc,a=some ⟨b,off,none⟩∧Cs w f b (off+i*6) (Kc op ln co tx nm ka k.len kc)∧AD w f k ka kc∧AT w f a (i+1) r:=by
 rcases h with h|⟨b,off,h1,⟨ka,kc,h3,h4⟩,h5⟩
 · cases h
 · exact⟨b,off,ka,kc,h1,h3,h4,.inr ⟨b,off,h1,by rw[show off+(i+1)*6=off+i*6+6 by omega];exact h5⟩⟩
def Rc(w:World):Fq:=λb=>match w.heap[b]? with
 |some (.cells cs _ (0,0))=>cs.size
 |_=>0
theorem Cs.all{m:List Value}(hb:AI w b l T)(h:l.drop off=m):Cs w (Rc w) b off m:=λj v hj=>by
 have h1:l[off+j]?=some v:=by rw[← List.getElem?_drop,h,hj]
 obtain⟨hl,_⟩:=List.getElem?_eq_some_iff.1 h1;refine⟨?_,by rw[hb.cell,h1]⟩;unfold Rc;unfold AI at hb;rw[hb];simpa using hl
theorem Cs.le{m:List Value}(h:Cs w f b off (l++m)):Cs w f b off l:=λj v hj=>h j v (by
 obtain⟨hl,_⟩:=List.getElem?_eq_some_iff.1 hj;rw[List.getElem?_append_left hl];exact hj)
theorem Fy.toG(hb:AI w b l T):∀(k:Nd)(off:Nat),Fy U w k (l.drop off)→(∀(k':Nd)(a:Option Addr)(n c:Nat),k'.size<k.size→GU U w a n c k'→AD w (Rc w) k' a c)→NX w (Rc w) k b off
 |.nil,_,_,_=>trivial
 |.cons op ln co tx nm kids r,off,⟨a,n,c,l',h1,h2,h3⟩,ih=>by
   have hn:n=kids.len:=h2.1;have hk:=ih kids a n c (by simp only[Nd.size];omega) h2;refine⟨⟨a,c,?_,hk⟩,Fy.toG hb r (off+6) ?_ (λk' a n c hs=>ih k' a n c (by simp only[Nd.size];omega))⟩
   · have:=Cs.all hb h1
     rw[hn] at this;exact Cs.le (m:=l') this
   · rw[← List.drop_drop,h1];exact h3
theorem GU.toF:∀(m:Nat)(k:Nd)(a:Option Addr)(n c:Nat),k.size<m→GU U w a n c k→AD w (Rc w) k a c
 |0,_,_,_,_,h,_=>by omega
 |m+1,k,a,n,c,hm,⟨h1,h2,h3⟩=>by
   refine⟨oM,?_⟩;rcases h3 with h3|⟨b,off,l,T,_,ha,hb,hc⟩
   · left
     cases k with
     |nil=>rfl
     |cons _ _ _ _ _ _ _=>rw[h3] at h1;cases h1
   · exact .inr ⟨b,off,ha,Fy.toG hb k off hc (λk' a n c hs=>GU.toF m k' a n c oM)⟩
end Go.SP
namespace Go.SP
open Go.SW Go.RowKit
def BJ(w:World)(f:Fq)(l:List Int)(a:Option Addr)(c:Nat):Prop:=l.length≤c∧(l=[]∨∃b off,a=some ⟨b,off,none⟩∧Cs w f b off (l.map λn=>Value.int .i64 n))
variable {f:Fq}{l:List Value}{b i off:Nat}{a:Option Addr}{w:World}
theorem BJ.mono{l:List Int}{c:Nat}:Fc (λw f=>BJ w f l a c):=λ_ _ _ _ h hF=>⟨h.1,h.2.imp id λ⟨b,off,h1,h2⟩=>⟨b,off,h1,h2.mono hF⟩⟩
theorem Cs.at{v:Value}(h:Cs w f b off l)(hi:l[i]?=some v):Cs w f b (off+i) [v]:=λj u hj=>by
 cases j with
 |zero=>simp at hj;subst hj;simpa using h i v hi
 |succ j=>simp at hj
theorem BJ.get{l:List Int}{c:Nat}{n:Int}(h:BJ w f l a c)(hi:l[i]?=some n):∃b off,a=some ⟨b,off,none⟩∧Cs w f b (off+i*1) [.int .i64 n]:=by
 rcases h.2 with h|⟨b,off,h1,h2⟩
 · subst h;simp at hi
 · exact⟨b,off,h1,by rw[Nat.mul_one];exact Cs.at h2 (by rw[List.getElem?_map,hi];rfl)⟩
theorem O3{n:Int}:∀{l:List Int},Dv l n=none→l.contains n=false
 | [],_=>rfl
 |k::l,h=>by
   unfold Dv at h
   split at h
   · cases h
   · rename_i hk
     have:Dv l n=none:=by cases hx:Dv l n with|none=>rfl|some i=>rw[hx] at h;cases h
     rw[List.contains_cons,O3 this];have:¬n=k:=λe=>hk (by simp[e]);simp[this]
theorem KO{n:Int}:∀{l:List Int}{i:Nat},Dv l n=some i→l.contains n=true∧i<l.length∧l[i]?=some n
 | [],_,h=>by cases h
 |k::l,i,h=>by
   unfold Dv at h
   split at h
   · rename_i hk
     have e:k=n:=by simpa using hk
     cases h
     subst e;simp
   · cases hx:Dv l n with
     |none=>rw[hx] at h;cases h
     |some j =>
       rw[hx] at h
       cases h
       have:=KO hx;exact⟨by rw[List.contains_cons,this.1,Bool.or_true],by simp;exact this.2.1,by simpa using this.2.2⟩
theorem UW{n:Int}:∀{l:List Int}{i:Nat},(l.take i).contains n=false→l[i]?=some n→Dv l n=some i
 | [],i,_,h=>by simp at h
 |k::l,0,_,h=>by simp at h;subst h;simp[Dv]
 |k::l,i+1,hn,h=>by
   simp only[List.take_succ_cons,List.contains_cons,Bool.or_eq_false_iff] at hn
   have hk:(k==n)=false:=by
     have:=hn.1
     cases hh:k==n with
     |false=>rfl
     |true =>
       have e:k=n:=by simpa using hh
       subst e;simp at this
   have:=UW hn.2 (by simpa using h);simp[Dv,hk,this]
theorem M0{n:Int}{l:List Int}(h:l.contains n=false):Dv l n=none:=by
 cases hx:Dv l n with
 |none=>rfl
 |some i=>rw[(KO hx).1] at h;cases h
def WV(l:List Int)(n:Int):Int:=match Dv l n with
 |some i=>i
 |none => -1
theorem Cy{α:Type}{l:List α}{x:α}(h:l[i]?=some x):l.take (i+1)=l.take i++[x]:=by
 obtain⟨hl,he⟩:=List.getElem?_eq_some_iff.1 h;rw[List.take_succ_eq_append_getElem hl,he]
end Go.SP
namespace Go.SP
open Go.SW Go.RowKit
def Ty.size:Ty→Nat
 |.nil=>0
 |.var _ r=>r.size+1
 |.con _ k r=>k.size+r.size+1
def Ty.bnd:Ty→Prop
 |.nil=>True
 |.var _ r=>r.bnd
 |.con tx k r=>(k.len≤200000∧tx.length≤1000000)∧k.bnd∧r.bnd
def T1.bnd(t:T1):Prop:=(t.kids.len≤200000∧t.tx.length≤1000000)∧t.kids.bnd
theorem T1.bnd_cons{t:T1}{r:Ty}:(t.cons r).bnd↔t.bnd∧r.bnd:=by
 cases t with
 |var n=>exact⟨λh=>⟨⟨⟨Nat.zero_le _,Nat.zero_le _⟩,tQ⟩,h⟩,λh=>h.2⟩
 |con tx k=>exact⟨λh=>⟨⟨h.1,h.2.1⟩,h.2.2⟩,λh=>⟨h.1.1,h.1.2,h.2⟩⟩
theorem T1.len_cons(t:T1)(r:Ty):(t.cons r).len=r.len+1:=by cases t <;> rfl
theorem T1.size_cons(t:T1)(r:Ty):(t.cons r).size=t.kids.size+r.size+1:=by cases t <;> simp[T1.cons,Ty.size,T1.kids]
theorem Ty.len_app:∀x y:Ty,(x.app y).len=x.len+y.len
 |.nil,y=>by simp[Ty.app,Ty.len]
 |.var _ r,y=>by simp[Ty.app,Ty.len,Ty.len_app r y];omega
 |.con _ _ r,y=>by simp[Ty.app,Ty.len,Ty.len_app r y];omega
theorem Ty.app_assoc:∀x y z:Ty,(x.app y).app z=x.app (y.app z)
 |.nil,_,_=>rfl
 |.var _ r,y,z=>by simp[Ty.app,Ty.app_assoc r y z]
 |.con _ _ r,y,z=>by simp[Ty.app,Ty.app_assoc r y z]
theorem Ty.app_nil:∀x:Ty,x.app .nil=x
 |.nil=>rfl
 |.var _ r=>by simp[Ty.app,Ty.app_nil r]
 |.con _ _ r=>by simp[Ty.app,Ty.app_nil r]
theorem T1.one_app(t:T1)(r:Ty):t.one.app r=t.cons r:=by cases t <;> rfl
theorem Ty.len_snoc(x:Ty)(t:T1):(x.snoc t).len=x.len+1:=by unfold Ty.snoc T1.one;rw[Ty.len_app,T1.len_cons];rfl
theorem Ty.snoc_app(x:Ty)(t:T1)(r:Ty):(x.snoc t).app r=x.app (t.cons r):=by unfold Ty.snoc;rw[Ty.app_assoc,T1.one_app]
theorem Ty.cases1(k:Ty)(h:0<k.len):∃t r,k=T1.cons t r:=by
 cases k with
 |nil=>simp[Ty.len] at h
 |var n r=>exact⟨.var n,r,rfl⟩
 |con tx k r=>exact⟨.con tx k,r,rfl⟩
theorem Ty.len0{k:Ty}(h:k.len=0):k=.nil:=by cases k <;> simp_all [Ty.len]
def Be(w:World)(f:Fq):Ty→List Value→Prop
 |.nil,xs=>xs=[]
 |.var n r,xs=>∃a c xs',xs=[.int .i64 0,.int .i64 n,S [],.slice a 0 c]++xs'∧Be w f r xs'
 |.con tx k r,xs=>∃a c xs',xs=[.int .i64 1,.int .i64 0,S tx,.slice a k.len c]++xs'∧Ak w f k a c∧Be w f r xs'
variable {f f':Fq}{l xs:List Value}{b off:Nat}{a:Option Addr}{w w':World}
theorem Be.mono'(hF:Hp w f w' f'):∀(k:Ty)(xs:List Value),Be w f k xs→Be w' f' k xs
 |.nil,_,h=>h
 |.var _ r,_,⟨a,c,xs',h1,h2⟩=>⟨a,c,xs',h1,Be.mono' hF r xs' h2⟩
 |.con _ k r,_,⟨a,c,xs',h1,h2,h3⟩=>⟨a,c,xs',h1,Ak.mono _ _ _ _ h2 hF,Be.mono' hF r xs' h3⟩
theorem Be.mono{k:Ty}:Fc (λw f=>Be w f k xs):=λ_ _ _ _ h hF=>Be.mono' hF k xs h
theorem Be.snoc{t:T1}{c:Nat}(ht:Ak w f t.kids a c):∀{k:Ty}{xs:List Value},Be w f k xs→Be w f (k.snoc t) (xs++tC t a c)
 |.nil,xs,h=>by
   have h:xs=[]:=h;subst h
   cases t with
   |var n=>exact⟨a,c,[],rfl,rfl⟩
   |con tx k=>exact⟨a,c,[],rfl,ht,rfl⟩
 |.var _ r,_,⟨a',c',xs',h1,h2⟩=>⟨a',c',xs'++tC t a c,by rw[h1,List.append_assoc],Be.snoc ht h2⟩
 |.con _ k r,_,⟨a',c',xs',h1,h2,h3⟩=>⟨a',c',xs'++tC t a c,by rw[h1,List.append_assoc],h2,Be.snoc ht h3⟩
theorem Cs.drop{m:List Value}(h:Cs w f b off (l++m)):Cs w f b (off+l.length) m:=λj v hj=>by
 have:=h (l.length+j) v (by rw[List.getElem?_append_right (by omega)];simpa using hj);rwa[← Nat.add_assoc] at this
theorem Be.toG:∀{k:Ty}{xs:List Value}{off:Nat},Be w f k xs→Cs w f b off xs→Ir w f k b off
 |.nil,_,_,_,_=>trivial
 |.var _ r,_,off,⟨a,c,xs',h1,h2⟩,hC=>by
   subst h1;exact⟨⟨a,c,Cs.le hC⟩,Be.toG h2 (Cs.drop hC)⟩
 |.con _ k r,_,off,⟨a,c,xs',h1,h2,h3⟩,hC=>by
   subst h1;exact⟨⟨a,c,Cs.le hC,h2⟩,Be.toG h3 (Cs.drop hC)⟩
theorem Be.toF{c:Nat}{k:Ty}(h:Be w f k xs)(hC:Cs w f b 0 xs)(hc:k.len≤c):Ak w f k (some ⟨b,0,none⟩) c:=⟨hc,.inr ⟨b,0,rfl,Be.toG h hC⟩⟩
theorem Be.len:∀{k:Ty}{xs:List Value},Be w f k xs→xs.length=k.len*4
 |.nil,xs,h=>by have h:xs=[]:=h;subst h;rfl
 |.var _ r,_,⟨a,c,xs',h1,h2⟩=>by subst h1;have:=Be.len h2;simp[Ty.len,this];omega
 |.con _ k r,_,⟨a,c,xs',h1,h2,h3⟩=>by subst h1;have:=Be.len h3;simp[Ty.len,this];omega
theorem So(a b c vs:List Value)(h:b.length=vs.length):DV (a++(b++c)) a.length vs=(a++vs)++c:=by
 rw[LU vs _ _ (by simp;omega)];have h1:(a++(b++c)).take a.length=a:=by simp
 have h2:(a++(b++c)).drop (a.length+vs.length)=c:=by
   rw[← List.drop_drop];simp[← h]
 rw[h1,h2]
def oS(P:Program)(fid:FuncId)(m:Nat):Prop:=∀(w:World)(f:Fq)(_:Vl w f)(t:T1)(a:Option Addr)(c:Nat),t.kids.size<m→t.bnd→Ak w f t.kids a c →
 Bo P fid #[tV t a c] w (Bw (α:=Option Addr×Nat) (λx=>tV t x.1 x.2) (λ_=>True) (λx=>[λw f=>Ak w f t.kids x.1 x.2]) w f)
end Go.SP
namespace Go.SP
open Go.SW Go.RowKit
theorem X9(t:T1)(a:Option Addr)(c:Nat):∀v∈tC t a c,v.oneCell'=true:=by
 intro v hv;unfold tC at hv;simp only[List.mem_cons,List.not_mem_nil,or_false] at hv;rcases hv with rfl|rfl|rfl|rfl <;> rfl
variable {f:Fq}{b:Nat}{w:World}
theorem Ir.cells:∀{k:Ty}{off:Nat},Ir w f k b off→∃xs,Be w f k xs∧Cs w f b off xs∧∀v∈xs,v.oneCell'=true
 |.nil,_,_=>⟨[],rfl,(λj v hj=>by simp at hj),λv hv=>by cases hv⟩
 |.var n r,off,⟨⟨a,c,h1⟩,h2⟩=>by
   obtain⟨xs,h3,h4,h5⟩:=Ir.cells h2;refine⟨_++xs,⟨a,c,xs,rfl,h3⟩,?_,?_⟩
   · intro j v hj
     rcases Nat.lt_or_ge j 4 with hj4|hj4
     · exact h1 j v (by rwa[List.getElem?_append_left (by simpa using hj4)] at hj)
     · rw[List.getElem?_append_right (by simpa using hj4)] at hj
       have:=h4 (j-4) v (by simpa using hj);rwa[show off+4+(j-4)=off+j by omega] at this
   · intro v hv
     rcases List.mem_append.1 hv with hv|hv
     · exact X9 (.var n) a c v hv
     · exact h5 v hv
 |.con tx k r,off,⟨⟨a,c,h1,hk⟩,h2⟩=>by
   obtain⟨xs,h3,h4,h5⟩:=Ir.cells h2;refine⟨_++xs,⟨a,c,xs,rfl,hk,h3⟩,?_,?_⟩
   · intro j v hj
     rcases Nat.lt_or_ge j 4 with hj4|hj4
     · exact h1 j v (by rwa[List.getElem?_append_left (by simpa using hj4)] at hj)
     · rw[List.getElem?_append_right (by simpa using hj4)] at hj
       have:=h4 (j-4) v (by simpa using hj);rwa[show off+4+(j-4)=off+j by omega] at this
   · intro v hv
     rcases List.mem_append.1 hv with hv|hv
     · exact X9 (.con tx k) a c v hv
     · exact h5 v hv
end Go.SP
namespace Go.SP
open Go.SW Go.RowKit
variable {X:Cx}{f:Fq}{Fs:List (World→Fq→Prop)}{B:List FB}{H:List HB}{xs:List Value}{m:Nat}{a:Option Addr}{e:TypeId}{w:World}
theorem N7{R:List RB}{c:Nat}{k:Ty}(hM:AO X w f H (⟨e,4,a,c,m,xs⟩::R) B Fs)(hL:Be w f k xs)(h0:0<k.len):∃f',AO X w f' H R B Fs∧Ak w f' k a c:=by
 have hr:=hM.row _ (.head _);have hlen:=Be.len hL;have hm:m=k.len:=by have:=hr.1;simp only at this;omega
 rcases hr.2 with ⟨_,_,h⟩|⟨b,l,ha,_,hmc,_⟩
 · simp only at h;omega
 · simp only at ha hmc
   subst ha;obtain⟨f',hM'⟩:=(hM.more (B':=[]) (F':=[λw f=>Be w f k xs]) (λ_ h=>by cases h) (AE.mem ⟨hL,tQ⟩) (Ax.mem ⟨Be.mono,tQ⟩)).done (i:=0) rfl rfl;exact⟨f',hM'.less (List.Sublist.refl _) (List.Sublist.refl _) (λe he=>.tail _ he) (λφ h=>.tail _ h),Be.toF (hM'.fact (i:=0) rfl) (hM'.fro _ (.head _)) oM⟩
end Go.SP
namespace Go.SP
open Go.SW Go.RowKit
variable {f:Fq}{a:Option Addr}{w:World}
theorem Ak.cells{k:Ty}{c:Nat}(h:Ak w f k a c)(h0:0<k.len):∃x:Nat×Nat×List Value,(a=some ⟨x.1,x.2.1,none⟩∧(∀v∈x.2.2,v.oneCell'=true)∧x.2.2.length=k.len*4)∧Cs w f x.1 x.2.1 x.2.2∧Be w f k x.2.2:=by
 rcases h.2 with h|⟨b,off,h1,h2⟩
 · subst h;cases h0
 · obtain⟨xs,h3,h4,h5⟩:=Ir.cells h2
   exact⟨(b,off,xs),⟨h1,h5,Be.len h3⟩,h4,h3⟩
def FA(w:World)(f:Fq):BS→List (Int×Value)→Prop
 | [],es=>es=[]
 |(n,t)::s,es=>∃a c es',es=(n,tV t a c)::es'∧Ak w f t.kids a c∧FA w f s es'
variable {f':Fq}{fr pr:Int}{Fs:List (World→Fq→Prop)}{mb sb:Nat}{MI:Nat→Prop}{T:TypeId}{w':World}
theorem FA.mono(hF:Hp w f w' f'):∀(s:BS)(es:List (Int×Value)),FA w f s es→FA w' f' s es
 | [],_,h=>h
 |(_,_)::s,_,⟨a,c,es',h1,h2,h3⟩=>⟨a,c,es',h1,Ak.mono _ _ _ _ h2 hF,FA.mono hF s es' h3⟩
def Iv:BS→Prop
 | []=>True
 |(n,t)::s=>CD s n=none∧(∀m,t=.var m→m≠n∧CD s m=none)∧t.bnd∧Iv s
def bK:BS→Prop
 | []=>True
 |(n,t)::s=>CD s n=none∧(∀m,t=.var m→m≠n∧CD s m=none)∧bK s
theorem Iv.v:∀{s:BS},Iv s→bK s
 | [],_=>trivial
 |(_,_)::_,h=>⟨h.1,h.2.1,Iv.v h.2.2.2⟩
theorem FA.look:∀{s:BS}{es:List (Int×Value)},FA w f s es→∀n,(CD s n=none→Em es n=none)∧∀t,CD s n=some t→∃a c,Em es n=some (tV t a c)∧Ak w f t.kids a c
 | [],es,h,n=>by
   have h:es=[]:=h;subst h;exact⟨λ_=>rfl,λt h=>by cases h⟩
 |(k,t)::s,es,⟨a,c,es',h1,h2,h3⟩,n=>by
   subst h1;have ih:=FA.look h3 n;simp only[CD,Em]
   by_cases hk:k=n
   · subst hk
     refine⟨λh=>by simp at h,λt' h=>?_⟩;simp at h;subst h;exact⟨a,c,by simp,h2⟩
   · have e1:(k==n)=false:=by simpa using hk
     have e2:(n==k)=false:=by simpa using λe=>hk e.symm
     rw[e1,e2];simpa using ih
theorem FA.dis:∀{s:BS}{es:List (Int×Value)},FA w f s es→Iv s→Iw es
 | [],es,h,_=>by have h:es=[]:=h;subst h;trivial
 |(k,t)::s,es,⟨a,c,es',h1,h2,h3⟩,hw=>by
   subst h1;exact⟨(FA.look h3 k).1 hw.1,FA.dis h3 hw.2.2.2⟩
def B8(T:TypeId)(sb mb:Nat)(s:BS)(fr pr:Int)(w:World)(f:Fq):Prop:=AI w sb [.map (some mb),.int .i64 fr,.int .i64 pr] T∧∃es,BE EA w mb es∧FA w f s es
theorem B8.stab{s:BS}(h1:MI sb)(h2:MI mb):EV MI (B8 T sb mb s fr pr):=λ_ _ _ _ ⟨hb,es,hm,hs⟩ hF h=>⟨(h sb h1).trans hb,es,hm.heap (h mb h2),FA.mono hF s es hs⟩
abbrev LI(sb mb:Nat):Nat→Prop:=λb=>b=sb∨b=mb
abbrev XS(T:TypeId)(sb mb:Nat)(s:BS)(fr pr:Int)(w:World)(f:Fq):Cx:=⟨LI sb mb,LI sb mb,B8 T sb mb s fr pr,w,f⟩
theorem aH{s:BS}(hv:Vl w f)(hS:B8 T sb mb s fr pr w f)(hf:f sb=0∧f mb=0)(hF:AE Fs w f)(hm:Ax Fs):AO (XS T sb mb s fr pr w f) w f [] [] [] Fs where
 stp:=LH.refl _ _
 old _ _:=rfl
 val:=hv
 ent:=Hp.refl _ _
 res:=hS
 stab:=B8.stab (.inl rfl) (.inr rfl)
 mi b hb:=by
   rcases hb with rfl|rfl
   · exact⟨hS.1.lt,hf.1,.inr (.inl rfl)⟩
   · obtain⟨_,es,h,_⟩:=hS;exact⟨h.lt,hf.2,.inr (.inr rfl)⟩
 blk _ h:=by cases h
 row _ h:=by cases h
 nd:=List.nodup_nil
 own _ h:=by cases h
 hnw _ h:=by cases h
 rnw _ h:=by cases h
 fro _ h:=by cases h
 fac:=hF.mem
 mono:=hm.mem
def I5:BS→Int→Option Nat
 | [],_=>none
 |(k,_)::s,n=>if k==n then some 0 else (I5 s n).map (· + 1)
def E1(s:BS):T1→Nat
 |.con _ _=>0
 |.var n=>match I5 s n with
   |none=>0
   |some p=>p+1
theorem Qs{n:Int}:∀{s:BS},CD s n=none↔I5 s n=none
 | []=>by simp[CD,I5]
 |(k,t)::s=>by
   have:=Qs (n:=n) (s:=s);simp only[CD,I5]
   split <;> simp[this]
theorem HP{n:Int}{t:T1}:∀{s:BS},bK s→CD s n=some t→∃p,I5 s n=some p∧E1 s t≤p
 | [],_,h=>by cases h
 |(k,t0)::s,hw,h=>by
   simp only[CD] at h
   split at h
   · rename_i hk
     cases h
     have e:k=n:=by simpa using hk
     subst e;refine⟨0,by simp[I5],?_⟩
     cases t with
     |con _ _=>simp[E1]
     |var m =>
       obtain⟨h1,h2⟩:=hw.2.1 m rfl;have e1:(k==m)=false:=by simpa using λe=>h1 e.symm
       simp[E1,I5,e1,Qs.1 h2]
   · rename_i hk
     obtain⟨p,h1,h2⟩:=HP hw.2.2 h;have e1:(k==n)=false:=by simpa using hk
     refine⟨p+1,by simp[I5,e1,h1],?_⟩
     cases t with
     |con _ _=>simp[E1]
     |var m =>
       have hv:∀s:BS,E1 s (.var m)=(match I5 s m with|none=>0|some p=>p+1):=λ_=>rfl;rw[hv] at h2 ⊢;simp only[I5]
       cases hkm:(k==m) with
       |true=>simp
       |false =>
         simp only[Bool.false_eq_true,if_false]
         cases hp:I5 s m with
         |none=>simp
         |some q =>
           rw[hp] at h2;simp only[Option.map_some] at h2 ⊢;have h3:q+1≤p:=h2;show q+1+1≤p+1;exact Nat.succ_le_succ h3
theorem TH{n:Int}:∀{s:BS}{p:Nat},I5 s n=some p→p<s.length
 | [],_,h=>by cases h
 |(k,t)::s,p,h=>by
   simp only[I5] at h
   split at h
   · cases h;simp
   · cases hp:I5 s n with
     |none=>rw[hp] at h;cases h
     |some q=>rw[hp] at h;cases h;have:=TH hp;simp;exact this
theorem UB(s:BS)(t:T1):E1 s t≤s.length:=by
 cases t with
 |con _ _=>simp[E1]
 |var n =>
   have hv:E1 s (.var n)=(match I5 s n with|none=>0|some p=>p+1):=rfl;rw[hv]
   cases hp:I5 s n with
   |none=>simp
   |some p=>exact TH hp
theorem K5{s:BS}(hw:bK s):∀(k j:Nat)(t:T1),E1 s t≤k→E1 s t≤j→HA s k t=HA s j t
 |k,j,.con tx ks,_,_=>by cases k <;> cases j <;> rfl
 |k,j,.var n,hk,hj=>by
   cases hl:CD s n with
   |none =>
     have:∀k,HA s k (.var n)=.var n:=λk=>by cases k <;> simp[HA,hl]
     rw[this,this]
   |some t =>
     obtain⟨p,h1,h2⟩:=HP hw hl;have hr:E1 s (.var n)=p+1:=by simp[E1,h1]
     rw[hr] at hk hj
     cases k with
     |zero=>omega
     |succ k =>
       cases j with
       |zero=>omega
       |succ j =>
         simp only[HA,hl];exact K5 hw k j t oM oM
theorem N9{s:BS}{n:Int}(h:CD s n=none):Ap s (.var n)=.var n:=by simp[Ap,HA,h]
theorem Gy(s:BS)(tx:lU)(k:Ty):Ap s (.con tx k)=.con tx k:=rfl
theorem Q9{s:BS}{n:Int}{t:T1}(hw:bK s)(h:CD s n=some t):Ap s (.var n)=Ap s t:=by
 obtain⟨p,h1,h2⟩:=HP hw h;have:=TH h1;unfold Ap
 conv=>lhs;rw[HA];simp only[h]
 exact K5 hw _ _ t oM (by have:=UB s t;omega)
theorem Ng{s:BS}{n:Int}{t:T1}(hw:bK s)(h:CD s n=some t):E1 s t<E1 s (.var n):=by
 obtain⟨p,h1,h2⟩:=HP hw h;have hv:E1 s (.var n)=p+1:=by simp[E1,h1]
 rw[hv];omega
theorem Ue{s:BS}{n:Int}{t:T1}(hw:Iv s)(h:CD s n=some t):Ap s (.var n)=Ap s t:=Q9 hw.v h
theorem dE{s:BS}{n:Int}{t:T1}(hw:Iv s)(h:CD s n=some t):E1 s t<E1 s (.var n):=Ng hw.v h
theorem Nt{n:Int}{t:T1}:∀{s:BS},Iv s→CD s n=some t→t.bnd
 | [],_,h=>by cases h
 |(k,t0)::s,hw,h=>by
   simp only[CD] at h
   split at h
   · cases h;exact hw.2.2.1
   · exact Nt hw.2.2.2 h
theorem DR{t:T1}(h:(t.op==0)=true):∃n,t=.var n:=by
 cases t with
 |var n=>exact⟨n,rfl⟩
 |con _ _=>cases h
theorem Fv{t:T1}(h:(t.op==0)=false):∃tx k,t=.con tx k:=by
 cases t with
 |var n=>cases h
 |con tx k=>exact⟨tx,k,rfl⟩
end Go.SP
namespace Go.SW
open Go.RowKit
section
variable{P:Program}{σ:Bb}{w:World}{ty:TypeId}
variable {caps:List Operand}{vs:List Value}
theorem PH{f:FuncId}{g:Operand}{args:List Operand}{caps:List Value}{ts:Array TypeId}(he:B3 P f)(hg:ev σ g=some (.func (.func f) #[] caps.toArray))(ha:Ik σ args=some vs) :
   Enters P σ (.call {callee:=.value g,args:=args.toArray,argTypes:=ts}) ty w f (vs++caps).toArray:=λρ _ _ _ _ hρ=>by
 have h:=Ej hρ ha;have e:=he (vs++caps).toArray w;simp[execOp,resolve,hρ _ _ hg,Deferred.ofValue,invoke,h];simpa using e
theorem Me{f:FuncId}(ha:Ik σ caps=some vs):AG P σ (.makeFunc (.func f) #[] caps.toArray) ty w (.func (.func f) #[] vs.toArray) w:=λρ _ _ _ _ hρ=>by
 have h:=Ej hρ ha;simp[execOp,Instr.makeFunc,h]
end
end Go.SW
namespace Go.SP
open Go.SW Go.RowKit
def B2(b:BS):Nat→Ty→Option Nat
 |k,.nil=>some k
 |0,.var _ _=>none
 |0,.con _ _ _=>none
 |k+1,.var n r=>match Ap b (.var n) with
   |.var _=>B2 b k r
   |.con _ ks=>B2 b k (ks.app r)
 |k+1,.con _ ks r=>B2 b k (ks.app r)
theorem Fw(b:BS):∀(k:Nat)(t:Ty),JK b k t=(B2 b k t).isSome
 |k,.nil=>by cases k <;> rfl
 |0,.var _ _=>rfl
 |0,.con _ _ _=>rfl
 |k+1,.var n r=>by
   simp only[JK,B2]
   cases Ap b (.var n) with
   |var _=>exact Fw b k r
   |con _ ks=>exact Fw b k _
 |k+1,.con _ ks r=>by simp only[JK,B2];exact Fw b k _
theorem Ju(b:BS):∀(k:Nat)(x y:Ty),B2 b k (x.app y)=(B2 b k x).bind λj=>B2 b j y
 |k,.nil,y=>by cases k <;> rfl
 |0,.var _ _,y=>rfl
 |0,.con _ _ _,y=>rfl
 |k+1,.var n r,y=>by
   simp only[Ty.app,B2]
   cases Ap b (.var n) with
   |var _=>exact Ju b k r y
   |con _ ks =>
     simp only;rw[← Ty.app_assoc];exact Ju b k _ y
 |k+1,.con _ ks r,y=>by
   simp only[Ty.app,B2];rw[← Ty.app_assoc];exact Ju b k _ y
theorem Eo(b:BS):∀(k:Nat)(x:Ty)(j:Nat),B2 b k x=some j→j≤k
 |k,.nil,j,h=>by cases k <;> (cases h;exact Nat.le_refl _)
 |0,.var _ _,_,h=>by cases h
 |0,.con _ _ _,_,h=>by cases h
 |k+1,.var n r,j,h=>by
   simp only[B2] at h
   split at h
   · have:=Eo b k _ j h;omega
   · have:=Eo b k _ j h;omega
 |k+1,.con _ ks r,j,h=>by
   simp only[B2] at h;have:=Eo b k _ j h;omega
theorem IZ(b:BS)(k:Nat)(t:T1)(r:Ty):B2 b k (t.cons r)=(B2 b k t.one).bind λj=>B2 b j r:=by rw[← T1.one_app,Ju]
theorem Jv(b:BS)(k:Nat)(t:T1):B2 b (k+1) t.one=B2 b k (Ap b t).kids:=by
 cases t with
 |var n =>
   simp only[T1.one,T1.cons,B2]
   cases Ap b (.var n) with
   |var _=>cases k <;> rfl
   |con _ ks=>simp only[Ty.app_nil];rfl
 |con tx ks =>
   simp only[T1.one,T1.cons,B2,Gy,Ty.app_nil];rfl
theorem KG(b:BS)(t:T1):B2 b 0 t.one=none:=by cases t <;> rfl
theorem Oa{s:BS}(hw:Iv s):∀(k:Nat)(t:T1),t.bnd→(HA s k t).bnd
 |0,t,h=>h
 |k+1,.con _ _,h=>h
 |k+1,.var n,h=>by
   simp only[HA]
   split
   · exact h
   · rename_i t' hl;exact Oa hw k t' (Nt hw hl)
theorem Cm{s:BS}(hw:Iv s){t:T1}(h:t.bnd):(Ap s t).bnd:=Oa hw _ t h
end Go.SP
namespace Go.SP
open Go.SW Go.RowKit
variable {f f':Fq}{fr pr:Int}{Fs:List (World→Fq→Prop)}{l:List Value}{mb nb sb:Nat}{M MI:Nat→Prop}{T:TypeId}{w':World}
theorem B8.keep{s:BS}{w:World}(h:B8 T sb mb s fr pr w f)(hE:C2 M w f w' f')(hF:Hp w f w' f')(h1:¬M sb)(h2:¬M mb):B8 T sb mb s fr pr w' f':=by
 obtain⟨hb,es,hm,hs⟩:=h;exact⟨(hE.stp.block sb hb.lt h1).trans hb,es,hm.heap (hE.stp.block mb hm.lt h2),FA.mono hF s es hs⟩
theorem rH{w:World}(hv:Vl w f)(hb:AI w nb l T)(hf:f nb=0)(hF:AE Fs w f)(hm:Ax Fs):AO ⟨λb=>b=nb,λ_=>False,λ_ _=>True,w,f⟩ w f [⟨nb,l,T,false⟩] [] [] Fs where
 stp:=LH.refl _ _
 old _ _:=rfl
 val:=hv
 ent:=Hp.refl _ _
 res:=trivial
 stab _ _ _ _ _ _ _:=trivial
 mi _ h:=h.elim
 blk e h:=by
   rcases List.mem_cons.1 h with rfl|h
   · exact hb
   · cases h
 row _ h:=by cases h
 nd:=by simp[C6]
 own b h:=by
   have:b=nb:=by simpa[C6] using h
   subst this;exact⟨hf,.inr rfl,λh=>h⟩
 hnw e h hn:=by
   rcases List.mem_cons.1 h with rfl|h
   · cases hn
   · cases h
 rnw _ h:=by cases h
 fro _ h:=by cases h
 fac:=hF.mem
 mono:=hm.mem
theorem Rx{I:World→Fq→Prop}{w:World}(hv:Vl w f)(hI:I w f)(hst:EV M I)(hm:∀b,M b→b<w.heap.size∧f b=0)(hF:AE Fs w f)(hmo:Ax Fs):AO ⟨M,M,I,w,f⟩ w f [] [] [] Fs where
 stp:=LH.refl _ _
 old _ _:=rfl
 val:=hv
 ent:=Hp.refl _ _
 res:=hI
 stab:=hst
 mi b h:=⟨(hm b h).1,(hm b h).2,.inr h⟩
 blk _ h:=by cases h
 row _ h:=by cases h
 nd:=List.nodup_nil
 own _ h:=by cases h
 hnw _ h:=by cases h
 rnw _ h:=by cases h
 fro _ h:=by cases h
 fac:=hF.mem
 mono:=hmo.mem
def J5(nb:Nat)(n:Int)(w:World)(_:Fq):Prop:=AI w nb [.int .i64 n] 3
theorem J5.stab{n:Int}(h:MI nb):EV MI (J5 nb n):=λ_ _ _ _ hb _ hm=>(hm nb h).trans hb
def rW(P:Program)(fid:FuncId)(T:TypeId)(g:FuncId)(k:Nat):Prop:=∀(w:World)(f:Fq)(_:Vl w f)(sb mb:Nat)(s:BS)(fr pr:Int)(nb:Nat),B8 T sb mb s fr pr w f→Iv s→sb≠nb→mb≠nb→f nb=0→J5 nb (1000-(k:Int)) w f→k≤1000→∀(t:T1)(a:Option Addr)(c:Nat),t.bnd→Ak w f t.kids a c →
 Bo P fid #[.pointer (some ⟨sb,0,none⟩),tV t a c,.func (.func g) #[] #[.pointer (some ⟨nb,0,none⟩)]] w (ED (α:=Int) (λ_=>.bool (B2 s k t.one).isSome) (λx=>∀j,B2 s k t.one=some j→x=1000-(j:Int)) (λb=>b=nb) (λx=>J5 nb x) (λ_=>[]) w f)
end Go.SP
namespace Go.SW
open Go.RowKit
variable {Q:AU}{nw:Bool}{X:Cx}{f:Fq}{Fs:List (World→Fq→Prop)}{ds:List Deferred}{B:List FB}{fs:List Fr}{H H':List HB}{l:List Value}{b i n:Nat}{T:TypeId}
theorem AO.give{w:World}{R:List RB}(h:AO X w f H R B Fs)(hg:Hg H i=some ⟨b,l,T,nw⟩)(hs:Kh H i=some H') :
   AO {X with MI:=λk=>X.MI k∨k=b,I:=λw f=>X.I w f∧AI w b l T} w f H' R B Fs:=by
 have hblk:AI w b l T:=h.blk _ (BG hg);have hown:=h.own b (List.mem_append.2 (.inl (List.mem_map.2 ⟨_,BG hg,rfl⟩)));have hsub:=K8 hs;have hnd:(H.map HB.b++IL R).Nodup:=h.nd;have hbR:b∉C6 H' R:=Km (L:=IL R) hg hs hnd;have hso:(C6 H' R).Sublist (C6 H R):=List.Sublist.append (hsub.map _) (List.Sublist.refl _)
 exact {h with
         res:=⟨h.res,hblk⟩,
         stab:=λw1 f1 w2 f2 hI hF hb=>⟨h.stab w1 f1 w2 f2 hI.1 hF λk hm=>hb k (.inl hm),(hb b (.inr rfl)).trans hI.2⟩,
         mi:=λk hk=>by
           rcases hk with hk|rfl
           · exact h.mi k hk
           · exact⟨hblk.lt,hown.1,hown.2.1⟩,
         blk:=λe he=>h.blk e (hsub.subset he),nd:=hso.nodup h.nd,
         own:=λk hk=>⟨(h.own k (hso.subset hk)).1,(h.own k (hso.subset hk)).2.1,λhm=>by
           rcases hm with hm|rfl
           · exact (h.own k (hso.subset hk)).2.2 hm
           · exact hbR hk⟩,
         hnw:=λe he=>h.hnw e (hsub.subset he)}
theorem nU{P:Program}{R:List RB}{σ:Bb}{k:JZ}(i:Nat)(hg:Hg H i=some ⟨b,l,T,nw⟩)(hs:Kh H i=some H')
   (h:A3 P n Q ds {X with MI:=λk=>X.MI k∨k=b,I:=λw f=>X.I w f∧AI w b l T} R B Fs k fs σ H'):A3 P n Q ds X R B Fs k fs σ H:=λw f hM=>h w f (hM.give hg hs)
end Go.SW
namespace Go.SW
open Go.RowKit
variable {Q:AU}{X:Cx}{f:Fq}{Fs:List (World→Fq→Prop)}{ds:List Deferred}{B:List FB}{fs:List Fr}{H:List HB}{b n:Nat}{w':World}
theorem FZ.fle{w:World}(h:FZ b w w')(hf:f b=0):Hp w f w' f:=λk=>⟨Nat.le_refl _,λo ho=>Di (h.block k (λe=>by rw[e,hf] at ho;omega)) o⟩
theorem fI{P:Program}{R:List RB}{σ:Bb}{k:JZ}{α:Type}(I2:α→World→Fq→Prop)(h1:∀w f,X.I w f→∃x,I2 x w f)(hst:∀x,EV X.MI (I2 x))
   (h:∀x,A3 P n Q ds {X with I:=I2 x} R B Fs k fs σ H):A3 P n Q ds X R B Fs k fs σ H:=λw f hM=>by
 obtain⟨x,hx⟩:=h1 w f hM.res;exact h x w f {hM with res:=hx,stab:=hst x}
end Go.SW
namespace Go.SP
open Go.SW Go.RowKit
theorem KD{s:BS}{x:Int}:∀(k:Nat)(a b:Ty)(j:Nat),B2 s k a=some j→CF s x k (a.app b)=(CF s x k a&&CF s x j b)
 |k,.nil,b,j,h=>by
   have e:j=k:=by cases k <;> (cases h;rfl)
   subst e
   cases j <;> simp[Ty.app,CF]
 |0,.var _ _,_,_,h=>by cases h
 |0,.con _ _ _,_,_,h=>by cases h
 |k+1,.var n r,b,j,h=>by
   simp only[Ty.app,B2,CF] at h ⊢
   cases hh:Ap s (.var n) with
   |var m=>rw[hh] at h;simp only at h ⊢;rw[KD k r b j h,Bool.and_assoc]
   |con tx ks=>rw[hh] at h;simp only at h ⊢;rw[← Ty.app_assoc];exact KD k _ b j h
 |k+1,.con tx ks r,b,j,h=>by
   simp only[Ty.app,B2,CF] at h ⊢;rw[← Ty.app_assoc];exact KD k _ b j h
variable {j:Nat}
theorem ON{s:BS}{x:Int}{k:Nat}{t:T1}{r:Ty}(h:B2 s k t.one=some j):CF s x k (t.cons r)=(CF s x k t.one&&CF s x j r):=by rw[← T1.one_app];exact KD k t.one r j h
def VF(x:Int):T1→Bool
 |.var m=>!(m==x)
 |.con _ _=>true
theorem IY(s:BS)(x:Int)(k:Nat)(t:T1):CF s x (k+1) t.one=(VF x (Ap s t)&&CF s x k (Ap s t).kids):=by
 cases t with
 |var n =>
   simp only[T1.one,T1.cons,CF]
   cases Ap s (.var n) with
   |var m=>cases k <;> simp[VF,T1.kids,CF]
   |con tx ks=>simp[VF,T1.kids,Ty.app_nil]
 |con tx ks=>simp[T1.one,T1.cons,CF,Gy,VF,T1.kids,Ty.app_nil]
def qJ(P:Program)(fid:FuncId)(T:TypeId)(g:FuncId)(k:Nat):Prop:=∀(w:World)(f:Fq)(_:Vl w f)(sb mb:Nat)(s:BS)(fr pr:Int)(xb:Nat)(x:Int),B8 T sb mb s fr pr w f→Iv s→AI w xb [.int .i64 x] 3→∀(t:T1)(a:Option Addr)(c j:Nat),t.bnd→Ak w f t.kids a c→B2 s k t.one=some j →
 Bo P fid #[.pointer (some ⟨sb,0,none⟩),tV t a c,.func (.func g) #[] #[.pointer (some ⟨xb,0,none⟩)]] w (Bw (α:=Unit) (λ_=>.bool (CF s x k t.one)) (λ_=>True) (λ_=>[]) w f)
def Iz(s:BS)(n:Int)(t:T1):Int×BS:=match Cl s n t with
 |.error e=>(e,s)
 |.ok s'=>(0,s')
end Go.SP
namespace Go.SP
open Go.SW Go.RowKit
def bD(T:TypeId)(sb mb:Nat)(s:BS)(fr pr:Int)(es:List (Int×Value))(w:World)(f:Fq):Prop:=AI w sb [.map (some mb),.int .i64 fr,.int .i64 pr] T∧BE EA w mb es∧FA w f s es
variable {fr pr:Int}{es:List (Int×Value)}{mb sb:Nat}{MI:Nat→Prop}{T:TypeId}
theorem bD.stab{s:BS}(h1:MI sb)(h2:MI mb):EV MI (bD T sb mb s fr pr es):=λ_ _ _ _ ⟨hb,hm,hs⟩ hF h=>⟨(h sb h1).trans hb,hm.heap (h mb h2),FA.mono hF s es hs⟩
theorem VI{s:BS}{n:Int}{t:T1}(h:Hn s t=false):Iz s n t=(4,s):=by simp[Iz,Cl,h]
theorem YS{s:BS}{n:Int}{t:T1}(h:Hn s t=true)(h2:CF s n 1000 t.one=false):Iz s n t=(11,s):=by simp[Iz,Cl,h,h2]
theorem Zi{s:BS}{n:Int}{t:T1}(h:Hn s t=true)(h2:CF s n 1000 t.one=true):Iz s n t=(0,(n,t)::s):=by simp[Iz,Cl,h,h2]
end Go.SP
namespace Go.SW
open Go.RowKit
variable {Q:AU}{af:Array Edge}{ag:Bool}{X:Cx}{Fs:List (World→Fq→Prop)}{ds:List Deferred}{B:List FB}{fs:List Fr}{H:List HB}{l l' vs:List Value}{b n off:Nat}{x:Operand}{g:Option (Nat×Bool)}{pos:String}{T:TypeId}{I':World→Fq→Prop}
theorem SZ{P:Program}{R:List RB}{σ:Bb}{all r:List Oper}{ty T':TypeId}{y:Operand}{k:Nat}{v:Value}
   (hg:gd all σ g=some true) (hx:ev σ x=some (.pointer (some ⟨b,off,none⟩))) (hy:ev σ y=some v) (hv:Hl v=some vs) (hT:AN P T=some (ag,k)) (hk:Nat.beq vs.length k=true) (h1:LG vs=true) (hp:NL l off vs=some l') (hmi:X.MI b)
   (hb:∀w f,X.I w f→AI w b l T') (hI:∀w f w',X.I w f→AO X w f H R B Fs→FZ b w w'→AI w' b l' T'→I' w' f) (hst:EV X.MI I')
   (h:A3 P n Q ds {X with I:=I' } R B Fs (.ops all r) fs σ H):A3 P n Q ds X R B Fs (.ops all (⟨none,.store T x y,ty,pos,af,g⟩::r)) fs σ H:=λw f hM =>
 B1 hg (A1 hx hy hv hT hk (hb w f hM.res) h1 hp λw' hb' hC=>h w' f (hM.chgI hmi hC (hI w f w' hM.res hM hC hb') hst))
def rR(P:Program)(n:Nat){α:Type}(p:α→Prop)(s:α→Bb)(X:α→Cx)(H:α→List HB)(R:α→List RB)(B:α→List FB)(Fs:α→List (World→Fq→Prop))(ds:List Deferred)(Q:AU):AU :=
 {q:=λe σ ds' w=>match e with
     |.normal=>∃x,p x∧ds'=ds∧Le (s x) σ∧∃f,AO (X x) w f (H x) (R x) (B x) (Fs x)
     |e=>Q.q e σ ds' w,
   p:=Q.p}
section
variable{P:Program}{n:Nat}{Q:AU}{ds:List Deferred}{X:Cx}{R:List RB}{B:List FB}{Fs:List (World→Fq→Prop)}{fs:List Fr}{σ:Bb}{H:List HB}
theorem Nh{c:Code}{α:Type}(p:α→Prop)(s:α→Bb)(X':α→Cx)(H':α→List HB)(R':α→List RB)(B':α→List FB)(F':α→List (World→Fq→Prop))(h1:A3 P n (rR P n p s X' H' R' B' F' ds (L8 P n Q fs)) ds X R B Fs (.code c) [] σ H)
   (h2:∀x,p x→A3 P n Q ds (X' x) (R' x) (B' x) (F' x) (.out .normal) fs (s x) (H' x)):A3 P n Q ds X R B Fs (.code c) fs σ H:=λw f hM a ha=>by
 refine wp_mono (h1 w f hM a ha) λe a' w' he=>?_
 cases e with
 |normal =>
   obtain⟨σ',ds',hs,x,hp,rfl,hl,f',hm⟩:=he;exact⟨s x,_,hs.le hl,h2 x hp w' f' hm⟩
 |panic c=>exact he
 |outgrown=>exact he
 |ret=>exact he
 |exit i=>exact he
 |goto i=>exact he
theorem HG{α:Type}{p:α→Prop}{s:α→Bb}{X':α→Cx}{H':α→List HB}{R':α→List RB}{B':α→List FB}{F':α→List (World→Fq→Prop)}(x:α)(hp:p x)(hl:Le (s x) σ)(hM:∀w f,AO X w f H R B Fs→∃f,AO (X' x) w f (H' x) (R' x) (B' x) (F' x)):A3 P n (rR P n p s X' H' R' B' F' ds Q) ds X R B Fs (.out .normal) [] σ H :=
 λw f hm=>⟨x,hp,rfl,hl,hM w f hm⟩
end
end Go.SW
namespace Go.SP
open Go.SW Go.RowKit
def Kb(f:BS→Ty→Ty→Except Int (Nat×BS))(b:BS)(x y:T1)(r q:Ty):Except Int (Nat×BS) :=
 match x,y with
 |.var n,.var m=>if n==m then f b r q else (match Cl b n (.var m) with|.error e=>.error e|.ok b'=>f b' r q)
 |.var n,.con ty kb=>(match Cl b n (.con ty kb) with|.error e=>.error e|.ok b'=>f b' r q)
 |.con tx ka,.var m=>(match Cl b m (.con tx ka) with|.error e=>.error e|.ok b'=>f b' r q)
 |.con tx ka,.con ty kb=>if !(tx==ty)||(ka.len:Int) != kb.len then .error 11 else f b (ka.app r) (kb.app q)
def Gs:Nat→BS→Ty→Ty→Except Int (Nat×BS)
 |k,b,.nil,_=>.ok (k,b)
 |0,_,.var _ _,_=>.error 4
 |0,_,.con _ _ _,_=>.error 4
 |k+1,b,.var n r,y=>Kb (Gs k) b (Ap b (.var n)) (Ap b y.hd) r y.tl
 |k+1,b,.con tx ka r,y=>Kb (Gs k) b (.con tx ka) (Ap b y.hd) r y.tl
def sA{α β:Type}(g:α→β):Except Int α→Except Int β
 |.error e=>.error e
 |.ok x=>.ok (g x)
def QF{α β:Type}(g:α→Except Int β):Except Int α→Except Int β
 |.error e=>.error e
 |.ok x=>g x
theorem Q4:∀(k:Nat)(b:BS)(x y:Ty),Lh k b x y=sA (·.2) (Gs k b x y):=by
 intro k
 induction k with
 |zero=>intro b x y;cases x <;> rfl
 |succ k ih =>
   have h1:∀b x y r q,HV (Lh k) b x y r q=sA (·.2) (Kb (Gs k) b x y r q):=by
     intro b x y r q
     cases x with
     |var n =>
       cases y with
       |var m =>
         simp only[HV,Kb]
         cases (n==m) with
         |true=>simp only[if_true];exact ih _ _ _
         |false =>
           simp only[Bool.false_eq_true,if_false]
           cases Cl b n (.var m) with
           |error e=>rfl
           |ok b'=>exact ih _ _ _
       |con ty kb =>
         simp only[HV,Kb]
         cases Cl b n (.con ty kb) with
         |error e=>rfl
         |ok b'=>exact ih _ _ _
     |con tx ka =>
       cases y with
       |var m =>
         simp only[HV,Kb]
         cases Cl b m (.con tx ka) with
         |error e=>rfl
         |ok b'=>exact ih _ _ _
       |con ty kb =>
         simp only[HV,Kb]
         split
         · rfl
         · exact ih _ _ _
   intro b x y
   cases x with
   |nil=>rfl
   |var n r=>exact h1 _ _ _ _ _
   |con tx ka r=>exact h1 _ _ _ _ _
theorem T1.hd_cons(t:T1)(r:Ty):(t.cons r).hd=t:=by cases t <;> rfl
theorem T1.tl_cons(t:T1)(r:Ty):(t.cons r).tl=r:=by cases t <;> rfl
theorem cY(k:Nat)(b:BS)(x:T1)(r y:Ty):Gs (k+1) b (x.cons r) y=Kb (Gs k) b (Ap b x) (Ap b y.hd) r y.tl:=by cases x <;> rfl
theorem iO:∀(k:Nat)(b:BS)(x y r q:Ty),x.len=y.len→Gs k b (x.app r) (y.app q)=QF (λz=>Gs z.1 z.2 r q) (Gs k b x y):=by
 intro k
 induction k with
 |zero =>
   intro b x y r q h
   cases x with
   |nil =>
     have:y=.nil:=Ty.len0 (by simpa[Ty.len] using h.symm);subst this;rfl
   |var n x=>rfl
   |con tx ka x=>rfl
 |succ k ih =>
   have h1:∀b u v x y r q,x.len=y.len→Kb (Gs k) b u v (x.app r) (y.app q)=QF (λz=>Gs z.1 z.2 r q) (Kb (Gs k) b u v x y):=by
     intro b u v x y r q h
     cases u with
     |var n =>
       cases v with
       |var m =>
         simp only[Kb]
         cases (n==m) with
         |true=>simp only[if_true];exact ih _ _ _ _ _ h
         |false =>
           simp only[Bool.false_eq_true,if_false]
           cases Cl b n (.var m) with
           |error e=>rfl
           |ok b'=>exact ih _ _ _ _ _ h
       |con ty kb =>
         simp only[Kb]
         cases Cl b n (.con ty kb) with
         |error e=>rfl
         |ok b'=>exact ih _ _ _ _ _ h
     |con tx ka =>
       cases v with
       |var m =>
         simp only[Kb]
         cases Cl b m (.con tx ka) with
         |error e=>rfl
         |ok b'=>exact ih _ _ _ _ _ h
       |con ty kb =>
         simp only[Kb]
         split
         · rfl
         · rename_i hc
           have hl:ka.len=kb.len:=by
             simp only[Bool.or_eq_true,not_or,bne_iff_ne,ne_eq,Decidable.not_not] at hc;omega
           rw[← Ty.app_assoc,← Ty.app_assoc];exact ih _ _ _ _ _ (by rw[Ty.len_app,Ty.len_app,hl,h])
   intro b x y r q h
   cases x with
   |nil =>
     have:y=.nil:=Ty.len0 (by simpa[Ty.len] using h.symm);subst this;rfl
   |var n x =>
     obtain⟨u,y,rfl⟩:=Ty.cases1 y (by rw[← h];simp[Ty.len]);have e1:(u.cons y).app q=u.cons (y.app q):=by cases u <;> rfl
     rw[e1];show Kb (Gs k) b (Ap b (.var n)) (Ap b (u.cons (y.app q)).hd) (x.app r) (u.cons (y.app q)).tl=QF _ (Kb (Gs k) b (Ap b (.var n)) (Ap b (u.cons y).hd) x (u.cons y).tl);rw[T1.hd_cons,T1.tl_cons,T1.hd_cons,T1.tl_cons];exact h1 _ _ _ _ _ _ _ (by rw[T1.len_cons] at h;simpa[Ty.len] using h)
   |con tx ka x =>
     obtain⟨u,y,rfl⟩:=Ty.cases1 y (by rw[← h];simp[Ty.len]);have e1:(u.cons y).app q=u.cons (y.app q):=by cases u <;> rfl
     rw[e1];show Kb (Gs k) b (.con tx ka) (Ap b (u.cons (y.app q)).hd) (x.app r) (u.cons (y.app q)).tl=QF _ (Kb (Gs k) b (.con tx ka) (Ap b (u.cons y).hd) x (u.cons y).tl);rw[T1.hd_cons,T1.tl_cons,T1.hd_cons,T1.tl_cons];exact h1 _ _ _ _ _ _ _ (by rw[T1.len_cons] at h;simpa[Ty.len] using h)
theorem Sj(k:Nat)(b:BS)(x y:T1)(r q:Ty)(h:r.len=q.len):Gs k b (x.cons r) (y.cons q)=QF (λz=>Gs z.1 z.2 r q) (Gs k b x.one y.one):=by
 rw[← T1.one_app,← T1.one_app];exact iO k b x.one y.one r q (by unfold T1.one;rw[T1.len_cons,T1.len_cons])
theorem JI(k:Nat)(b:BS)(x y:T1):Gs (k+1) b x.one y.one=Kb (Gs k) b (Ap b x) (Ap b y) .nil .nil:=by
 unfold T1.one;rw[cY,T1.hd_cons,T1.tl_cons]
theorem aT(b:BS)(x y:T1):Gs 0 b x.one y.one=.error 4:=by cases x <;> rfl
theorem N5{s:BS}(hw:bK s):∀(k:Nat)(t:T1)(n:Int),E1 s t≤k→HA s k t=.var n→CD s n=none
 |0,.con _ _,_,_,h=>by cases h
 |0,.var m,n,hr,h=>by
   cases h
   cases hl:CD s m with
   |none=>rfl
   |some t=>have:=Ng hw hl;omega
 |k+1,.con _ _,_,_,h=>by cases h
 |k+1,.var m,n,hr,h=>by
   simp only[HA] at h
   cases hl:CD s m with
   |none=>rw[hl] at h;cases h;exact hl
   |some t =>
     rw[hl] at h;exact N5 hw k t n (by have:=Ng hw hl;omega) h
theorem Ni{s:BS}(hw:bK s){t:T1}{n:Int}(h:Ap s t=.var n):CD s n=none:=N5 hw _ t n (by have:=UB s t;omega) h
theorem Fk{s:BS}(hw:Iv s){t:T1}{n:Int}(h:Ap s t=.var n):CD s n=none:=Ni hw.v h
theorem S9{s:BS}(hw:bK s)(t:T1):Ap s (Ap s t)=Ap s t:=by
 cases h:Ap s t with
 |con tx k=>exact Gy s tx k
 |var n=>exact N9 (Ni hw h)
theorem Li{s:BS}(hw:Iv s)(t:T1):Ap s (Ap s t)=Ap s t:=S9 hw.v t
theorem Ph{s s':BS}(hw:Iv s){n:Int}{t:T1}(hn:CD s n=none)(ht:Ap s t=t)(hb:t.bnd)(h:Cl s n t=.ok s'):Iv s':=by
 unfold Cl at h
 split at h
 · split at h
   · rename_i hs hf
     cases h
     refine⟨hn,λm hm=>?_,hb,hw⟩;subst hm;refine⟨λe=>?_,Fk hw ht⟩;have:=IY s n 999 (.var m);rw[hf,ht,e] at this;simp[VF] at this
   · cases h
 · cases h
def fR(P:Program)(fid:FuncId)(T:TypeId)(k:Nat):Prop:=∀(w:World)(f:Fq)(_:Vl w f)(sb mb:Nat)(s:BS)(fr:Int),B8 T sb mb s fr (10000-(k:Int)) w f→(f sb=0∧f mb=0)→sb≠mb→Iv s→k≤10000→∀(t u:T1)(a:Option Addr)(c:Nat)(a2:Option Addr)(c2:Nat),t.bnd→u.bnd→Ak w f t.kids a c→Ak w f u.kids a2 c2 →
 Bo P fid #[.pointer (some ⟨sb,0,none⟩),tV t a c,tV u a2 c2] w (ED (α:=Int×BS×Int) (λx=>.int .i64 x.1) (λx=>(∀z,Gs k s t.one u.one=.ok z→x.1=0∧x.2.1=z.2∧x.2.2=10000-(z.1:Int)∧Iv z.2)∧∀e,Gs k s t.one u.one=.error e→x.1=e∧e≠0) (LI sb mb) (λx=>B8 T sb mb x.2.1 fr x.2.2) (λ_=>[]) w f)
theorem oN:∀(k:Nat)(b:BS)(x y:Ty)(z:Nat×BS),Gs k b x y=.ok z→z.1≤k:=by
 intro k
 induction k with
 |zero=>intro b x y z h;cases x <;> cases h;exact Nat.le_refl _
 |succ k ih =>
   have h1:∀b u v r q z,Kb (Gs k) b u v r q=.ok z→z.1≤k:=by
     intro b u v r q z h;unfold Kb at h
     repeat' split at h
     all_goals first|exact ih _ _ _ _ h|cases h
   intro b x y z h
   cases x with
   |nil=>cases h;exact Nat.le_refl _
   |var n r=>have:=h1 _ _ _ _ _ _ h;omega
   |con tx ka r=>have:=h1 _ _ _ _ _ _ h;omega
end Go.SP
namespace Go.SP
theorem PQ{s:BS}{n:Int}{t:T1}{e:Int}(h:Cl s n t=.error e):e≠0:=by
 unfold Cl at h
 split at h
 · split at h
   · cases h
   · cases h;decide
 · cases h;decide
end Go.SP
namespace Go.SP
open Go.SW Go.RowKit
theorem G7(s:BS)(k:Nat):AM s k .nil=.nil:=by cases k <;> rfl
theorem O6{s:BS}:∀(k:Nat)(x:Ty)(j:Nat),B2 s k x=some j→∀m,k-j≤m→AM s m x=AM s k x:=by
 intro k
 induction k using Nat.strongRecOn with
 |_ k ih =>
   intro x j h m hm
   have key:∀(k' m':Nat)(ks r:Ty),k'<k→B2 s k' (ks.app r)=some j→k'-j≤m'→AM s m' ks=AM s k' ks∧AM s m' r=AM s k' r:=by
     intro k' m' ks r hk hr hm';rw[Ju] at hr
     cases hj:B2 s k' ks with
     |none=>rw[hj] at hr;cases hr
     |some j1 =>
       rw[hj] at hr;have hr:B2 s j1 r=some j:=hr;have h1:=Eo s _ _ _ hj;have h2:=Eo s _ _ _ hr;exact⟨ih k' hk ks j1 hj m' oM,(ih j1 oM r j hr m' oM).trans (ih j1 oM r j hr k' oM).symm⟩
   cases x with
   |nil=>rw[G7,G7]
   |var n r =>
     cases k with
     |zero=>cases h
     |succ k =>
       simp only[B2] at h
       cases hh:Ap s (.var n) with
       |var q =>
         rw[hh] at h;have h3:=Eo s _ _ _ h;obtain⟨m,rfl⟩:∃m',m=m'+1:=⟨m-1,oM⟩;simp only[AM,hh];rw[(key k m .nil r (by omega) h (by omega)).2]
       |con tx ks =>
         rw[hh] at h;have h3:=Eo s _ _ _ h;obtain⟨m,rfl⟩:∃m',m=m'+1:=⟨m-1,oM⟩;simp only[AM,hh];have:=key k m ks r oM h oM;rw[this.1,this.2]
   |con tx ks r =>
     cases k with
     |zero=>cases h
     |succ k =>
       simp only[B2] at h;have h3:=Eo s _ _ _ h;obtain⟨m,rfl⟩:∃m',m=m'+1:=⟨m-1,oM⟩;simp only[AM];have:=key k m ks r oM h oM;rw[this.1,this.2]
theorem Nj{s:BS}(k:Nat)(t:T1):(AM s (k+1) t.one).hd=(match Ap s t with|.var m=>.var m|.con tx ks=>.con tx (AM s k ks)):=by
 cases t with
 |var n =>
   simp only[T1.one,T1.cons,AM]
   cases Ap s (.var n) <;> rfl
 |con tx ks=>rw[Gy];rfl
variable {j:Nat}
theorem KZ{s:BS}{k:Nat}{t:T1}{r:Ty}{j2:Nat}(h:B2 s k t.one=some j)(h2:B2 s j r=some j2):AM s k (t.cons r)=(AM s k t.one).hd.cons (AM s j r):=by
 cases k with
 |zero=>rw[KG] at h;cases h
 |succ k =>
   have h3:j≤k:=by rw[Jv] at h;exact Eo s _ _ _ h
   have hf:=O6 j r j2 h2 k oM;rw[Nj]
   cases t with
   |var n =>
     simp only[T1.cons,AM]
     cases Ap s (.var n) with
     |var m=>simp only[T1.cons];rw[hf]
     |con tx ks=>simp only[T1.cons];rw[hf]
   |con tx ks=>rw[Gy];simp only[T1.cons,AM];rw[hf]
theorem Vv{s:BS}(hw:Iv s):∀(k:Nat)(x:Ty),x.bnd→(AM s k x).bnd∧(AM s k x).len≤x.len:=by
 intro k
 induction k with
 |zero=>intro x _;cases x <;> exact⟨tQ,Nat.zero_le _⟩
 |succ k ih =>
   intro x hx
   cases x with
   |nil=>exact⟨tQ,Nat.le_refl _⟩
   |var n r =>
     have h1:=Cm hw (t:=.var n) ⟨⟨Nat.zero_le _,Nat.zero_le _⟩,tQ⟩;have h2:=ih r hx;simp only[AM]
     cases hh:Ap s (.var n) with
     |var m=>exact⟨h2.1,by simp only[Ty.len];omega⟩
     |con tx ks =>
       rw[hh] at h1;have h3:=ih ks h1.2;exact⟨⟨⟨Nat.le_trans h3.2 h1.1.1,h1.1.2⟩,h3.1,h2.1⟩,by simp only[Ty.len];omega⟩
   |con tx ks r =>
     have h2:=ih r hx.2.2;have h3:=ih ks hx.2.1;exact⟨⟨⟨Nat.le_trans h3.2 hx.1.1,hx.1.2⟩,h3.1,h2.1⟩,by simp only[AM,Ty.len];omega⟩
theorem Gj{t:T1}(h:t.bnd):t.one.bnd:=T1.bnd_cons.2 ⟨h,tQ⟩
theorem Yd{x:Ty}(h:x.bnd):x.hd.bnd:=by
 cases x with
 |nil=>exact⟨⟨Nat.zero_le _,Nat.zero_le _⟩,tQ⟩
 |var n r=>exact⟨⟨Nat.zero_le _,Nat.zero_le _⟩,tQ⟩
 |con tx k r=>exact⟨h.1,h.2.1⟩
theorem ZA{s:BS}(hw:Iv s){t:T1}(h:t.bnd)(k:Nat):(AM s k t.one).hd.bnd:=Yd (Vv hw k _ (Gj h)).1
def fL(P:Program)(fid:FuncId)(T:TypeId)(k:Nat):Prop:=∀(w:World)(f:Fq)(_:Vl w f)(sb mb:Nat)(s:BS)(fr pr:Int),B8 T sb mb s fr pr w f→Iv s→∀(t:T1)(a:Option Addr)(c j:Nat),t.bnd→Ak w f t.kids a c→B2 s k t.one=some j →
 Bo P fid #[.pointer (some ⟨sb,0,none⟩),tV t a c] w (Bw (α:=Option Addr×Nat) (λx=>tV (AM s k t.one).hd x.1 x.2) (λ_=>True) (λx=>[λw f=>Ak w f (AM s k t.one).hd.kids x.1 x.2]) w f)
end Go.SP
namespace Go.SP
open Go.SW Go.RowKit
variable {f:Fq}{i:Nat}{a:Option Addr}{w:World}
theorem Ak.get{t:T1}:∀{k:Ty}{b off i:Nat},Ir w f k b off→k.get i=some t→∃ka kc,Cs w f b (off+i*4) (tC t ka kc)∧Ak w f t.kids ka kc
 |k,b,off,0,h,hi=>by
   obtain⟨t2,r,rfl⟩:∃t r,k=T1.cons t r:=by
     cases k with
     |nil=>cases hi
     |var n r=>exact⟨.var n,r,rfl⟩
     |con tx q r=>exact⟨.con tx q,r,rfl⟩
   have e:t2=t:=by cases t2 <;> (cases hi;rfl)
   subst e;obtain⟨b2,off2,ka,kc,h1,h2,h3,_⟩:=BF.head (a:=some ⟨b,off,none⟩) (i:=0) (.inr ⟨b,off,rfl,by simpa using h⟩)
   cases h1
   exact⟨ka,kc,by simpa using h2,h3⟩
 |k,b,off,i+1,h,hi=>by
   obtain⟨t2,r,rfl⟩:∃t r,k=T1.cons t r:=by
     cases k with
     |nil=>cases hi
     |var n r=>exact⟨.var n,r,rfl⟩
     |con tx q r=>exact⟨.con tx q,r,rfl⟩
   have e:r.get i=some t:=by cases t2 <;> exact hi
   obtain⟨b2,off2,ka,kc,h1,_,_,h4⟩:=BF.head (a:=some ⟨b,off,none⟩) (i:=0) (.inr ⟨b,off,rfl,by simpa using h⟩);rcases h4 with rfl|⟨b3,off3,h5,h6⟩
   · cases e
   · cases h5
     obtain⟨ka,kc,h7,h8⟩:=Ak.get h6 e;exact⟨ka,kc,by rw[show off+(i+1)*4=off+(0+1)*4+i*4 by omega];exact h7,h8⟩
theorem Ak.nth{t:T1}{k:Ty}{c:Nat}(h:Ak w f k a c)(hi:k.get i=some t):∃b off ka kc,a=some ⟨b,off,none⟩∧Cs w f b (off+i*4) (tC t ka kc)∧Ak w f t.kids ka kc:=by
 rcases h.2 with rfl|⟨b,off,h1,h2⟩
 · cases hi
 · obtain⟨ka,kc,h3,h4⟩:=Ak.get h2 hi
   exact⟨b,off,ka,kc,h1,h3,h4⟩
theorem He{t:T1}:∀{k:Ty}{i:Nat},k.bnd→k.get i=some t→t.bnd
 |.nil,_,_,h=>by cases h
 |.var n r,0,_,h=>by cases h;exact⟨⟨Nat.zero_le _,Nat.zero_le _⟩,tQ⟩
 |.con tx q r,0,hb,h=>by cases h;exact⟨hb.1,hb.2.1⟩
 |.var n r,i+1,hb,h=>He (k:=r) hb h
 |.con tx q r,i+1,hb,h=>He (k:=r) hb.2.2 h
theorem Sr{k:Ty}(h:i<k.len):∃t,k.get i=some t:=by
 induction k generalizing i with
 |nil=>simp[Ty.len] at h
 |var n r ih=>cases i with
   |zero=>exact⟨_,rfl⟩
   |succ i=>exact ih (by simp only[Ty.len] at h;omega)
 |con tx q r _ ih=>cases i with
   |zero=>exact⟨_,rfl⟩
   |succ i=>exact ih (by simp only[Ty.len] at h;omega)
theorem Xw{k:Ty}(h:k.len≤i):k.get i=none:=by
 induction k generalizing i with
 |nil=>rfl
 |var n r ih=>cases i with
   |zero=>simp[Ty.len] at h
   |succ i=>exact ih (by simp only[Ty.len] at h;omega)
 |con tx q r _ ih=>cases i with
   |zero=>simp[Ty.len] at h
   |succ i=>exact ih (by simp only[Ty.len] at h;omega)
theorem OM(l:List Int)(y:Ty)(t:T1)(r:Ty):Dw l y (t.cons r)=(Cn t l y).cons (Dw l y r):=by
 cases t with
 |var n =>
   simp only[T1.cons,Dw,Cn,T1.one]
   cases (Dv l n).bind y.get with
   |none=>rfl
   |some t=>cases t <;> rfl
 |con tx k=>rfl
theorem H8{l:List Int}{y:Ty}(hy:y.bnd):∀x:Ty,x.bnd→(Dw l y x).bnd∧(Dw l y x).len=x.len
 |.nil,_=>⟨tQ,rfl⟩
 |.var n r,hx=>by
   have h2:=H8 (l:=l) hy r hx;simp only[Dw]
   cases hg:(Dv l n).bind y.get with
   |none=>exact⟨h2.1,by simp only[Ty.len];omega⟩
   |some t =>
     obtain⟨i,_,hi⟩:=Option.bind_eq_some_iff.1 hg;exact⟨T1.bnd_cons.2 ⟨He hy hi,h2.1⟩,by rw[T1.len_cons];simp only[Ty.len];omega⟩
 |.con tx k r,hx=>by
   have h2:=H8 (l:=l) hy r hx.2.2;have h3:=H8 (l:=l) hy k hx.2.1;exact⟨⟨⟨by rw[h3.2];exact hx.1.1,hx.1.2⟩,h3.1,h2.1⟩,by simp only[Dw,Ty.len];omega⟩
theorem I8{l:List Int}{y:Ty}(hy:y.bnd){t:T1}(h:t.bnd):(Cn t l y).bnd:=Yd (H8 hy _ (Gj h)).1
theorem Nq{l:List Int}{y:Ty}{n:Int}:Cn (.var n) l y=((Dv l n).bind y.get).getD (.var n):=by
 simp only[Cn,T1.one,T1.cons,Dw]
 cases (Dv l n).bind y.get with
 |none=>rfl
 |some t=>cases t <;> rfl
theorem XP{l:List Int}{y:Ty}{tx:lU}{k:Ty}:Cn (.con tx k) l y=.con tx (Dw l y k):=rfl
def eX(P:Program)(fid:FuncId)(m:Nat):Prop:=∀(w:World)(f:Fq)(_:Vl w f)(l:List Int)(la:Option Addr)(lc:Nat)(y:Ty)(ya:Option Addr)(yc:Nat),l.length≤1000000→y.len≤200000→y.bnd→BJ w f l la lc→Ak w f y ya yc→∀(t:T1)(a:Option Addr)(c:Nat),t.kids.size<m→t.bnd→Ak w f t.kids a c →
 Bo P fid #[tV t a c,.slice la l.length lc,.slice ya y.len yc] w (Bw (α:=Option Addr×Nat) (λx=>tV (Cn t l y) x.1 x.2) (λ_=>True) (λx=>[λw f=>Ak w f (Cn t l y).kids x.1 x.2]) w f)
end Go.SP
namespace Go.SW
open Go.RowKit
section
variable{X:Cx}{w w':World}{f f':Fq}{H:List HB}{R:List RB}{B:List FB}{Fs:List (World→Fq→Prop)}
variable {I':World→Fq→Prop}
theorem AO.callJ{MI':Nat→Prop}(h:AO X w f H R B Fs)(he:C2 X.MI w f w' f')(hI:I' w' f')(hst:EV MI' I')(hmi:∀b,MI' b→X.MI b∨(w.heap.size≤b∧b<w'.heap.size∧f' b=0)):AO {X with MI:=MI',I:=I' } w' f' H R B Fs :=
 have h1:AO {X with I:=λ_ _=>True} w' f' H R B Fs:=h.callI he tQ (λ_ _ _ _ _ _ _=>trivial)
 {h1 with
   res:=hI,stab:=hst,
   mi:=λb hb=>by
     rcases hmi b hb with hb|⟨h2,h3,h4⟩
     · exact h1.mi b hb
     · exact⟨h3,h4,.inl (Nat.le_trans h.stp.size h2)⟩,
   own:=λb hb=>⟨(h1.own b hb).1,(h1.own b hb).2.1,λhm=>by
     rcases hmi b hm with hm|⟨h2,_,_⟩
     · exact (h1.own b hb).2.2 hm
     · exact Nat.lt_irrefl _ (Nat.lt_of_lt_of_le (h.lt hb) h2)⟩}
end
def JG{α:Type}(val:α→Value)(q:α→Prop)(M:Nat→Prop)(MI':α→Nat→Prop)(I':α→World→Fq→Prop)(F':α→List (World→Fq→Prop))(w:World)(f:Fq)(v:Value)(w':World):Prop:=∃x f',v=val x∧q x∧C2 M w f w' f'∧(∀b,MI' x b→M b∨(w.heap.size≤b∧b<w'.heap.size∧f' b=0))∧I' x w' f'∧AE (F' x) w' f'
section
variable{P:Program}{n:Nat}{Q:AU}{ds:List Deferred}{X:Cx}{R:List RB}{B:List FB}{Fs:List (World→Fq→Prop)}{fs:List Fr}{σ:Bb}{H:List HB}
variable{all r:List Oper}{ty T:TypeId}{pos:String}{af:Array Edge}{g:Option (Nat×Bool)}{d:Nat}{x y:Operand}
variable {args:Array Value}{nw:Bool}{fid:FuncId}{XX:List PanicEntry→World→Prop}{news xs zl:List Value}{bytes cs:Nat}{Ts e:TypeId}
theorem Ud{op:Op}{α:Type}{val:α→Value}{q:α→Prop}{MI':α→Nat→Prop}{I':α→World→Fq→Prop}{F':α→List (World→Fq→Prop)}
   (hg:gd all σ g=some true) (hd:Nat.blt d n=true) (he:∀w,Enters P σ op ty w fid args)
   (hc:∀w f,AO X w f H R B Fs→BB P fid args w (JG val q X.MI MI' I' F' w f) XX) (hst:∀x,EV (MI' x) (I' x)) (hm:∀x,Ax (F' x))
   (hp:∀w f c w',AO X w f H R B Fs→XX c w'→Q.p c σ ds w')
   (h:∀x,q x→A3 P n Q ds {X with MI:=MI' x,I:=I' x} R B (F' x++Fs) (.ops all r) fs (AA σ d (val x)) H):A3 P n Q ds X R B Fs (.ops all (⟨some d,op,ty,pos,af,g⟩::r)) fs σ H:=λw f hM=>by
 refine B1 hg (BX hd (he w) (hc w f hM) ?_ ?_)
 · rintro v w' ⟨x,f',rfl,hq,hE,hmi,hI,hF⟩
   exact h x hq w' f' ((hM.callJ hE hI (hst x) hmi).more (B':=[]) (λ_ h=>by cases h) hF.mem (hm x).mem)
 · intro c w' hX
   rw[L7];exact hp w f c w' hM hX
theorem MA{size:Nat}{a:Option Addr}{c k src:Nat}{MI':Option Addr→Nat→Prop}{I':Option Addr→Nat→World→Fq→Prop}(j:Nat)(hg:gd all σ g=some true)(hd:Nat.blt d n=true)(hT:Mg P T=some (e,size,bytes,zl))(hzl:Nat.beq zl.length size=true)(hsz:Nat.blt 0 size=true)
   (hs:ev σ x=some (.slice a k c)) (hx:ev σ y=some (.slice (some ⟨src,0,none⟩) 1 cs)) (hH:Hg H j=some ⟨src,news,Ts,nw⟩) (hl:Nat.beq news.length size=true) (h1:LG news=true) (h47:(k+1)*bytes≤140737488355328) (h63:k+1≤9223372036854775807)
   (hrow:∀w f,X.I w f→BP w e size a c k xs) (hmi:∀b,rb a=some b→X.MI b) (hMI:∀a' b,MI' a' b→X.MI b∨rb a'=some b) (hI:∀w f w' a' c',X.I w f→AO X w f H R B Fs→BP w' e size a' c' (k+1) (xs++news)→EB a w a' w'→I' a' c' w' f) (hst:∀a' c',EV (MI' a') (I' a' c'))
   (h:∀a' c',A3 P n Q ds {X with MI:=MI' a',I:=I' a' c' } R B Fs (.ops all r) fs (AA σ d (.slice a' (k+1) c')) H) :
   A3 P n Q ds X R B Fs (.ops all (⟨some d,.call {callee:=.builtin .append,args:=#[x,y],argTypes:=#[T,T]},ty,pos,af,g⟩::r)) fs σ H:=λw f hM =>
 B1 hg (AY hd hT hzl hsz hs hx (hrow w f hM.res) (hM.blk _ (BG hH)) hl h1 h47 h63 λa' c' w' hr hG=>h a' c' w' f (hM.callJ ⟨⟨hG.os,hG.tape,hG.output,hG.size,λb hb hm=>hG.block b hb λe=>hm (hmi b e.symm)⟩,λ_ _=>rfl,λb hb=>hM.val b (Nat.le_trans hG.size hb)⟩ (hI w f w' a' c' hM.res hM hr hG) (hst a' c') λb hb=>by
   rcases hMI a' b hb with hb|hb
   · exact .inl hb
   · rcases hG.own with ho|ho
     · exact .inl (hmi b (ho.symm.trans hb))
     · have e:b=w.heap.size:=Option.some.inj (hb.symm.trans ho)
       subst e;exact .inr ⟨Nat.le_refl _,hr.lt hb,hM.val _ (Nat.le_refl _)⟩))
end
variable {b:Nat}{M:Nat→Prop}
theorem C2.done{w w':World}{f f':Fq}(h:C2 M w f w' f')(hb:w.heap.size≤b)(hl:b<w'.heap.size)(n:Nat):C2 M w f w' (λk=>if k=b then n else f' k) :=
 ⟨h.stp,λk hk=>by show (if k=b then n else f' k)=f k;rw[if_neg (by omega)];exact h.old k hk,λk hk=>by show (if k=b then n else f' k)=0;rw[if_neg (by omega)];exact h.val k hk⟩
end Go.SW
namespace Go.SP
open Go.SW Go.RowKit
def Ha(l:List Int):List (Int×Value):=l.reverse.map λn=>(n,.bool true)
theorem OW(n:Int):∀l:List Int,Em (l.map λn=>(n,Value.bool true)) n=if l.contains n then some (.bool true) else none
 | []=>rfl
 |k::l=>by
   have:=OW n l;simp only[List.map,Em,List.contains_cons]
   by_cases hk:n=k
   · subst hk;simp
   · have e:(n==k)=false:=by simpa using hk
     rw[e,this];simp
theorem Ss(n:Int)(l:List Int):Em (Ha l) n=if l.contains n then some (.bool true) else none:=by
 unfold Ha;rw[OW];simp
theorem RD:∀l:List Int,l.Nodup→Iw (l.map λn=>(n,Value.bool true))
 | [],_=>trivial
 |k::l,h=>by
   have h':=List.nodup_cons.1 h;refine⟨?_,RD l h'.2⟩;rw[OW,if_neg];simpa using h'.1
theorem K1{l:List Int}(h:l.Nodup):Iw (Ha l):=RD _ ((List.reverse_perm l).nodup_iff.2 h)
def LJ(ob mb:Nat)(a:Option Addr)(b:Nat):Prop:=b=ob∨b=mb∨rb a=some b
structure DA(T:TypeId)(ob mb:Nat)(sl:Value)(lm:List Int)(a:Option Addr)(c:Nat)(l:List Int)(w:World)(f:Fq):Prop where
 blk:AI w ob [sl] T
 map:BE EA w mb (Ha lm)
 row:BP w 3 1 a c l.length (l.map λn=>.int .i64 n)
 ne:ob≠mb∧rb a≠some ob∧rb a≠some mb
 nd:lm.Nodup
theorem DA.stab{T:TypeId}{ob mb:Nat}{sl:Value}{lm:List Int}{a:Option Addr}{c:Nat}{l:List Int}:EV (LJ ob mb a) (DA T ob mb sl lm a c l):=λ_ _ _ _ h hF hb =>
 ⟨(hb ob (.inl rfl)).trans h.blk,h.map.heap (hb mb (.inr (.inl rfl))),⟨h.row.1,h.row.2.imp id λ⟨b,q,h1,h2,h3⟩=>⟨b,q,h1,(hb b (.inr (.inr (by rw[h1];rfl)))).trans h2,h3⟩⟩,h.ne,h.nd⟩
abbrev PO(T:TypeId)(ob mb:Nat)(a:Option Addr)(c:Nat)(l:List Int):World→Fq→Prop:=DA T ob mb (.slice a l.length c) l a c l
variable {b:Nat}{M:Nat→Prop}{w0:World}
theorem DA.lt{T:TypeId}{ob mb:Nat}{sl:Value}{lm:List Int}{a:Option Addr}{c:Nat}{l:List Int}{w:World}{f:Fq}(h:DA T ob mb sl lm a c l w f)(hb:LJ ob mb a b):b<w.heap.size:=by
 rcases hb with rfl|rfl|hb
 · exact h.blk.lt
 · exact h.map.lt
 · exact h.row.lt hb
theorem Vu(t:T1)(r:Ty)(l:List Int):C5 (t.cons r) l=C5 r (C5 t.one l):=by cases t <;> rfl
theorem I4:∀(x:Ty)(l:List Int),(C5 x l).length≤x.size+l.length
 |.nil,l=>by simp[C5]
 |.var n r,l=>by
   have:=I4 r (if l.contains n then l else l++[n]);simp only[C5,Ty.size]
   split at this <;> simp_all <;> omega
 |.con tx k r,l=>by
   have h1:=I4 k l;have h2:=I4 r (C5 k l);simp only[C5,Ty.size];omega
def gA(P:Program)(fid:FuncId)(T:TypeId)(m:Nat):Prop:=∀(w:World)(f:Fq)(_:Vl w f)(ob mb:Nat)(a:Option Addr)(c:Nat)(l:List Int),PO T ob mb a c l w f→(∀b,LJ ob mb a b→f b=0)→∀(t:T1)(ta:Option Addr)(tc:Nat),t.kids.size<m→t.kids.size+1+l.length≤1000000→t.bnd→Ak w f t.kids ta tc →
 Bo P fid #[tV t ta tc,.map (some mb),.pointer (some ⟨ob,0,none⟩)] w (JG (α:=Option Addr×Nat) (λ_=>.tuple #[]) (λ_=>True) (LJ ob mb a) (λx=>LJ ob mb x.1) (λx=>PO T ob mb x.1 x.2 (C5 t.one l)) (λ_=>[]) w f)
theorem DA.int{T:TypeId}{ob mb:Nat}{sl:Value}{lm:List Int}{a:Option Addr}{c:Nat}{l:List Int}{w:World}{f0 f:Fq}(h:DA T ob mb sl lm a c l w f)(hE:C2 M w0 f0 w f)(hn:∀b,rb a=some b→w0.heap.size≤b):∃f',C2 M w0 f0 w f'∧BJ w f' l a c:=by
 obtain⟨hl,⟨ha,hc,hz⟩|⟨b,q,ha,hb,hmc,_,hq,ht⟩⟩:=h.row
 · exact⟨f,hE,oM,.inl (by cases l with|nil=>rfl|cons _ _=>simp at hz)⟩
 · refine⟨λk=>if k=b then l.length else f k,hE.done (hn b (by rw[ha];rfl)) hb.lt _,hmc,.inr ⟨b,0,ha,λj v hj=>?_⟩⟩
   have hj2:j<l.length:=by have:=(List.getElem?_eq_some_iff.1 hj).1;simpa using this
   refine⟨?_,?_⟩
   · show 0+j<(if b=b then l.length else f b)
     rw[if_pos rfl];omega
   · rw[Nat.zero_add,hb.cell]
     rw[← ht,List.getElem?_take] at hj
     split at hj
     · exact hj
     · cases hj
end Go.SP
namespace Go.SP
open Go.SW Go.RowKit
theorem U6(n:Int)(l:List Int):(Em (Ha l) n).getD (.bool false)=.bool (l.contains n):=by
 rw[Ss];cases l.contains n <;> rfl
theorem UR{n:Int}{l:List Int}(h:l.contains n=false):Em (Ha l) n=none:=by rw[Ss,h];rfl
theorem Oh(n:Int)(l:List Int):Ha (l++[n])=(n,.bool true)::Ha l:=by simp[Ha]
section
variable{T:TypeId}{ob mb:Nat}{sl sl':Value}{lm l:List Int}{a a':Option Addr}{c c':Nat}{w w':World}{f f':Fq}{n:Int}
theorem DA.app(h:DA T ob mb sl lm a c l w f)(hr:BP w' 3 1 a' c' (l.length+1) (l.map (λn=>Value.int .i64 n)++[.int .i64 n]))(hG:EB a w a' w'):DA T ob mb sl lm a' c' (l++[n]) w' f' where
 blk:=h.blk.grow hG (λe=>h.ne.2.1 e.symm)
 map:=h.map.heap (hG.block mb h.map.lt (λe=>h.ne.2.2 e.symm))
 row:=by simpa using hr
 ne:=⟨h.ne.1,λe=>hG.own.elim (λo=>h.ne.2.1 (o.symm.trans e)) (λo=>absurd h.blk.lt (by rw[← Option.some.inj (o.symm.trans e)];exact Nat.lt_irrefl _)),λe=>hG.own.elim (λo=>h.ne.2.2 (o.symm.trans e)) (λo=>absurd h.map.lt (by rw[← Option.some.inj (o.symm.trans e)];exact Nat.lt_irrefl _))⟩
 nd:=h.nd
variable {xs:List Value}{b:Nat}{e:TypeId}
theorem BP.chgB{size:Nat}{a:Option Addr}{c n:Nat}(h:BP w e size a c n xs)(hC:FZ b w w')(hne:rb a≠some b):BP w' e size a c n xs :=
 ⟨h.1,h.2.imp id λ⟨g,q,h1,h2,h3⟩=>⟨g,q,h1,(hC.block g (λe=>hne (by rw[h1,← e];rfl))).trans h2,h3⟩⟩
theorem DA.mapped{q:List Int}(h:DA T ob mb sl l a c q w f)(hC:FZ mb w w')(hm:BE EA w' mb ((n,.bool true)::Ha l))(hn:l.contains n=false):DA T ob mb sl (l++[n]) a c q w' f' where
 blk:=(hC.block ob h.ne.1).trans h.blk
 map:=by rw[Oh];exact hm
 row:=BP.chgB h.row hC h.ne.2.2
 ne:=h.ne
 nd:=by
   have h9:n∉l:=by simpa using hn
   exact List.nodup_append.2 ⟨h.nd,List.nodup_cons.2 ⟨by simp,List.nodup_nil⟩,λx hx y hy e=>by simp at hy;subst hy;subst e;exact h9 hx⟩
theorem DA.store(h:DA T ob mb sl lm a c l w f)(hC:FZ ob w w')(hb:AI w' ob [sl'] T):DA T ob mb sl' lm a c l w' f' where
 blk:=hb
 map:=h.map.heap (hC.block mb (λe=>h.ne.1 e.symm))
 row:=BP.chgB h.row hC h.ne.2.1
 ne:=h.ne
 nd:=h.nd
end
variable {b:Nat}
theorem LJ.or{ob mb:Nat}{a a':Option Addr}(h:LJ ob mb a' b):LJ ob mb a b∨rb a'=some b:=h.elim (λh=>.inl (.inl h)) λh=>h.elim (λh=>.inl (.inr (.inl h))) .inr
theorem M4(n:Int)(l:List Int):C5 (T1.var n).one l=if l.contains n then l else l++[n]:=rfl
theorem Zl(tx:lU)(k:Ty)(l:List Int):C5 (T1.con tx k).one l=C5 k l:=rfl
end Go.SP
namespace Go.SW
open Go.RowKit
section
variable{P:Program}{σ:Bb}{w:World}{ty T T':TypeId}{x y:Operand}
variable {t t':TypeId}
theorem aP{k:IntKind}{a b:Int}(m:Int)(hx:ev σ x=some (.int k a))(hy:ev σ y=some (.int k b))(hb:b≠0)(h:k.wrap (a.tdiv b)=m):AG P σ (.binOp .quo t x y t') ty w (.int k m) w :=
 λρ _ _ _ _ hρ=>by simp[execOp,hρ _ _ hx,hρ _ _ hy,eqGuard,binOp,Op.intDiv,hb,h]
theorem cP{k:IntKind}{a b:Int}(m:Int)(hx:ev σ x=some (.int k a))(hy:ev σ y=some (.int k b))(hb:b≠0)(h:a.tmod b=m):AG P σ (.binOp .rem t x y t') ty w (.int k m) w :=
 λρ _ _ _ _ hρ=>by simp[execOp,hρ _ _ hx,hρ _ _ hy,eqGuard,binOp,Op.intDiv,hb,h]
theorem YX{k:IntKind}{n:Int}{l:lU}(hx:ev σ x=some (.int k n))(hc:nA P T T'=true)(h:Utf8.encode n=⟨l.toArray⟩):AG P σ (.convert T T' x) ty w (S l) w:=by
 unfold nA at hc
 cases hs:P.underlying T with
 |none=>rw[hs] at hc;cases hc
 |some s =>
   cases hd:P.underlying T' with
   |none=>rw[hs,hd] at hc;cases hc
   |some d =>
     rw[hs,hd] at hc
     cases d <;> simp at hc
     exact λρ _ _ _ _ hρ=>by
       simp[execOp,hρ _ _ hx,convert,run_underlying hs,run_underlying hd,Conv.intToString,h,S]
end
variable {Q:AU}{X:Cx}{f:Fq}{Fs:List (World→Fq→Prop)}{ds:List Deferred}{B:List FB}{fs:List Fr}{H H':List HB}{l:List Value}{b i n:Nat}{w':World}
theorem AO.toRow{w:World}{R:List RB}{T:TypeId}(h:AO X w f H R B Fs)(hg:Hg H i=some ⟨b,l,T,true⟩)(hs:Kh H i=some H')(size c:Nat)(hl:l.length=c*size)(hc:c≤maxLen):AO X w f H' (⟨T,size,some ⟨b,0,none⟩,c,c,l⟩::R) B Fs:=by
 have hblk:AI w b l T:=h.blk _ (BG hg);have hmem:b∈C6 H R:=List.mem_append.2 (.inl (List.mem_map.2 ⟨_,BG hg,rfl⟩));have hown:=h.own b hmem;have hsub:=K8 hs;have hnd:(H.map HB.b++IL R).Nodup:=h.nd;have hbR:b∉C6 H' R:=Km (L:=IL R) hg hs hnd;have hso:(C6 H' R).Sublist (C6 H R):=List.Sublist.append (hsub.map _) (List.Sublist.refl _)
 have hp:∀k,k∈C6 H' (⟨T,size,some ⟨b,0,none⟩,c,c,l⟩::R)→k=b∨k∈C6 H' R:=λk hk=>by
   have hk':k∈H'.map HB.b++b::R.filterMap (λr=>rb r.a):=hk;rcases List.mem_append.1 hk' with hk' | hk'
   · exact .inr (List.mem_append.2 (.inl hk'))
   · rcases List.mem_cons.1 hk' with rfl|hk'
     · exact .inl rfl
     · exact .inr (List.mem_append.2 (.inr hk'))
 exact {h with
         blk:=λe he=>h.blk e (hsub.subset he),
         row:=λr hr=>by
           rcases List.mem_cons.1 hr with rfl|hr
           · exact⟨hl,.inr ⟨b,l,rfl,hblk,Nat.le_refl _,hc,hl,by rw[← hl];exact List.take_length⟩⟩
           · exact h.row r hr,
         nd:=by
           show (H'.map HB.b++b::R.filterMap (λr=>rb r.a)).Nodup;exact List.perm_middle.nodup_iff.2 (List.nodup_cons.2 ⟨hbR,hso.nodup h.nd⟩),
         own:=λk hk=>by
           rcases hp k hk with rfl|hk
           · exact hown
           · exact h.own k (hso.subset hk),
         hnw:=λe he=>h.hnw e (hsub.subset he),
         rnw:=λr hr k hk=>by
           rcases List.mem_cons.1 hr with rfl|hr
           · cases hk;exact h.hnw _ (BG hg) rfl
           · exact h.rnw r hr k hk}
theorem WM{P:Program}{R:List RB}{σ:Bb}{k:JZ}{T:TypeId}(i size c:Nat)(hg:Hg H i=some ⟨b,l,T,true⟩)(hs:Kh H i=some H')(hl:Nat.beq l.length (c*size)=true)(hc:c≤maxLen)
   (h:A3 P n Q ds X (⟨T,size,some ⟨b,0,none⟩,c,c,l⟩::R) B Fs k fs σ H'):A3 P n Q ds X R B Fs k fs σ H:=λw f hM=>h w f (hM.toRow hg hs size c (Nat.eq_of_beq_eq_true hl) hc)
theorem Below.exm{w:World}(h:Below w.heap.size w w')(hv:∀b,w.heap.size≤b→f b=0)(M:Nat→Prop):C2 M w f w' f:=⟨⟨h.os,h.tape,h.output,h.size,λk hk _=>h.block k hk⟩,λ_ _=>rfl,λb hb=>hv b (Nat.le_trans h.size hb)⟩
end Go.SW
namespace Go.SP
open Go.SW Go.RowKit
def NU(vs:List Int)(t:T1):lU:=(Dt vs t.one).drop 1
theorem KT(vs:List Int)(t:T1)(r:Ty):Dt vs (t.cons r)=32::(NU vs t++Dt vs r):=by
 cases t with
 |var n=>simp[NU,T1.one,T1.cons,Dt]
 |con tx k=>cases k <;> simp[NU,T1.one,T1.cons,Dt]
theorem XK(vs:List Int)(n:Int):NU vs (.var n)=(match Dv vs n with|some i=>D5 i|none=>[]):=by
 simp[NU,T1.one,T1.cons,Dt] <;> cases Dv vs n <;> rfl
theorem UO(vs:List Int)(tx:lU):NU vs (.con tx .nil)=tx:=by simp[NU,T1.one,T1.cons,Dt]
theorem ZF(vs:List Int)(tx:lU)(k:Ty)(h:k.len≠0):NU vs (.con tx k)=[40]++(tx++Dt vs k)++[41]:=by
 cases k with
 |nil=>exact absurd rfl h
 |var n r=>simp[NU,T1.one,T1.cons,Dt]
 |con tx k r=>simp[NU,T1.one,T1.cons,Dt]
theorem Nn(s:lU)(l:List lU)(x:lU):Lib.joinTail s (l++[x])=Lib.joinTail s l++(s++x):=by simp[Lib.joinTail]
theorem MK:∀k n,(TL k n).length≤k
 |0,_=>Nat.le_refl _
 |k+1,n=>by
   unfold TL
   split
   · simp
   · have:=MK k (n / 10);simp;omega
theorem Tk(i:Nat):(D5 i).length≤22:=by
 unfold D5
 split
 · simp
 · have:=MK 20 (i / 26);simp;omega
theorem Ki(vs:List Int):∀x:Ty,x.bnd→(Dt vs x).length≤x.size*1000100
 |.nil,_=>by simp[Dt]
 |.var n r,h=>by
   have h2:=Ki vs r h;rw[show Ty.var n r=(T1.var n).cons r from rfl,KT,T1.size_cons,XK]
   have h3:(match Dv vs n with|some i=>D5 i|none=>[]).length≤22:=by
     cases Dv vs n with
     |none=>simp
     |some i=>exact Tk i
   simp only[List.length_cons,List.length_append,T1.kids,Ty.size] at h3 ⊢;omega
 |.con tx k r,h=>by
   have h2:=Ki vs r h.2.2;have h3:=Ki vs k h.2.1;have h4:=h.1.2;rw[show Ty.con tx k r=(T1.con tx k).cons r from rfl,KT,T1.size_cons]
   have h5:(NU vs (.con tx k)).length≤tx.length+k.size*1000100+2:=by
     by_cases hk:k.len=0
     · obtain rfl:=Ty.len0 hk
       rw[UO];exact Nat.le_trans (Nat.le_add_right _ _) (Nat.le_add_right _ _)
     · rw[ZF vs tx k hk];simp;omega
   simp only[List.length_cons,List.length_append,T1.kids] at h5 ⊢;omega
theorem Uj(i:Nat):Utf8.encode (97+((i % 26:Nat):Int))=⟨[UInt8.ofNat (97+i % 26)].toArray⟩:=by
 have h:∀j,j<26→Utf8.encode (97+((j:Nat):Int))=⟨[UInt8.ofNat (97+j)].toArray⟩:=dC;exact h _ (Nat.mod_lt _ oM)
theorem Pe:∀(k n:Nat),n<10 ^ (k+1)→TL (k+1) n=Lib.decDigits n
 |0,n,h=>by
   have:n<10:=by simpa using h
   rw[Lib.decDigits,TL,if_pos this,dif_pos this]
 |k+1,n,h=>by
   rw[Lib.decDigits,TL]
   by_cases h1:n<10
   · rw[if_pos h1,dif_pos h1]
   · rw[if_neg h1,dif_neg h1,Pe k (n / 10) (by rw[Nat.pow_succ] at h;omega)]
def KQ(vs:List Int)(es:List (Int×Value)):Prop:=Iw es∧∀n,Em es n=(Dv vs n).map λi=>S (D5 i)
variable {es:List (Int×Value)}
theorem KQ.get{vs:List Int}(h:KQ vs es)(n:Int):(Em es n).getD (S [])=S (NU vs (.var n)):=by
 rw[h.2,XK]
 cases Dv vs n <;> rfl
def fH(P:Program)(fid:FuncId)(m:Nat):Prop:=∀(w:World)(f:Fq)(_:Vl w f)(mb:Nat)(vs:List Int)(es:List (Int×Value)),BE EA w mb es→KQ vs es→∀(t:T1)(a:Option Addr)(c:Nat),t.kids.size<m→t.kids.size≤1000000→t.bnd→Ak w f t.kids a c →
 Bo P fid #[tV t a c,.map (some mb)] w (Bw (α:=Unit) (λ_=>S (NU vs t)) (λ_=>True) (λ_=>[]) w f)
end Go.SP
namespace Go.SP
open Go.SW Go.RowKit
theorem RL(x n:Int):∀l:List Int,Dv (l++[n]) x=(match Dv l x with|some j=>some j|none=>if n==x then some l.length else none)
 | []=>by simp[Dv]
 |k::l=>by
   have ih:=RL x n l;simp only[List.cons_append,Dv]
   by_cases hk:(k==x)=true
   · rw[if_pos hk,if_pos hk]
   · rw[if_neg hk,if_neg hk,ih]
     cases Dv l x with
     |some j=>rfl
     |none=>by_cases hn:(n==x)=true <;> simp[hn]
theorem KQ.nil:KQ [] []:=⟨tQ,λ_=>rfl⟩
variable {f:Fq}{es:List (Int×Value)}{l:List Value}{b i m mb sb:Nat}
theorem KQ.snoc{l:List Int}(h:KQ l es){n:Int}(hn:l.contains n=false):Em es n=none∧KQ (l++[n]) ((n,S (D5 l.length))::es):=by
 have h0:Em es n=none:=by rw[h.2,M0 hn];rfl
 refine⟨h0,⟨h0,h.1⟩,λx=>?_⟩;rw[RL];simp only[Em]
 by_cases hx:x=n
 · subst hx;rw[M0 hn];simp
 · have e1:(x==n)=false:=by simpa using hx
   have e2:(n==x)=false:=by simpa using λe:n=x=>hx e.symm
   rw[e1,e2,h.2]
   cases Dv l x <;> simp
theorem HJ:∀(x:Ty)(l:List Int),l.Nodup→(C5 x l).Nodup
 |.nil,_,h=>h
 |.var n r,l,h=>by
   simp only[C5];apply HJ r
   split
   · exact h
   · rename_i hn
     have h9:n∉l:=by simpa using hn
     exact List.nodup_append.2 ⟨h,List.nodup_cons.2 ⟨by simp,List.nodup_nil⟩,λx hx y hy e=>by simp at hy;subst hy;subst e;exact h9 hx⟩
 |.con tx k r,l,h=>HJ r _ (HJ k l h)
theorem SX{l:List Int}(h:l.Nodup){n:Int}(hi:l[i]?=some n):(l.take i).contains n=false:=by
 have hlt:=(List.getElem?_eq_some_iff.1 hi).1;have e:l=l.take i++l.drop i:=(List.take_append_drop i l).symm
 have hd:n∈l.drop i:=by
   rw[List.drop_eq_getElem_cons hlt,(List.getElem?_eq_some_iff.1 hi).2];exact .head _
 rw[e] at h;have:=(List.nodup_append.1 h).2.2;have hn:n∉l.take i:=λhm=>this n hm n hd rfl;simpa using hn
theorem Gq(t:T1):(Aq t).length≤t.kids.size+1:=by
 have:=I4 t.one [];have e:t.one.size=t.kids.size+0+1:=T1.size_cons t .nil;rw[e] at this;simpa[Aq] using this
theorem B8.new{T:TypeId}{w:World}(h1:AI w sb [.map (some mb),.int .i64 0,.int .i64 0] T)(h2:BE EA w mb []):B8 T sb mb [] 0 0 w f:=⟨h1,[],h2,rfl⟩
theorem nI{w:World}{T:TypeId}(h:AI w b l T)(hm:BE EA w m es):b≠m:=λe=>by
 subst e;obtain⟨es,c,h3,_⟩:=hm;have h4:=h.symm.trans h3
 cases h4
structure Ad where
 cb:Nat
 sb:Nat
 mb:Nat
 km:Nat
 dm:Nat
 rm:Nat
def By(A:Ad)(b:Nat):Prop:=b=A.cb∨b=A.sb∨b=A.mb∨b=A.km∨b=A.dm∨b=A.rm
structure Ad.ok(A:Ad):Prop where
 cs:A.cb≠A.sb
 cm:A.cb≠A.mb∧A.cb≠A.km∧A.cb≠A.dm∧A.cb≠A.rm
 sm:A.sb≠A.mb∧A.sb≠A.km∧A.sb≠A.dm∧A.sb≠A.rm
 mm:A.mb≠A.km∧A.mb≠A.dm∧A.mb≠A.rm∧A.km≠A.dm∧A.km≠A.rm∧A.dm≠A.rm
def ZV(m:Mk)(aa:Option Addr)(ac:Nat)(oa:Option Addr)(oc:Nat)(va:Option Addr)(vc:Nat):List Value:=.slice aa m.args.len ac::(tC m.out oa oc++[.slice va m.vars.length vc])
def BT(w:World)(f:Fq):List (lU×Mk)→List (lU×Value)→Prop
 | [],es=>es=[]
 |(k,m)::l,es=>∃aa ac oa oc va vc es',es=(k,.agg (ZV m aa ac oa oc va vc).toArray)::es'∧Ak w f m.args aa ac∧Ak w f m.out.kids oa oc∧BJ w f m.vars va vc∧BT w f l es'
variable {A:Ad}{s:CS}{f f':Fq}{b:Nat}{a:Option Addr}{TS:TypeId}{w w':World}
theorem BT.mono(hF:Hp w f w' f'):∀(l:List (lU×Mk))(es:List (lU×Value)),BT w f l es→BT w' f' l es
 | [],_,h=>h
 |(_,_)::l,_,⟨aa,ac,oa,oc,va,vc,es',h1,h2,h3,h4,h5⟩=>⟨aa,ac,oa,oc,va,vc,es',h1,Ak.mono _ _ _ _ h2 hF,Ak.mono _ _ _ _ h3 hF,BJ.mono _ _ _ _ h4 hF,BT.mono hF l es' h5⟩
theorem BT.look{n:lU}:∀{l:List (lU×Mk)}{es:List (lU×Value)},BT w f l es→(AR l n=none→Em es n=none)∧∀m,AR l n=some m→∃aa ac oa oc va vc,Em es n=some (.agg (ZV m aa ac oa oc va vc).toArray)∧Ak w f m.args aa ac∧Ak w f m.out.kids oa oc∧BJ w f m.vars va vc
 | [],es,h=>by
   have h:es=[]:=h;subst h;exact⟨λ_=>rfl,λt h=>by cases h⟩
 |(k,m)::l,es,⟨aa,ac,oa,oc,va,vc,es',h1,h2,h3,h4,h5⟩=>by
   subst h1;have ih:=BT.look (n:=n) h5;simp only[AR,Em]
   by_cases hk:k=n
   · subst hk
     refine⟨λh=>by simp at h,λt' h=>?_⟩;simp at h;subst h;exact⟨aa,ac,oa,oc,va,vc,by simp,h2,h3,h4⟩
   · have e1:(k==n)=false:=by simpa using hk
     have e2:(n==k)=false:=by simpa using λe:n=k=>hk e.symm
     rw[e1,e2];simpa using ih
structure As(T TS:TypeId)(A:Ad)(s:CS)(w:World)(f:Fq):Prop where
 blk:AI w A.cb [.pointer (some ⟨A.sb,0,none⟩),.map (some A.km),.map (some A.dm),.map (some A.rm),.int .i64 s.vars] T
 sol:∃pr,B8 TS A.sb A.mb s.sol s.fresh pr w f
 cons:∃es,BE BI w A.km es∧BT w f s.cons es
 datas:BE BI w A.dm (s.datas.map λp=>(p.1,.int .i64 p.2))
 roots:BE BI w A.rm (s.roots.map λk=>(k,.bool true))
theorem As.stab{T:TypeId}:EV (By A) (As T TS A s):=λw f w' f' h hF hb =>
 ⟨(
   hb _ (.inl rfl)).trans h.blk,let ⟨pr,hs⟩:=h.sol;⟨pr,B8.stab (MI:=LI A.sb A.mb) (.inl rfl) (.inr rfl) _ _ _ _ hs hF λb hm=>hb b (hm.elim (λe=>.inr (.inl e)) λe=>.inr (.inr (.inl e)))⟩,
   let ⟨es,h1,h2⟩:=h.cons;⟨es,h1.heap (hb _ (.inr (.inr (.inr (.inl rfl))))),BT.mono hF _ _ h2⟩,h.datas.heap (hb _ (.inr (.inr (.inr (.inr (.inl rfl)))))),h.roots.heap (hb _ (.inr (.inr (.inr (.inr (.inr rfl))))))⟩
theorem As.lt{T:TypeId}(h:As T TS A s w f)(hb:By A b):b<w.heap.size:=by
 rcases hb with rfl|rfl|rfl|rfl|rfl|rfl
 · exact h.blk.lt
 · obtain⟨_,hs⟩:=h.sol;exact hs.1.lt
 · obtain⟨_,_,_,hm,_⟩:=h.sol;exact hm.lt
 · obtain⟨_,hm,_⟩:=h.cons;exact hm.lt
 · exact h.datas.lt
 · exact h.roots.lt
structure D0(s:CS):Prop where
 sol:Iv s.sol
 cons:∀k m,AR s.cons k=some m→m.args.len≤200000∧m.args.bnd∧m.out.bnd∧m.vars.length≤200000
 dc:Iw (s.cons.map λp=>(p.1,Value.bool true))
 dd:Iw (s.datas.map λp=>(p.1,Value.int .i64 p.2))
 dr:Iw (s.roots.map λk=>(k,Value.bool true))
 fr:0≤s.fresh
def AF(w:World)(f:Fq):Ba→Option Addr→Prop
 | [],a=>a=none
 |b::e,a=>∃k ta tc va vc ra,a=some ⟨k,0,none⟩∧Cs w f k 0 (S b.name::(tC b.t ta tc++[.slice va b.all.length vc,.pointer ra]))∧Ak w f b.t.kids ta tc∧BJ w f b.all va vc∧AF w f e ra
theorem AF.mono'(hF:Hp w f w' f'):∀(e:Ba)(a:Option Addr),AF w f e a→AF w' f' e a
 | [],_,h=>h
 |_::e,_,⟨k,ta,tc,va,vc,ra,h1,h2,h3,h4,h5⟩=>⟨k,ta,tc,va,vc,ra,h1,h2.mono hF,Ak.mono _ _ _ _ h3 hF,BJ.mono _ _ _ _ h4 hF,AF.mono' hF e ra h5⟩
theorem AF.mono{e:Ba}:Fc (λw f=>AF w f e a):=λ_ _ _ _ h hF=>AF.mono' hF e a h
def F8(e:Ba):Prop:=∀b,b∈e→b.t.bnd∧b.all.length≤1000000
def trI(T:TypeId)(e:Er):List PanicEntry:=[{v:=.iface T (.agg #[.int .i64 e.1,.int .i64 e.2.1,.int .i64 e.2.2]),recovered:=false}]
def PanE(T:TypeId)(M:Nat→Prop)(q:Er→Prop)(w:World)(f:Fq)(c:List PanicEntry)(w':World):Prop:=∃er f',c=trI T er∧q er∧C2 M w f w' f'
abbrev XC(T TS:TypeId)(A:Ad)(s:CS)(w:World)(f:Fq):Cx:=⟨By A,By A,As T TS A s,w,f⟩
theorem Kg{T:TypeId}{Fs:List (World→Fq→Prop)}(hv:Vl w f)(hC:As T TS A s w f)(hf:∀b,By A b→f b=0)(hF:AE Fs w f)(hm:Ax Fs):AO (XC T TS A s w f) w f [] [] [] Fs :=
 Rx (M:=By A) hv hC As.stab (λb hb=>⟨hC.lt hb,hf b hb⟩) hF hm
theorem VX{s:BS}:∀(k:Nat)(x:Ty)(j:Nat),B2 s k x=some j→(AM s k x).size+j≤k:=by
 intro k
 induction k using Nat.strongRecOn with
 |_ k ih =>
   intro x j h
   have key:∀(k':Nat)(ks r:Ty),k'<k→B2 s k' (ks.app r)=some j→(AM s k' ks).size+(AM s k' r).size+j≤k':=by
     intro k' ks r hk hr;rw[Ju] at hr
     cases hj:B2 s k' ks with
     |none=>rw[hj] at hr;cases hr
     |some j1 =>
       rw[hj] at hr;have hr:B2 s j1 r=some j:=hr;have h1:=Eo s _ _ _ hj;have h2:=ih k' hk ks j1 hj;have h3:=ih j1 oM r j hr;rw[O6 j1 r j hr k' (by omega)];omega
   cases x with
   |nil=>rw[G7];cases k <;> (cases h;simp[Ty.size])
   |var n r =>
     cases k with
     |zero=>cases h
     |succ k =>
       simp only[B2] at h
       cases hh:Ap s (.var n) with
       |var q =>
         rw[hh] at h;have:=key k .nil r oM h;simp only[AM,hh,Ty.size];rw[G7] at this;simp only[Ty.size] at this;omega
       |con tx ks =>
         rw[hh] at h;have:=key k ks r oM h;simp only[AM,hh,Ty.size];omega
   |con tx ks r =>
     cases k with
     |zero=>cases h
     |succ k =>
       simp only[B2] at h;have:=key k ks r oM h;simp only[AM,Ty.size];omega
theorem Z5(s:BS)(k:Nat)(t:T1):AM s (k+1) t.one=(AM s (k+1) t.one).hd.one:=by
 cases t with
 |var n =>
   simp only[T1.one,T1.cons,AM]
   cases Ap s (.var n) <;> (simp only[G7];rfl)
 |con tx ks=>simp only[T1.one,T1.cons,AM,G7];rfl
theorem Ia{s:BS}{t u:T1}(h:CP s t=some u):u.kids.size+1≤1000:=by
 unfold CP at h
 split at h
 · rename_i hs
   rw[Hn,Fw] at hs;obtain⟨j,hj⟩:=Option.isSome_iff_exists.1 hs;have h1:=VX 1000 t.one j hj;have h2:=Z5 s 999 t
   cases h
   have h3:(AM s 1000 t.one).size=(AM s 1000 t.one).hd.kids.size+0+1:=(congrArg Ty.size h2).trans (T1.size_cons _ .nil);omega
 · cases h
theorem Jw{s:BS}(hw:Iv s){t u:T1}(hb:t.bnd)(h:CP s t=some u):u.bnd:=by
 unfold CP at h
 split at h
 · cases h;exact ZA hw hb 1000
 · cases h
end Go.SP
namespace Go.SW
open Go.RowKit Go.SP
variable {args:Array Value}{f f':Fq}{fid:FuncId}{M:Nat→Prop}{w w':World}
theorem AO.exmI{X:Cx}{H:List HB}{R:List RB}{B:List FB}{Fs:List (World→Fq→Prop)}(h:AO X w f H R B Fs)(hs:∀b,M b→X.MI b)(he:C2 M w f w' f'):C2 X.M X.w0 X.f0 w' f' :=
 (h.callI (I':=λ_ _=>True) (he.mono hs) tQ (λ_ _ _ _ _ _ _=>trivial)).exm
section
variable{P:Program}{n:Nat}{Q:AU}{ds:List Deferred}{X:Cx}{R:List RB}{B:List FB}{Fs:List (World→Fq→Prop)}{fs:List Fr}{σ:Bb}{H:List HB}
variable{all r:List Oper}{ty T:TypeId}{pos:String}{af:Array Edge}{g:Option (Nat×Bool)}{d:Nat}
theorem D7{op:Op}{α:Type}{val:α→Value}{q:α→Prop}{I':α→World→Fq→Prop}{F':α→List (World→Fq→Prop)}{pe:Er→Prop}
   (hg:gd all σ g=some true) (hd:Nat.blt d n=true) (he:∀w,Enters P σ op ty w fid args) (hs:∀b,M b→X.MI b)
   (hc:∀w f,AO X w f H R B Fs→BB P fid args w (ED val q X.MI I' F' w f) (PanE T M pe w f)) (hst:∀x,EV X.MI (I' x)) (hm:∀x,Ax (F' x))
   (hp:∀er w' f',pe er→C2 X.M X.w0 X.f0 w' f'→Q.p (trI T er) σ ds w')
   (h:∀x,q x→A3 P n Q ds {X with I:=I' x} R B (F' x++Fs) (.ops all r) fs (AA σ d (val x)) H):A3 P n Q ds X R B Fs (.ops all (⟨some d,op,ty,pos,af,g⟩::r)) fs σ H :=
 NS (XX:=λc w'=>∃er f',c=trI T er∧pe er∧C2 X.M X.w0 X.f0 w' f') hg hd he (λw f hM=>(hc w f hM).mono (λ_ _ h=>h) λ_ _ ⟨er,f',h1,h2,h3⟩=>⟨er,f',h1,h2,hM.exmI hs h3⟩) hst hm (λ_ _ _ _ _ ⟨er,f',h1,h2,h3⟩=>h1▸hp er _ f' h2 h3) h
theorem Nw{op:Op}{pe:Er→Prop}
   (hg:gd all σ g=some true) (hd:Nat.blt d n=true) (he:∀w,Enters P σ op ty w fid args) (hs:∀b,M b→X.MI b)
   (hc:∀w f,AO X w f H R B Fs→BB P fid args w (λ_ _=>False) (PanE T M pe w f))
   (hp:∀er w' f',pe er→C2 X.M X.w0 X.f0 w' f'→Q.p (trI T er) σ ds w'):A3 P n Q ds X R B Fs (.ops all (⟨some d,op,ty,pos,af,g⟩::r)) fs σ H :=
 D7 (α:=Unit) (val:=λ_=>.tuple #[]) (q:=λ_=>False) (I':=λ_ _ _=>True) (F':=λ_=>[]) hg hd he hs (λw f hM=>(hc w f hM).mono (λ_ _ h=>h.elim) λ_ _ h=>h) (λ_ _ _ _ _ _ _ _=>trivial) (λ_=>trivial) hp (λ_ h=>h.elim)
end
end Go.SW
namespace Go.SP
open Go.SW Go.RowKit
variable {A:Ad}{s:CS}{f f':Fq}{fr pr:Int}{M:Nat→Prop}{TS:TypeId}{w w' w0:World}
theorem LI.c:∀b,LI A.sb A.mb b→By A b:=λ_ h=>h.elim (λe=>.inr (.inl e)) λe=>.inr (.inr (.inl e))
theorem As.solved{T:TypeId}(h:As T TS A s w f)(hA:A.ok)(hv:Vl w f)(hz:∀b,LI A.sb A.mb b→f b=0)(hE:C2 (LI A.sb A.mb) w f w' f'){s':BS}(hS:B8 TS A.sb A.mb s' fr pr w' f'):As T TS A {s with sol:=s',fresh:=fr} w' f' where
 blk:=(hE.stp.block _ (h.lt (.inl rfl)) (λe=>e.elim hA.cs hA.cm.1)).trans h.blk
 sol:=⟨pr,hS⟩
 cons:=let ⟨es,h1,h2⟩:=h.cons;⟨es,h1.heap (hE.stp.block _ h1.lt (λe=>e.elim (λe=>hA.sm.2.1 e.symm) (λe=>hA.mm.1 e.symm))),BT.mono (hE.fle hv hz) _ _ h2⟩
 datas:=h.datas.heap (hE.stp.block _ h.datas.lt (λe=>e.elim (λe=>hA.sm.2.2.1 e.symm) (λe=>hA.mm.2.1 e.symm)))
 roots:=h.roots.heap (hE.stp.block _ h.roots.lt (λe=>e.elim (λe=>hA.sm.2.2.2 e.symm) (λe=>hA.mm.2.2.1 e.symm)))
theorem ZU{P:Program}{n:Nat}{Q:AU}{ds:List Deferred}{f0:Fq}{T:TypeId}{R:List RB}{B:List FB}{Fs:List (World→Fq→Prop)}{fs:List Fr}{σ:Bb}{H:List HB}{k:JZ}
   (h:∀pr,A3 P n Q ds ⟨M,By A,λw f=>As T TS A s w f∧B8 TS A.sb A.mb s.sol s.fresh pr w f,w0,f0⟩ R B Fs k fs σ H):A3 P n Q ds ⟨M,By A,As T TS A s,w0,f0⟩ R B Fs k fs σ H :=
 fI (X:=⟨M,By A,As T TS A s,w0,f0⟩) (λpr w f=>As T TS A s w f∧B8 TS A.sb A.mb s.sol s.fresh pr w f) (λw f h=>let ⟨pr,hp⟩:=h.sol;⟨pr,h,hp⟩) (λpr w f w' f' h hF hb=>⟨As.stab w f w' f' h.1 hF hb,B8.stab (MI:=LI A.sb A.mb) (.inl rfl) (.inr rfl) _ _ _ _ h.2 hF λb hm=>hb b (LI.c b hm)⟩) h
end Go.SP
namespace Go.SP
open Go.SW Go.RowKit
def DW(fr:Int):Nat→Ty
 |0=>.nil
 |n+1=>.var (fr+1) (DW (fr+1) n)
theorem Ft:∀(n:Nat)(fr:Int),(DW fr n).len=n
 |0,_=>rfl
 |n+1,fr=>by simp only[DW,Ty.len];rw[Ft n]
theorem Ib:∀(n:Nat)(fr:Int),(DW fr n).bnd
 |0,_=>trivial
 |n+1,fr=>Ib n (fr+1)
theorem L2:∀(n:Nat)(fr:Int),DW fr (n+1)=(DW fr n).snoc (.var (fr+n+1))
 |0,fr=>by simp[DW,Ty.snoc,Ty.app,T1.one,T1.cons]
 |n+1,fr=>by
   have:=L2 n (fr+1);rw[DW,this];show _=Ty.var _ _
   congr 2
   simp;omega
theorem BD:∀(l:List Int)(s:CS),Bp l s=(DW s.fresh l.length,{s with fresh:=s.fresh+l.length})
 | [],s=>by simp[Bp,DW]
 |_::l,s=>by
   have h:=BD l (A7 s).2;simp only[Bp,T1.cons,DW,List.length_cons];rw[h];simp only[A7,T1.cons];have e:s.fresh+1+(l.length:Int)=s.fresh+((l.length+1:Nat):Int):=oM;rw[e]
variable {s:CS}
theorem D0.fresh(h:D0 s){n:Int}(hn:0≤n):D0 {s with fresh:=n}:={h with fr:=hn}
end Go.SP
namespace Go.SP
open Go.SW Go.RowKit
variable {Q:AU}{A:Ad}{σ:Bb}{s:CS}{f:Fq}{Fs:List (World→Fq→Prop)}{ds:List Deferred}{B:List FB}{fs:List Fr}{H:List HB}{n:Nat}{M:Nat→Prop}{P:Program}{T TS:TypeId}{w w0:World}
theorem BT.keys{n:lU}:∀{l:List (lU×Mk)}{es:List (lU×Value)},BT w f l es→(Em (l.map λp=>(p.1,Value.bool true)) n=none→Em es n=none)
 | [],es,h,_=>by have h:es=[]:=h;subst h;rfl
 |(k,m)::l,es,⟨_,_,_,_,_,_,es',h1,_,_,_,h5⟩,hn=>by
   subst h1;simp only[List.map,Em] at hn ⊢
   split at hn
   · cases hn
   · rename_i hk;rw[if_neg hk];exact BT.keys h5 hn
theorem BT.dis:∀{l:List (lU×Mk)}{es:List (lU×Value)},BT w f l es→Iw (l.map λp=>(p.1,Value.bool true))→Iw es
 | [],es,h,_=>by have h:es=[]:=h;subst h;trivial
 |(k,m)::l,es,⟨_,_,_,_,_,_,es',h1,_,_,_,h5⟩,hd=>by
   subst h1;exact⟨BT.keys h5 hd.1,BT.dis h5 hd.2⟩
theorem vG{f0:Fq}{R:List RB}{k:JZ}
   (h:∀es,A3 P n Q ds ⟨M,By A,λw f=>As T TS A s w f∧BE BI w A.km es∧BT w f s.cons es,w0,f0⟩ R B Fs k fs σ H):A3 P n Q ds ⟨M,By A,As T TS A s,w0,f0⟩ R B Fs k fs σ H :=
 fI (X:=⟨M,By A,As T TS A s,w0,f0⟩) (λes w f=>As T TS A s w f∧BE BI w A.km es∧BT w f s.cons es) (λw f h=>let ⟨es,h1,h2⟩:=h.cons;⟨es,h,h1,h2⟩) (λes w f w' f' h hF hb=>⟨As.stab w f w' f' h.1 hF hb,h.2.1.heap (hb _ (.inr (.inr (.inr (.inl rfl))))),BT.mono hF _ _ h.2.2⟩) h
end Go.SP
namespace Go.SW
open Go.RowKit Go.SP
variable {Q:AU}{σ:Bb}{X:Cx}{Fs:List (World→Fq→Prop)}{ds:List Deferred}{B:List FB}{fs:List Fr}{H:List HB}{n:Nat}{P:Program}
theorem NT{R:List RB}{k:JZ}{r:RB}(φ:World→Fq→Prop)(hm:Fc φ)(hr:∀w f,AO X w f H (r::R) B Fs→∃f',AO X w f' H R B Fs∧φ w f')
   (h:A3 P n Q ds X R B (φ::Fs) k fs σ H):A3 P n Q ds X (r::R) B Fs k fs σ H:=λw f hM=>by
 obtain⟨f',hM',hφ⟩:=hr w f hM;exact h w f' (hM'.more (B':=[]) (F':=[φ]) (λ_ h=>by cases h) (AE.mem ⟨hφ,tQ⟩) (Ax.mem ⟨hm,tQ⟩))
end Go.SW
namespace Go.SP
open Go.SW Go.RowKit
variable {X:Cx}{f:Fq}{Fs:List (World→Fq→Prop)}{B:List FB}{H:List HB}{xs:List Value}{m:Nat}{a:Option Addr}{e:TypeId}{w:World}
theorem Hc{R:List RB}{c:Nat}{k:Ty}(hM:AO X w f H (⟨e,4,a,c,m,xs⟩::R) B Fs)(hL:Be w f k xs):∃f',AO X w f' H R B Fs∧Ak w f' k a c:=by
 rcases Nat.eq_zero_or_pos k.len with h0|h0
 · obtain rfl:=Ty.len0 h0
   exact⟨f,hM.less (List.Sublist.refl _) (List.sublist_cons_self _ _) (λ_ h=>h) (λ_ h=>h),Ak.nil _ _ _ _⟩
 · exact N7 hM hL h0
theorem LP{R:List RB}{c:Nat}{l:List Int}(hM:AO X w f H (⟨3,1,a,c,l.length,l.map λn=>.int .i64 n⟩::R) B Fs):∃f',AO X w f' H R B Fs∧BJ w f' l a c:=by
 have hr:=hM.row _ (.head _);rcases hr.2 with ⟨_,_,hz⟩|⟨b,q,ha,hb,hmc,_,hq,ht⟩
 · simp only at hz
   exact⟨f,hM.less (List.Sublist.refl _) (List.sublist_cons_self _ _) (λ_ h=>h) (λ_ h=>h),oM,.inl (by cases l with|nil=>rfl|cons _ _=>simp at hz)⟩
 · simp only at ha
   subst ha;obtain⟨f',hM'⟩:=hM.done (i:=0) rfl rfl;refine⟨f',hM'.less (List.Sublist.refl _) (List.Sublist.refl _) (λ_ h=>.tail _ h) (λ_ h=>h),hmc,.inr ⟨b,0,rfl,hM'.fro _ (.head _)⟩⟩
end Go.SP
namespace Go.SW
open Go.RowKit Go.SP
section
variable{κ:Type}[BEq κ]{K:sI κ}[LawfulBEq κ]
theorem NZ(x:κ):∀(es:List MapEntry)(l:List (κ×Value))(i:Nat)(v:Value),es.map (λe=>(e.key,e.val))=l.map (λp=>(K.enc p.1,p.2))→KR x l=some v →
   ∃j e,Instr.findNow K.desc (K.enc x) es i=some (some (i+j,v))∧es[j]?=some e∧e.key=K.enc x∧e.val=v
 | [],[],i,v,_,h=>by cases h
 | [],_::_,_,_,h,_=>by simp at h
 |_::_,[],_,_,h,_=>by simp at h
 |e::es,p::l,i,v,h,hl=>by
   simp only[List.map_cons,List.cons.injEq,Prod.mk.injEq] at h;obtain⟨⟨hk,hv⟩,hr⟩:=h;have hs:Instr.sameNow K.desc (K.enc x) e.key=some (x==p.1):=by rw[hk];exact K.same x p.1
   obtain⟨pk,pv⟩:=p;unfold Instr.findNow;unfold KR at hl;rw[hs]
   cases hc:x==pk with
   |true =>
     rw[hc] at hl;have hl:pv=v:=by simpa using hl
     have he:x=pk:=by simpa using hc
     subst he;exact⟨0,e,by simp[hv,hl],rfl,hk,hv.trans hl⟩
   |false =>
     rw[hc] at hl;obtain⟨j,e',h1,h2,h3⟩:=NZ x es l (i+1) v hr (by simpa using hl);exact⟨j+1,e',by simp only[h1];congr 3;omega,h2,h3⟩
variable{P:Program}{n:Nat}{Q:AU}{ds:List Deferred}{X:Cx}{R:List RB}{B:List FB}{Fs:List (World→Fq→Prop)}{fs:List Fr}{σ:Bb}{H:List HB}{w:World}
variable{all r:List Oper}{ty T k e:TypeId}{pos:String}{af:Array Edge}{g:Option (Nat×Bool)}{d m:Nat}{x y z:Operand}{a:κ}{l:List (κ×Value)}
theorem T4{v:Value}(hT:FC P T=some (k,e))(hk:P.underlying k=some K.desc)(hsb:Instr.sameBits 10000 (K.enc a) (K.enc a)=true)(hm:BE K w m l)(hd:Iw l)(hn:Em l a=some v):∃w',(Instr.mapUpdate T (.map (some m)) (K.enc a) v).run P w=.ok () w'∧BE K w' m l∧FZ m w w':=by
 have hu:=Jy hT;obtain⟨es,c,h1,h2⟩:=id hm;obtain⟨j,e',hj,he,hek,hev⟩:=NZ (K:=K) a es l.reverse 0 v h2 (by rw[PS a l hd];exact hn);have hget:(getObj m).run P w=.ok (.map es.toArray c) w:=by simp[getObj,Sem.run,h1]
 have hlt:=hm.lt;have hck:=λb=>K.chk P k w a b hk
 have hset:∀o,(setObj m o).run P w=.ok () {w with heap:=w.heap.setIfInBounds m o}:=λo=>by
   simp[setObj,Sem.run,h1]
 rw[Nat.zero_add] at hj;refine⟨{w with heap:=w.heap.setIfInBounds m (.map (es.toArray.modify j λe=>{e with key:=K.enc a,val:=v}) c)},?_,?_,?_⟩
 · simp only[Instr.mapUpdate,Sem.run_bind,run_underlying hu,Result.andThen_ok,hget]
   simp only[hck,Result.andThen_ok,Instr.findKey,Sem.run_bind,run_underlying hk,hj];simp only[Sem.run_pure,Result.andThen_ok,List.getElem?_toArray,he,Option.map_some,Option.getD_some,hek,Instr.keyThatStays,hsb,if_true];exact hset _
 · refine⟨es.modify j λe=>{e with key:=K.enc a,val:=v},c,?_,?_⟩
   · rw[show (es.modify j λe=>{e with key:=K.enc a,val:=v}).toArray=es.toArray.modify j λe=>{e with key:=K.enc a,val:=v} from Array.ext' (by simp)]
     simp[hlt]
   · rw[← h2]
     apply List.ext_getElem?;intro i;rw[List.getElem?_map,List.getElem?_map,List.getElem?_modify]
     by_cases hij:j=i
     · subst hij
       rw[he];simp[hek,hev]
     · simp[hij]
 · refine⟨rfl,rfl,rfl,by simp,λi him=>?_⟩
   show (w.heap.setIfInBounds m _)[i]?=_;rw[Array.getElem?_setIfInBounds_ne (λe=>him e.symm)]
variable {I':World→Fq→Prop}
theorem tH{v:Value}(hg:gd all σ g=some true)(hx:ev σ x=some (.map (some m)))(hy:ev σ y=some (K.enc a))(hz:ev σ z=some v)(hT:FC P T=some (k,e))(hk:P.underlying k=some K.desc)(hsb:Instr.sameBits 10000 (K.enc a) (K.enc a)=true)(hmi:X.MI m)(hd:Iw l)(hn:Em l a=some v)
   (hm:∀w f,X.I w f→BE K w m l) (hI:∀w f w',X.I w f→AO X w f H R B Fs→FZ m w w'→BE K w' m l→I' w' f) (hst:EV X.MI I')
   (h:A3 P n Q ds {X with I:=I' } R B Fs (.ops all r) fs σ H):A3 P n Q ds X R B Fs (.ops all (⟨none,.mapUpdate T x y z,ty,pos,af,g⟩::r)) fs σ H:=λw f hM=>by
 obtain⟨w',h1,h2,h3⟩:=T4 (v:=v) hT hk hsb (hm w f hM.res) hd hn;refine B1 hg (IA (w':=w') (λρ _ _ _ _ hρ=>?_) (h w' f (hM.chgI hmi h3 (hI w f w' hM.res hM h3 h2) hst)));simp only[execOp,hρ _ _ hx,hρ _ _ hy,hρ _ _ hz];rw[Sem.run_bind,h1];rfl
omit [LawfulBEq κ] in
theorem X5(hg:gd all σ g=some true)(hd:Nat.blt d n=true)
   (h:∀m,¬X.MI m→A3 P n Q ds {X with MI:=λb=>X.MI b∨b=m,I:=λw f=>X.I w f∧BE K w m []} R B Fs (.ops all r) fs (AA σ d (.map (some m))) H):A3 P n Q ds X R B Fs (.ops all (⟨some d,.makeMap T none,ty,pos,af,g⟩::r)) fs σ H:=λw f hM=>by
 refine B1 hg (Ab (v:=.map (some w.heap.size)) (w':=w.alloc (.map #[] 0)) hd (λρ _ _ _ _ hρ=>by simp[execOp,Instr.makeMap]) (h w.heap.size (λhm=>Nat.lt_irrefl _ (hM.mi _ hm).1) _ f ?_));have h1:AO X (w.alloc (.map #[] 0)) f H R B Fs:=hM.call0 (C2.of_ext (Jh w _) hM.val);have hnew:∀b,b∈C6 H R→b≠w.heap.size:=λb hb e=>Nat.lt_irrefl _ (e▸hM.lt hb)
 exact {h1 with
         res:=⟨h1.res,[],0,heap_alloc_new w _,rfl⟩,
         stab:=λw1 f1 w2 f2 hI hF hb=>⟨h1.stab w1 f1 w2 f2 hI.1 hF λb hm=>hb b (.inl hm),hI.2.heap (hb _ (.inr rfl))⟩,
         mi:=λb hb=>by
           rcases hb with hb|rfl
           · exact h1.mi b hb
           · exact⟨by rw[G9];omega,hM.val _ (Nat.le_refl _),.inl hM.stp.size⟩,
         own:=λb hb=>⟨(h1.own b hb).1,(h1.own b hb).2.1,λhm=>by
           rcases hm with hm|rfl
           · exact (h1.own b hb).2.2 hm
           · exact hnew _ hb rfl⟩}
end
end Go.SW
namespace Go.SP
open Go.SW Go.RowKit
def Kx(T TS:TypeId)(A:Ad)(s:CS)(m:Nat)(l:List Int)(w:World)(f:Fq):Prop:=As T TS A s w f∧BE EA w m (Ha l)
variable {A:Ad}{s:CS}{f:Fq}{mb:Nat}{M:Nat→Prop}{TS:TypeId}{w' w0:World}
theorem Kx.stab{T:TypeId}{m:Nat}{l:List Int}:EV (λb=>By A b∨b=m) (Kx T TS A s m l):=λw f w' f' h hF hb =>
 ⟨As.stab w f w' f' h.1 hF λb hm=>hb b (.inl hm),h.2.heap (hb _ (.inr rfl))⟩
theorem As.chg{T:TypeId}{m:Nat}{w:World}(h:As T TS A s w f)(hC:FZ m w w')(hm:¬By A m)(hf:f m=0):As T TS A s w' f :=
 As.stab w f w' f h (FZ.fle hC hf) λb hb=>hC.block b λe=>hm (e▸hb)
theorem NP(l:List Int)(v n:Int):(l++[v]).contains n=(l.contains n||v==n):=by
 cases h:(v==n) with
 |true =>
   have:v=n:=by simpa using h
   subst this;simp
 |false =>
   have:¬v=n:=by simpa using h
   simp;intro h2;exact absurd h2.symm this
theorem vU(n:Int):Instr.sameBits 10000 (EA.enc n) (EA.enc n)=true:=by
 show Instr.sameBits 10000 (.int .i64 n) (.int .i64 n)=true;simp[Instr.sameBits]
theorem K0(l:List Int)(v n:Int)(q:List Int)(b:Bool):(((if l.contains v then l else l++[v]).contains n||q.contains n)||b)=((l.contains n||(v::q).contains n)||b):=by
 have h1:(v::q).contains n=((v==n)||q.contains n):=by
   rw[List.contains_cons];congr 1
   cases h:(v==n) with
   |true =>
     have:v=n:=by simpa using h
     subst this;simp
   |false =>
     have:¬v=n:=by simpa using h
     simpa using λe:n=v=>this e.symm
 rw[h1]
 split
 · rename_i hc
   cases hv:(v==n) with
   |true =>
     have:v=n:=by simpa using hv
     subst this;rw[hc];simp
   |false=>simp
 · rw[NP,Bool.or_assoc (l.contains n)]
theorem Od{l:List Int}{v:Int}(h:l.Nodup):(if l.contains v then l else l++[v]).Nodup:=by
 split
 · exact h
 · rename_i hc
   refine List.nodup_append.2 ⟨h,List.pairwise_singleton _ _,λa ha b hb e=>?_⟩;obtain rfl:b=v:=by simpa using hb
   subst e;exact hc (by simpa using ha)
theorem pE{P:Program}{n:Nat}{Q:AU}{ds:List Deferred}{f0:Fq}{T:TypeId}{R:List RB}{B:List FB}{Fs:List (World→Fq→Prop)}{fs:List Fr}{σ:Bb}{H:List HB}
   {all r:List Oper} {ty TM k e:TypeId} {pos:String} {af:Array Edge} {g:Option (Nat×Bool)} {x y z:Operand} {l:List Int} {v:Int} (hg:gd all σ g=some true) (hx:ev σ x=some (.map (some mb))) (hy:ev σ y=some (.int .i64 v)) (hz:ev σ z=some (.bool true))
   (hT:FC P TM=some (k,e)) (hk:P.underlying k=some (.int .i64)) (hmn:¬By A mb) (hnd:l.Nodup)
   (h:A3 P n Q ds ⟨M,λb=>By A b∨b=mb,Kx T TS A s mb (if l.contains v then l else l++[v]),w0,f0⟩ R B Fs (.ops all r) fs σ H) :
   A3 P n Q ds ⟨M,λb=>By A b∨b=mb,Kx T TS A s mb l,w0,f0⟩ R B Fs (.ops all (⟨none,.mapUpdate TM x y z,ty,pos,af,g⟩::r)) fs σ H:=by
 cases hc:l.contains v with
 |true =>
   rw[hc] at h;exact tH (K:=EA) (a:=v) (l:=Ha l) (I':=Kx T TS A s mb l) hg hx hy hz hT hk (vU v) (.inr rfl) (K1 hnd) (by rw[Ss,hc];rfl) (λw f h=>h.2) (λw f w2 h hM hC hm=>⟨h.1.chg hC hmn (hM.mi mb (.inr rfl)).2.1,hm⟩) Kx.stab h
 |false =>
   rw[hc] at h;exact Xr (K:=EA) (a:=v) (l:=Ha l) (I':=Kx T TS A s mb (l++[v])) hg hx hy hz hT hk (.inr rfl) (K1 hnd) (UR hc) (λw f h=>h.2) (λw f w2 h hM hC hm=>⟨h.1.chg hC hmn (hM.mi mb (.inr rfl)).2.1,by rw[Oh];exact hm⟩) Kx.stab h
theorem F8.cons{e:Ba}(h:F8 e){b:Bd}(h1:b.t.bnd)(h2:b.all.length≤1000000):F8 (b::e):=λb2 hb=>by
 rcases List.mem_cons.1 hb with rfl|hb
 · exact⟨h1,h2⟩
 · exact h b2 hb
theorem Nd.len_le:∀x:Nd,x.len≤x.size
 |.nil=>Nat.le_refl _
 |.cons _ _ _ _ _ k r=>by have:=Nd.len_le r;simp only[Nd.len,Nd.size];omega
theorem Nd.cases1(x:Nd)(h:0<x.len):∃op ln co tx nm k r,x=.cons op ln co tx nm k r:=by
 cases x with
 |nil=>simp[Nd.len] at h
 |cons op ln co tx nm k r=>exact⟨op,ln,co,tx,nm,k,r,rfl⟩
theorem Nd.len0{x:Nd}(h:x.len=0):x=.nil:=by
 cases x with
 |nil=>rfl
 |cons=>simp[Nd.len] at h
def Nd.wfm:Nd→Nat→Prop
 |.nil,m=>m=0∨m=1∨m=9
 |.cons op _ _ _ _ k r,m =>
   let X:Prop:=(1≤op∧op≤5)∨(op=6∧k.wfm 0)∨(op=7∧k.wfm 4)∨((op=8∨op=12)∧0<k.len∧k.wfm 0)∨((op=9∨op=10)∧k.wfm 6)∨(op=11∧k.wfm 7)∨(op=13∧k.wfm 0)∨((op=14∨op=15)∧k.wfm 5)∨((op=16∨op=17)∧k.wfm 3)
   match m with
   |0=>X∧r.wfm 0
   |1=>k.wfm 8∧r.wfm 1
   |2=>r.wfm 3
   |3=>X
   |4=>(r=.nil∧X)∨(r≠.nil∧r.wfm 4)
   |5=>X∧0<r.len∧r.wfm 1
   |6=>X∧r.wfm 3
   |7=>X∧r.wfm 6
   |8=>((21≤op∧op≤27)∧k.wfm 9)∧r.wfm 3
   |9=>((21≤op∧op≤27)∧k.wfm 9)∧r.wfm 9
   |_=>False
def Gu(op:Int)(k:Nd):Prop:=(1≤op∧op≤5)∨(op=6∧k.wfm 0)∨(op=7∧k.wfm 4)∨((op=8∨op=12)∧0<k.len∧k.wfm 0)∨((op=9∨op=10)∧k.wfm 6)∨(op=11∧k.wfm 7)∨(op=13∧k.wfm 0)∨((op=14∨op=15)∧k.wfm 5)∨((op=16∨op=17)∧k.wfm 3)
section
variable{op ln co nm:Int}{tx:lU}{k r:Nd}
theorem gS:(Nd.cons op ln co tx nm k r).wfm 0↔Gu op k∧r.wfm 0:=Iff.rfl
theorem uM:(Nd.cons op ln co tx nm k r).wfm 1↔k.wfm 8∧r.wfm 1:=Iff.rfl
theorem tW:(Nd.cons op ln co tx nm k r).wfm 8↔((21≤op∧op≤27)∧k.wfm 9)∧r.wfm 3:=Iff.rfl
theorem Vz:(Nd.cons op ln co tx nm k r).wfm 3↔Gu op k:=Iff.rfl
theorem oI:(Nd.cons op ln co tx nm k r).wfm 4↔(r=.nil∧Gu op k)∨(r≠.nil∧r.wfm 4):=Iff.rfl
theorem uW:(Nd.cons op ln co tx nm k r).wfm 6↔Gu op k∧r.wfm 3:=Iff.rfl
end
abbrev nV(op ln co:Int)(tx:lU)(nm:Int)(k:Nd)(na:Option Addr)(nc:Nat):Value:=.agg #[.int .i64 op,.int .i64 ln,.int .i64 co,S tx,.int .i64 nm,.slice na k.len nc]
def XH(P:Program)(fid:FuncId)(n:Nat):Prop:=∀(w:World)(f:Fq)(_:Vl w f)(op ln co nm:Int)(tx:lU)(kids:Nd)(na:Option Addr)(nc:Nat),kids.size<n→kids.size≤1000000→AD w f kids na nc →
 Bo P fid #[nV op ln co tx nm kids na nc] w (Bw (α:=Unit) (λ_=>.bool (Cq n op kids)) (λ_=>True) (λ_=>[]) w f)
end Go.SP
namespace Go.SW
open Go.RowKit
variable {σ':Bb}{vs:List Value}{d:Nat}{x0 x1 x10 x2 x3 x4 x5 x6 x7 x8 x9:Value}{a0 a1 a10 a11 a12 a13 a2 a3 a4 a5 a6 a7 a8 a9:World→Fq→Prop}
theorem lE{σ:Bb}(h:Le σ' σ:=by (repeat (first|exact IT _|refine A6 ?_ rfl))):Le σ' σ:=h
theorem wM{σ:Bb}{a0:Nat}(h0:σ a0=some x0):Le (AA e0 a0 x0) σ:=A6 (IT _) h0
@[reducible] def E2(a0:Nat)(x0:Value)(a1:Nat)(x1:Value):Bb:=AA (AA e0 a0 x0) a1 x1
theorem wS{σ:Bb}{a0 a1 a2:Nat}(h0:σ a0=some x0)(h1:σ a1=some x1)(h2:σ a2=some x2):Le (AA (AA (AA e0 a0 x0) a1 x1) a2 x2) σ:=A6 (A6 (A6 (IT _) h0) h1) h2
@[reducible] def E3(a0:Nat)(x0:Value)(a1:Nat)(x1:Value)(a2:Nat)(x2:Value):Bb:=AA (AA (AA e0 a0 x0) a1 x1) a2 x2
theorem uV{σ:Bb}{a0 a1 a2 a3:Nat}(h0:σ a0=some x0)(h1:σ a1=some x1)(h2:σ a2=some x2)(h3:σ a3=some x3):Le (AA (AA (AA (AA e0 a0 x0) a1 x1) a2 x2) a3 x3) σ:=A6 (A6 (A6 (A6 (IT _) h0) h1) h2) h3
@[reducible] def E4(a0:Nat)(x0:Value)(a1:Nat)(x1:Value)(a2:Nat)(x2:Value)(a3:Nat)(x3:Value):Bb:=AA (AA (AA (AA e0 a0 x0) a1 x1) a2 x2) a3 x3
theorem nT{σ:Bb}{a0 a1 a2 a3 a4:Nat}(h0:σ a0=some x0)(h1:σ a1=some x1)(h2:σ a2=some x2)(h3:σ a3=some x3)(h4:σ a4=some x4):Le (AA (AA (AA (AA (AA e0 a0 x0) a1 x1) a2 x2) a3 x3) a4 x4) σ:=A6 (A6 (A6 (A6 (A6 (IT _) h0) h1) h2) h3) h4
@[reducible] def E5(a0:Nat)(x0:Value)(a1:Nat)(x1:Value)(a2:Nat)(x2:Value)(a3:Nat)(x3:Value)(a4:Nat)(x4:Value):Bb:=AA (AA (AA (AA (AA e0 a0 x0) a1 x1) a2 x2) a3 x3) a4 x4
theorem wA{σ:Bb}{a0 a1 a2 a3 a4 a5:Nat}(h0:σ a0=some x0)(h1:σ a1=some x1)(h2:σ a2=some x2)(h3:σ a3=some x3)(h4:σ a4=some x4)(h5:σ a5=some x5):Le (AA (AA (AA (AA (AA (AA e0 a0 x0) a1 x1) a2 x2) a3 x3) a4 x4) a5 x5) σ:=A6 (A6 (A6 (A6 (A6 (A6 (IT _) h0) h1) h2) h3) h4) h5
@[reducible] def E6(a0:Nat)(x0:Value)(a1:Nat)(x1:Value)(a2:Nat)(x2:Value)(a3:Nat)(x3:Value)(a4:Nat)(x4:Value)(a5:Nat)(x5:Value):Bb:=AA (AA (AA (AA (AA (AA e0 a0 x0) a1 x1) a2 x2) a3 x3) a4 x4) a5 x5
theorem wH{σ:Bb}{a0 a1 a2 a3 a4 a5 a6:Nat}(h0:σ a0=some x0)(h1:σ a1=some x1)(h2:σ a2=some x2)(h3:σ a3=some x3)(h4:σ a4=some x4)(h5:σ a5=some x5)(h6:σ a6=some x6):Le (AA (AA (AA (AA (AA (AA (AA e0 a0 x0) a1 x1) a2 x2) a3 x3) a4 x4) a5 x5) a6 x6) σ:=A6 (A6 (A6 (A6 (A6 (A6 (A6 (IT _) h0) h1) h2) h3) h4) h5) h6
@[reducible] def E7(a0:Nat)(x0:Value)(a1:Nat)(x1:Value)(a2:Nat)(x2:Value)(a3:Nat)(x3:Value)(a4:Nat)(x4:Value)(a5:Nat)(x5:Value)(a6:Nat)(x6:Value):Bb:=AA (AA (AA (AA (AA (AA (AA e0 a0 x0) a1 x1) a2 x2) a3 x3) a4 x4) a5 x5) a6 x6
theorem tF{σ:Bb}{a0 a1 a2 a3 a4 a5 a6 a7:Nat}(h0:σ a0=some x0)(h1:σ a1=some x1)(h2:σ a2=some x2)(h3:σ a3=some x3)(h4:σ a4=some x4)(h5:σ a5=some x5)(h6:σ a6=some x6)(h7:σ a7=some x7):Le (AA (AA (AA (AA (AA (AA (AA (AA e0 a0 x0) a1 x1) a2 x2) a3 x3) a4 x4) a5 x5) a6 x6) a7 x7) σ:=A6 (A6 (A6 (A6 (A6 (A6 (A6 (A6 (IT _) h0) h1) h2) h3) h4) h5) h6) h7
@[reducible] def E8(a0:Nat)(x0:Value)(a1:Nat)(x1:Value)(a2:Nat)(x2:Value)(a3:Nat)(x3:Value)(a4:Nat)(x4:Value)(a5:Nat)(x5:Value)(a6:Nat)(x6:Value)(a7:Nat)(x7:Value):Bb:=AA (AA (AA (AA (AA (AA (AA (AA e0 a0 x0) a1 x1) a2 x2) a3 x3) a4 x4) a5 x5) a6 x6) a7 x7
theorem eP{σ:Bb}{a0 a1 a2 a3 a4 a5 a6 a7 a8:Nat}(h0:σ a0=some x0)(h1:σ a1=some x1)(h2:σ a2=some x2)(h3:σ a3=some x3)(h4:σ a4=some x4)(h5:σ a5=some x5)(h6:σ a6=some x6)(h7:σ a7=some x7)(h8:σ a8=some x8):Le (AA (AA (AA (AA (AA (AA (AA (AA (AA e0 a0 x0) a1 x1) a2 x2) a3 x3) a4 x4) a5 x5) a6 x6) a7 x7) a8 x8) σ:=A6 (A6 (A6 (A6 (A6 (A6 (A6 (A6 (A6 (IT _) h0) h1) h2) h3) h4) h5) h6) h7) h8
@[reducible] def E9(a0:Nat)(x0:Value)(a1:Nat)(x1:Value)(a2:Nat)(x2:Value)(a3:Nat)(x3:Value)(a4:Nat)(x4:Value)(a5:Nat)(x5:Value)(a6:Nat)(x6:Value)(a7:Nat)(x7:Value)(a8:Nat)(x8:Value):Bb:=AA (AA (AA (AA (AA (AA (AA (AA (AA e0 a0 x0) a1 x1) a2 x2) a3 x3) a4 x4) a5 x5) a6 x6) a7 x7) a8 x8
@[reducible] def vW(a0:Nat)(x0:Value)(a1:Nat)(x1:Value)(a2:Nat)(x2:Value)(a3:Nat)(x3:Value)(a4:Nat)(x4:Value)(a5:Nat)(x5:Value)(a6:Nat)(x6:Value)(a7:Nat)(x7:Value)(a8:Nat)(x8:Value)(a9:Nat)(x9:Value):Bb:=AA (AA (AA (AA (AA (AA (AA (AA (AA (AA e0 a0 x0) a1 x1) a2 x2) a3 x3) a4 x4) a5 x5) a6 x6) a7 x7) a8 x8) a9 x9
theorem uC{σ:Bb}{a0 a1 a2 a3 a4 a5 a6 a7 a8 a9 a10:Nat}(h0:σ a0=some x0)(h1:σ a1=some x1)(h2:σ a2=some x2)(h3:σ a3=some x3)(h4:σ a4=some x4)(h5:σ a5=some x5)(h6:σ a6=some x6)(h7:σ a7=some x7)(h8:σ a8=some x8)(h9:σ a9=some x9)(h10:σ a10=some x10):Le (AA (AA (AA (AA (AA (AA (AA (AA (AA (AA (AA e0 a0 x0) a1 x1) a2 x2) a3 x3) a4 x4) a5 x5) a6 x6) a7 x7) a8 x8) a9 x9) a10 x10) σ:=A6 (A6 (A6 (A6 (A6 (A6 (A6 (A6 (A6 (A6 (A6 (IT _) h0) h1) h2) h3) h4) h5) h6) h7) h8) h9) h10
@[reducible] def nS(a0:Nat)(x0:Value)(a1:Nat)(x1:Value)(a2:Nat)(x2:Value)(a3:Nat)(x3:Value)(a4:Nat)(x4:Value)(a5:Nat)(x5:Value)(a6:Nat)(x6:Value)(a7:Nat)(x7:Value)(a8:Nat)(x8:Value)(a9:Nat)(x9:Value)(a10:Nat)(x10:Value):Bb:=AA (AA (AA (AA (AA (AA (AA (AA (AA (AA (AA e0 a0 x0) a1 x1) a2 x2) a3 x3) a4 x4) a5 x5) a6 x6) a7 x7) a8 x8) a9 x9) a10 x10
@[reducible] def wJ(a0:Nat)(x0:Value)(a1:Nat)(x1:Value)(a2:Nat)(x2:Value)(a3:Nat)(x3:Value)(a4:Nat)(x4:Value)(a5:Nat)(x5:Value)(a6:Nat)(x6:Value)(a7:Nat)(x7:Value)(a8:Nat)(x8:Value)(a9:Nat)(x9:Value)(a10:Nat)(x10:Value)(a11:Nat)(x11:Value):Bb:=AA (AA (AA (AA (AA (AA (AA (AA (AA (AA (AA (AA e0 a0 x0) a1 x1) a2 x2) a3 x3) a4 x4) a5 x5) a6 x6) a7 x7) a8 x8) a9 x9) a10 x10) a11 x11
theorem oC{σ:Bb}{a0 a1 a2 a3 a4 a5 a6 a7 a8 a9 a10 a11 a12 a13 a14 a15:Nat}{x11 x12 x13 x14 x15:Value}(h0:σ a0=some x0)(h1:σ a1=some x1)(h2:σ a2=some x2)(h3:σ a3=some x3)(h4:σ a4=some x4)(h5:σ a5=some x5)(h6:σ a6=some x6)(h7:σ a7=some x7)(h8:σ a8=some x8)(h9:σ a9=some x9)(h10:σ a10=some x10)(h11:σ a11=some x11)(h12:σ a12=some x12)(h13:σ a13=some x13)(h14:σ a14=some x14)(h15:σ a15=some x15):Le (AA (AA (AA (AA (AA (AA (AA (AA (AA (AA (AA (AA (AA (AA (AA (AA e0 a0 x0) a1 x1) a2 x2) a3 x3) a4 x4) a5 x5) a6 x6) a7 x7) a8 x8) a9 x9) a10 x10) a11 x11) a12 x12) a13 x13) a14 x14) a15 x15) σ:=A6 (A6 (A6 (A6 (A6 (A6 (A6 (A6 (A6 (A6 (A6 (A6 (A6 (A6 (A6 (A6 (IT _) h0) h1) h2) h3) h4) h5) h6) h7) h8) h9) h10) h11) h12) h13) h14) h15
@[reducible] def nW(a0:Nat)(x0:Value)(a1:Nat)(x1:Value)(a2:Nat)(x2:Value)(a3:Nat)(x3:Value)(a4:Nat)(x4:Value)(a5:Nat)(x5:Value)(a6:Nat)(x6:Value)(a7:Nat)(x7:Value)(a8:Nat)(x8:Value)(a9:Nat)(x9:Value)(a10:Nat)(x10:Value)(a11:Nat)(x11:Value)(a12:Nat)(x12:Value)(a13:Nat)(x13:Value)(a14:Nat)(x14:Value)(a15:Nat)(x15:Value):Bb:=AA (AA (AA (AA (AA (AA (AA (AA (AA (AA (AA (AA (AA (AA (AA (AA e0 a0 x0) a1 x1) a2 x2) a3 x3) a4 x4) a5 x5) a6 x6) a7 x7) a8 x8) a9 x9) a10 x10) a11 x11) a12 x12) a13 x13) a14 x14) a15 x15
theorem mR{α:Type}{F' Fs:List α}(ix:List Nat)(h:ix.map (nth Fs)=F'.map some:=by rfl):∀φ,φ∈F'→φ∈Fs:=λφ hφ=>by
 have h1:some φ∈ix.map (nth Fs):=by rw[h];exact List.mem_map.2 ⟨φ,hφ,rfl⟩
 obtain⟨i,_,hi⟩:=List.mem_map.1 h1;rw[Ep] at hi;exact List.mem_of_getElem? hi
theorem sK{α:Type}{a:α}{l l':List α}(h:l.Sublist l'):(a::l).Sublist (a::l'):=.cons_cons _ h
theorem sD{α:Type}{a:α}{l l':List α}(h:l.Sublist l'):l.Sublist (a::l'):=.cons _ h
theorem sZ{α:Type}:([]:List α).Sublist []:=.slnil
theorem sR{α:Type}{l:List α}:l.Sublist l:=List.Sublist.refl _
theorem nE{α:Type _}{p:α→Prop}:∀e,e∈([]:List α)→p e:=λ_ h=>by cases h
theorem EE{α:Sort _}{β:α→Sort _}{γ:(a:α)→β a→Sort _}{δ:(a:α)→(b:β a)→γ a b→Sort _}:∀(a:α)(b:β a)(c:γ a b)(_:δ a b c),True:=λ_ _ _ _=>trivial
@[reducible] def rd:List Nat→OT→OT
 | [],t=>t
 |i::l,t=>.rd i (rd l t)
section
variable{X:Cx}{w:World}{f:Fq}{H:List HB}{R:List RB}{B:List FB}{Fs:List (World→Fq→Prop)}
theorem AO.mz(h:AO X w f H R B Fs):∀b,X.MI b→f b=0:=λb hb=>(h.mi b hb).2.1
theorem AO.f0(h:AO X w f H R B (a0::Fs)):a0 w f:=h.fac _ (List.mem_of_getElem? (i:=0) rfl)
theorem AO.f1(h:AO X w f H R B (a0::a1::Fs)):a1 w f:=h.fac _ (List.mem_of_getElem? (i:=1) rfl)
theorem AO.f2(h:AO X w f H R B (a0::a1::a2::Fs)):a2 w f:=h.fac _ (List.mem_of_getElem? (i:=2) rfl)
theorem AO.f3(h:AO X w f H R B (a0::a1::a2::a3::Fs)):a3 w f:=h.fac _ (List.mem_of_getElem? (i:=3) rfl)
theorem AO.f4(h:AO X w f H R B (a0::a1::a2::a3::a4::Fs)):a4 w f:=h.fac _ (List.mem_of_getElem? (i:=4) rfl)
theorem AO.f5(h:AO X w f H R B (a0::a1::a2::a3::a4::a5::Fs)):a5 w f:=h.fac _ (List.mem_of_getElem? (i:=5) rfl)
theorem AO.f6(h:AO X w f H R B (a0::a1::a2::a3::a4::a5::a6::Fs)):a6 w f:=h.fac _ (List.mem_of_getElem? (i:=6) rfl)
theorem AO.f7(h:AO X w f H R B (a0::a1::a2::a3::a4::a5::a6::a7::Fs)):a7 w f:=h.fac _ (List.mem_of_getElem? (i:=7) rfl)
theorem AO.f8(h:AO X w f H R B (a0::a1::a2::a3::a4::a5::a6::a7::a8::Fs)):a8 w f:=h.fac _ (List.mem_of_getElem? (i:=8) rfl)
theorem AO.f9(h:AO X w f H R B (a0::a1::a2::a3::a4::a5::a6::a7::a8::a9::Fs)):a9 w f:=h.fac _ (List.mem_of_getElem? (i:=9) rfl)
theorem AO.f10(h:AO X w f H R B (a0::a1::a2::a3::a4::a5::a6::a7::a8::a9::a10::Fs)):a10 w f:=h.fac _ (List.mem_of_getElem? (i:=10) rfl)
theorem AO.f12(h:AO X w f H R B (a0::a1::a2::a3::a4::a5::a6::a7::a8::a9::a10::a11::a12::Fs)):a12 w f:=h.fac _ (List.mem_of_getElem? (i:=12) rfl)
theorem AO.f13(h:AO X w f H R B (a0::a1::a2::a3::a4::a5::a6::a7::a8::a9::a10::a11::a12::a13::Fs)):a13 w f:=h.fac _ (List.mem_of_getElem? (i:=13) rfl)
theorem AO.f16{a14 a15 a16:World→Fq→Prop}(h:AO X w f H R B (a0::a1::a2::a3::a4::a5::a6::a7::a8::a9::a10::a11::a12::a13::a14::a15::a16::Fs)):a16 w f:=h.fac _ (List.mem_of_getElem? (i:=16) rfl)
theorem AO.b0{a0:FB}(h:AO X w f H R (a0::B) Fs):Cs w f a0.b a0.off a0.l:=h.fro _ (List.mem_of_getElem? (i:=0) rfl)
theorem AO.b1{a0 a1:FB}(h:AO X w f H R (a0::a1::B) Fs):Cs w f a1.b a1.off a1.l:=h.fro _ (List.mem_of_getElem? (i:=1) rfl)
theorem AO.b2{a0 a1 a2:FB}(h:AO X w f H R (a0::a1::a2::B) Fs):Cs w f a2.b a2.off a2.l:=h.fro _ (List.mem_of_getElem? (i:=2) rfl)
theorem AO.b3{a0 a1 a2 a3:FB}(h:AO X w f H R (a0::a1::a2::a3::B) Fs):Cs w f a3.b a3.off a3.l:=h.fro _ (List.mem_of_getElem? (i:=3) rfl)
theorem AO.b4{a0 a1 a2 a3 a4:FB}(h:AO X w f H R (a0::a1::a2::a3::a4::B) Fs):Cs w f a4.b a4.off a4.l:=h.fro _ (List.mem_of_getElem? (i:=4) rfl)
theorem AO.b5{a0 a1 a2 a3 a4 a5:FB}(h:AO X w f H R (a0::a1::a2::a3::a4::a5::B) Fs):Cs w f a5.b a5.off a5.l:=h.fro _ (List.mem_of_getElem? (i:=5) rfl)
theorem AO.b6{a0 a1 a2 a3 a4 a5 a6:FB}(h:AO X w f H R (a0::a1::a2::a3::a4::a5::a6::B) Fs):Cs w f a6.b a6.off a6.l:=h.fro _ (List.mem_of_getElem? (i:=6) rfl)
theorem AO.b7{a0 a1 a2 a3 a4 a5 a6 a7:FB}(h:AO X w f H R (a0::a1::a2::a3::a4::a5::a6::a7::B) Fs):Cs w f a7.b a7.off a7.l:=h.fro _ (List.mem_of_getElem? (i:=7) rfl)
theorem AO.k0{a0:HB}(h:AO X w f (a0::H) R B Fs):AI w a0.b a0.l a0.T:=h.blk _ (List.mem_of_getElem? (i:=0) rfl)
theorem uE{a0:HB}{H:List HB}:a0∈a0::H:=List.mem_of_getElem? (i:=0) rfl
theorem AO.k1{a0 a1:HB}(h:AO X w f (a0::a1::H) R B Fs):AI w a1.b a1.l a1.T:=h.blk _ (List.mem_of_getElem? (i:=1) rfl)
theorem jD{a0 a1:HB}{H:List HB}:a1∈a0::a1::H:=List.mem_of_getElem? (i:=1) rfl
theorem AO.k2{a0 a1 a2:HB}(h:AO X w f (a0::a1::a2::H) R B Fs):AI w a2.b a2.l a2.T:=h.blk _ (List.mem_of_getElem? (i:=2) rfl)
theorem Uy{a0 a1 a2:HB}{H:List HB}:a2∈a0::a1::a2::H:=List.mem_of_getElem? (i:=2) rfl
theorem AO.k3{a0 a1 a2 a3:HB}(h:AO X w f (a0::a1::a2::a3::H) R B Fs):AI w a3.b a3.l a3.T:=h.blk _ (List.mem_of_getElem? (i:=3) rfl)
theorem UL{a0 a1 a2 a3:HB}{H:List HB}:a3∈a0::a1::a2::a3::H:=List.mem_of_getElem? (i:=3) rfl
theorem AO.k4{a0 a1 a2 a3 a4:HB}(h:AO X w f (a0::a1::a2::a3::a4::H) R B Fs):AI w a4.b a4.l a4.T:=h.blk _ (List.mem_of_getElem? (i:=4) rfl)
theorem Y8{a0 a1 a2 a3 a4:HB}{H:List HB}:a4∈a0::a1::a2::a3::a4::H:=List.mem_of_getElem? (i:=4) rfl
theorem tZ{a0 a1 a2 a3 a4 a5:HB}{H:List HB}:a5∈a0::a1::a2::a3::a4::a5::H:=List.mem_of_getElem? (i:=5) rfl
end
section
variable{P:Program}{σ:Bb}{ty:TypeId}
theorem eC{f:FuncId}{g:Operand}{args:List Operand}{ts:Array TypeId}(he:B3 P f)(hg:ev σ g=some (.func (.func f) #[] #[]))(ha:Ik σ args=some vs) :
   ∀w,Enters P σ (.call {callee:=.value g,args:=args.toArray,argTypes:=ts}) ty w f vs.toArray:=λ_=>Aw he hg ha
theorem C4{fn:Func}{v:Value}{X:Cx}{H:List HB}{R:List RB}{B:List FB}{Fs:List (World→Fq→Prop)}(hr:fn.results=#[.tmp d])(h:σ d=some v):∀w f,AO X w f H R B Fs→SA P fn σ w v:=λ_ _ _=>A9 hr (Ah h)
end
section
variable{P:Program}{n:Nat}{Q:AU}{ds:List Deferred}{X:Cx}{R:List RB}{B:List FB}{Fs:List (World→Fq→Prop)}{fs:List Fr}{σ:Bb}{H Hk:List HB}{l:List Oper}
variable {id:Nat}
theorem C3(ix:List Nat)(hm:P.follows .mixedOrders=true)(t:OT)(hk:L3 H ix=some Hk)(hok:(t.ok l.toArray true (Array.replicate l.length false)&&(t.even true l.length&&Region.noSelect l.toArray))=true) 
   (h:CL P n (L8 P n Q fs) ds X R B Fs l Hk B (λ_=>True) true t σ H) (hpi:PI Q:=by exact λ_ _ _ _ _ h=>h):A3 P n Q ds X R B Fs (.code (.region id l.toArray true)) fs σ H:=by
 simp only[Bool.and_eq_true] at hok;exact K2 (λ_=>True) (λ_ _ _ _=>trivial) ix hm t hk hok.1 hok.2.1 hok.2.2 hpi h
theorem Au{B0:List FB}{k:OT}(ix:List Nat)(hk:L3 H ix=some Hk)(h:CL P n Q ds X R B0 Fs l Hk B0 (λ_=>True) true k σ H):A3 P n (Wx P n l Q (Kp Hk B0 (λ_=>True)) k) ds X R B0 Fs (.out .normal) [] σ H :=
 AW ix (λ_ _ _ _=>trivial) hk (λ_ h=>h) h
theorem Dl{k:JZ}(φ:World→Fq→Prop)(h1:∀w f,AO X w f H R B Fs→φ w f)(hm:Fc φ)(h:A3 P n Q ds X R B (φ::Fs) k fs σ H):A3 P n Q ds X R B Fs k fs σ H:=λw f hM =>
 h w f (hM.more (B':=[]) (F':=[φ]) (λ_ h=>by cases h) (AE.mem ⟨h1 w f hM,tQ⟩) (Ax.mem ⟨hm,tQ⟩))
variable{all r:List Oper}{ty T:TypeId}{pos:String}{af:Array Edge}{g:Option (Nat×Bool)}{d:Nat}{op:Op}{fid:FuncId}{args:Array Value}
theorem CN{c:Value}(hg:gd all σ g=some true)(hd:Nat.blt d n=true)(he:∀w,Enters P σ op ty w fid args)(hc:∀w f,AO X w f H R B Fs→Bo P fid args w λv w'=>v=c∧AS w w')
   (h:A3 P n Q ds X R B Fs (.ops all r) fs (AA σ d c) H):A3 P n Q ds X R B Fs (.ops all (⟨some d,op,ty,pos,af,g⟩::r)) fs σ H :=
 Br (α:=Unit) (val:=λ_=>c) (q:=λ_=>True) (F':=λ_=>[]) hg hd he (λw f hM=>(hc w f hM).mono λ_ _ ⟨h1,h2⟩=>⟨(),f,h1,tQ,C2.of_ext h2 hM.val,tQ⟩) (λ_=>trivial) (λ_ _=>h)
end
theorem oE{α:Type}{p:α→Prop}{a:α}(h:p a):∀e,e∈[a]→p e:=λe he=>by
 cases he with
 |head=>exact h
 |tail _ h=>cases h
end Go.SW
namespace Go.SW
open Go.RowKit Go.SP
variable {f:Fq}{co ln nm:Int}{j:Nat}{r:Nd}{w:World}{φ:World→Fq→Prop}
theorem AO.fn{X:Cx}{H:List HB}{R:List RB}{B:List FB}{Fs:List (World→Fq→Prop)}(h:AO X w f H R B Fs)(hj:nth Fs j=some φ):φ w f:=h.fac _ (by rw[Ep] at hj;exact List.mem_of_getElem? hj)
section
variable{P:Program}{n:Nat}{Q:AU}{ds:List Deferred}{X:Cx}{R:List RB}{B:List FB}{Fs:List (World→Fq→Prop)}{fs:List Fr}{σ:Bb}{H:List HB}{k:JZ}{na:Option Addr}{i c:Nat}
theorem HF{op:Int}{tx:lU}{q:Nd}(j:Nat)(hj:nth Fs j=some (λw f=>AT w f na i (.cons op ln co tx nm q r)))
   (h:∀x:Nat×Nat×Option Addr×Nat,na=some ⟨x.1,x.2.1,none⟩→A3 P n Q ds X R (⟨x.1,x.2.1+i*6,Kc op ln co tx nm x.2.2.1 q.len x.2.2.2⟩::B) ((λw f=>AD w f q x.2.2.1 x.2.2.2)::(λw f=>AT w f na (i+1) r)::Fs) k fs σ H):A3 P n Q ds X R B Fs k fs σ H :=
 KP (α:=Nat×Nat×Option Addr×Nat) (λx=>na=some ⟨x.1,x.2.1,none⟩) (λ_=>[_]) (λ_=>[_,_]) (λ_ _ hM=>let ⟨b,off,ka,kc,h1,h2,h3,h4⟩:=AT.head (hM.fn hj);⟨(b,off,ka,kc),h1,oE h2,AE.mem ⟨h3,h4,tQ⟩⟩) (λ_=>Ax.mem ⟨AD.mono,AT.mono,tQ⟩) h
theorem tR{x:Nd}(j:Nat)(hj:nth Fs j=some (λw f=>AD w f x na c))(h:A3 P n Q ds X R B ((λw f=>AT w f na 0 x)::Fs) k fs σ H):A3 P n Q ds X R B Fs k fs σ H:=Dl _ (λ_ _ hM=>AD.at (hM.fn hj)) AT.mono h
theorem Yc{x y:Nd}(j:Nat)(hj:nth Fs j=some (λw f=>AD w f x na c))(e:x=y)(h:A3 P n Q ds X R B ((λw f=>AT w f na 0 y)::Fs) k fs σ H):A3 P n Q ds X R B Fs k fs σ H:=Dl _ (λ_ _ hM=>by rw[← e];exact AD.at (hM.fn hj)) AT.mono h
theorem WN{t:T1}{r:Ty}(j:Nat)(hj:nth Fs j=some (λw f=>BF w f na i (t.cons r)))
   (h:∀x:Nat×Nat×Option Addr×Nat,na=some ⟨x.1,x.2.1,none⟩→A3 P n Q ds X R (⟨x.1,x.2.1+i*4,tC t x.2.2.1 x.2.2.2⟩::B) ((λw f=>Ak w f t.kids x.2.2.1 x.2.2.2)::(λw f=>BF w f na (i+1) r)::Fs) k fs σ H):A3 P n Q ds X R B Fs k fs σ H :=
 KP (α:=Nat×Nat×Option Addr×Nat) (λx=>na=some ⟨x.1,x.2.1,none⟩) (λ_=>[_]) (λ_=>[_,_]) (λ_ _ hM=>let ⟨b,off,ka,kc,h1,h2,h3,h4⟩:=BF.head (hM.fn hj);⟨(b,off,ka,kc),h1,oE h2,AE.mem ⟨h3,h4,tQ⟩⟩) (λ_=>Ax.mem ⟨Ak.mono,BF.mono,tQ⟩) h
theorem mZ{l:List Int}{v:Int}(j:Nat)(hj:nth Fs j=some (λw f=>BJ w f l na c))(hx:l[i]?=some v)
   (h:∀x:Nat×Nat,na=some ⟨x.1,x.2,none⟩→A3 P n Q ds X R (⟨x.1,x.2+i*1,[.int .i64 v]⟩::B) Fs k fs σ H):A3 P n Q ds X R B Fs k fs σ H :=
 KP (α:=Nat×Nat) (λx=>na=some ⟨x.1,x.2,none⟩) (λ_=>[_]) (λ_=>[]) (λ_ _ hM=>let ⟨b,off,h1,h2⟩:=BJ.get (hM.fn hj) hx;⟨(b,off),h1,oE h2,nE⟩) (λ_=>Ax.mem tQ) h
end
end Go.SW
namespace Go.SW
open Go.RowKit
open Go.SP (Qq)
def Rr(T:TypeId)(q:Int×Int→Prop)(w:World)(f:Fq)(c:List PanicEntry)(w':World):Prop:=∃e f',c=Qq T e∧q e∧C2 (λ_=>False) w f w' f'
def Xe{α:Type}(e:TypeId)(size:Nat)(n:α→Nat)(xs:α→List Value)(q:α→Prop)(F':α→List (World→Fq→Prop))(w:World)(f:Fq)(v:Value)(w':World):Prop :=
 ∃x a c f',v=.slice a (n x) c∧q x∧C2 (λ_=>False) w f w' f'∧BP w' e size a c (n x) (xs x)∧(∀b,rb a=some b→w.heap.size≤b∧f' b=0)∧AE (F' x) w' f'
variable {f f':Fq}{pe:Int×Int→Prop}{xs:List Value}{w w':World}
theorem AO.addRow{X:Cx}{H:List HB}{R:List RB}{B:List FB}{Fs:List (World→Fq→Prop)}(h:AO X w f H R B Fs)(hE:C2 (λ_=>False) w f w' f'){e:TypeId}{size c n:Nat}{a:Option Addr}
   (hr:BP w' e size a c n xs) (hb:∀b,rb a=some b→w.heap.size≤b∧f' b=0):AO X w' f' H (⟨e,size,a,c,n,xs⟩::R) B Fs:=by
 have h1:=h.call0 hE
 cases ha:rb a with
 |none =>
   have ho:C6 H (⟨e,size,a,c,n,xs⟩::R)=C6 H R:=by simp only[C6,List.filterMap_cons,ha]
   exact {h1 with
     row:=λr hm=>by rcases List.mem_cons.1 hm with rfl|hm;exact hr;exact h1.row r hm,
     nd:=by rw[ho];exact h1.nd,
     own:=by rw[ho];exact h1.own,
     rnw:=λr hm b hb=>by rcases List.mem_cons.1 hm with rfl|hm;(rw[ha] at hb;cases hb);exact h1.rnw r hm b hb}
 |some b =>
   obtain⟨hn,hz⟩:=hb b ha;have ho:C6 H (⟨e,size,a,c,n,xs⟩::R)=H.map (·.b)++b::(R.filterMap λr=>rb r.a):=by simp only[C6,List.filterMap_cons,ha]
   have hp:(H.map (·.b)++b::(R.filterMap λr=>rb r.a)).Perm (b::C6 H R):=List.perm_middle;have hw0:X.w0.heap.size≤b:=Nat.le_trans h.stp.size hn
   exact {h1 with
     row:=λr hm=>by rcases List.mem_cons.1 hm with rfl|hm;exact hr;exact h1.row r hm,
     nd:=by rw[ho];exact hp.nodup_iff.2 (List.nodup_cons.2 ⟨λhm=>by have:=h.lt hm;omega,h1.nd⟩),
     own:=λk hk=>by
       rw[ho] at hk;rcases List.mem_cons.1 (hp.mem_iff.1 hk) with rfl|hk
       · exact⟨hz,.inl hw0,λhm=>by have:=(h.mi _ hm).1;omega⟩
       · exact h1.own k hk,
     rnw:=λr hm b' hb'=>by
       rcases List.mem_cons.1 hm with rfl|hm
       · rw[ha] at hb';cases hb';exact hw0
       · exact h1.rnw r hm b' hb' }
section
variable{P:Program}{n:Nat}{Q:AU}{ds:List Deferred}{X:Cx}{R:List RB}{B:List FB}{Fs:List (World→Fq→Prop)}{fs:List Fr}{σ:Bb}{H:List HB}
variable{all r:List Oper}{ty T:TypeId}{pos:String}{af:Array Edge}{g:Option (Nat×Bool)}{d:Nat}{op:Op}{fid:FuncId}{args:Array Value}{α:Type}
theorem J0{val:α→Value}{q:α→Prop}{F':α→List (World→Fq→Prop)}
   (hg:gd all σ g=some true) (hd:Nat.blt d n=true) (he:∀w,Enters P σ op ty w fid args)
   (hc:∀w f,AO X w f H R B Fs→BB P fid args w (Bw val q F' w f) (Rr T pe w f)) (hm:∀x,Ax (F' x))
   (hp:∀e w' f',pe e→C2 X.M X.w0 X.f0 w' f'→Q.p (Qq T e) σ ds w')
   (h:∀x,q x→A3 P n Q ds X R B (F' x++Fs) (.ops all r) fs (AA σ d (val x)) H):A3 P n Q ds X R B Fs (.ops all (⟨some d,op,ty,pos,af,g⟩::r)) fs σ H:=λw f hM=>by
 refine B1 hg (BX hd (he w) (hc w f hM) ?_ ?_)
 · rintro v w' ⟨x,f',rfl,hq,hE,hF⟩
   exact h x hq w' f' ((hM.call0 hE).more (B':=[]) (λ_ h=>by cases h) hF.mem (hm x).mem)
 · rintro c w' ⟨e,f',rfl,hq,hE⟩
   rw[L7];exact hp e w' f' hq (hM.call0 hE).exm
theorem iH(hg:gd all σ g=some true)(hd:Nat.blt d n=true)(he:∀w,Enters P σ op ty w fid args)
   (hc:∀w f,AO X w f H R B Fs→BB P fid args w (λ_ _=>False) (Rr T pe w f))
   (hp:∀e w' f',pe e→C2 X.M X.w0 X.f0 w' f'→Q.p (Qq T e) σ ds w'):A3 P n Q ds X R B Fs (.ops all (⟨some d,op,ty,pos,af,g⟩::r)) fs σ H :=
 J0 (α:=Unit) (val:=λ_=>.tuple #[]) (q:=λ_=>False) (F':=λ_=>[]) hg hd he (λw f hM=>(hc w f hM).mono (λ_ _ h=>h.elim) λ_ _ h=>h) (λ_=>trivial) hp (λ_ h=>h.elim)
theorem WC{e:TypeId}{size:Nat}{m:α→Nat}{xs:α→List Value}{q:α→Prop}{F':α→List (World→Fq→Prop)}
   (hg:gd all σ g=some true) (hd:Nat.blt d n=true) (he:∀w,Enters P σ op ty w fid args)
   (hc:∀w f,AO X w f H R B Fs→BB P fid args w (Xe e size m xs q F' w f) (Rr T pe w f)) (hm:∀x,Ax (F' x))
   (hp:∀e w' f',pe e→C2 X.M X.w0 X.f0 w' f'→Q.p (Qq T e) σ ds w')
   (h:∀x a c,q x→A3 P n Q ds X (⟨e,size,a,c,m x,xs x⟩::R) B (F' x++Fs) (.ops all r) fs (AA σ d (.slice a (m x) c)) H):A3 P n Q ds X R B Fs (.ops all (⟨some d,op,ty,pos,af,g⟩::r)) fs σ H:=λw f hM=>by
 refine B1 hg (BX hd (he w) (hc w f hM) ?_ ?_)
 · rintro v w' ⟨x,a,c,f',rfl,hq,hE,hr,hb,hF⟩
   exact h x a c hq w' f' ((hM.addRow hE hr hb).more (B':=[]) (λ_ h=>by cases h) hF.mem (hm x).mem)
 · rintro c w' ⟨e,f',rfl,hq,hE⟩
   rw[L7];exact hp e w' f' hq (hM.call0 hE).exm
end
end Go.SW
namespace Go.SP
open Go.SW Go.RowKit
def WU(w:World)(f:Fq):Fo→Nat→Nat→Prop
 |.nil,_,_=>True
 |.cons t k r,b,off=>(∃a c,Cs w f b off [.int .i64 t.k,.int .i64 t.ln,.int .i64 t.co,.int .i64 t.nm,S t.tx,.slice a k.len c]∧k.len≤c∧(k=.nil∨∃b' off',a=some ⟨b',off',none⟩∧WU w f k b' off'))∧WU w f r b (off+6)
def DH(w:World)(f:Fq)(k:Fo)(a:Option Addr)(c:Nat):Prop:=k.len≤c∧(k=.nil∨∃b off,a=some ⟨b,off,none⟩∧WU w f k b off)
variable {f f':Fq}{co ln nm:Int}{xs ys:List Value}{b:Nat}{w w':World}
theorem WU.mono(hF:Hp w f w' f'):∀(k:Fo)(b off:Nat),WU w f k b off→WU w' f' k b off
 |.nil,_,_,_=>trivial
 |.cons _ k r,b,off,⟨⟨a,c,h1,h2,h3⟩,h4⟩=>⟨⟨a,c,h1.mono hF,h2,h3.imp id λ⟨b',off',h5,h6⟩=>⟨b',off',h5,WU.mono hF k b' off' h6⟩⟩,WU.mono hF r b _ h4⟩
theorem DH.mono{k:Fo}{a:Option Addr}{c:Nat}:Fc (λw f=>DH w f k a c):=λ_ _ _ _ h hF=>⟨h.1,h.2.imp id λ⟨b,off,h1,h2⟩=>⟨b,off,h1,WU.mono hF k b off h2⟩⟩
theorem DH.nil(w:World)(f:Fq)(a:Option Addr)(c:Nat):DH w f .nil a c:=⟨Nat.zero_le _,.inl rfl⟩
def EH(w:World)(f:Fq)(a:Option Addr)(i:Nat)(r:Fo):Prop:=r=.nil∨∃b off,a=some ⟨b,off,none⟩∧WU w f r b (off+i*6)
theorem EH.mono{a:Option Addr}{i:Nat}{r:Fo}:Fc (λw f=>EH w f a i r):=λ_ _ _ _ h hF=>h.imp id λ⟨b,off,h1,h2⟩=>⟨b,off,h1,WU.mono hF r b _ h2⟩
theorem DH.at{k:Fo}{a:Option Addr}{c:Nat}(h:DH w f k a c):EH w f a 0 k:=h.2.imp id λ⟨b,off,h1,h2⟩=>⟨b,off,h1,by simpa using h2⟩
def uY(t:AK)(a:Option Addr)(n c:Nat):List Value:=[.int .i64 t.k,.int .i64 t.ln,.int .i64 t.co,.int .i64 t.nm,S t.tx,.slice a n c]
abbrev fV(t:AK)(a:Option Addr)(n c:Nat):Value:=.agg #[.int .i64 t.k,.int .i64 t.ln,.int .i64 t.co,.int .i64 t.nm,S t.tx,.slice a n c]
theorem EH.head{a:Option Addr}{i:Nat}{t:AK}{k r:Fo}(h:EH w f a i (.cons t k r)):∃b off ka kc,a=some ⟨b,off,none⟩∧Cs w f b (off+i*6) (uY t ka k.len kc)∧DH w f k ka kc∧EH w f a (i+1) r:=by
 rcases h with h|⟨b,off,h1,⟨ka,kc,h3,h4⟩,h5⟩
 · cases h
 · exact⟨b,off,ka,kc,h1,h3,h4,.inr ⟨b,off,h1,by rw[show off+(i+1)*6=off+i*6+6 by omega];exact h5⟩⟩
theorem EH.rest{a:Option Addr}{t:AK}{k r:Fo}{c:Nat}(h:DH w f (.cons t k r) a c):DH w f r (EM a c 6) (c-1):=by
 obtain⟨h1,h2⟩:=h;simp only[Fo.len] at h1;refine⟨oM,?_⟩;rcases h2 with h2|⟨b,off,rfl,h3,h4⟩
 · cases h2
 · by_cases hc:c=1
   · left
     cases r with
     |nil=>rfl
     |cons _ _ _=>simp only[Fo.len] at h1;omega
   · exact .inr ⟨b,off+1*6,by unfold EM;rw[if_neg hc];rfl,h4⟩
def BU(w:World)(f:Fq):Nd→List Value→Prop
 |.nil,xs=>xs=[]
 |.cons op ln co tx nm k r,xs=>∃a c xs',xs=Kc op ln co tx nm a k.len c++xs'∧AD w f k a c∧BU w f r xs'
theorem BU.mono'(hF:Hp w f w' f'):∀(k:Nd)(xs:List Value),BU w f k xs→BU w' f' k xs
 |.nil,_,h=>h
 |.cons _ _ _ _ _ _ r,_,⟨a,c,xs',h1,h2,h3⟩=>⟨a,c,xs',h1,AD.mono _ _ _ _ h2 hF,BU.mono' hF r xs' h3⟩
theorem BU.mono{k:Nd}:Fc (λw f=>BU w f k xs):=λ_ _ _ _ h hF=>BU.mono' hF k xs h
theorem BU.app{y:Nd}(hy:BU w f y ys):∀{x:Nd}{xs:List Value},BU w f x xs→BU w f (x.app y) (xs++ys)
 |.nil,xs,h=>by have h:xs=[]:=h;subst h;exact hy
 |.cons _ _ _ _ _ _ r,_,⟨a,c,xs',h1,h2,h3⟩=>⟨a,c,xs'++ys,by rw[h1,List.append_assoc],h2,BU.app hy h3⟩
theorem BU.one{op:Int}{tx:lU}{k:Nd}{a:Option Addr}{c:Nat}(h:AD w f k a c):BU w f (.cons op ln co tx nm k .nil) (Kc op ln co tx nm a k.len c):=⟨a,c,[],by simp,h,rfl⟩
theorem BU.len:∀{k:Nd}{xs:List Value},BU w f k xs→xs.length=k.len*6
 |.nil,xs,h=>by have h:xs=[]:=h;subst h;rfl
 |.cons _ _ _ _ _ _ r,_,⟨a,c,xs',h1,h2,h3⟩=>by subst h1;have:=BU.len h3;simp[Nd.len,Kc,this];omega
theorem BU.toG:∀{k:Nd}{xs:List Value}{off:Nat},BU w f k xs→Cs w f b off xs→NX w f k b off
 |.nil,_,_,_,_=>trivial
 |.cons _ _ _ _ _ k r,_,off,⟨a,c,xs',h1,h2,h3⟩,hC=>by
   subst h1;exact⟨⟨a,c,Cs.le hC,h2⟩,BU.toG h3 (Cs.drop hC)⟩
theorem BU.toF{c:Nat}{k:Nd}(h:BU w f k xs)(hC:Cs w f b 0 xs)(hc:k.len≤c):AD w f k (some ⟨b,0,none⟩) c:=⟨hc,.inr ⟨b,0,rfl,BU.toG h hC⟩⟩
theorem JO{X:Cx}{H:List HB}{R:List RB}{B:List FB}{Fs:List (World→Fq→Prop)}{e:TypeId}{a:Option Addr}{c m:Nat}{k:Nd}(hM:AO X w f H (⟨e,6,a,c,m,xs⟩::R) B Fs)(hL:BU w f k xs):∃f',AO X w f' H R B Fs∧AD w f' k a c:=by
 have hr:=hM.row _ (.head _);have hlen:=BU.len hL;have hm:m=k.len:=by have:=hr.1;simp only at this;omega
 rcases hr.2 with ⟨_,_,h⟩|⟨b,l,ha,_,hmc,_⟩
 · simp only at h
   have h0:k=.nil:=by
     cases k with
     |nil=>rfl
     |cons _ _ _ _ _ _ _=>simp only[Nd.len] at hm;omega
   exact⟨f,hM.less (List.Sublist.refl _) (List.sublist_cons_self _ _) (λ_ h=>h) (λ_ h=>h),by rw[h0];exact⟨Nat.zero_le _,.inl rfl⟩⟩
 · simp only at ha hmc
   subst ha;obtain⟨f',hM'⟩:=(hM.more (B':=[]) (F':=[λw f=>BU w f k xs]) (λ_ h=>by cases h) (AE.mem ⟨hL,tQ⟩) (Ax.mem ⟨BU.mono,tQ⟩)).done (i:=0) rfl rfl;exact⟨f',hM'.less (List.Sublist.refl _) (List.Sublist.refl _) (λe he=>.tail _ he) (λφ h=>.tail _ h),BU.toF (hM'.fact (i:=0) rfl) (hM'.fro _ (.head _)) oM⟩
end Go.SP
namespace Go.SP
open Go.SW Go.RowKit
theorem Nd.app_len:∀x y:Nd,(x.app y).len=x.len+y.len
 |.nil,y=>by simp[Nd.app,Nd.len]
 |.cons _ _ _ _ _ _ r,y=>by simp only[Nd.app,Nd.len,Nd.app_len r y];omega
section
variable{m:AK→Fo→R N}{t:AK}{k r:Fo}{a:N}{dn:Nd}{e:Int×Int}
theorem Ub(h:m t k=.ok a):(match Bj m (.cons t k r) with|.error e=>.error e|.ok b=>.ok (dn.app b):R Nd)=(match Bj m r with|.error e=>.error e|.ok b=>.ok ((dn.app a.one).app b)):=by
 simp only[Bj,h]
 cases Bj m r with
 |error e=>rfl
 |ok b=>simp only[Nd.app_assoc];rfl
theorem W5(h:m t k=.error e):(match Bj m (.cons t k r) with|.error e=>.error e|.ok b=>.ok (dn.app b):R Nd)=.error e:=by simp only[Bj,h]
theorem QY{l:Fo}:Bj m l=(match Bj m l with|.error e=>.error e|.ok b=>.ok (Nd.nil.app b)):=by cases Bj m l <;> rfl
end
theorem Fo.cases1:∀r:Fo,0<r.len→∃t k q,r=.cons t k q
 |.nil,h=>by cases h
 |.cons t k q,_=>⟨t,k,q,rfl⟩
theorem Fo.len0:∀{r:Fo},r.len=0→r=.nil
 |.nil,_=>rfl
 |.cons _ _ _,h=>by simp[Fo.len] at h
abbrev Hy(x:R N)(w:World)(f:Fq):Value→World→Prop:=Bw (α:=N×Option Addr×Nat) (λy=>nV y.1.op y.1.ln y.1.co y.1.tx y.1.nm y.1.kids y.2.1 y.2.2) (λy=>x=.ok y.1) (λy=>[λw f=>AD w f y.1.kids y.2.1 y.2.2]) w f
abbrev HT(T:TypeId)(x:R N)(w:World)(f:Fq):List PanicEntry→World→Prop:=Rr T (λe=>x=.error e) w f
end Go.SP
namespace Go.SP
open Go.SW Go.RowKit
variable {f:Fq}{w w':World}
theorem Xe.fro{T:TypeId}{q:Nd×List Value→Prop}{v:Value}(hv:Vl w f)(h:Xe T 6 (λx:Nd×List Value=>x.1.len) (λx=>x.2) q (λx=>[λw f=>BU w f x.1 x.2]) w f v w') :
   Bw (α:=(Nd×List Value)×Option Addr×Nat) (λy=>.slice y.2.1 y.1.1.len y.2.2) (λy=>q y.1) (λy=>[λw f=>AD w f y.1.1 y.2.1 y.2.2]) w f v w':=by
 obtain⟨x,a,c,f',h1,h2,h3,h4,h5,h6,-⟩:=h;have hM:=(BR hv (Fs:=[]) tQ tQ).addRow h3 h4 h5;obtain⟨f2,hM2,h7⟩:=JO hM h6;exact⟨(x,a,c),f2,h1,h2,hM2.exm,h7,tQ⟩
end Go.SP
namespace Go.SP
open Go.SW Go.RowKit
variable {lo x:Operand}{w:World}
theorem GI{P:Program}{σ:Bb}{ty T e:TypeId}{k len m c:Nat}{a:Option Addr}(hl:len=m+1)(hx:ev σ x=some (.slice a len c))(hlo:ev σ lo=some (.int .i64 1))(hs:Ip P T=some (e,k)):AG P σ (.slice T x (some lo) none none) ty w (.slice (EM a c k) m (c-1)) w:=by
 subst hl;exact UX hx hlo hs
end Go.SP
namespace Go.SP
open Go.SW Go.RowKit
variable {f:Fq}{xs:List Value}{w:World}
theorem BU.one':∀{k:Nd}{xs:List Value},BU w f k xs→∀v∈xs,v.oneCell'=true
 |.nil,xs,h,v,hv=>by have h:xs=[]:=h;subst h;cases hv
 |.cons _ _ _ _ _ _ r,_,⟨a,c,xs',h1,h2,h3⟩,v,hv=>by
   subst h1;rcases List.mem_append.1 hv with hv|hv
   · simp only[Kc,List.mem_cons,List.not_mem_nil,or_false] at hv
     rcases hv with rfl|rfl|rfl|rfl|rfl|rfl <;> rfl
   · exact BU.one' h3 v hv
theorem BU.cons'{nd:N}{r:Nd}{a:Option Addr}{c:Nat}(h:AD w f nd.kids a c)(hr:BU w f r xs):BU w f (nd.cons r) (Kc nd.op nd.ln nd.co nd.tx nd.nm a nd.kids.len c++xs):=⟨a,c,xs,rfl,h,hr⟩
theorem Fo.two:∀l:Fo,(∃p pk b bk,l=.cons p pk (.cons b bk .nil))∨l.len≠2
 |.nil=>.inr (by simp[Fo.len])
 |.cons _ _ .nil=>.inr (by simp[Fo.len])
 |.cons p pk (.cons b bk .nil)=>.inl ⟨p,pk,b,bk,rfl⟩
 |.cons _ _ (.cons _ _ (.cons _ _ r))=>.inr (by simp only[Fo.len];omega)
theorem Fo.three:∀l:Fo,(∃p pk b bk c ck,l=.cons p pk (.cons b bk (.cons c ck .nil)))∨l.len≠3
 |.nil=>.inr (by simp[Fo.len])
 |.cons _ _ .nil=>.inr (by simp[Fo.len])
 |.cons _ _ (.cons _ _ .nil)=>.inr (by simp[Fo.len])
 |.cons p pk (.cons b bk (.cons c ck .nil))=>.inl ⟨p,pk,b,bk,c,ck,rfl⟩
 |.cons _ _ (.cons _ _ (.cons _ _ (.cons _ _ r)))=>.inr (by simp only[Fo.len];omega)
theorem Fo.single:∀l:Fo,(∃p pk,l=.cons p pk .nil)∨l.len≠1
 |.nil=>.inr (by simp[Fo.len])
 |.cons p pk .nil=>.inl ⟨p,pk,rfl⟩
 |.cons _ _ (.cons _ _ r)=>.inr (by simp only[Fo.len];omega)
section
variable{n:Nat}{ex:AK→Fo→R N}{t:AK}{l:Fo}
theorem rA(h:l.len≠2):Bh n ex t [102,110] l=.error (t.ln,t.co):=by
 unfold Bh;rw[if_pos (by decide)]
 split
 · simp[Fo.len] at h
 · rfl
theorem iI(h:l.len≠3):Bh n ex t [108,101,116] l=.error (t.ln,t.co):=by
 unfold Bh;rw[if_neg (by decide),if_pos (by decide)]
 split
 · simp[Fo.len] at h
 · rfl
theorem gO(h:l.len≠3):Bh n ex t [114,101,99] l=.error (t.ln,t.co):=by
 unfold Bh;rw[if_neg (by decide),if_neg (by decide),if_pos (by decide)]
 split
 · simp[Fo.len] at h
 · rfl
theorem YL{w:lU}(hw:w=[114,97,105,115,101]∨w=[116,114,97,110,115,97,99,116])(h:l.len≠1):Bh n ex t w l=.error (t.ln,t.co):=by
 unfold Bh;rw[if_neg (by rcases hw with rfl|rfl <;> decide),if_neg (by rcases hw with rfl|rfl <;> decide),if_neg (by rcases hw with rfl|rfl <;> decide),if_neg (by rcases hw with rfl|rfl <;> decide),if_neg (by rcases hw with rfl|rfl <;> decide),if_neg (by rcases hw with rfl|rfl <;> decide),if_neg (by rcases hw with rfl|rfl <;> decide),if_pos (by rcases hw with rfl|rfl <;> decide)]
 split
 · simp[Fo.len] at h
 · rfl
end
end Go.SP
namespace Go.SW
open Go.RowKit Go.SP
section
variable{P:Program}{n:Nat}{Q:AU}{ds:List Deferred}{X:Cx}{R:List RB}{B:List FB}{Fs:List (World→Fq→Prop)}{fs:List Fr}{σ:Bb}{H:List HB}{k:JZ}{na:Option Addr}{i c:Nat}{t:AK}{q r:Fo}
theorem MM(j:Nat)(hj:nth Fs j=some (λw f=>EH w f na i (.cons t q r)))
   (h:∀x:Nat×Nat×Option Addr×Nat,na=some ⟨x.1,x.2.1,none⟩→A3 P n Q ds X R (⟨x.1,x.2.1+i*6,uY t x.2.2.1 q.len x.2.2.2⟩::B) ((λw f=>DH w f q x.2.2.1 x.2.2.2)::(λw f=>EH w f na (i+1) r)::Fs) k fs σ H):A3 P n Q ds X R B Fs k fs σ H :=
 KP (α:=Nat×Nat×Option Addr×Nat) (λx=>na=some ⟨x.1,x.2.1,none⟩) (λ_=>[_]) (λ_=>[_,_]) (λ_ _ hM=>let ⟨b,off,ka,kc,h1,h2,h3,h4⟩:=EH.head (hM.fn hj);⟨(b,off,ka,kc),h1,oE h2,AE.mem ⟨h3,h4,tQ⟩⟩) (λ_=>Ax.mem ⟨DH.mono,EH.mono,tQ⟩) h
variable {b o:Nat}
theorem WT(j:Nat)(hj:nth Fs j=some (λw f=>EH w f (some ⟨b,o,none⟩) i (.cons t q r)))
   (h:∀x:Option Addr×Nat,A3 P n Q ds X R (⟨b,o+i*6,uY t x.1 q.len x.2⟩::B) ((λw f=>DH w f q x.1 x.2)::(λw f=>EH w f (some ⟨b,o,none⟩) (i+1) r)::Fs) k fs σ H):A3 P n Q ds X R B Fs k fs σ H :=
 MM j hj λx e=>by
   obtain⟨b',o',ka,kc⟩:=x
   cases e
   exact h (ka,kc)
theorem P4{x:Fo}(j:Nat)(hj:nth Fs j=some (λw f=>DH w f x na c))(h:A3 P n Q ds X R B ((λw f=>EH w f na 0 x)::Fs) k fs σ H):A3 P n Q ds X R B Fs k fs σ H:=Dl _ (λ_ _ hM=>DH.at (hM.fn hj)) EH.mono h
theorem jX(j:Nat)(hj:nth Fs j=some (λw f=>DH w f (.cons t q r) na c))(h:A3 P n Q ds X R B ((λw f=>DH w f r (EM na c 6) (c-1))::Fs) k fs σ H):A3 P n Q ds X R B Fs k fs σ H:=Dl _ (λ_ _ hM=>EH.rest (hM.fn hj)) DH.mono h
end
end Go.SW
namespace Go.SW
open Go.RowKit
def vL(w:World)(e:FB):Prop:=∀j v,e.l[j]?=some v→w.cell? ⟨e.b,e.off+j,none⟩=some v
def BK(w:World):List FB→Prop
 | []=>True
 |e::l=>vL w e∧BK w l
theorem Ar(w:World):BK w []:=trivial
variable {σ:Bb}{l:List Value}{b:Nat}{T:TypeId}
theorem kB{w:World}{B:List FB}(h:AI w b l T)(hB:BK w B):BK w (⟨b,0,l⟩::B) :=
 ⟨λj v hj=>by rw[h.cell,Nat.zero_add];exact hj,hB⟩
theorem BK.get{w:World}:∀{B:List FB}{i:Nat}{e:FB},BK w B→nth B i=some e→vL w e
 |_::_,0,_,h,hg=>by cases hg;exact h.1
 |_::B,i+1,e,h,hg=>BK.get (B:=B) h.2 hg
section
variable(P:Program)(n:Nat)(Q:AU)(ds:List Deferred)(w:World)(B:List FB)(tb:VV)
def oR(k:JZ)(fs:List Fr)(σ:Bb):Prop:=match k with
 |.code c=>GY P n c (L8 P n Q fs) σ ds w
 |.ops all l=>GO P n all.toArray (L8 P n Q fs) l σ ds w
 |.out e=>(L8 P n Q fs).q e σ ds w
def Ja:Nat→List Nat→JZ→List Fr→Bb→Prop
 |0,_,k,fs,σ=>True→oR P n Q ds w k fs σ
 |m+1,hs,.code c,fs,σ=>(match c with
   |.skip=>Ja m hs (.out .normal) fs σ
   |.ret=>Ja m hs (.out .ret) fs σ
   |.exit i=>Ja m hs (.out (.exit i)) fs σ
   |.seq a b=>Ja m hs (.code a) (.sq b::fs) σ
   |.block i a=>Ja m hs (.code a) (.bk i::fs) σ
   |.region _ ⟨l⟩ false=>Ja m hs (.ops l l) fs σ
   |.cond x a b=>(match ev σ x with
     |some (.bool true)=>Ja m hs (.code a) fs σ
     |some (.bool false)=>Ja m hs (.code b) fs σ
     |_=>False)
   |_=>False)
 |m+1,hs,.out e,fs,σ=>(match fs with
   | []=>False
   |.sq y::fs=>(match e with
     |.normal=>Ja m hs (.code y) fs σ
     |.ret=>Ja m hs (.out .ret) fs σ
     |.exit i=>Ja m hs (.out (.exit i)) fs σ
     |_=>False)
   |.bk i::fs=>(match e with
     |.normal=>Ja m hs (.out .normal) fs σ
     |.ret=>Ja m hs (.out .ret) fs σ
     |.exit j=>(match Nat.beq j i with
       |true=>Ja m hs (.out .normal) fs σ
       |false=>Ja m hs (.out (.exit j)) fs σ)
     |_=>False))
 |m+1,hs,.ops all [],fs,σ=>Ja m hs (.out .normal) fs σ
 |m+1,hs,.ops all (⟨dst,op,ty,pos,af,g⟩::r),fs,σ=>(match gd all σ g with
   |none=>False
   |some false=>(match dst with
     |some d=>(match Nat.blt d n with
       |true=>Ja m hs (.ops all r) fs (AA σ d undef)
       |false=>False)
     |none=>False)
   |some true=>(match dst with
     |none=>False
     |some d=>(match Nat.blt d n with|false=>False|true=>(match op with
       |.load T x=>(match hs with
         |h::q::hs=>(match ev σ x,jK tb.ti T with
           |some (.pointer (some ⟨b,o,none⟩)),some (a,k)=>(match nth B h with
             |some ⟨b',off,l⟩=>(match a with
               |false=>(match nth l q with
                 |some v=>(b'=b∧off+q=o)∧Ja m hs (.ops all r) fs (AA σ d v)
                 |none=>False)
               |true=>(match Sx l q k with
                 |some vs=>(b'=b∧off+q=o)∧Ja m hs (.ops all r) fs (AA σ d (.agg ⟨vs⟩))
                 |none=>False))
             |none=>False)
           |_,_=>False)
         |_=>False)
       |.indexAddr T x y=>(match ev σ x,ev σ y,UN tb.sl T with
         |some (.slice (some ⟨b,o,none⟩) len _),some (.int _ i),some (_,k)=>(0≤i∧i<len)∧Ja m hs (.ops all r) fs (AA σ d (.pointer (some ⟨b,o+i.toNat*k,none⟩)))
         |_,_,_=>False)
       |.index T x y=>(match ev σ x,ev σ y,nZ tb.st T with
         |some (.string ⟨⟨s⟩⟩),some (.int _ i),true=>(0≤i∧i<s.length)∧∀c,s[i.toNat]?=some c→Ja m hs (.ops all r) fs (AA σ d (.int .u8 c.toNat))
         |_,_,_=>False)
       |.binOp .add T x y T'=>(match ev σ x,ev σ y with
         |some (.int .i64 a),some (.int .i64 b)=>P3 (a+b)∧Ja m hs (.ops all r) fs (AA σ d (.int .i64 (a+b)))
         |_,_=>False)
       |.binOp .sub T x y T'=>(match ev σ x,ev σ y with
         |some (.int .i64 a),some (.int .i64 b)=>P3 (a-b)∧Ja m hs (.ops all r) fs (AA σ d (.int .i64 (a-b)))
         |_,_=>False)
       |op=>(match pv tb σ op with
         |some v=>Ja m hs (.ops all r) fs (AA σ d v)
         |none=>False)))))
end
section
variable{P:Program}{n:Nat}{Q:AU}{ds:List Deferred}{w:World}{B:List FB}{tb:VV}
theorem Fm(ht:tb.Ok P)(hB:BK w B):∀(m:Nat)(hs:List Nat)(k:JZ)(fs:List Fr)(σ:Bb),Ja P n Q ds w B tb m hs k fs σ→oR P n Q ds w k fs σ
 |0,_,_,_,_,h=>h tQ
 |m+1,hs,.code c,fs,σ,h=>by
   have ih:=Fm ht hB m;unfold Ja at h
   split at h
   · exact H0 (ih _ _ _ _ h)
   · exact Jq (ih _ _ _ _ h)
   · exact Kn (ih _ _ _ _ h)
   · exact BQ (ih _ _ _ _ h)
   · exact DM (ih _ _ _ _ h)
   · exact Cz (ih _ _ _ _ h)
   · split at h
     · rename_i hx;exact F2 hx rfl (ih _ _ _ _ h)
     · rename_i hx;exact Ji hx rfl (ih _ _ _ _ h)
     · exact h.elim
   · exact h.elim
 |m+1,hs,.out e,fs,σ,h=>by
   have ih:=Fm ht hB m;unfold Ja at h
   split at h
   · exact h.elim
   · split at h
     · exact Dk (ih _ _ _ _ h)
     · exact U0 (ih _ _ _ _ h)
     · exact UM (ih _ _ _ _ h)
     · exact h.elim
   · split at h
     · exact D3 (ih _ _ _ _ h)
     · exact U5 (ih _ _ _ _ h)
     · split at h
       · rename_i hb
         have e:=Nat.eq_of_beq_eq_true hb;subst e;exact Oq (ih _ _ _ _ h)
       · rename_i hb;exact fO hb (ih _ _ _ _ h)
     · exact h.elim
 |m+1,hs,.ops all [],fs,σ,h=>by
   unfold Ja at h;exact Ae (Fm ht hB m _ _ _ _ h)
 |m+1,hs,.ops all (⟨dst,op,ty,pos,af,g⟩::r),fs,σ,h=>by
   have ih:=Fm ht hB m;unfold Ja at h
   split at h
   · exact h.elim
   · rename_i hg
     split at h
     · split at h
       · rename_i hd;exact NH hg hd (ih _ _ _ _ h)
       · exact h.elim
     · exact h.elim
   · rename_i hg
     refine B1 hg ?_
     split at h
     · exact h.elim
     · split at h
       · exact h.elim
       rename_i hd
       split at h
       · split at h
         · split at h
           · rename_i hx hT
             split at h
             · rename_i hB'
               have hc:=hB.get hB'
               split at h
               · split at h
                 · rename_i v hv
                   obtain⟨⟨rfl,rfl⟩,h⟩:=h;rw[Ep] at hv;exact Ab hd (I7 hx (FM ht.ti hT) (hc _ v hv)) (ih _ _ _ _ h)
                 · exact h.elim
               · split at h
                 · rename_i vs hv
                   obtain⟨⟨rfl,rfl⟩,h⟩:=h;obtain⟨hk,hg2⟩:=PM hv;exact Ab hd (Kv hx (FM ht.ti hT) hk (λj v hj=>by have:=hc _ v (hg2 j v hj);rwa[← Nat.add_assoc] at this)) (ih _ _ _ _ h)
                 · exact h.elim
             · exact h.elim
           · exact h.elim
         · exact h.elim
       · split at h
         · rename_i hx hy hT
           exact Ab hd (NG hx hy (JP ht.sl hT) h.1) (ih _ _ _ _ h.2)
         · exact h.elim
       · split at h
         · rename_i s _ i hx hy hT
           obtain⟨h1,h⟩:=h;have hlt:i.toNat<s.length:=oM;exact Ab hd (Dd hx hy (P5 ht.st hT) h1.1 (List.getElem?_eq_getElem hlt)) (ih _ _ _ _ (h _ (List.getElem?_eq_getElem hlt)))
         · exact h.elim
       · split at h
         · rename_i hx hy
           exact Ab hd (Mt hx hy h.1) (ih _ _ _ _ h.2)
         · exact h.elim
       · split at h
         · rename_i hx hy
           exact Ab hd (GL hx hy h.1) (ih _ _ _ _ h.2)
         · exact h.elim
       · split at h
         · rename_i v hv
           exact Ab hd (Px ht hv) (ih _ _ _ _ h)
         · exact h.elim
theorem gL{all r:List Oper}(fs:List Fr)(ht:tb.Ok P)(m:Nat)(hs:List Nat)(hB:BK w B)(h:Ja P n Q ds w B tb m hs (.ops all r) fs σ):GO P n all.toArray (L8 P n Q fs) r σ ds w:=Fm ht hB m hs _ fs σ h
theorem gP{c:Code}(fs:List Fr)(ht:tb.Ok P)(m:Nat)(hs:List Nat)(hB:BK w B)(h:Ja P n Q ds w B tb m hs (.code c) fs σ):GY P n c (L8 P n Q fs) σ ds w:=Fm ht hB m hs _ fs σ h
theorem gQ{e:Exit}(fs:List Fr)(ht:tb.Ok P)(m:Nat)(hs:List Nat)(hB:BK w B)(h:Ja P n Q ds w B tb m hs (.out e) fs σ):(L8 P n Q fs).q e σ ds w:=Fm ht hB m hs _ fs σ h
theorem sL{all:Array Oper}{r:List Oper}{Q:AU}{b:Bool}(t:Nat)(hx:σ t=some (.bool b))(h1:b=true→GO P n all Q r (AA σ t (.bool true)) ds w)(h2:b=false→GO P n all Q r (AA σ t (.bool false)) ds w):GO P n all Q r σ ds w:=by
 cases b with
 |true=>exact λa ha=>h1 rfl a (ha.le (A6 (le_refl _) hx))
 |false=>exact λa ha=>h2 rfl a (ha.le (A6 (le_refl _) hx))
theorem sP{c:Code}{Q:AU}{b:Bool}(t:Nat)(hx:σ t=some (.bool b))(h1:b=true→GY P n c Q (AA σ t (.bool true)) ds w)(h2:b=false→GY P n c Q (AA σ t (.bool false)) ds w):GY P n c Q σ ds w:=by
 cases b with
 |true=>exact ND (A6 (le_refl _) hx) (h1 rfl)
 |false=>exact ND (A6 (le_refl _) hx) (h2 rfl)
theorem kP{c:Code}{Q:AU}{b:Bool}(t:Nat)(c':Bool)(hx:σ t=some (.bool b))(hb:b=c')(h:GY P n c Q (AA σ t (.bool c')) ds w):GY P n c Q σ ds w:=by
 subst hb;exact ND (A6 (le_refl _) hx) h
end
def rT(σ0:Bb)(I:World→Prop)(ds0:List Deferred)(Q:AU):AU :=
 {q:=λe σ ds w=>match e with|.normal=>Le σ0 σ∧ds=ds0∧I w|e=>Q.q e σ ds w,p:=Q.p}
theorem Qp{P:Program}{n:Nat}{Q:AU}{ds:List Deferred}{w:World}{x y:Code}(σ0:Bb)(I:World→Prop)(h1:GY P n x (rT σ0 I ds Q) σ ds w)(h2:∀w',I w'→GY P n y Q σ0 ds w'):GY P n (.seq x y) Q σ ds w :=
 BQ λa ha=>wp_mono (h1 a ha) λe a' w' he=>by
   cases e with
   |normal=>obtain⟨σ',ds',hs,hl,rfl,hI⟩:=he;exact⟨σ',_,hs,ND hl (h2 w' hI)⟩
   |panic c=>exact he
   |outgrown=>exact he
   |ret=>exact he
   |exit i=>exact he
   |goto i=>exact he
theorem O0{σ0:Bb}{I:World→Prop}{ds:List Deferred}{Q:AU}{w:World}(hl:Le σ0 σ)(h:I w):(rT σ0 I ds Q).q .normal σ ds w:=⟨hl,rfl,h⟩
end Go.SW
namespace Go.Proofs.YtelmolopaolbcaaGreatDoor
open Go.SW Go.RowKit Go.Proofs.Tryz
theorem L5:Mg prog 54=some (3,1,8,[.int .i64 0]):=kR
theorem CM:Mg prog 72=some (76,4,56,[.int .i64 0,.int .i64 0,.string ⟨#[]⟩,.slice none 0 0]):=kR
theorem Ro:Mg prog 96=some (9,1,16,[.string ⟨#[]⟩]):=kR
theorem Vk:WQ prog 3 21=some .i32:=kR
theorem Bt:B3 prog 28:=Al func28 kR kR
theorem Df:B3 prog 55:=Al func55 kR kR
theorem G1:B3 prog 56:=Al func56 kR kR
theorem YZ:B3 prog 61:=Al func61 kR kR
theorem Lf:B3 prog 63:=Al func63 kR kR
theorem mY:B3 prog 67:=Al func67 kR kR
theorem Yn:B3 prog 68:=Al func68 kR kR
theorem Yo:B3 prog 73:=Al func73 kR kR
theorem Z8:B3 prog 84:=Al func84 kR kR
theorem Pj:B3 prog 85:=Al func85 kR kR
theorem X7:B3 prog 87:=Al func87 kR kR
theorem X6:B3 prog 93:=Al func93 kR kR
theorem jI:B3 prog 95:=Al func95 kR kR
theorem YT:B3 prog 96:=Al func96 kR kR
theorem Tz:B3 prog 97:=Al func97 kR kR
theorem Gh:B3 prog 116:=Al func116 kR kR
theorem PT:B3 prog 117:=Al func117 kR kR
theorem LL:B3 prog 121:=Al func121 kR kR
theorem aV:B3 prog 122:=Al func122 kR kR
theorem bP:B3 prog 140:=Al func140 kR kR
theorem bM:EI prog 76 0=some 0:=kR
theorem aN:EI prog 76 1=some 1:=kR
theorem cM:EI prog 76 2=some 2:=kR
theorem cD:EI prog 76 3=some 3:=kR
theorem Yq:EI prog 163 0=some 0:=kR
theorem YO:EI prog 163 1=some 1:=kR
theorem Yl:EI prog 163 2=some 2:=kR
theorem dT:nA prog 21 9=true:=kR
theorem NB:FC prog 139=some (3,4):=kR
theorem Yx:FC prog 144=some (3,9):=kR
theorem S2:FC prog 161=some (3,76):=kR
theorem Am:prog.follows .mixedOrders=true:=kR
theorem qQ:L9 prog 76=some [(0,1),(1,1),(2,1),(3,1)]:=kR
theorem gE:L9 prog 163=some [(0,1),(1,1),(2,1)]:=kR
theorem oO:Ip prog 54=some (3,1):=kR
theorem Rn:Ip prog 72=some (76,4):=kR
theorem qC:Ip prog 96=some (9,1):=kR
theorem Hq:AN prog 3=some (false,1):=kR
theorem Xf:AN prog 9=some (false,1):=kR
theorem OI:AN prog 54=some (false,1):=kR
theorem YJ:AN prog 72=some (false,1):=kR
theorem AV:AN prog 76=some (true,4):=kR
theorem Tn:AN prog 161=some (false,1):=kR
theorem NN:prog.underlying 3=some (.int .i64):=kR
theorem rS:prog.underlying 79=some (.pointer 163):=kR
theorem aR:zO prog 4=some (.bool false):=kR
theorem tN:zO prog 9=some (.string ⟨#[]⟩):=kR
theorem MV:zO prog 76=some (.agg #[.int .i64 0,.int .i64 0,.string ⟨#[]⟩,.slice none 0 0]):=kR
theorem uP:GQ prog 3=some [.int .i64 0]:=kR
theorem vE:GQ prog 9=some [.string ⟨#[]⟩]:=kR
theorem rV:GQ prog 54=some [.slice none 0 0]:=kR
theorem rU:GQ prog 76=some [.int .i64 0,.int .i64 0,.string ⟨#[]⟩,.slice none 0 0]:=kR
theorem mN:GQ prog 163=some [.map none,.int .i64 0,.int .i64 0]:=kR
theorem Ek:B3 prog 24:=Al func24 kR kR
theorem FO:B3 prog 26:=Al func26 kR kR
theorem CA:B3 prog 27:=Al func27 kR kR
theorem HH:B3 prog 29:=Al func29 kR kR
theorem Tx:B3 prog 30:=Al func30 kR kR
theorem Fu:B3 prog 33:=Al func33 kR kR
theorem Pq:B3 prog 58:=Al func58 kR kR
theorem lR:B3 prog 59:=Al func59 kR kR
theorem iM:B3 prog 60:=Al func60 kR kR
theorem kC:B3 prog 62:=Al func62 kR kR
theorem YP:B3 prog 64:=Al func64 kR kR
theorem jG:B3 prog 65:=Al func65 kR kR
theorem JV:B3 prog 66:=Al func66 kR kR
theorem Qo:B3 prog 69:=Al func69 kR kR
theorem Zo:B3 prog 89:=Al func89 kR kR
theorem Pm:B3 prog 92:=Al func92 kR kR
theorem jP:B3 prog 94:=Al func94 kR kR
theorem dZ:B3 prog 114:=Al func114 kR kR
theorem Qh:B3 prog 118:=Al func118 kR kR
theorem Qg:B3 prog 119:=Al func119 kR kR
theorem dY:B3 prog 136:=Al func136 kR kR
theorem cU:EI prog 74 0=some 0:=kR
theorem aB:EI prog 74 1=some 1:=kR
theorem bZ:EI prog 74 2=some 3:=kR
theorem dN:EI prog 74 4=some 5:=kR
theorem eF:EI prog 84 0=some 0:=kR
theorem dJ:EI prog 84 1=some 1:=kR
theorem Xn:EI prog 120 0=some 0:=kR
theorem YK:EI prog 120 1=some 1:=kR
theorem ZR:EI prog 120 2=some 5:=kR
theorem Yt:EI prog 128 0=some 0:=kR
theorem Y1:EI prog 128 1=some 4:=kR
theorem Zr:EI prog 130 0=some 0:=kR
theorem Zp:EI prog 130 1=some 1:=kR
theorem ZM:EI prog 130 2=some 6:=kR
theorem OK:FC prog 80=some (9,120):=kR
theorem qW:nY prog 67=true:=kR
theorem sF:L9 prog 67=some [(0,2),(2,1)]:=kR
theorem gJ:L9 prog 128=some [(0,4),(4,1)]:=kR
theorem gX:L9 prog 130=some [(0,1),(1,5),(6,1)]:=kR
theorem MJ:Ip prog 46=some (74,6):=kR
theorem Ex:AN prog 27=some (true,2):=kR
theorem IX:AN prog 46=some (false,1):=kR
theorem oG:AN prog 69=some (false,1):=kR
theorem B4:AN prog 74=some (true,6):=kR
theorem IC:AN prog 79=some (false,1):=kR
theorem Og:AN prog 80=some (false,1):=kR
theorem gK:AN prog 120=some (true,6):=kR
theorem kZ:AN prog 128=some (true,5):=kR
theorem FD:prog.underlying 9=some .string:=kR
theorem pW:prog.underlying 69=some (.pointer 130):=kR
theorem OX:zO prog 120=some (.agg #[.slice none 0 0,.int .i64 0,.int .i64 0,.string ⟨#[]⟩,.slice none 0 0,.slice none 0 0]):=kR
theorem sN:GQ prog 67=some [.int .i64 0,.int .i64 0,.int .i64 0]:=kR
theorem pH:GQ prog 74=some [.int .i64 0,.int .i64 0,.int .i64 0,.string ⟨#[]⟩,.int .i64 0,.slice none 0 0]:=kR
theorem mE:GQ prog 120=some [.slice none 0 0,.int .i64 0,.int .i64 0,.string ⟨#[]⟩,.slice none 0 0,.slice none 0 0]:=kR
theorem iC:GQ prog 128=some [.int .i64 0,.int .i64 0,.string ⟨#[]⟩,.slice none 0 0,.slice none 0 0]:=kR
theorem iW:GQ prog 130=some [.string ⟨#[]⟩,.int .i64 0,.int .i64 0,.string ⟨#[]⟩,.slice none 0 0,.slice none 0 0,.pointer none]:=kR
theorem Uz:Mg prog 49=some (91,2,32,[.string ⟨#[]⟩,.string ⟨#[]⟩]):=kR
theorem Tw:Mg prog 121=some (124,6,80,[.string ⟨#[]⟩,.int .i64 0,.int .i64 0,.int .i64 0,.string ⟨#[]⟩,.slice none 0 0]):=kR
theorem XB:B3 prog 21:=Al func21 kR kR
theorem iU:B3 prog 22:=Al func22 kR kR
theorem mU:B3 prog 23:=Al func23 kR kR
theorem Nz:B3 prog 25:=Al func25 kR kR
theorem Xv:B3 prog 31:=Al func31 kR kR
theorem mX:B3 prog 32:=Al func32 kR kR
theorem mC:B3 prog 52:=Al func52 kR kR
theorem mI:B3 prog 53:=Al func53 kR kR
theorem lV:B3 prog 54:=Al func54 kR kR
theorem Qk:B3 prog 57:=Al func57 kR kR
theorem jA:B3 prog 81:=Al func81 kR kR
theorem iR:B3 prog 82:=Al func82 kR kR
theorem P8:B3 prog 83:=Al func83 kR kR
theorem iY:B3 prog 88:=Al func88 kR kR
theorem ZD:B3 prog 90:=Al func90 kR kR
theorem Yv:B3 prog 91:=Al func91 kR kR
theorem dV:EI prog 67 0=some 0:=kR
theorem eB:EI prog 67 1=some 2:=kR
theorem dW:EI prog 84 2=some 2:=kR
theorem aC:EI prog 84 3=some 3:=kR
theorem cH:EI prog 84 4=some 4:=kR
theorem cS:EI prog 91 1=some 1:=kR
theorem Xk:EI prog 118 0=some 0:=kR
theorem YE:EI prog 118 1=some 1:=kR
theorem XW:EI prog 118 3=some 3:=kR
theorem Yu:EI prog 124 0=some 0:=kR
theorem XN:EI prog 124 2=some 2:=kR
theorem PE:Zu prog 20=true:=kR
theorem QP:FC prog 81=some (9,3):=kR
theorem Vp:FC prog 82=some (9,4):=kR
theorem Ll:FC prog 133=some (9,76):=kR
theorem pT:L9 prog 27=some [(0,1),(1,1)]:=kR
theorem qK:L9 prog 84=some [(0,1),(1,1),(2,1),(3,1),(4,1)]:=kR
theorem oJ:L9 prog 91=some [(0,1),(1,1)]:=kR
theorem mL:L9 prog 118=some [(0,1),(1,1),(2,1),(3,1)]:=kR
theorem lM:L9 prog 120=some [(0,1),(1,4),(5,1)]:=kR
theorem gN:L9 prog 124=some [(0,1),(1,1),(2,4)]:=kR
theorem qG:Ip prog 49=some (91,2):=kR
theorem jQ:Ip prog 115=some (118,4):=kR
theorem lZ:Ip prog 121=some (124,6):=kR
theorem nB:qA prog 67=true:=kR
theorem Ht:AN prog 28=some (false,1):=kR
theorem XI:AN prog 49=some (false,1):=kR
theorem qY:AN prog 67=some (true,3):=kR
theorem Qt:AN prog 81=some (false,1):=kR
theorem eL:AN prog 82=some (false,1):=kR
theorem nH:AN prog 118=some (true,4):=kR
theorem JN:AN prog 121=some (false,1):=kR
theorem mG:AN prog 124=some (true,6):=kR
theorem bO:zO prog 3=some (.int .i64 0):=kR
theorem sM:GQ prog 27=some [.int .i64 0,.int .i64 0]:=kR
theorem pA:GQ prog 28=some [.int .i64 0]:=kR
theorem rC:GQ prog 49=some [.slice none 0 0]:=kR
theorem oV:GQ prog 84=some [.pointer none,.map none,.map none,.map none,.int .i64 0]:=kR
theorem sT:GQ prog 91=some [.string ⟨#[]⟩,.string ⟨#[]⟩]:=kR
theorem jU:GQ prog 118=some [.string ⟨#[]⟩,.string ⟨#[]⟩,.int .i64 0,.int .i64 0]:=kR
theorem kH:GQ prog 121=some [.slice none 0 0]:=kR
theorem nC:GQ prog 124=some [.string ⟨#[]⟩,.int .i64 0,.int .i64 0,.int .i64 0,.string ⟨#[]⟩,.slice none 0 0]:=kR
theorem L0:Mg prog 46=some (74,6,72,[.int .i64 0,.int .i64 0,.int .i64 0,.string ⟨#[]⟩,.int .i64 0,.slice none 0 0]):=kR
theorem XV:B3 prog 16:=Al func16 kR kR
theorem YW:B3 prog 17:=Al func17 kR kR
theorem CV:B3 prog 18:=Al func18 kR kR
theorem nK:B3 prog 19:=Al func19 kR kR
theorem mO:B3 prog 20:=Al func20 kR kR
theorem AB:B3 prog 40:=Al func40 kR kR
theorem GM:B3 prog 41:=Al func41 kR kR
theorem XL:B3 prog 42:=Al func42 kR kR
theorem SF:B3 prog 43:=Al func43 kR kR
theorem Y7:B3 prog 44:=Al func44 kR kR
theorem Bf:B3 prog 45:=Al func45 kR kR
theorem nG:B3 prog 46:=Al func46 kR kR
theorem No:B3 prog 47:=Al func47 kR kR
theorem JX:B3 prog 48:=Al func48 kR kR
theorem Dh:B3 prog 49:=Al func49 kR kR
theorem ZE:B3 prog 50:=Al func50 kR kR
theorem TJ:B3 prog 51:=Al func51 kR kR
theorem JT:B3 prog 78:=Al func78 kR kR
theorem HR:B3 prog 79:=Al func79 kR kR
theorem iT:B3 prog 80:=Al func80 kR kR
theorem cI:B3 prog 108:=Al func108 kR kR
theorem UJ:B3 prog 109:=Al func109 kR kR
theorem OZ:B3 prog 110:=Al func110 kR kR
theorem LV:B3 prog 111:=Al func111 kR kR
theorem Pp:B3 prog 133:=Al func133 kR kR
theorem OY:B3 prog 134:=Al func134 kR kR
theorem cZ:EI prog 61 0=some 0:=kR
theorem XE:EI prog 108 0=some 0:=kR
theorem Xt:EI prog 108 1=some 1:=kR
theorem Yh:EI prog 108 2=some 3:=kR
theorem Y2:EI prog 108 3=some 4:=kR
theorem WX:EI prog 110 0=some 0:=kR
theorem Y6:EI prog 110 1=some 5:=kR
theorem rX:L9 prog 74=some [(0,1),(1,2),(3,1),(4,1),(5,1)]:=kR
theorem Ku:Ip prog 63=some (110,6):=kR
theorem kQ:qA prog 61=true:=kR
theorem pV:AN prog 61=some (true,2):=kR
theorem pR:AN prog 63=some (false,1):=kR
theorem iP:AN prog 110=some (true,6):=kR
theorem sW:GQ prog 46=some [.slice none 0 0]:=kR
theorem qE:GQ prog 61=some [.int .i64 0,.int .i64 0]:=kR
theorem iS:GQ prog 110=some [.int .i64 0,.int .i64 0,.int .i64 0,.int .i64 0,.string ⟨#[]⟩,.slice none 0 0]:=kR
theorem oZ:Mg prog 25=some (34,2,32,[.string ⟨#[]⟩,.string ⟨#[]⟩]):=kR
theorem GA:eD prog 44 9=some 5:=kR
theorem JL:WQ prog 3 5=some .u8:=kR
theorem cQ:WQ prog 3 43=some .u64:=kR
theorem aU:WQ prog 43 3=some .i64:=kR
theorem Uw:B3 prog 6:=Al func6 kR kR
theorem fY:B3 prog 8:=Al func8 kR kR
theorem Zf:B3 prog 10:=Al func10 kR kR
theorem lL:B3 prog 11:=Al func11 kR kR
theorem kK:B3 prog 12:=Al func12 kR kR
theorem mQ:B3 prog 13:=Al func13 kR kR
theorem gF:B3 prog 14:=Al func14 kR kR
theorem lH:B3 prog 15:=Al func15 kR kR
theorem Y3:B3 prog 34:=Al func34 kR kR
theorem jW:B3 prog 35:=Al func35 kR kR
theorem jE:B3 prog 36:=Al func36 kR kR
theorem Xc:B3 prog 70:=Al func70 kR kR
theorem iF:B3 prog 71:=Al func71 kR kR
theorem TV:B3 prog 72:=Al func72 kR kR
theorem cW:EI prog 34 0=some 0:=kR
theorem dR:EI prog 34 1=some 1:=kR
theorem aQ:EI prog 40 0=some 0:=kR
theorem ZY:EI prog 40 1=some 1:=kR
theorem aM:EI prog 98 0=some 0:=kR
theorem bH:EI prog 98 1=some 1:=kR
theorem bR:EI prog 98 2=some 2:=kR
theorem UA:FC prog 94=some (9,74):=kR
theorem pS:L9 prog 34=some [(0,1),(1,1)]:=kR
theorem oT:L9 prog 40=some [(0,1),(1,1),(2,1)]:=kR
theorem oQ:L9 prog 98=some [(0,1),(1,1),(2,1)]:=kR
theorem mA:Y4 prog 27=true:=kR
theorem pM:Ip prog 25=some (34,2):=kR
theorem oH:Ip prog 37=some (40,3):=kR
theorem rZ:Ip prog 44=some (5,1):=kR
theorem Wo:AN prog 4=some (false,1):=kR
theorem sQ:AN prog 34=some (true,2):=kR
theorem sV:AN prog 40=some (true,3):=kR
theorem fT:AN prog 94=some (false,1):=kR
theorem Lw:AN prog 96=some (false,1):=kR
theorem XA:zO prog 74=some (.agg #[.int .i64 0,.int .i64 0,.int .i64 0,.string ⟨#[]⟩,.int .i64 0,.slice none 0 0]):=kR
theorem vB:GQ prog 5=some [.int .u8 0]:=kR
theorem oB:GQ prog 34=some [.string ⟨#[]⟩,.string ⟨#[]⟩]:=kR
theorem pZ:GQ prog 40=some [.string ⟨#[]⟩,.string ⟨#[]⟩,.int .i64 0]:=kR
theorem oK:GQ prog 98=some [.map none,.slice none 0 0,.bool false]:=kR
end Go.Proofs.YtelmolopaolbcaaGreatDoor
