/- What it rests on, part 2. -/
import Derived.Test.YtegedalegfadgaaGreatDoorGc1
import Derived.Laws.MakeOwn
import Derived.Lib.Join
import Derived.Lib.ItoaNum
set_option linter.unusedVariables false
set_option linter.unusedSimpArgs false
namespace Go.SW
open Go.RowKit
structure CR(M:Nat→Prop)(w:World)(f:Fq)(w':World)(f':Fq):Prop where
 stp:MF M w w'
 old:∀b,b<w.heap.size→f' b=f b
 val:∀b,w'.heap.size≤b→f' b=0
variable {af:Array Edge}{args:Array Value}{σ':Br}{fn:Func}{fid:FuncId}{H':List HB}{r:List Oper}{XX:List PanicEntry→World→Prop}{l:List Value}{d i k:Nat}{M M':Nat→Prop}{g:Option (Nat×Bool)}{dst:Option Tmp}{pos:String}{ty:TypeId}{R0:Value→World→Prop}{I':World→Fq→Prop}
theorem CR.fle{w w':World}{f f':Fq}(h:CR M w f w' f')(hv:∀b,w.heap.size≤b→f b=0)(hm:∀b,M b→f b=0):J1 w f w' f':=λb=>by
 rcases Nat.lt_or_ge b w.heap.size with hb|hb
 · refine⟨by rw[h.old b hb];exact Nat.le_refl _,λo ho=>E0 (h.stp.block b hb λhh=>?_) o⟩
   rw[hm b hh] at ho;omega
 · refine⟨by rw[hv b hb];exact Nat.zero_le _,λo ho=>?_⟩
   rw[hv b hb] at ho;omega
theorem CR.refl(M:Nat→Prop){w:World}{f:Fq}(hv:∀b,w.heap.size≤b→f b=0):CR M w f w f:=⟨MF.refl _ _,λ_ _=>rfl,hv⟩
theorem CR.mono{w w':World}{f f':Fq}(h:CR M w f w' f')(hm:∀b,M b→M' b):CR M' w f w' f':=⟨h.stp.mono hm,h.old,h.val⟩
theorem CR.of_ext{w w':World}{f:Fq}(h:AY w w')(hv:∀b,w.heap.size≤b→f b=0):CR (λ_=>False) w f w' f:=⟨MF.of_ext h,λ_ _=>rfl,λb hb=>hv b (Nat.le_trans h.size hb)⟩
theorem AW.exm{X:Cx}{w:World}{f:Fq}{H:List HB}{R:List RB}{B:List FB}{Fs:List (World→Fq→Prop)}(h:AW X w f H R B Fs):CR X.M X.w0 X.f0 w f:=⟨h.stp,h.old,h.val⟩
section
variable{X:Cx}{w w':World}{f f':Fq}{H:List HB}{R:List RB}{B:List FB}{Fs:List (World→Fq→Prop)}
theorem AW.call0(h:AW X w f H R B Fs)(he:CR (λ_=>False) w f w' f'):AW X w' f' H R B Fs :=
 have hF:=he.fle h.val (λ_ h=>h.elim)
 h.step (he.stp.mono λ_ h=>h.elim) hF he.old he.val (λb hb=>he.stp.block b (h.lt hb) λh=>h) (λb hb=>he.stp.block b (h.mi b hb).1 λh=>h)
theorem AW.callI(h:AW X w f H R B Fs)(he:CR X.MI w f w' f')(hI:I' w' f')(hst:GH X.MI I'):AW {X with I:=I' } w' f' H R B Fs :=
 have hF:=he.fle h.val (λb hb=>(h.mi b hb).2.1);have hown:∀b,b∈CZ H R→w'.heap[b]?=w.heap[b]?:=λb hb=>he.stp.block b (h.lt hb) (h.own b hb).2.2
 {stp:=⟨he.stp.os.trans h.stp.os,he.stp.tape.trans h.stp.tape,he.stp.output.trans h.stp.output,Nat.le_trans h.stp.size he.stp.size,λk hk hm=>(he.stp.block k (Nat.lt_of_lt_of_le hk h.stp.size) λhh=>by
       rcases (h.mi k hh).2.2 with h1|h1
       · exact absurd hk (Nat.not_lt.2 h1)
       · exact hm h1).trans (h.stp.block k hk hm)⟩,
   old:=λb hb=>(he.old b (Nat.lt_of_lt_of_le hb h.stp.size)).trans (h.old b hb),val:=he.val,ent:=h.ent.trans hF,res:=hI,stab:=hst,
   mi:=λb hb=>⟨Nat.lt_of_lt_of_le (h.mi b hb).1 he.stp.size,(he.old b (h.mi b hb).1).trans (h.mi b hb).2.1,(h.mi b hb).2.2⟩,
   blk:=λe hh=>(hown e.b (List.mem_append.2 (.inl (List.mem_map.2 ⟨e,hh,rfl⟩)))).trans (h.blk e hh),
   row:=λr hr=>by
     refine⟨(h.row r hr).1,(h.row r hr).2.imp id ?_⟩;rintro⟨b,l,h1,h2,h3⟩;exact⟨b,l,h1,(hown b (List.mem_append.2 (.inr (List.mem_filterMap.2 ⟨r,hr,by rw[h1];rfl⟩)))).trans h2,h3⟩,
   nd:=h.nd,
   own:=λb hb=>⟨(he.old b (h.lt hb)).trans (h.own b hb).1,(h.own b hb).2⟩,hnw:=h.hnw,rnw:=h.rnw,
   fro:=λe hh=>(h.fro e hh).mono hF,fac:=λφ hφ=>h.mono φ hφ _ _ _ _ (h.fac φ hφ) hF,mono:=h.mono}
theorem AW.more{B':List FB}{F':List (World→Fq→Prop)}(h:AW X w f H R B Fs)(hB:∀e,e∈B'→Cs w f e.b e.off e.l)(hF:∀φ,φ∈F'→φ w f)(hm:∀φ,φ∈F'→GC φ):AW X w f H R (B'++B) (F'++Fs) :=
 {h with
   fro:=λe he=>(List.mem_append.1 he).elim (hB e) (h.fro e),
   fac:=λφ hφ=>(List.mem_append.1 hφ).elim (hF φ) (h.fac φ),
   mono:=λφ hφ=>(List.mem_append.1 hφ).elim (hm φ) (h.mono φ)}
theorem AW.less{R':List RB}{B':List FB}{F':List (World→Fq→Prop)}(h:AW X w f H R B Fs)(hH:H'.Sublist H)(hR:R'.Sublist R)(hB:∀e,e∈B'→e∈B)(hF:∀φ,φ∈F'→φ∈Fs):AW X w f H' R' B' F' :=
 have hs:(CZ H' R').Sublist (CZ H R):=List.Sublist.append (hH.map _) (hR.filterMap _)
 {h with
   blk:=λe he=>h.blk e (hH.subset he),row:=λr hr=>h.row r (hR.subset hr),nd:=hs.nodup h.nd,own:=λb hb=>h.own b (hs.subset hb),hnw:=λe he=>h.hnw e (hH.subset he),rnw:=λr hr=>h.rnw r (hR.subset hr),
   fro:=λe he=>h.fro e (hB e he),fac:=λφ hφ=>h.fac φ (hF φ hφ),mono:=λφ hφ=>h.mono φ (hF φ hφ)}
theorem AW.fact{φ:World→Fq→Prop}(h:AW X w f H R B Fs)(hi:nth Fs i=some φ):φ w f:=by
 rw[F5] at hi;exact h.fac _ (List.mem_of_getElem? hi)
end
section
variable{P:Program}{n:Nat}{Q:Bm}{ds:List Deferred}{X:Cx}{R:List RB}{B:List FB}{Fs:List (World→Fq→Prop)}{tb:Eh}{fs:List Fr}{σ:Br}{H:List HB}
theorem go{k:MU}(ht:tb.Ok P)(m:Nat)(hs:List Nat)(h:ex P n Q ds X R B Fs tb m hs k fs σ H):AF P n Q ds X R B Fs k fs σ H:=JO ht m hs k fs σ H h
theorem y{α:Type}{a:α}{p:Prop}(h:p):a=a∧p:=⟨rfl,h⟩
theorem y2{α β:Type}{a:α}{b:β}{p:Prop}(h:p):(a=a∧b=b)∧p:=⟨⟨rfl,rfl⟩,h⟩
def jM:MU→Bool
 |.out _=>false
 |_=>true
theorem AF.le{k:MU}(hk:jM k=true)(hl:Le σ' σ)(h:AF P n Q ds X R B Fs k fs σ' H):AF P n Q ds X R B Fs k fs σ H:=λw f hM=>by
 have:=h w f hM
 cases k with
 |code c=>exact Nf hl this
 |ops all l=>exact λa ha=>this a (ha.le hl)
 |out e=>cases hk
theorem Ba{k:MU}{b:Bool}(t:Nat)(hk:jM k=true)(hx:σ t=some (.bool b))(h1:b=true→AF P n Q ds X R B Fs k fs (AL σ t (.bool true)) H)(h2:b=false→AF P n Q ds X R B Fs k fs (AL σ t (.bool false)) H):AF P n Q ds X R B Fs k fs σ H:=by
 cases b with
 |true=>exact AF.le hk (AD (le_refl _) hx) (h1 rfl)
 |false=>exact AF.le hk (AD (le_refl _) hx) (h2 rfl)
theorem tM{k:MU}{b:Bool}(t:Nat)(c:Bool)(hk:jM k=true)(hx:σ t=some (.bool b))(hb:b=c)(h1:AF P n Q ds X R B Fs k fs (AL σ t (.bool c)) H):AF P n Q ds X R B Fs k fs σ H:=by
 subst hb;exact AF.le hk (AD (le_refl _) hx) h1
theorem C6{k:MU}{α:Type}(p:α→Prop)(B':α→List FB)(F':α→List (World→Fq→Prop))(hφ:∀w f,AW X w f H R B Fs→∃x,p x∧(∀e,e∈B' x→Cs w f e.b e.off e.l)∧∀φ,φ∈F' x→φ w f)(hm:∀x φ,φ∈F' x→GC φ)
   (h:∀x,p x→AF P n Q ds X R (B' x++B) (F' x++Fs) k fs σ H):AF P n Q ds X R B Fs k fs σ H:=λw f hM=>by
 obtain⟨x,hp,hB,hF⟩:=hφ w f hM;exact h x hp w f (hM.more hB hF (hm x))
theorem KA{k:MU}{p:Prop}(hφ:∀w f,AW X w f H R B Fs→p)(h:p→AF P n Q ds X R B Fs k fs σ H):AF P n Q ds X R B Fs k fs σ H:=λw f hM=>h (hφ w f hM) w f hM
theorem M6:∀fs:List Fr,(Oi P n Q fs).p=Q.p
 | []=>rfl
 |.sq _::fs=>M6 fs
 |.bk _::fs=>M6 fs
theorem xS{all:List Oper}{op:Op}{α:Type}{val:α→Value}{q:α→Prop}{F':α→List (World→Fq→Prop)}(hg:gd all σ g=some true)(hd:Nat.blt d n=true)(he:∀w,Enters P σ op ty w fid args)
   (hc:∀w f,AW X w f H R B Fs→BC P fid args w λv w'=>∃x f',v=val x∧q x∧CR (λ_=>False) w f w' f'∧∀φ,φ∈F' x→φ w' f') (hm:∀x φ,φ∈F' x→GC φ)
   (h:∀x,q x→AF P n Q ds X R B (F' x++Fs) (.ops all r) fs (AL σ d (val x)) H):AF P n Q ds X R B Fs (.ops all (⟨some d,op,ty,pos,af,g⟩::r)) fs σ H:=λw f hM=>by
 refine BG hg (A7 hd (he w) (hc w f hM) ?_);rintro v w' ⟨x,f',rfl,hq,hE,hF⟩;exact h x hq w' f' ((hM.call0 hE).more (B':=[]) (λ_ h=>by cases h) hF (hm x))
theorem xG{all:List Oper}{op:Op}{α:Type}{val:α→Value}{q:α→Prop}{I':α→World→Fq→Prop}{F':α→List (World→Fq→Prop)}
   (hg:gd all σ g=some true) (hd:Nat.blt d n=true) (he:∀w,Enters P σ op ty w fid args)
   (hc:∀w f,AW X w f H R B Fs→BS P fid args w (λv w'=>∃x f',v=val x∧q x∧CR X.MI w f w' f'∧I' x w' f'∧∀φ,φ∈F' x→φ w' f') XX) (hst:∀x,GH X.MI (I' x)) (hm:∀x φ,φ∈F' x→GC φ)
   (hp:∀w f c w',AW X w f H R B Fs→XX c w'→Q.p c σ ds w')
   (h:∀x,q x→AF P n Q ds {X with I:=I' x} R B (F' x++Fs) (.ops all r) fs (AL σ d (val x)) H):AF P n Q ds X R B Fs (.ops all (⟨some d,op,ty,pos,af,g⟩::r)) fs σ H:=λw f hM=>by
 refine BG hg (Ck hd (he w) (hc w f hM) ?_ ?_)
 · rintro v w' ⟨x,f',rfl,hq,hE,hI,hF⟩
   exact h x hq w' f' ((hM.callI hE hI (hst x)).more (B':=[]) (λ_ h=>by cases h) hF (hm x))
 · intro c w' hX
   rw[M6];exact hp w f c w' hM hX
theorem EU{all:List Oper}{op:Op}{v:Value}(hg:gd all σ g=some true)(hd:Nat.blt d n=true)(hr:∀w f,AW X w f H R B Fs→AS P σ op ty w v w)
   (h:AF P n Q ds X R B Fs (.ops all r) fs (AL σ d v) H):AF P n Q ds X R B Fs (.ops all (⟨some d,op,ty,pos,af,g⟩::r)) fs σ H:=λw f hM=>BG hg (Aa hd (hr w f hM) (h w f hM))
theorem uY{all:List Oper}{op:Op}{v:Value}(hg:gd all σ g=some true)(hr:∀w,mT P σ op ty w v w)
   (h:∀w f,AW X w f H R B Fs→Q.p [{v,recovered:=false}] σ ds w):AF P n Q ds X R B Fs (.ops all (⟨dst,op,ty,pos,af,g⟩::r)) fs σ H:=λw f hM=>BG hg (Cr (hr w) (by rw[M6];exact h w f hM))
def sE(P:Program)(n:Nat){α:Type}(m:α→Nat)(p:α→Prop)(s:α→Br)(X:α→Cx)(H:α→List HB)(R:α→List RB)(B:α→List FB)(Fs:α→List (World→Fq→Prop))(ds:List Deferred)(k:Nat)(Q:Bm):Bm :=
 {q:=λe σ ds' w=>match e with
     |.normal=>∃x,m x<k∧p x∧ds'=ds∧Le (s x) σ∧∃f,AW (X x) w f (H x) (R x) (B x) (Fs x)
     |e=>Q.q e σ ds' w,
   p:=Q.p}
theorem HK{c:Code}{α:Type}(m:α→Nat)(p:α→Prop)(s:α→Br)(X':α→Cx)(H':α→List HB)(R':α→List RB)(B':α→List FB)(F':α→List (World→Fq→Prop))(x0:α)(h0:p x0)(hl:Le (s x0) σ)
   (hM:∀w f,AW X w f H R B Fs→AW (X' x0) w f (H' x0) (R' x0) (B' x0) (F' x0))
   (body:∀x,p x→AF P n (sE P n m p s X' H' R' B' F' ds (m x) (Oi P n Q fs)) ds (X' x) (R' x) (B' x) (F' x) (.code c) [] (s x) (H' x)):AF P n Q ds X R B Fs (.code (.loop c)) fs σ H:=λw f hm=>by
 refine Em (λk σ ds' w=>∃x,m x=k∧p x∧ds'=ds∧σ=s x∧∃f,AW (X' x) w f (H' x) (R' x) (B' x) (F' x)) (m x0) (s x0) hl ⟨x0,rfl,h0,rfl,rfl,f,hM w f hm⟩ ?_;rintro k σ ds' w ⟨x,rfl,hp,rfl,rfl,f,hm⟩;have:=body x hp w f hm;intro a ha;refine wp_mono (this a ha) λe a' w' he=>?_
 cases e with
 |normal =>
   obtain⟨σ',ds',hs,y,hy,hpy,rfl,hly,f',hm'⟩:=he;exact⟨σ',_,hs,m y,s y,hy,hly,y,rfl,hpy,rfl,rfl,f',hm'⟩
 |panic c=>exact he
 |outgrown=>exact he
 |ret=>exact he
 |exit i=>exact he
 |goto i=>exact he
theorem DM{α:Type}{m:α→Nat}{p:α→Prop}{s:α→Br}{X':α→Cx}{H':α→List HB}{R':α→List RB}{B':α→List FB}{F':α→List (World→Fq→Prop)}(x:α)(hk:m x<k)(hp:p x)(hl:Le (s x) σ)
   (hM:∀w f,AW X w f H R B Fs→∃f,AW (X' x) w f (H' x) (R' x) (B' x) (F' x)):AF P n (sE P n m p s X' H' R' B' F' ds k Q) ds X R B Fs (.out .normal) [] σ H :=
 λw f hm=>⟨x,hk,hp,rfl,hl,hM w f hm⟩
theorem GR{α:Type}{m:α→Nat}{p:α→Prop}{s:α→Br}{X':α→Cx}{H':α→List HB}{R':α→List RB}{B':α→List FB}{F':α→List (World→Fq→Prop)}(h:AF P n Q ds X R B Fs (.out (.exit i)) fs σ H):AF P n (sE P n m p s X' H' R' B' F' ds k (Oi P n Q fs)) ds X R B Fs (.out (.exit i)) [] σ H:=λw f hm=>h w f hm
theorem fD{α:Type}{m:α→Nat}{p:α→Prop}{s:α→Br}{X':α→Cx}{H':α→List HB}{R':α→List RB}{B':α→List FB}{F':α→List (World→Fq→Prop)}(h:AF P n Q ds X R B Fs (.out .ret) fs σ H):AF P n (sE P n m p s X' H' R' B' F' ds k (Oi P n Q fs)) ds X R B Fs (.out .ret) [] σ H:=λw f hm=>h w f hm
theorem Nl{c:Code}{w:World}{f:Fq}(hf:P.funcs[fid]?=some fn)(hb:fn.body=some c)(hn:fn.ntmps=n)(hl:Nat.ble l.length n=true)(hM:AW X w f H R B Fs)
   (h:AF P n (Ge P fn R0 XX) [] X R B Fs (.code c) [] (I6 l 0) H):BS P fid l.toArray w R0 XX:=IY hf hb hn hl (h w f hM)
theorem Dl{c:Code}{w:World}{f:Fq}(hf:P.funcs[fid]?=some fn)(hb:fn.body=some c)(hn:fn.ntmps=n)(hl:Nat.ble l.length n=true)(hM:AW X w f H R B Fs)
   (h:AF P n (Ge P fn R0 λ_ _=>False) [] X R B Fs (.code c) [] (I6 l 0) H):BC P fid l.toArray w R0:=enter hf hb hn hl (h w f hM)
theorem Bc{v:Value}(hv:∀w f,AW X w f H R B Fs→VN P fn σ w v)(h:∀w f,AW X w f H R B Fs→R0 v w):AF P n (Ge P fn R0 XX) [] X R B Fs (.out .ret) [] σ H:=λw f hM=>B1 (hv w f hM) (h w f hM)
theorem cL{v:Value}(hv:∀w f,AW X w f H R B Fs→VN P fn σ w v)(h:∀w f,AW X w f H R B Fs→R0 v w):AF P n (Ge P fn R0 XX) [] X R B Fs (.out .normal) [] σ H:=λw f hM=>GI (hv w f hM) (h w f hM)
end
def OH:List RB→Nat→Option RB
 | [],_=>none
 |x::_,0=>some x
 |_::l,i+1=>OH l i
def Su:List RB→Nat→RB→Option (List RB)
 | [],_,_=>none
 |_::H,0,e=>some (e::H)
 |x::H,i+1,e=>match Su H i e with
   |some r=>some (x::r)
   |none=>none
def Qt:List RB→Nat→Option (List RB)
 | [],_=>none
 |_::H,0=>some H
 |x::H,i+1=>match Qt H i with
   |some r=>some (x::r)
   |none=>none
theorem DU:∀{R:List RB}{i:Nat}{r:RB},OH R i=some r→r∈R
 | [],_,_,h=>by cases h
 |_::_,0,_,h=>by cases h;exact .head _
 |_::R,i+1,r,h=>.tail _ (DU (R:=R) h)
theorem Se:∀{R R':List RB}{i:Nat},Qt R i=some R'→R'.Sublist R
 | [],_,_,h=>by cases h
 |_::_,_,0,h=>by cases h;exact List.sublist_cons_self _ _
 |x::R,R',i+1,h=>by
   unfold Qt at h
   cases hr:Qt R i with
   |none=>rw[hr] at h;cases h
   |some r=>rw[hr] at h;cases h;exact (Se hr).cons_cons x
def JS(R:List RB):List Nat:=R.filterMap λr=>rb r.a
theorem RA:∀{R R':List RB}{i:Nat}{r r':RB},OH R i=some r→Su R i r'=some R'→(∀x,x∈R'→x=r'∨x∈R)∧∀N,(rb r'.a=rb r.a∨∃k,rb r'.a=some k∧k∉N∧k∉JS R)→(N++JS R).Nodup→(N++JS R').Nodup∧(∀b,b∈JS R'→some b=rb r'.a∨b∈JS R)∧∀x,x∈R'→x=r'∨(x∈R∧(rb x.a=none∨rb x.a≠rb r.a))
 | [],_,_,_,_,h,_=>by cases h
 |x::R,R',0,r,r',hg,hs=>by
   cases hg;cases hs
   refine⟨λy hy=>by rcases List.mem_cons.1 hy with h|h;exact .inl h;exact .inr (.tail _ h),λN hk hn=>?_⟩
   have e1:JS (x::R)=(match rb x.a with|some b=>b::JS R|none=>JS R):=by
     unfold JS;rw[List.filterMap_cons];cases rb x.a <;> rfl
   have e2:JS (r'::R)=(match rb r'.a with|some b=>b::JS R|none=>JS R):=by
     unfold JS;rw[List.filterMap_cons];cases rb r'.a <;> rfl
   have hsub:(N++JS R).Nodup:=by
     rw[e1] at hn
     cases hx:rb x.a with
     |none=>rw[hx] at hn;exact hn
     |some b=>rw[hx] at hn;exact (List.Sublist.append (List.Sublist.refl N) (List.sublist_cons_self b _)).nodup hn
   have hother:∀y,y∈R→rb y.a=none∨rb y.a≠rb x.a:=λy hy=>by
     cases hb:rb y.a with
     |none=>exact .inl rfl
     |some b =>
       refine .inr λe=>?_;rw[e1,← e] at hn;have h2:=(List.nodup_append.1 hn).2.1;exact (List.nodup_cons.1 h2).1 (List.mem_filterMap.2 ⟨y,hy,hb⟩)
   refine⟨?_,?_,?_⟩
   · rcases hk with hk|⟨k,hk,hkN,hkR⟩
     · rw[e2,hk,← e1];exact hn
     · rw[e2,hk]
       have hkR':k∉JS R:=λh=>hkR (by rw[e1];cases rb x.a with|none=>exact h|some b=>exact .tail _ h)
       exact List.nodup_append.2 ⟨(List.nodup_append.1 hsub).1,List.nodup_cons.2 ⟨hkR',(List.nodup_append.1 hsub).2.1⟩,λa ha b hb e=>by
         rcases List.mem_cons.1 hb with rfl|hb
         · exact hkN (e▸ha)
         · exact (List.nodup_append.1 hsub).2.2 a ha b hb e⟩
   · intro b hb
     rw[e2] at hb
     cases hr:rb r'.a with
     |none=>rw[hr] at hb;right;rw[e1];cases rb x.a with|none=>exact hb|some c=>exact .tail _ hb
     |some c =>
       rw[hr] at hb;rcases List.mem_cons.1 hb with rfl|hb
       · exact .inl rfl
       · right;rw[e1];cases rb x.a with|none=>exact hb|some c=>exact .tail _ hb
   · intro y hy
     rcases List.mem_cons.1 hy with h|h
     · exact .inl h
     · exact .inr ⟨.tail _ h,hother y h⟩
 |x::R,R',i+1,r,r',hg,hs=>by
   unfold Su at hs
   cases hr:Su R i r' with
   |none=>rw[hr] at hs;cases hs
   |some R1 =>
     rw[hr] at hs;cases hs;obtain⟨h1,h2⟩:=RA (R:=R) hg hr
     refine⟨λy hy=>by
       rcases List.mem_cons.1 hy with rfl|hy
       · exact .inr (.head _)
       · rcases h1 y hy with h|h
         · exact .inl h
         · exact .inr (.tail _ h),λN hk hn=>?_⟩
     have ex:∀L:List RB,JS (x::L)=(match rb x.a with|some b=>b::JS L|none=>JS L):=λL=>by
       unfold JS;rw[List.filterMap_cons];cases rb x.a <;> rfl
     cases hx:rb x.a with
     |none =>
       rw[ex,hx] at hn;obtain⟨a1,a2,a3⟩:=h2 N (by rw[ex,hx] at hk;exact hk) hn;refine⟨by rw[ex,hx];exact a1,λb hb=>by rw[ex,hx] at hb;rw[ex,hx];exact a2 b hb,λy hy=>?_⟩;rcases List.mem_cons.1 hy with rfl|hy
       · exact .inr ⟨.head _,.inl hx⟩
       · rcases a3 y hy with h|h
         · exact .inl h
         · exact .inr ⟨.tail _ h.1,h.2⟩
     |some c =>
       rw[ex,hx] at hn;simp only at hn;have hn':((N++[c])++JS R).Nodup:=by simpa using hn
       obtain⟨a1,a2,a3⟩:=h2 (N++[c]) (by
         rw[ex,hx] at hk;rcases hk with hk|⟨k,hk,hkN,hkR⟩
         · exact .inl hk
         · exact .inr ⟨k,hk,λh=>by
             rcases List.mem_append.1 h with h|h
             · exact hkN h
             · exact hkR (by rw[List.mem_singleton] at h;subst h;exact .head _),λh=>hkR (.tail _ h)⟩) hn'
       have hrc:rb r.a≠some c:=λe=>by
         have:c∈JS R:=List.mem_filterMap.2 ⟨r,DU hg,e⟩;exact (List.nodup_append.1 hn').2.2 c (List.mem_append.2 (.inr (.head _))) c this rfl
       refine⟨by rw[ex,hx];simpa using a1,λb hb=>?_,λy hy=>?_⟩
       · rw[ex,hx] at hb
         rcases List.mem_cons.1 hb with rfl|hb
         · right;rw[ex,hx];exact .head _
         · rcases a2 b hb with h|h
           · exact .inl h
           · right;rw[ex,hx];exact .tail _ h
       · rcases List.mem_cons.1 hy with rfl|hy
         · exact .inr ⟨.head _,.inr (by rw[hx];exact λe=>hrc e.symm)⟩
         · rcases a3 y hy with h|h
           · exact .inl h
           · exact .inr ⟨.tail _ h.1,h.2⟩
section
variable{X:Cx}{w w':World}{f:Fq}{H:List HB}{R R':List RB}{B:List FB}{Fs:List (World→Fq→Prop)}
variable {xs:List Value}{b c' n n':Nat}{a':Option Addr}{e:TypeId}
theorem AW.grow{r:RB}{xs':List Value}(h:AW X w f H R B Fs)(hg:OH R i=some r)(hs:Su R i ⟨r.e,r.size,a',c',n',xs'⟩=some R')(hr:Co w' r.e r.size a' c' n' xs')(hG:GA r.a w a' w'):AW X w' f H R' B Fs:=by
 have hmemr:∀b,rb r.a=some b→b∈CZ H R:=λb hb=>List.mem_append.2 (.inr (List.mem_filterMap.2 ⟨r,DU hg,hb⟩))
 have hF:J1 w f w' f:=λk=>⟨Nat.le_refl _,λo ho=>by
   have hk:k<w.heap.size:=by
     rcases Nat.lt_or_ge k w.heap.size with hh|hh
     · exact hh
     · have:=h.val k hh;omega
   exact E0 (hG.block k hk λe=>by have:=(h.own k (hmemr k e.symm)).1;omega) o⟩
 have hmi:∀k,X.MI k→w'.heap[k]?=w.heap[k]?:=λk hk=>hG.block k (h.mi k hk).1 λe=>(h.own k (hmemr k e.symm)).2.2 hk;have hnew:w.heap.size∉CZ H R:=λhh=>Nat.lt_irrefl _ (h.lt hh);obtain⟨h1,h2⟩:=RA hg hs
 obtain⟨a1,a2,a3⟩:=h2 (H.map HB.b) (by
   rcases hG.own with ho|ho
   · exact .inl ho
   · exact .inr ⟨_,ho,λhh=>hnew (List.mem_append.2 (.inl hh)),λhh=>hnew (List.mem_append.2 (.inr hh))⟩) h.nd
 have hblk:∀e,e∈H→w'.heap[e.b]?=w.heap[e.b]?:=λe he=>hG.block e.b (h.blk e he).lt λhh=>by
   exact (List.nodup_append.1 h.nd).2.2 e.b (List.mem_map.2 ⟨e,he,rfl⟩) e.b (List.mem_filterMap.2 ⟨r,DU hg,hh.symm⟩) rfl
 exact {stp:=⟨hG.os.trans h.stp.os,hG.tape.trans h.stp.tape,hG.output.trans h.stp.output,Nat.le_trans h.stp.size hG.size,λk hk hm=>(hG.block k (Nat.lt_of_lt_of_le hk h.stp.size) λe=>by have:=h.rnw r (DU hg) k e.symm;omega).trans (h.stp.block k hk hm)⟩,
         old:=h.old,val:=λk hk=>h.val k (Nat.le_trans hG.size hk),ent:=h.ent.trans hF,res:=h.stab _ _ _ _ h.res hF hmi,stab:=h.stab,
         mi:=λk hk=>⟨Nat.lt_of_lt_of_le (h.mi k hk).1 hG.size,(h.mi k hk).2⟩,
         blk:=λe he=>(hblk e he).trans (h.blk e he),
         row:=λx hx=>by
           rcases a3 x hx with rfl|⟨hx,hne⟩
           · exact hr
           · exact (h.row x hx).grow hG hne,
         nd:=a1,
         own:=λb hb=>by
           rcases List.mem_append.1 hb with hb|hb
           · exact h.own b (List.mem_append.2 (.inl hb))
           · rcases a2 b hb with hb|hb
             · rcases hG.own with ho|ho
               · exact h.own b (hmemr b (by rw[← ho];exact hb.symm))
               · have:b=w.heap.size:=Option.some.inj (hb.trans ho)
                 subst this;exact⟨h.val _ (Nat.le_refl _),.inl h.stp.size,λhm=>Nat.lt_irrefl _ (h.mi _ hm).1⟩
             · exact h.own b (List.mem_append.2 (.inr hb)),
         hnw:=h.hnw,
         rnw:=λx hx b hb=>by
           rcases a3 x hx with rfl|⟨hx,_⟩
           · rcases hG.own with ho|ho
             · exact h.rnw r (DU hg) b (by rw[← ho];exact hb)
             · have:b=w.heap.size:=Option.some.inj (hb.symm.trans ho)
               subst this;exact h.stp.size
           · exact h.rnw x hx b hb,
         fro:=λx hx=>(h.fro x hx).mono hF,fac:=λφ hφ=>h.mono φ hφ _ _ _ _ (h.fac φ hφ) hF,mono:=h.mono}
theorem AW.rowNil(h:AW X w f H R B Fs)(e:TypeId)(size:Nat):AW X w f H (⟨e,size,none,0,0,[]⟩::R) B Fs :=
 {h with
   row:=λr hr=>by
     rcases List.mem_cons.1 hr with rfl|hr
     · exact GU _ _ _
     · exact h.row r hr,
   rnw:=λr hr b hb=>by
     rcases List.mem_cons.1 hr with rfl|hr
     · cases hb
     · exact h.rnw r hr b hb}
theorem AW.done{size c:Nat}(h:AW X w f H R B Fs)(hg:OH R i=some ⟨e,size,some ⟨b,0,none⟩,c,n,xs⟩)(hs:Qt R i=some R'):∃f',AW X w f' H R' (⟨b,0,xs⟩::B) Fs:=by
 have hr:=h.row _ (DU hg);have hown:=h.own b (List.mem_append.2 (.inr (List.mem_filterMap.2 ⟨_,DU hg,rfl⟩)));have hnw:=h.rnw _ (DU hg) b rfl;have hlt:b<w.heap.size:=hr.lt rfl
 let f':Fq:=λk=>if k=b then n*size else f k
 have hF:J1 w f w f':=λk=>by
   show f k≤(if k=b then n*size else f k)∧_
   split
   · rename_i hk;subst hk;rw[hown.1];exact⟨Nat.zero_le _,λo ho=>by omega⟩
   · exact⟨Nat.le_refl _,λ_ _=>rfl⟩
 have hne:∀k,k≠b→f' k=f k:=λk hk=>if_neg hk;have hsub:=Se hs
 have hbR:b∉CZ H R':=by
   have:∀(R R':List RB)(i:Nat)(N:List Nat),OH R i=some ⟨e,size,some ⟨b,0,none⟩,c,n,xs⟩→Qt R i=some R'→(N++JS R).Nodup→b∉N++JS R':=by
     intro R
     induction R with
     |nil=>intro R' i N hg;cases hg
     |cons x R ih =>
       intro R' i N hg hs hn
       cases i with
       |zero =>
         cases hg;cases hs
         have e1:JS (⟨e,size,some ⟨b,0,none⟩,c,n,xs⟩::R)=b::JS R:=rfl;rw[e1] at hn;intro hb;rcases List.mem_append.1 hb with hb|hb
         · exact (List.nodup_append.1 hn).2.2 b hb b (.head _) rfl
         · exact (List.nodup_cons.1 (List.nodup_append.1 hn).2.1).1 hb
       |succ i =>
         unfold Qt at hs
         cases hr:Qt R i with
         |none=>rw[hr] at hs;cases hs
         |some R1 =>
           rw[hr] at hs;cases hs
           have ex:∀L:List RB,JS (x::L)=(match rb x.a with|some b=>b::JS L|none=>JS L):=λL=>by
             unfold JS;rw[List.filterMap_cons];cases rb x.a <;> rfl
           rw[ex] at hn ⊢
           cases hx:rb x.a with
           |none=>rw[hx] at hn;exact ih R1 i N hg hr hn
           |some k =>
             rw[hx] at hn;have:=ih R1 i (N++[k]) hg hr (by simpa using hn);simpa using this
   exact this R R' i (H.map HB.b) hg hs h.nd
 refine⟨f',{stp:=h.stp,old:=λk hk=>(hne k oM).trans (h.old k hk),val:=λk hk=>(hne k oM).trans (h.val k hk),ent:=h.ent.trans hF,res:=h.stab _ _ _ _ h.res hF (λ_ _=>rfl),stab:=h.stab,
               mi:=λk hk=>⟨(h.mi k hk).1,(hne k (λe=>hown.2.2 (e▸hk))).trans (h.mi k hk).2.1,(h.mi k hk).2.2⟩,
               blk:=h.blk,row:=λr hr=>h.row r (hsub.subset hr),nd:=(List.Sublist.append (List.Sublist.refl _) (hsub.filterMap _)).nodup h.nd,
               own:=λk hk=>by
                 have hk2:k∈CZ H R:=(List.Sublist.append (List.Sublist.refl (H.map (·.b))) (hsub.filterMap _)).subset hk;exact⟨(hne k (λe=>hbR (e▸hk))).trans (h.own k hk2).1,(h.own k hk2).2⟩,
               hnw:=h.hnw,rnw:=λr hr=>h.rnw r (hsub.subset hr),
               fro:=λx hx=>by
                 rcases List.mem_cons.1 hx with rfl|hx
                 · intro j v hj
                   have hj:xs[j]?=some v:=hj;obtain⟨hl,_⟩:=List.getElem?_eq_some_iff.1 hj;rcases hr.2 with ⟨h0,_⟩|⟨b',l,ha,hb,hnc,_,hll,ht⟩
                   · cases h0
                   · cases ha
                     have hxl:xs.length=n*size:=hr.1;have ht:l.take (n*size)=xs:=ht;refine⟨?_,?_⟩
                     · show 0+j<(if b=b then n*size else f b)
                       rw[if_pos rfl];omega
                     · show w.cell? ⟨b,0+j,none⟩=some v
                       rw[hb.cell,Nat.zero_add];rw[← ht,List.getElem?_take] at hj
                       split at hj
                       · exact hj
                       · cases hj
                 · exact (h.fro x hx).mono hF,
               fac:=λφ hφ=>h.mono φ hφ _ _ _ _ (h.fac φ hφ) hF,mono:=h.mono}⟩
end
def A2:List (World→Fq→Prop)→World→Fq→Prop
 | [],_,_=>True
 |φ::l,w,f=>φ w f∧A2 l w f
def Af:List (World→Fq→Prop)→Prop
 | []=>True
 |φ::l=>GC φ∧Af l
theorem A2.mem:∀{l:List (World→Fq→Prop)}{w:World}{f:Fq},A2 l w f→∀φ,φ∈l→φ w f
 | [],_,_,_,_,h=>by cases h
 |_::_,_,_,h,φ,hφ=>by
   rcases List.mem_cons.1 hφ with rfl|hφ
   · exact h.1
   · exact A2.mem h.2 φ hφ
theorem Af.mem:∀{l:List (World→Fq→Prop)},Af l→∀φ,φ∈l→GC φ
 | [],_,_,h=>by cases h
 |_::_,h,φ,hφ=>by
   rcases List.mem_cons.1 hφ with rfl|hφ
   · exact h.1
   · exact Af.mem h.2 φ hφ
def BW{α:Type}(val:α→Value)(q:α→Prop)(F':α→List (World→Fq→Prop))(w:World)(f:Fq)(v:Value)(w':World):Prop:=∃x f',v=val x∧q x∧CR (λ_=>False) w f w' f'∧A2 (F' x) w' f'
def Fv{α:Type}(val:α→Value)(q:α→Prop)(MI:Nat→Prop)(I':α→World→Fq→Prop)(F':α→List (World→Fq→Prop))(w:World)(f:Fq)(v:Value)(w':World):Prop:=∃x f',v=val x∧q x∧CR MI w f w' f'∧I' x w' f'∧A2 (F' x) w' f'
def Vl(w:World)(f:Fq):Prop:=∀b,w.heap.size≤b→f b=0
abbrev X0(w:World)(f:Fq):Cx:=⟨λ_=>False,λ_=>False,λ_ _=>True,w,f⟩
theorem C8{w:World}{f:Fq}{Fs:List (World→Fq→Prop)}(hv:Vl w f)(hF:A2 Fs w f)(hm:Af Fs):AW (X0 w f) w f [] [] [] Fs where
 stp:=MF.refl _ _
 old _ _:=rfl
 val:=hv
 ent:=J1.refl _ _
 res:=trivial
 stab _ _ _ _ _ _ _:=trivial
 mi _ h:=h.elim
 blk _ h:=by cases h
 row _ h:=by cases h
 nd:=List.nodup_nil
 own _ h:=by cases h
 hnw _ h:=by cases h
 rnw _ h:=by cases h
 fro _ h:=by cases h
 fac:=hF.mem
 mono:=hm.mem
theorem AW.vl{X:Cx}{w:World}{f:Fq}{H:List HB}{R:List RB}{B:List FB}{Fs:List (World→Fq→Prop)}(h:AW X w f H R B Fs):Vl w f:=h.val
def L1:List HB→Nat→Option (List HB)
 | [],_=>none
 |_::H,0=>some H
 |x::H,i+1=>match L1 H i with
   |some r=>some (x::r)
   |none=>none
theorem LD:∀{H H':List HB}{i:Nat},L1 H i=some H'→H'.Sublist H
 | [],_,_,h=>by cases h
 |_::_,_,0,h=>by cases h;exact List.sublist_cons_self _ _
 |x::H,H',i+1,h=>by
   unfold L1 at h
   cases hr:L1 H i with
   |none=>rw[hr] at h;cases h
   |some r=>rw[hr] at h;cases h;exact (LD hr).cons_cons x
theorem Lu:∀{H H':List HB}{i:Nat}{e:HB}{L:List Nat},Ig H i=some e→L1 H i=some H'→(H.map HB.b++L).Nodup→e.b∉H'.map HB.b++L
 | [],_,_,_,_,h,_,_=>by cases h
 |x::H,H',0,e,L,hg,hs,hn=>by
   cases hg;cases hs
   exact (List.nodup_cons.1 hn).1
 |x::H,H',i+1,e,L,hg,hs,hn=>by
   unfold L1 at hs
   cases hr:L1 H i with
   |none=>rw[hr] at hs;cases hs
   |some r =>
     rw[hr] at hs;cases hs;have hn':(x.b::(H.map HB.b++L)).Nodup:=hn;have ih:=Lu (H:=H) (L:=L) hg hr (List.nodup_cons.1 hn').2;intro hb;have hb':e.b∈x.b::(r.map HB.b++L):=hb;rcases List.mem_cons.1 hb' with h|h
     · exact (List.nodup_cons.1 hn').1 (by rw[← h];exact List.mem_append.2 (.inl (List.mem_map.2 ⟨e,Cc hg,rfl⟩)))
     · exact ih h
section
variable{X:Cx}{w w':World}{f:Fq}{H H':List HB}{R R':List RB}{B:List FB}{Fs:List (World→Fq→Prop)}
variable {b:Nat}
theorem AW.doneH{T:TypeId}(h:AW X w f H R B Fs)(hg:Ig H i=some ⟨b,l,T,true⟩)(hs:L1 H i=some H'):∃f',AW X w f' H' R (⟨b,0,l⟩::B) Fs:=by
 have hblk:=h.blk _ (Cc hg);have hown:=h.own b (List.mem_append.2 (.inl (List.mem_map.2 ⟨_,Cc hg,rfl⟩)));have hnw:=h.hnw _ (Cc hg) rfl;have hlt:b<w.heap.size:=hblk.lt
 let f':Fq:=λk=>if k=b then l.length else f k
 have hF:J1 w f w f':=λk=>by
   show f k≤(if k=b then l.length else f k)∧_
   split
   · rename_i hk;subst hk;rw[hown.1];exact⟨Nat.zero_le _,λo ho=>by omega⟩
   · exact⟨Nat.le_refl _,λ_ _=>rfl⟩
 have hne:∀k,k≠b→f' k=f k:=λk hk=>if_neg hk;have hsub:=LD hs;have hnd:(H.map HB.b++JS R).Nodup:=h.nd;have hbR:b∉CZ H' R:=Lu (L:=JS R) hg hs hnd;have hso:(CZ H' R).Sublist (CZ H R):=List.Sublist.append (hsub.map _) (List.Sublist.refl _);have hnw':X.w0.heap.size≤b:=hnw
 refine⟨f',{stp:=h.stp,old:=λk hk=>(hne k oM).trans (h.old k hk),val:=λk hk=>(hne k oM).trans (h.val k hk),ent:=h.ent.trans hF,res:=h.stab _ _ _ _ h.res hF (λ_ _=>rfl),stab:=h.stab,
               mi:=λk hk=>⟨(h.mi k hk).1,(hne k (λe=>hown.2.2 (e▸hk))).trans (h.mi k hk).2.1,(h.mi k hk).2.2⟩,
               blk:=λe he=>h.blk e (hsub.subset he),row:=h.row,nd:=hso.nodup h.nd,
               own:=λk hk=>⟨(hne k (λe=>hbR (e▸hk))).trans (h.own k (hso.subset hk)).1,(h.own k (hso.subset hk)).2⟩,
               hnw:=λe he=>h.hnw e (hsub.subset he),rnw:=h.rnw,
               fro:=λx hx=>by
                 rcases List.mem_cons.1 hx with rfl|hx
                 · intro j v hj
                   have hj:l[j]?=some v:=hj;obtain⟨hl,_⟩:=List.getElem?_eq_some_iff.1 hj;refine⟨?_,?_⟩
                   · show 0+j<(if b=b then l.length else f b)
                     rw[if_pos rfl];omega
                   · show w.cell? ⟨b,0+j,none⟩=some v
                     have hblk:AT w b l T:=hblk;rw[hblk.cell,Nat.zero_add,hj]
                 · exact (h.fro x hx).mono hF,
               fac:=λφ hφ=>h.mono φ hφ _ _ _ _ (h.fac φ hφ) hF,mono:=h.mono}⟩
end
section
variable{P:Program}{n:Nat}{Q:Bm}{ds:List Deferred}{X:Cx}{R R':List RB}{B:List FB}{Fs:List (World→Fq→Prop)}{tb:Eh}{fs:List Fr}{σ:Br}{H:List HB}
variable{all r:List Oper}{ty T:TypeId}{pos:String}{af:Array Edge}{g:Option (Nat×Bool)}{d:Nat}{x y:Operand}
theorem Rd{k:MU}(e:TypeId)(size:Nat)(h:AF P n Q ds X (⟨e,size,none,0,0,[]⟩::R) B Fs k fs σ H):AF P n Q ds X R B Fs k fs σ H:=λw f hM=>h w f (hM.rowNil e size)
variable {ag nw:Bool}{news vs xs z zl:List Value}{b bytes cs m o off:Nat}{a:Option Addr}{Ts e:TypeId}
theorem gD{k:MU}{size c:Nat}(i:Nat)(hg:OH R i=some ⟨e,size,some ⟨b,0,none⟩,c,m,xs⟩)(hs:Qt R i=some R')(h:AF P n Q ds X R' (⟨b,0,xs⟩::B) Fs k fs σ H):AF P n Q ds X R B Fs k fs σ H:=λw f hM=>by
 obtain⟨f',hM'⟩:=hM.done hg hs;exact h w f' hM'
theorem Dn{k:MU}{H':List HB}{T:TypeId}(i:Nat)(hg:Ig H i=some ⟨b,l,T,true⟩)(hs:L1 H i=some H')(h:AF P n Q ds X R (⟨b,0,l⟩::B) Fs k fs σ H'):AF P n Q ds X R B Fs k fs σ H:=λw f hM=>by
 obtain⟨f',hM'⟩:=hM.doneH hg hs;exact h w f' hM'
theorem DR{size:Nat}{c src:Nat}{R':Option Addr→Nat→List RB}(i j:Nat)(hg:gd all σ g=some true)(hd:Nat.blt d n=true)(hT:OF P T=some (e,size,bytes,zl))(hzl:Nat.beq zl.length size=true)(hsz:Nat.blt 0 size=true)
   (hs:ev σ x=some (.slice a k c)) (hx:ev σ y=some (.slice (some ⟨src,0,none⟩) 1 cs)) (hR:OH R i=some ⟨e,size,a,c,k,xs⟩) (hH:Ig H j=some ⟨src,news,Ts,nw⟩) (hl:Nat.beq news.length size=true) (h1:MK news=true)
   (hS:∀a' c',Su R i ⟨e,size,a',c',k+1,xs++news⟩=some (R' a' c')) (h47:(k+1)*bytes≤140737488355328) (h63:k+1≤9223372036854775807)
   (h:∀a' c',AF P n Q ds X (R' a' c') B Fs (.ops all r) fs (AL σ d (.slice a' (k+1) c')) H) :
   AF P n Q ds X R B Fs (.ops all (⟨some d,.call {callee:=.builtin .append,args:=#[x,y],argTypes:=#[T,T]},ty,pos,af,g⟩::r)) fs σ H:=λw f hM =>
 BG hg (Bg hd hT hzl hsz hs hx (hM.row _ (DU hR)) (hM.blk _ (Cc hH)) hl h1 h47 h63 λa' c' w' hr hG=>h a' c' w' f (hM.grow hR (hS a' c') hr hG))
theorem WN{size:Nat}{c src:Nat}{R':Option Addr→Nat→List RB}(i j:Nat)(hg:gd all σ g=some true)(hd:Nat.blt d n=true)(hT:OF P T=some (e,size,bytes,zl))(hzl:Nat.beq zl.length size=true)(hsz:Nat.blt 0 size=true)
   (hs:ev σ x=some (.slice a k c)) (hx:ev σ y=some (.slice (some ⟨src,off,none⟩) m cs)) (hR:OH R i=some ⟨e,size,a,c,k,xs⟩) (hB:nth B j=some ⟨src,off,news⟩) (hl:news.length=m*size) (h1:∀v∈news,v.oneCell'=true) (hm:0<m)
   (hS:∀a' c',Su R i ⟨e,size,a',c',k+m,xs++news⟩=some (R' a' c')) (h47:(k+m)*bytes≤140737488355328) (h63:k+m≤9223372036854775807)
   (h:∀a' c',AF P n Q ds X (R' a' c') B Fs (.ops all r) fs (AL σ d (.slice a' (k+m) c')) H) :
   AF P n Q ds X R B Fs (.ops all (⟨some d,.call {callee:=.builtin .append,args:=#[x,y],argTypes:=#[T,T]},ty,pos,af,g⟩::r)) fs σ H:=λw f hM=>by
 obtain⟨a',c',w',hr,hrw,hG⟩:=Wa (ty:=ty) hT hzl hsz hs hx (hM.row _ (DU hR)) (λj u hj=>by rw[ES];exact (hM.getB hB j u hj).2) hl h1 hm h47 h63;exact BG hg (Aa hd hr (h a' c' w' f (hM.grow hR (hS a' c') hrw hG)))
theorem xE(hg:gd all σ g=some true)(hd:Nat.blt d n=true)(hT:Kg P T=some (e,k))
   (h:∀b,AF P n Q ds X (⟨e,k,some ⟨b,0,none⟩,0,0,[]⟩::R) B Fs (.ops all r) fs (AL σ d (.slice (some ⟨b,0,none⟩) 0 0)) H) :
   AF P n Q ds X R B Fs (.ops all (⟨some d,.buildSlice T 0 #[],ty,pos,af,g⟩::r)) fs σ H:=λw f hM=>by
 obtain⟨i,hu,hi,rfl⟩:=H6 hT
 have hr:(Instr.buildSlice T 0 #[]).run P w=.ok (.slice (some ⟨w.heap.size,0,none⟩) 0 0) (w.alloc (.cells #[] e)):=by
   simp[Instr.buildSlice,run_underlying hu,sizeOf,typeInfo,hi,Instr.fill,newRow,show Array.range 0=#[] from rfl]
 refine BG hg (Aa hd (v:=.slice (some ⟨w.heap.size,0,none⟩) 0 0) (w':=w.alloc (.cells #[] e)) (λρ _ _ _ _ hρ=>by simp[execOp,hr]) ?_)
 have hM1:=(hM.rowNil e i.size).grow (i:=0) (a':=some ⟨w.heap.size,0,none⟩) (c':=0) (n':=0) (xs':=[]) (w':=w.alloc (.cells #[] e)) rfl rfl
   ⟨by simp,.inr ⟨w.heap.size,[],rfl,MO w [] _,Nat.le_refl _,Nat.zero_le _,by simp,by simp⟩⟩ ⟨rfl,rfl,rfl,by rw[H7];omega,λk hk _=>JB w _ k hk,.inr rfl⟩
 exact h w.heap.size _ f hM1
theorem SL{size:Nat}(hz:z.length=size)(hs:0<size)(m:Nat):madeCells z.toArray (m*size)=(Gy m z).toArray:=by
 rw[← QI size z hz hs m,← Oh m size z hz hs];rfl
theorem LK{size:Nat}(hz:z.length=size):∀m,(Gy m z).length=m*size
 |0=>by simp[Gy]
 |m+1=>by rw[Gy,List.length_append,LK hz m,hz,Nat.add_mul];omega
theorem vN{size:Nat}{x y:Operand}(hg:gd all σ g=some true)(hd:Nat.blt d n=true)(hT:OF P T=some (e,size,bytes,zl))(hzl:Nat.beq zl.length size=true)(hsz:Nat.blt 0 size=true)
   (hx:ev σ x=some (.int .i64 (m:Int))) (hy:ev σ y=some (.int .i64 (m:Int))) (hb:bytes*m≤281474976710656) (h63:m≤maxLen)
   (h:∀b,AF P n Q ds X (⟨e,size,some ⟨b,0,none⟩,m,m,Gy m zl⟩::R) B Fs (.ops all r) fs (AL σ d (.slice (some ⟨b,0,none⟩) m m)) H) :
   AF P n Q ds X R B Fs (.ops all (⟨some d,.makeSlice T x y,ty,pos,af,g⟩::r)) fs σ H:=λw f hM=>by
 unfold OF at hT
 split at hT
 · rename_i e' hu
   split at hT
   · rename_i i hi
     split at hT
     · rename_i z hz
       injection hT with hT
       obtain⟨rfl,rfl,rfl,rfl⟩:=by simpa using hT
       have hzl':z.cells.toList.length=i.size:=Nat.eq_of_beq_eq_true hzl;have hsz':0<i.size:=Nat.le_of_ble_eq_true hsz;have hm63:(m:Int)≤9223372036854775807:=by have:=h63;unfold maxLen at this;omega
       have hbI:(i.bytes:Int)*(m:Int)≤281474976710656:=by
         have:((i.bytes*m:Nat):Int)≤281474976710656:=oM;rwa[Int.natCast_mul] at this
       have hr:=run_make (P:=P) w T e' i z hu hi hz .i64 .i64 (m:Int) (m:Int) oM oM hbI hm63;simp only[Int.toNat_natCast] at hr
       have hc:madeCells z.cells (m*i.size)=(Gy m z.cells.toList).toArray:=by
         have:=SL (z:=z.cells.toList) hzl' hsz' m;simpa using this
       rw[hc] at hr;refine BG hg (Aa hd (v:=.slice (some ⟨w.heap.size,0,none⟩) m m) (w':=w.alloc (.cells (Gy m z.cells.toList).toArray e')) ?_ ?_)
       · intro ρ _ _ _ _ hρ
         simp[execOp,hρ _ _ hx,hρ _ _ hy,hr]
       · have hM1:=(hM.rowNil e' i.size).grow (i:=0) (a':=some ⟨w.heap.size,0,none⟩) (c':=m) (n':=m) (xs':=Gy m z.cells.toList) (w':=w.alloc (.cells (Gy m z.cells.toList).toArray e')) rfl rfl
           ⟨LK hzl' m,.inr ⟨w.heap.size,_,rfl,MO w _ _,Nat.le_refl _,h63,LK hzl' m,by rw[List.take_of_length_le (by rw[LK hzl' m];exact Nat.le_refl _)]⟩⟩
           ⟨rfl,rfl,rfl,by rw[H7];omega,λk hk _=>JB w _ k hk,.inr rfl⟩
         exact h w.heap.size _ f hM1
     · cases hT
   · cases hT
 · cases hT
theorem OS:∀(vs cs:List Value)(o k:Nat),(EJ cs o vs).take k=EJ (cs.take k) o vs
 | [],_,_,_=>rfl
 |v::vs,cs,o,k=>by rw[EJ,EJ,OS vs (cs.set o v) (o+1) k,List.take_set]
theorem vG{size c:Nat}{v:Value}(i:Nat)(xs':List Value)(hg:gd all σ g=some true)(hx:ev σ x=some (.pointer (some ⟨b,o,none⟩)))(hy:ev σ y=some v)(hv:Ih v=some vs)(hT:Bf P T=some (ag,k))(hk:Nat.beq vs.length k=true)(h1:MK vs=true)
   (hR:OH R i=some ⟨e,size,some ⟨b,0,none⟩,c,m,xs⟩) (hf:o+vs.length≤m*size) (he:EJ xs o vs=xs') (hS:Su R i ⟨e,size,some ⟨b,0,none⟩,c,m,xs'⟩=some R')
   (h:AF P n Q ds X R' B Fs (.ops all r) fs σ H):AF P n Q ds X R B Fs (.ops all (⟨none,.store T x y,ty,pos,af,g⟩::r)) fs σ H:=λw f hM=>by
 subst he;have hr:=hM.row _ (DU hR);rcases hr.2 with ⟨h0,_⟩|⟨b',l,ha,hb,hmc,hcm,hll,ht⟩
 · cases h0
 · cases ha
   have hxl:xs.length=m*size:=hr.1;have hll:l.length=c*size:=hll;have ht:l.take (m*size)=xs:=ht;have hms:m*size≤c*size:=Nat.mul_le_mul_right _ hmc;have hb:AT w b l e:=hb;refine BG hg (Kc (N0 hx hy (Hf hv) hT hk hb h1 oM) (h _ f (hM.grow hR hS ?_ ?_)))
   · refine⟨by rw[Gw];exact hxl,.inr ⟨b,EJ l o vs,rfl,setRow_heap w b _ _ e _ hb,hmc,hcm,by rw[Gw];exact hll,?_⟩⟩
     rw[OS,ht]
   · exact⟨rfl,rfl,rfl,by simp[World.setRow],λk hk hne=>setRow_other w b k _ (λe=>hne (by rw[e];rfl)),.inl rfl⟩
end
def Kp(Hk:List HB)(B:List FB)(J:World→Prop)(w:World):Prop:=(∀e,e∈Hk→AT w e.b e.l e.T)∧(∀e,e∈B→∀(j:Nat)(v:Value),e.l[j]?=some v→w.cell? ⟨e.b,e.off+j,none⟩=some v)∧J w
def MA(H:List HB):List Nat→Option (List HB)
 | []=>some []
 |i::l=>match Ig H i,MA H l with
   |some e,some r=>some (e::r)
   |_,_=>none
theorem Kq{H:List HB}:∀{ix:List Nat}{Hk:List HB},MA H ix=some Hk→∀e,e∈Hk→e∈H
 | [],_,h,e,he=>by cases h;cases he
 |i::ix,Hk,h,e,he=>by
   unfold MA at h
   split at h
   · rename_i e0 r h1 h2
     cases h
     rcases List.mem_cons.1 he with rfl|he
     · exact Cc h1
     · exact Kq h2 e he
   · cases h
variable {nw top:Bool}{f:Fq}{b id off:Nat}{T:TypeId}{w:World}
theorem AW.kp{X:Cx}{H Hk:List HB}{R:List RB}{B:List FB}{Fs:List (World→Fq→Prop)}{J:World→Prop}(h:AW X w f H R B Fs)(hs:∀e,e∈Hk→e∈H)(hJ:∀w f,X.I w f→CR X.M X.w0 X.f0 w f→J w):Kp Hk B J w :=
 ⟨λe he=>h.blk e (hs e he),λe he j v hj=>(h.fro e he j v hj).2,hJ w f h.res h.exm⟩
section
variable(P:Program)(n:Nat)(Q:Bm)(ds:List Deferred)(X:Cx)(R:List RB)(B:List FB)(Fs:List (World→Fq→Prop))(tb:Eh)(l:List Oper)(Hk:List HB)(B0:List FB)(J:World→Prop)
def D6(top:Bool)(t:OT)(σ:Br)(H:List HB):Prop:=∀w f,AW X w f H R B Fs→Vr P n l Q (Kp Hk B0 J) top t σ ds w
def Xg:Nat→List Nat→OT→Br→List HB→Prop
 |0,_,t,σ,H=>True→D6 P n Q ds X R B Fs l Hk B0 J true t σ H
 |m+1,hs,.rd i k,σ,H=>(match nth l i with
   |some ⟨some d,op,_,_,_,g⟩=>(match Nat.blt d n with
     |false=>False
     |true=>(match gd l σ g with
       |none=>False
       |some false=>Xg m hs k (AL σ d undef) H
       |some true=>(match op with
         |.load T x=>(match hs with
           | []=>False
           |h::hs=>(match ev σ x,mQ tb.ti T with
             |some (.pointer (some ⟨b,o,none⟩)),some (a,q)=>(match Nat.blt h 100 with
               |true=>(match Ig Hk h with
                 |some ⟨b',c,_,_⟩=>(match a with
                   |false=>(match nth c o with
                     |some v=>b'=b∧Xg m hs k (AL σ d v) H
                     |none=>False)
                   |true=>(match UZ c o q with
                     |some vs=>b'=b∧Xg m hs k (AL σ d (.agg ⟨vs⟩)) H
                     |none=>False))
                 |none=>False)
               |false=>(match hs with
                 | []=>False
                 |j::hs=>(match nth B0 (h-100) with
                   |some ⟨b',off,c⟩=>(match a with
                     |false=>(match nth c j with
                       |some v=>(b'=b∧off+j=o)∧Xg m hs k (AL σ d v) H
                       |none=>False)
                     |true=>(match UZ c j q with
                       |some vs=>(b'=b∧off+j=o)∧Xg m hs k (AL σ d (.agg ⟨vs⟩)) H
                       |none=>False))
                   |none=>False)))
             |_,_=>False))
         |.indexAddr T x y=>(match ev σ x,ev σ y,We tb.sl T with
           |some (.slice (some ⟨b,o,none⟩) len _),some (.int _ i),some (_,q)=>(0≤i∧i<len)∧Xg m hs k (AL σ d (.pointer (some ⟨b,o+i.toNat*q,none⟩))) H
           |_,_,_=>False)
         |.binOp .add T x y T'=>(match ev σ x,ev σ y with
           |some (.int .i64 a),some (.int .i64 b)=>QU (a+b)∧Xg m hs k (AL σ d (.int .i64 (a+b))) H
           |some (.string ⟨⟨a⟩⟩),some (.string ⟨⟨b⟩⟩)=>a.length+b.length≤9223372036854775807∧Xg m hs k (AL σ d (S (a++b))) H
           |_,_=>False)
         |.binOp .sub T x y T'=>(match ev σ x,ev σ y with
           |some (.int .i64 a),some (.int .i64 b)=>QU (a-b)∧Xg m hs k (AL σ d (.int .i64 (a-b))) H
           |_,_=>False)
         |op=>(match pv tb σ op with
           |some v=>Xg m hs k (AL σ d v) H
           |none=>False))))
   |_=>False)
 |_+1,_,_,_,_=>False
end
section
variable{P:Program}{n:Nat}{Q:Bm}{ds:List Deferred}{X:Cx}{R:List RB}{B:List FB}{Fs:List (World→Fq→Prop)}{tb:Eh}{l:List Oper}{Hk:List HB}{B0:List FB}{J:World→Prop}{σ:Br}{H:List HB}{fs:List Fr}
theorem Gm{S:World→Prop}{op:Op}{k:OT}{v:Value}(hi:nth l i=some ⟨some d,op,ty,pos,af,g⟩)(hd:Nat.blt d n=true)(hg:gd l σ g=some true)(hr:∀w,S w→AS P σ op ty w v w)
   (h:Vr P n l Q S true k (AL σ d v) ds w):Vr P n l Q S top (.rd i k) σ ds w:=λa ha =>
 ⟨_,v,(F5 l i).symm.trans hi,.inl ⟨Kn ha hg,λw hS=>hr w hS a.eval _ _ _ _ ha.ev⟩,h _ (ha.put hd v)⟩
theorem bH{S:World→Prop}{op:Op}{k:OT}(hi:nth l i=some ⟨some d,op,ty,pos,af,g⟩)(hd:Nat.blt d n=true)(hg:gd l σ g=some false)
   (h:Vr P n l Q S true k (AL σ d undef) ds w):Vr P n l Q S top (.rd i k) σ ds w:=λa ha =>
 ⟨_,undef,(F5 l i).symm.trans hi,.inr ⟨Kn ha hg,rfl⟩,h _ (ha.put hd undef)⟩
theorem Kp.blk{c:List Value}(h:Kp Hk B0 J w)(hg:Ig Hk i=some ⟨b,c,T,nw⟩):AT w b c T:=h.1 _ (Cc hg)
theorem Kp.cel{c:List Value}(h:Kp Hk B0 J w)(hg:nth B0 i=some ⟨b,off,c⟩):∀(j:Nat)(v:Value),c[j]?=some v→w.cell? ⟨b,off+j,none⟩=some v:=by
 rw[F5] at hg;exact h.2.1 _ (List.mem_of_getElem? hg)
theorem PF(ht:tb.Ok P):∀(m:Nat)(hs:List Nat)(t:OT)(σ:Br)(H:List HB),Xg P n Q ds X R B Fs tb l Hk B0 J m hs t σ H→D6 P n Q ds X R B Fs l Hk B0 J true t σ H
 |0,_,_,_,_,h=>h tQ
 |m+1,hs,.fin,σ,H,h=>h.elim
 |m+1,hs,.br _ _ _,σ,H,h=>h.elim
 |m+1,hs,.rd i k,σ,H,h=>by
   have ih:=PF ht m;intro w f hM;unfold Xg at h
   split at h
   · rename_i hi
     split at h
     · exact h.elim
     rename_i hd
     split at h
     · exact h.elim
     · rename_i hg
       exact bH hi hd hg (ih _ _ _ _ h w f hM)
     · rename_i hg
       split at h
       · split at h
         · exact h.elim
         · split at h
           · rename_i hx hT
             split at h
             · split at h
               · rename_i hH
                 split at h
                 · split at h
                   · rename_i v hv
                     obtain⟨rfl,h⟩:=h;rw[F5] at hv;exact Gm hi hd hg (λw hS=>Al hx (G7 ht.ti hT) (hS.blk hH) hv) (ih _ _ _ _ h w f hM)
                   · exact h.elim
                 · split at h
                   · rename_i vs hv
                     obtain⟨rfl,h⟩:=h;exact Gm hi hd hg (λw hS=>D0 hx (G7 ht.ti hT) (hS.blk hH) hv) (ih _ _ _ _ h w f hM)
                   · exact h.elim
               · exact h.elim
             · split at h
               · exact h.elim
               · split at h
                 · rename_i hB
                   split at h
                   · split at h
                     · rename_i v hv
                       obtain⟨⟨rfl,rfl⟩,h⟩:=h;rw[F5] at hv;exact Gm hi hd hg (λw hS=>JG hx (G7 ht.ti hT) (hS.cel hB _ v hv)) (ih _ _ _ _ h w f hM)
                     · exact h.elim
                   · split at h
                     · rename_i vs hv
                       obtain⟨⟨rfl,rfl⟩,h⟩:=h;obtain⟨hk,hg2⟩:=Qy hv;exact Gm hi hd hg (λw hS=>Lw hx (G7 ht.ti hT) hk (λj v hj=>by have:=hS.cel hB _ v (hg2 j v hj);rwa[← Nat.add_assoc] at this)) (ih _ _ _ _ h w f hM)
                     · exact h.elim
                 · exact h.elim
           · exact h.elim
       · split at h
         · rename_i hx hy hT
           exact Gm hi hd hg (λw _=>Ov hx hy (KZ ht.sl hT) h.1) (ih _ _ _ _ h.2 w f hM)
         · exact h.elim
       · split at h
         · rename_i hx hy;exact Gm hi hd hg (λw _=>Nh hx hy h.1) (ih _ _ _ _ h.2 w f hM)
         · rename_i hx hy;exact Gm hi hd hg (λw _=>Km hx hy h.1) (ih _ _ _ _ h.2 w f hM)
         · exact h.elim
       · split at h
         · rename_i hx hy;exact Gm hi hd hg (λw _=>Hx hx hy h.1) (ih _ _ _ _ h.2 w f hM)
         · exact h.elim
       · split at h
         · rename_i v hv;exact Gm hi hd hg (λw _=>QS ht hv) (ih _ _ _ _ h w f hM)
         · exact h.elim
   · exact h.elim
theorem AA{t:OT}(ht:tb.Ok P)(m:Nat)(hs:List Nat)(h:Xg P n Q ds X R B Fs tb l Hk B0 J m hs t σ H):D6 P n Q ds X R B Fs l Hk B0 J true t σ H:=PF ht m hs t σ H h
theorem U9(hpi:PI Q):∀fs:List Fr,PI (Oi P n Q fs)
 | []=>hpi
 |.sq _::fs=>U9 hpi fs
 |.bk _::fs=>U9 hpi fs
theorem Mx(J:World→Prop)(hJ:∀w f,X.I w f→CR X.M X.w0 X.f0 w f→J w)(ix:List Nat)(hm:P.follows .mixedOrders=true)(t:OT)(hk:MA H ix=some Hk)(hok:t.ok l.toArray true (Array.replicate l.length false)=true)(hev:t.even true l.length=true)(hsel:Region.noSelect l.toArray=true)(hpi:PI Q)
   (h:D6 P n (Oi P n Q fs) ds X R B Fs l Hk B J true t σ H):AF P n Q ds X R B Fs (.code (.region id l.toArray true)) fs σ H:=λw f hM=>by
 refine Ey hm (Kp Hk B J) t hok hev hsel (λw' hE hz=>?_) (U9 hpi fs);have hM':AW X w' f H R B Fs:=hM.call0 (CR.of_ext hE hM.val);exact⟨hM'.kp (Kq hk) hJ,h w' f hM'⟩
theorem B4(h:AF P n Q ds X R B Fs (.out .normal) fs σ H):D6 P n (Oi P n Q fs) ds X R B Fs l Hk B0 J true .fin σ H:=λw f hM=>BD (h w f hM)
theorem Ag{k o:OT}{x:Oper}(hi:nth l i=some x)(h:AF P n (Wh P n l Q (Kp Hk B0 J) k) ds X R B Fs (.ops l [x]) [] σ H)(h2:D6 P n Q ds X R B Fs l Hk B0 J false o σ H):D6 P n Q ds X R B Fs l Hk B0 J top (.br i k o) σ H :=
 λw f hM=>Am ((F5 l i).symm.trans hi) (h w f hM) (h2 w f hM)
theorem Aj:D6 P n Q ds X R B Fs l Hk B0 J false .fin σ H:=λ_ _ _=>Ae
theorem Bj{k:OT}(ix:List Nat)(hJ:∀w f,X.I w f→CR X.M X.w0 X.f0 w f→J w)(hk:MA H ix=some Hk)(hB:∀e,e∈B0→e∈B)(h:D6 P n Q ds X R B Fs l Hk B0 J true k σ H):AF P n (Wh P n l Q (Kp Hk B0 J) k) ds X R B Fs (.out .normal) [] σ H:=λw f hM =>
 ⟨⟨λe he=>hM.blk e (Kq hk e he),λe he j v hj=>(hM.fro e (hB e he) j v hj).2,hJ w f hM.res hM.exm⟩,h w f hM⟩
theorem D6.le{t:OT}(hl:Le σ' σ)(h:D6 P n Q ds X R B Fs l Hk B0 J top t σ' H):D6 P n Q ds X R B Fs l Hk B0 J top t σ H:=λw f hM a ha=>h w f hM a (ha.le hl)
theorem K3{t:OT}{b:Bool}(s:Nat)(hx:σ s=some (.bool b))(h1:b=true→D6 P n Q ds X R B Fs l Hk B0 J top t (AL σ s (.bool true)) H)(h2:b=false→D6 P n Q ds X R B Fs l Hk B0 J top t (AL σ s (.bool false)) H):D6 P n Q ds X R B Fs l Hk B0 J top t σ H:=by
 cases b with
 |true=>exact D6.le (AD (le_refl _) hx) (h1 rfl)
 |false=>exact D6.le (AD (le_refl _) hx) (h2 rfl)
theorem Ik{k:OT}{op:Op}{v:Value}(hi:nth l i=some ⟨some d,op,ty,pos,af,g⟩)(hd:Nat.blt d n=true)(hg:gd l σ g=some true)(hr:∀w,Kp Hk B0 J w→AS P σ op ty w v w)
   (h:D6 P n Q ds X R B Fs l Hk B0 J true k (AL σ d v) H):D6 P n Q ds X R B Fs l Hk B0 J true (.rd i k) σ H:=λw f hM=>Gm hi hd hg hr (h w f hM)
theorem BA{all:List Oper}{op:Op}{α:Type}{val:α→Value}{q:α→Prop}{F':α→List (World→Fq→Prop)}(hg:gd all σ g=some true)(hd:Nat.blt d n=true)(he:∀w,Enters P σ op ty w fid args)
   (hc:∀w f,AW X w f H R B Fs→BC P fid args w (BW val q F' w f)) (hm:∀x,Af (F' x))
   (h:∀x,q x→AF P n Q ds X R B (F' x++Fs) (.ops all r) fs (AL σ d (val x)) H):AF P n Q ds X R B Fs (.ops all (⟨some d,op,ty,pos,af,g⟩::r)) fs σ H :=
 xS hg hd he (λw f hM=>(hc w f hM).mono λv w' ⟨x,f',h1,h2,h3,h4⟩=>⟨x,f',h1,h2,h3,h4.mem⟩) (λx=>(hm x).mem) h
theorem OM{all:List Oper}{op:Op}{α:Type}{val:α→Value}{q:α→Prop}{I':α→World→Fq→Prop}{F':α→List (World→Fq→Prop)}
   (hg:gd all σ g=some true) (hd:Nat.blt d n=true) (he:∀w,Enters P σ op ty w fid args)
   (hc:∀w f,AW X w f H R B Fs→BS P fid args w (Fv val q X.MI I' F' w f) XX) (hst:∀x,GH X.MI (I' x)) (hm:∀x,Af (F' x))
   (hp:∀w f c w',AW X w f H R B Fs→XX c w'→Q.p c σ ds w')
   (h:∀x,q x→AF P n Q ds {X with I:=I' x} R B (F' x++Fs) (.ops all r) fs (AL σ d (val x)) H):AF P n Q ds X R B Fs (.ops all (⟨some d,op,ty,pos,af,g⟩::r)) fs σ H :=
 xG hg hd he (λw f hM=>(hc w f hM).mono (λv w' ⟨x,f',h1,h2,h3,h4,h5⟩=>⟨x,f',h1,h2,h3,h4,h5.mem⟩) λ_ _ h=>h) hst (λx=>(hm x).mem) hp h
end
end Go.SW
namespace Go.SW
open Go.RowKit Go.SP
structure oB(κ:Type)[BEq κ] where
 enc:κ→Value
 desc:TypeDesc
 same:∀a b,Instr.sameNow desc (enc a) (enc b)=some (a==b)
 chk:∀(P:Program)(k:TypeId)(w:World)(a:κ)(b:Bool),P.underlying k=some desc→(Instr.checkKey b 10000 k (enc a)).run P w=.ok () w
def CG:oB lU where
 enc:=S
 desc:=.string
 same a b:=by
   have:Instr.sameNow .string (S a) (S b)=some ((⟨a.toArray⟩:ByteArray)==⟨b.toArray⟩):=rfl;rw[this,beq_toListBytes,Pu,Pu]
 chk P k w a b hk:=K4 hk
def Fw:oB Int where
 enc n:=.int .i64 n
 desc:=.int .i64
 same a b:=by simp[Instr.sameNow]
 chk P k w a b hk:=by rw[Instr.checkKey];simp[run_underlying hk]
section
variable{κ:Type}[BEq κ](K:oB κ)
def Cm(w:World)(m:Nat)(l:List (κ×Value)):Prop:=∃(es:List MapEntry)(c:Nat),w.heap[m]?=some (.map es.toArray c)∧es.map (λe=>(e.key,e.val))=l.reverse.map λp=>(K.enc p.1,p.2)
def FL:List (κ×Value)→κ→Option Value
 | [],_=>none
 |(k,v)::l,x=>if x==k then some v else FL l x
def G4(P:Program)(T:TypeId):Option (TypeId×TypeId):=match P.underlying T with
 |some (.map k e)=>some (k,e)
 |_=>none
end
section
variable{κ:Type}[BEq κ]{K:oB κ}
theorem Cm.lt{w:World}{m:Nat}{l:List (κ×Value)}(h:Cm K w m l):m<w.heap.size:=by
 obtain⟨es,c,h1,_⟩:=h;rcases Nat.lt_or_ge m w.heap.size with h' | h'
 · exact h'
 · rw[Array.getElem?_eq_none h'] at h1;cases h1
variable {f:Fq}{b:Nat}{w':World}{I':World→Fq→Prop}
theorem Cm.heap{w:World}{m:Nat}{l:List (κ×Value)}(h:Cm K w m l)(he:w'.heap[m]?=w.heap[m]?):Cm K w' m l:=let ⟨es,c,h1,h2⟩:=h;⟨es,c,he.trans h1,h2⟩
def LV(x:κ):List (κ×Value)→Option Value
 | []=>none
 |(k,v)::l=>if x==k then some v else LV x l
theorem O5(x:κ):∀(es:List MapEntry)(l:List (κ×Value))(i:Nat),es.map (λe=>(e.key,e.val))=l.map (λp=>(K.enc p.1,p.2)) →
   (∀v,LV x l=some v→∃j,Instr.findNow K.desc (K.enc x) es i=some (some (j,v)))∧(LV x l=none→Instr.findNow K.desc (K.enc x) es i=some none)
 | [],[],i,_=>⟨λv h=>(by cases h),λ_=>rfl⟩
 | [],_::_,_,h=>by simp at h
 |_::_,[],_,h=>by simp at h
 |e::es,p::l,i,h=>by
   simp only[List.map_cons,List.cons.injEq,Prod.mk.injEq] at h;obtain⟨⟨hk,hv⟩,hr⟩:=h;have ih:=O5 x es l (i+1) hr;have hs:Instr.sameNow K.desc (K.enc x) e.key=some (x==p.1):=by rw[hk];exact K.same x p.1
   obtain⟨pk,pv⟩:=p;unfold Instr.findNow LV;rw[hs]
   cases hc:x==pk with
   |true=>exact⟨λv h=>⟨i,by simp at h;simp[hv,h]⟩,λh=>by simp at h⟩
   |false=>exact⟨λv h=>ih.1 v (by simpa using h),λh=>ih.2 (by simpa using h)⟩
theorem VU(x:κ):∀(a b:List (κ×Value)),LV x (a++b)=(LV x a).or (LV x b)
 | [],b=>by simp[LV]
 |(k,v)::a,b=>by
   simp only[List.cons_append,LV,VU x a b]
   split <;> rfl
def Lm[BEq κ]:List (κ×Value)→Prop
 | []=>True
 |(k,_)::l=>FL l k=none∧Lm l
variable[LawfulBEq κ]
theorem Qi(x:κ):∀l:List (κ×Value),Lm l→LV x l.reverse=FL l x
 | [],_=>rfl
 |(k,v)::l,h=>by
   rw[List.reverse_cons,VU,Qi x l h.2];simp only[LV,FL]
   cases hc:x==k with
   |true =>
     have:x=k:=by simpa using hc
     subst this;rw[h.1];rfl
   |false=>cases FL l x <;> simp
section
variable{P:Program}{n:Nat}{Q:Bm}{ds:List Deferred}{X:Cx}{R:List RB}{B:List FB}{Fs:List (World→Fq→Prop)}{fs:List Fr}{σ:Br}{H:List HB}{w:World}
variable{all r:List Oper}{ty T k e:TypeId}{pos:String}{af:Array Edge}{g:Option (Nat×Bool)}{d m:Nat}{x y z:Operand}{a:κ}{l:List (κ×Value)}
theorem Kr(h:G4 P T=some (k,e)):P.underlying T=some (.map k e):=by
 unfold G4 at h
 split at h
 · rename_i hu;cases h;exact hu
 · cases h
def zO(P:Program)(e:TypeId):Option Value:=match P.info? e with|some i=>i.zero|none=>none
def gC(P:Program)(e:TypeId)(z:Value):Prop:=zO P e=some z
theorem RT{z:Value}(h:gC P e z):∃i,P.info? e=some i∧i.zero=some z:=by
 unfold gC zO at h
 split at h
 · rename_i i hi;exact⟨i,hi,h⟩
 · cases h
theorem T6{z:Value}{ok:Bool}(hT:G4 P T=some (k,e))(hk:P.underlying k=some K.desc)(hz:gC P e z)(hm:Cm K w m l)(hd:Lm l) :
   (Instr.lookup T (.map (some m)) (K.enc a) ok).run P w=.ok (if ok then .tuple #[(FL l a).getD z,.bool (FL l a).isSome] else (FL l a).getD z) w:=by
 have hu:=Kr hT;obtain⟨es,c,h1,h2⟩:=hm;obtain⟨i,hi,hz⟩:=RT hz;have hget:(getObj m).run P w=.ok (.map es.toArray c) w:=by simp[getObj,Sem.run,h1]
 obtain⟨f1,f2⟩:=O5 (K:=K) a es l.reverse 0 h2;rw[Qi a l hd] at f1 f2;have hck:=λb=>K.chk P k w a b hk
 cases hc:FL l a with
 |some v =>
   obtain⟨j,hj⟩:=f1 v hc;simp only[Instr.lookup,Sem.run_bind,run_underlying hu,Result.andThen_ok,hget]
   cases ok <;> simp[hck,Instr.findKey,run_underlying hk,hj]
 |none =>
   have hj:=f2 hc;simp only[Instr.lookup,Sem.run_bind,run_underlying hu,Result.andThen_ok,hget]
   cases ok <;> simp[hck,Instr.findKey,run_underlying hk,hj,zeroValue,typeInfo,hi,hz]
theorem Y3{z:Value}{ok:Bool}(hx:ev σ x=some (.map (some m)))(hy:ev σ y=some (K.enc a))(hT:G4 P T=some (k,e))(hk:P.underlying k=some K.desc)(hz:gC P e z)(hm:Cm K w m l)(hd:Lm l) :
   AS P σ (.lookup T x y ok) ty w (if ok then .tuple #[(FL l a).getD z,.bool (FL l a).isSome] else (FL l a).getD z) w:=λρ _ _ _ _ hρ=>by
 simp only[execOp,hρ _ _ hx,hρ _ _ hy];rw[Sem.run_bind,T6 hT hk hz hm hd];rfl
theorem KQ{z v:Value}(hx:ev σ x=some (.map (some m)))(hy:ev σ y=some (K.enc a))(hT:G4 P T=some (k,e))(hk:P.underlying k=some K.desc)(hz:gC P e z)(hm:Cm K w m l)(hd:Lm l)(hl:FL l a=some v):AS P σ (.lookup T x y true) ty w (.tuple #[v,.bool true]) w:=by
 have:=Y3 (ty:=ty) (ok:=true) hx hy hT hk hz hm hd;rw[hl] at this;exact this
theorem Li{z:Value}(hx:ev σ x=some (.map (some m)))(hy:ev σ y=some (K.enc a))(hT:G4 P T=some (k,e))(hk:P.underlying k=some K.desc)(hz:gC P e z)(hm:Cm K w m l)(hd:Lm l)(hl:FL l a=none):AS P σ (.lookup T x y true) ty w (.tuple #[z,.bool false]) w:=by
 have:=Y3 (ty:=ty) (ok:=true) hx hy hT hk hz hm hd;rw[hl] at this;exact this
theorem NZ{z v:Value}(hx:ev σ x=some (.map (some m)))(hy:ev σ y=some (K.enc a))(hT:G4 P T=some (k,e))(hk:P.underlying k=some K.desc)(hz:gC P e z)(hm:Cm K w m l)(hd:Lm l)(hl:(FL l a).getD z=v):AS P σ (.lookup T x y false) ty w v w:=by
 have:=Y3 (ty:=ty) (ok:=false) hx hy hT hk hz hm hd;rw[← hl];exact this
theorem Xi{v:Value}(hT:G4 P T=some (k,e))(hk:P.underlying k=some K.desc)(hm:Cm K w m l)(hd:Lm l)(hn:FL l a=none):∃w',(Instr.mapUpdate T (.map (some m)) (K.enc a) v).run P w=.ok () w'∧Cm K w' m ((a,v)::l)∧Hh m w w':=by
 have hu:=Kr hT;obtain⟨es,c,h1,h2⟩:=id hm;have hj:=(O5 (K:=K) a es l.reverse 0 h2).2 (by rw[Qi a l hd];exact hn);have hget:(getObj m).run P w=.ok (.map es.toArray c) w:=by simp[getObj,Sem.run,h1]
 have hlt:=hm.lt;have hck:=λb=>K.chk P k w a b hk
 have hset:(setObj m (.map (es.toArray.push {key:=K.enc a,val:=v,born:=c}) (c+1))).run P w=.ok () {w with heap:=w.heap.setIfInBounds m (.map (es.toArray.push {key:=K.enc a,val:=v,born:=c}) (c+1))}:=by
   simp[setObj,Sem.run,h1]
 refine⟨{w with heap:=w.heap.setIfInBounds m (.map (es.toArray.push {key:=K.enc a,val:=v,born:=c}) (c+1))},?_,?_,?_⟩
 · simp only[Instr.mapUpdate,Sem.run_bind,run_underlying hu,Result.andThen_ok,hget]
   simp only[hck,Result.andThen_ok,Instr.findKey,Sem.run_bind,run_underlying hk,hj];simp only[Sem.run_pure,Result.andThen_ok];exact hset
 · refine⟨es++[{key:=K.enc a,val:=v,born:=c}],c+1,?_,?_⟩
   · simp[hlt]
   · simp[h2]
 · refine⟨rfl,rfl,rfl,by simp,λj hjm=>?_⟩
   show (w.heap.setIfInBounds m _)[j]?=_;rw[Array.getElem?_setIfInBounds_ne (λe=>hjm e.symm)]
theorem AW.chgI{w:World}(h:AW X w f H R B Fs)(hb:X.MI b)(hC:Hh b w w')(hI:I' w' f)(hst:GH X.MI I'):AW {X with I:=I' } w' f H R B Fs :=
 h.callI ⟨⟨hC.os,hC.tape,hC.output,by rw[hC.size];exact Nat.le_refl _,λk _ hm=>hC.block k (λe=>hm (e▸hb))⟩,λ_ _=>rfl,λk hk=>h.val k (by rw[hC.size] at hk;exact hk)⟩ hI hst
theorem aN{v:Value}(hg:gd all σ g=some true)(hx:ev σ x=some (.map (some m)))(hy:ev σ y=some (K.enc a))(hz:ev σ z=some v)(hT:G4 P T=some (k,e))(hk:P.underlying k=some K.desc)(hmi:X.MI m)(hd:Lm l)(hn:FL l a=none)
   (hm:∀w f,X.I w f→Cm K w m l) (hI:∀w f w',X.I w f→AW X w f H R B Fs→Hh m w w'→Cm K w' m ((a,v)::l)→I' w' f) (hst:GH X.MI I')
   (h:AF P n Q ds {X with I:=I' } R B Fs (.ops all r) fs σ H):AF P n Q ds X R B Fs (.ops all (⟨none,.mapUpdate T x y z,ty,pos,af,g⟩::r)) fs σ H:=λw f hM=>by
 obtain⟨w',h1,h2,h3⟩:=Xi (v:=v) hT hk (hm w f hM.res) hd hn;refine BG hg (Kc (w':=w') (λρ _ _ _ _ hρ=>?_) (h w' f (hM.chgI hmi h3 (hI w f w' hM.res hM h3 h2) hst)));simp only[execOp,hρ _ _ hx,hρ _ _ hy,hρ _ _ hz];rw[Sem.run_bind,h1];rfl
omit [LawfulBEq κ] in
theorem rY(hg:gd all σ g=some true)(hd:Nat.blt d n=true)
   (h:∀m,AF P n Q ds {X with MI:=λb=>X.MI b∨b=m,I:=λw f=>X.I w f∧Cm K w m []} R B Fs (.ops all r) fs (AL σ d (.map (some m))) H):AF P n Q ds X R B Fs (.ops all (⟨some d,.makeMap T none,ty,pos,af,g⟩::r)) fs σ H:=λw f hM=>by
 refine BG hg (Aa (v:=.map (some w.heap.size)) (w':=w.alloc (.map #[] 0)) hd (λρ _ _ _ _ hρ=>by simp[execOp,Instr.makeMap]) (h w.heap.size _ f ?_));have h1:AW X (w.alloc (.map #[] 0)) f H R B Fs:=hM.call0 (CR.of_ext (Kj w _) hM.val);have hnew:∀b,b∈CZ H R→b≠w.heap.size:=λb hb e=>Nat.lt_irrefl _ (e▸hM.lt hb)
 exact {h1 with
         res:=⟨h1.res,[],0,heap_alloc_new w _,rfl⟩,
         stab:=λw1 f1 w2 f2 hI hF hb=>⟨h1.stab w1 f1 w2 f2 hI.1 hF λb hm=>hb b (.inl hm),hI.2.heap (hb _ (.inr rfl))⟩,
         mi:=λb hb=>by
           rcases hb with hb|rfl
           · exact h1.mi b hb
           · exact⟨by rw[H7];omega,hM.val _ (Nat.le_refl _),.inl hM.stp.size⟩,
         own:=λb hb=>⟨(h1.own b hb).1,(h1.own b hb).2.1,λhm=>by
           rcases hm with hm|rfl
           · exact (h1.own b hb).2.2 hm
           · exact hnew _ hb rfl⟩}
end
end
end Go.SW
namespace Go.SW
def mV(P:Program)(T T':TypeId):Bool:=match P.underlying T,P.underlying T' with
 |some _,some .string=>true
 |_,_=>false
end Go.SW
namespace Go.SP
inductive Ty where
 |nil
 |var (n:Int) (r:Ty)
 |con (tx:lU) (k r:Ty)
inductive T1 where
 |var (n:Int)
 |con (tx:lU) (k:Ty)
def T1.cons:T1→Ty→Ty
 |.var n,r=>.var n r
 |.con tx k,r=>.con tx k r
def T1.one(t:T1):Ty:=t.cons .nil
def Ty.app:Ty→Ty→Ty
 |.nil,y=>y
 |.var n r,y=>.var n (r.app y)
 |.con tx k r,y=>.con tx k (r.app y)
def Ty.len:Ty→Nat
 |.nil=>0
 |.var _ r=>r.len+1
 |.con _ _ r=>r.len+1
def Ty.get:Ty→Nat→Option T1
 |.nil,_=>none
 |.var n _,0=>some (.var n)
 |.con tx k _,0=>some (.con tx k)
 |.var _ r,i+1=>r.get i
 |.con _ _ r,i+1=>r.get i
def Ty.snoc(a:Ty)(t:T1):Ty:=a.app t.one
def Ty.hd:Ty→T1
 |.nil=>.var 0
 |.var n _=>.var n
 |.con tx k _=>.con tx k
abbrev BX:=List (Int×T1)
def Ce:BX→Int→Option T1
 | [],_=>none
 |(k,t)::s,n=>if k==n then some t else Ce s n
def Hq(b:BX):Nat→T1→T1
 |0,t=>t
 |k+1,t=>match t with
   |.con tx ks=>.con tx ks
   |.var n=>match Ce b n with
     |none=>.var n
     |some t'=>Hq b k t'
def Ai(b:BX)(t:T1):T1:=Hq b (b.length+1) t
def FG(b:BX):Nat→Ty→Bool
 |_,.nil=>true
 |0,_=>false
 |k+1,.var n r=>match Ai b (.var n) with
   |.var _=>FG b k r
   |.con _ ks=>FG b k (ks.app r)
 |k+1,.con _ ks r=>FG b k (ks.app r)
def FD(b:BX)(t:T1):Bool:=FG b 1000 t.one
def Dg(b:BX)(x:Int):Nat→Ty→Bool
 |_,.nil=>true
 |0,_=>true
 |k+1,.var n r=>match Ai b (.var n) with
   |.var m=>!(m==x)&&Dg b x k r
   |.con _ ks=>Dg b x k (ks.app r)
 |k+1,.con _ ks r=>Dg b x k (ks.app r)
def CE(b:BX)(n:Int)(t:T1):Except Int BX :=
 if FD b t then (if Dg b n 1000 t.one then .ok ((n,t)::b) else .error 11) else .error 4
def Jl(f:BX→Ty→Ty→Except Int BX)(b:BX)(x y:T1)(r q:Ty):Except Int BX :=
 match x,y with
 |.var n,.var m=>if n==m then f b r q else (match CE b n (.var m) with|.error e=>.error e|.ok b'=>f b' r q)
 |.var n,.con ty kb=>(match CE b n (.con ty kb) with|.error e=>.error e|.ok b'=>f b' r q)
 |.con tx ka,.var m=>(match CE b m (.con tx ka) with|.error e=>.error e|.ok b'=>f b' r q)
 |.con tx ka,.con ty kb=>if !(tx==ty)||(ka.len:Int) != kb.len then .error 11 else f b (ka.app r) (kb.app q)
def Ty.tl:Ty→Ty
 |.nil=>.nil
 |.var _ r=>r
 |.con _ _ r=>r
def IL:Nat→BX→Ty→Ty→Except Int BX
 |_,b,.nil,_=>.ok b
 |0,_,_,_=>.error 4
 |k+1,b,.var n r,y=>Jl (IL k) b (Ai b (.var n)) (Ai b y.hd) r y.tl
 |k+1,b,.con tx ka r,y=>Jl (IL k) b (.con tx ka) (Ai b y.hd) r y.tl
def FT(b:BX)(x y:T1):Except Int BX:=IL 10000 b x.one y.one
def AP(b:BX):Nat→Ty→Ty
 |_,.nil=>.nil
 |0,_=>.nil
 |k+1,.var n r=>match Ai b (.var n) with
   |.var m=>.var m (AP b k r)
   |.con tx ks=>.con tx (AP b k ks) (AP b k r)
 |k+1,.con tx ks r=>.con tx (AP b k ks) (AP b k r)
def CL(b:BX)(t:T1):Option T1:=if FD b t then some (AP b 1000 t.one).hd else none
def CW:Ty→List Int→List Int
 |.nil,s=>s
 |.var n r,s=>CW r (if s.contains n then s else s++[n])
 |.con _ k r,s=>CW r (CW k s)
def Aq(t:T1):List Int:=CW t.one []
def DS:List Int→Int→Option Nat
 | [],_=>none
 |k::l,n=>if k==n then some 0 else (DS l n).map (· + 1)
def DX(l:List Int)(by_:Ty):Ty→Ty
 |.nil=>.nil
 |.var n r=>match (DS l n).bind by_.get with
   |some t=>t.cons (DX l by_ r)
   |none=>.var n (DX l by_ r)
 |.con tx k r=>.con tx (DX l by_ k) (DX l by_ r)
def C2(t:T1)(l:List Int)(by_:Ty):T1:=(DX l by_ t.one).hd
def bI:lU:=[105,110,116]
def bF:lU:=[102,108,111,97,116]
def bS:lU:=[115,116,114,105,110,103]
def bU:lU:=[117,110,105,116]
def bB:lU:=[98,111,111,108]
def bX:lU:=[101,120,110]
def Dv:lU:=[45,62]
def SI:lU:=[116,117,112,108,101]
def Mg:lU:=[114,101,102]
def Du:lU:=[112,114,101,102]
def c0(tx:lU):T1:=.con tx .nil
def HO:Ty→T1
 |.nil=>.var 0
 |.var n .nil=>.var n
 |.con tx k .nil=>.con tx k
 |.var n r=>.con Dv (.var n (HO r).one)
 |.con tx k r=>.con Dv (.con tx k (HO r).one)
structure Mk where
 args:Ty
 out:T1
 vars:List Int
structure CS where
 sol:BX
 fresh:Int
 cons:List (lU×Mk)
 datas:List (lU×Int)
 roots:List lU
 vars:Int
structure Bd where
 name:lU
 t:T1
 all:List Int
abbrev Bt:=List Bd
abbrev Er:=Int×Int×Int
abbrev RI(α:Type):=Except Er α
def Cd{α:Type}:List (lU×α)→lU→Option α
 | [],_=>none
 |(k,v)::l,n=>if k==n then some v else Cd l n
def AB(s:CS):T1×CS:=(.var (s.fresh+1),{s with fresh:=s.fresh+1})
def FJ(s:CS)(a b:T1)(ln co:Int):RI CS:=match FT s.sol a b with
 |.error e=>.error (ln,co,e)
 |.ok m=>.ok {s with sol:=m}
def Fh(s:CS)(t:T1)(ln co:Int):RI T1:=match CL s.sol t with
 |none=>.error (ln,co,4)
 |some f=>.ok f
def BB(s:CS):Bt→List Int
 | []=>[]
 |b::e=>(match CL s.sol b.t with
   |none=>[]
   |some f=>(Aq f).filter λv=>!b.all.contains v)++BB s e
def GL(s:CS)(e:Bt)(name:lU)(t:T1)(value:Bool)(ln co:Int):RI Bt :=
 if value then (match Fh s t ln co with
   |.error x=>.error x
   |.ok f=>.ok (⟨name,f,(Aq f).filter λv=>!(BB s e).contains v⟩::e))
 else .ok (⟨name,t,[]⟩::e)
def B2:List Int→CS→Ty×CS
 | [],s=>(.nil,s)
 |_::l,s=>((AB s).1.cons (B2 l (AB s).2).1,(B2 l (AB s).2).2)
def KG(s:CS)(tx:lU)(k:Nat)(ln co:Int):RI (Ty×T1×CS):=match Cd s.cons tx with
 |none=>.error (ln,co,11)
 |some m=>if (m.args.len:Int)==k then .ok (DX m.vars (B2 m.vars s).1 m.args,C2 m.out m.vars (B2 m.vars s).1,(B2 m.vars s).2) else .error (ln,co,11)
def Ix:Bt→lU→Option Bd
 | [],_=>none
 |b::e,n=>if b.name==n then some b else Ix e n
def G3(s:CS)(e:Bt)(tx:lU)(ln co:Int):RI (T1×CS):=match Ix e tx with
 |none=>.error (ln,co,11)
 |some b=>match Fh s b.t ln co with
   |.error x=>.error x
   |.ok f =>
     let vs:=(Aq f).filter λv=>b.all.contains v
     .ok (C2 f vs (B2 vs s).1,(B2 vs s).2)
def Vd(f:Int→Nd→Bool):Nd→Bool
 |.nil=>true
 |.cons op _ _ _ _ k r=>f op k&&Vd f r
def C0:Nat→Int→Nd→Bool
 |0,_,_=>false
 |n+1,op,kids =>
   if op==1||op==2||op==3||op==4||op==5||op==7 then true
   else if op==6||op==13 then Vd (C0 n) kids else false
abbrev Ly:=CS→Bt→Int→Int→Int→lU→Int→Nd→RI (T1×CS)
def Fi(f:Ly)(e:Bt):CS→Nd→RI (Ty×CS)
 |s,.nil=>.ok (.nil,s)
 |s,.cons op ln co tx nm k r=>match f s e op ln co tx nm k with
   |.error x=>.error x
   |.ok (t,s1)=>match Fi f e s1 r with
     |.error x=>.error x
     |.ok (l,s2)=>.ok (t.cons l,s2)
def HQ(f:Ly)(e:Bt):CS→Ty→Nd→RI CS
 |s,a,.cons op ln co tx nm k r=>match f s e op ln co tx nm k with
   |.error x=>.error x
   |.ok (t,s1)=>match FJ s1 a.hd t ln co with
     |.error x=>.error x
     |.ok s2=>HQ f e s2 a.tl r
 |s,_,.nil=>.ok s
def Kb(f:Ly)(e:Bt):CS→T1→Nd→RI (T1×CS)
 |s,t,.nil=>.ok (t,s)
 |s,t,.cons op ln co tx nm k r=>match f s e op ln co tx nm k with
   |.error x=>.error x
   |.ok (a,s1)=>match FJ (AB s1).2 t (.con Dv (a.cons (AB s1).1.one)) ln co with
     |.error x=>.error x
     |.ok s2=>Kb f e s2 (AB s1).1 r
def FO:CS→Bt→Nd→Ty×Bt×CS
 |s,e,.nil=>(.nil,e,s)
 |s,e,.cons _ _ _ _ _ _ .nil=>(.nil,e,s)
 |s,e,.cons op _ _ tx _ _ r =>
   let e1:=if op==22 then ⟨tx,(AB s).1,[]⟩::e else e
   let (l,e2,s2):=FO (AB s).2 e1 r
   ((AB s).1.cons l,e2,s2)
def Nd.last:Nd→Option N
 |.nil=>none
 |.cons op ln co tx nm k .nil=>some ⟨op,ln,co,tx,nm,k⟩
 |.cons _ _ _ _ _ _ r=>r.last
def Ty.last:Ty→T1
 |.nil=>.var 0
 |.var n .nil=>.var n
 |.con tx k .nil=>.con tx k
 |.var _ r=>r.last
 |.con _ _ r=>r.last
abbrev Nr:=CS→Bt→Int→Int→Int→lU→Int→Nd→RI (T1×Bt×CS)
def HV(f:Nr):CS→Bt→Ty→Nd→RI (Bt×CS)
 |s,e,_,.nil=>.ok (e,s)
 |s,e,a,.cons op ln co tx nm k r=>match f s e op ln co tx nm k with
   |.error x=>.error x
   |.ok (q,e1,s1)=>match FJ s1 a.hd q ln co with
     |.error x=>.error x
     |.ok s2=>HV f s2 e1 a.tl r
def GK(f:Nr):CS→Bt→Nd→RI (Ty×Bt×CS)
 |s,e,.nil=>.ok (.nil,e,s)
 |s,e,.cons op ln co tx nm k r=>match f s e op ln co tx nm k with
   |.error x=>.error x
   |.ok (q,e1,s1)=>match GK f s1 e1 r with
     |.error x=>.error x
     |.ok (l,e2,s2)=>.ok (q.cons l,e2,s2)
def DF(f:Nr)(s:CS)(e:Bt)(op ln co:Int)(tx:lU)(kids:Nd):RI (T1×Bt×CS) :=
 if op==21 then .ok ((AB s).1,e,(AB s).2)
 else if op==22 then .ok ((AB s).1,⟨tx,(AB s).1,[]⟩::e,(AB s).2)
 else if op==23 then .ok (c0 bI,e,s)
 else if op==24 then .ok (c0 bS,e,s)
 else if op==25 then .ok (c0 bU,e,s)
 else if op==26 then (match KG s tx kids.len ln co with
   |.error x=>.error x
   |.ok (args,out,s1)=>match HV f s1 e args kids with
     |.error x=>.error x
     |.ok (e2,s2)=>.ok (out,e2,s2))
 else if op==27 then (match GK f s e kids with
   |.error x=>.error x
   |.ok (l,e2,s2)=>.ok (.con SI l,e2,s2))
 else .ok (.var 0,e,s)
def CF:Nat→Nr
 |0,_,_,_,ln,co,_,_,_=>.error (ln,co,11)
 |n+1,s,e,op,ln,co,tx,_,kids=>match DF (CF n) s e op ln co tx kids with
   |.error x=>.error x
   |.ok (t,e1,s1)=>match Fh s1 t ln co with
     |.error x=>.error x
     |.ok _=>.ok (t,e1,s1)
def EA(n:Nat)(f:Ly)(e:Bt)(pt:T1):CS→Option T1→Nd→RI (T1×CS)
 |s,t,.nil=>.ok (t.getD (.var 0),s)
 |s,t,.cons _ _ _ _ _ ks r=>match ks with
   |.cons op ln co tx nm pk (.cons bop bln bco btx bnm bk _)=>(match CF n s e op ln co tx nm pk with
     |.error x=>.error x
     |.ok (q,inner,s1)=>match FJ s1 pt q ln co with
       |.error x=>.error x
       |.ok s2=>match f s2 inner bop bln bco btx bnm bk with
         |.error x=>.error x
         |.ok (rt,s3)=>match t with
           |some t0=>(match FJ s3 t0 rt bln bco with
             |.error x=>.error x
             |.ok s4=>EA n f e pt s4 (some t0) r)
           |none=>EA n f e pt s3 (some rt) r)
   |_=>.ok (t.getD (.var 0),s)
def Iq(f:Ly)(s:CS)(e:Bt)(ln co:Int)(tx:lU)(op0 ln0 co0:Int)(tx0:lU)(nm0:Int)(k0:Nd):RI (T1×CS) :=
 match f (AB s).2 (⟨tx,(AB s).1,[]⟩::e) op0 ln0 co0 tx0 nm0 k0 with
 |.error x=>.error x
 |.ok (t,s1)=>match FJ s1 (AB s).1 t ln co with
   |.error x=>.error x
   |.ok s2=>.ok (t,s2)
def Bb(n:Nat)(f:Ly)(s:CS)(e:Bt)(op ln co:Int)(tx:lU)(kids:Nd):RI (T1×CS) :=
 if op==1 then .ok (c0 bI,s)
 else if op==2 then .ok (c0 bF,s)
 else if op==3 then .ok (c0 bS,s)
 else if op==4 then .ok (c0 bU,s)
 else if op==5 then G3 s e tx ln co
 else if op==6 then (match KG s tx kids.len ln co with
   |.error x=>.error x
   |.ok (args,out,s1)=>match HQ f e s1 args kids with
     |.error x=>.error x
     |.ok s2=>.ok (out,s2))
 else if op==7 then (match kids.last with
   |none=>.ok (.var 0,s)
   |some b =>
     let p:=FO s e kids
     match f p.2.2 p.2.1 b.op b.ln b.co b.tx b.nm b.kids with
     |.error x=>.error x
     |.ok (t,s1)=>.ok (HO (p.1.snoc t),s1))
 else if op==8 then (match kids with
   |.nil=>.ok (.var 0,s)
   |.cons o l c x m k r=>match f s e o l c x m k with
     |.error x=>.error x
     |.ok (t,s1)=>Kb f e s1 t r)
 else if op==9 then (match kids with
   |.cons o l c x m k (.cons o2 l2 c2 x2 m2 k2 _)=>(match f s e o l c x m k with
     |.error x=>.error x
     |.ok (t,s1)=>match (if tx==[95] then .ok e else GL s1 e tx t (C0 (n+1) o k) ln co) with
       |.error x=>.error x
       |.ok e1=>f s1 e1 o2 l2 c2 x2 m2 k2)
   |_=>.ok (.var 0,s))
 else if op==10 then (match kids with
   |.cons o l c x m k (.cons o2 l2 c2 x2 m2 k2 _)=>(match Iq f s e ln co tx o l c x m k with
     |.error x=>.error x
     |.ok (t,s1)=>match GL s1 e tx t true ln co with
       |.error x=>.error x
       |.ok e1=>f s1 e1 o2 l2 c2 x2 m2 k2)
   |_=>.ok (.var 0,s))
 else if op==11 then (match kids with
   |.cons o l c x m k (.cons o2 l2 c2 x2 m2 k2 (.cons o3 l3 c3 x3 m3 k3 _))=>(match f s e o l c x m k with
     |.error x=>.error x
     |.ok (t,s1)=>match FJ s1 (c0 bB) t l c with
       |.error x=>.error x
       |.ok s2=>match f s2 e o2 l2 c2 x2 m2 k2 with
         |.error x=>.error x
         |.ok (t2,s3)=>match f s3 e o3 l3 c3 x3 m3 k3 with
           |.error x=>.error x
           |.ok (t3,s4)=>match FJ s4 t2 t3 l3 c3 with
             |.error x=>.error x
             |.ok s5=>.ok (t2,s5))
   |_=>.ok (.var 0,s))
 else if op==12 then (match Fi f e s kids with
   |.error x=>.error x
   |.ok (l,s1)=>.ok (l.last,s1))
 else if op==13 then (match Fi f e s kids with
   |.error x=>.error x
   |.ok (l,s1)=>.ok (.con SI l,s1))
 else if op==14 then (match kids with
   |.nil=>.ok (.var 0,s)
   |.cons o l c x m k r=>match f s e o l c x m k with
     |.error x=>.error x
     |.ok (t,s1)=>EA n f e t s1 none r)
 else if op==15 then (match kids with
   |.nil=>.ok (.var 0,s)
   |.cons o l c x m k r=>match f s e o l c x m k with
     |.error x=>.error x
     |.ok (t,s1)=>EA n f e (c0 bX) s1 (some t) r)
 else if op==16 then (match kids with
   |.nil=>.ok (.var 0,s)
   |.cons o l c x m k _=>match f s e o l c x m k with
     |.error x=>.error x
     |.ok (t,s1)=>match FJ s1 (c0 bX) t l c with
       |.error x=>.error x
       |.ok s2=>.ok (AB s2))
 else (match kids with
   |.nil=>.ok (.var 0,s)
   |.cons o l c x m k _=>f s e o l c x m k)
def BP:Nat→Ly
 |0,_,_,_,ln,co,_,_,_=>.error (ln,co,11)
 |n+1,s,e,op,ln,co,tx,_,kids=>match Bb n (BP n) s e op ln co tx kids with
   |.error x=>.error x
   |.ok (t,s1)=>match Fh s1 t ln co with
     |.error x=>.error x
     |.ok _=>.ok (t,s1)
def HC:lU:=[32,105,110,116,32,102,108,111,97,116,32,115,116,114,105,110,103,32,117,110,105,116,32,98,111,111,108,32,101,120,110,32]
def PW:lU:=[32,116,117,112,108,101,32,114,101,102,32,112,114,101,102,32]
def GZ(datas:List (lU×Int))(vars:List (lU×T1)):Nd→RI Ty
 |.nil=>.ok .nil
 |.cons op ln co tx _ kids r =>
   let one:RI T1:=if op==31 then (match Cd vars tx with
       |some t=>.ok t
       |none=>.error (ln,co,11))
     else if (if DP HC ([32]++tx++[32]) then (kids.len:Int)==0
         else if tx==Dv then (kids.len:Int)==2
         else if DP PW ([32]++tx++[32]) then true
         else match Cd datas tx with|some c=>c==(kids.len:Int)|none=>false)
       then (match GZ datas vars kids with|.error x=>.error x|.ok k=>.ok (.con tx k))
       else .error (ln,co,11)
   match one with
   |.error x=>.error x
   |.ok t=>match GZ datas vars r with
     |.error x=>.error x
     |.ok l=>.ok (t.cons l)
def F4(ln co:Int):Nd→Int→List (lU×T1)→Ty→List Int→RI (Int×List (lU×T1)×Ty×List Int)
 |.nil,v,m,self,nums=>.ok (v,m,self,nums)
 |.cons op _ _ tx _ _ r,v,m,self,nums =>
   if op==31 then (if (Cd m tx).isSome then .error (ln,co,11) else F4 ln co r (v-1) ((tx,.var (v-1))::m) (self.snoc (.var (v-1))) (nums++[v-1]))
   else F4 ln co r v m self nums
def EH(datas:List (lU×Int))(m:List (lU×T1))(out:T1)(nums:List Int):Nd→List (lU×Mk)→RI (List (lU×Mk))
 |.nil,c=>.ok c
 |.cons op ln co tx _ kids r,c =>
   if op==42 then (if (Cd c tx).isSome then .error (ln,co,11) else match GZ datas m kids with
     |.error x=>.error x
     |.ok args=>EH datas m out nums r ((tx,⟨args,out,nums⟩)::c))
   else EH datas m out nums r c
def Jv(s:CS)(ln co:Int)(tx:lU)(kids:Nd):RI CS :=
 if (Cd s.datas tx).isSome||DP HC ([32]++tx++[32]) then .error (ln,co,11)
 else match F4 ln co kids s.vars [] .nil [] with
   |.error x=>.error x
   |.ok (v,m,self,nums) =>
     let datas:=(tx,(nums.length:Int))::s.datas
     match EH datas m (.con tx self) nums kids s.cons with
     |.error x=>.error x
     |.ok cons=>.ok {s with datas:=datas,cons:=cons,vars:=v}
def Ej(s:CS)(e:Bt)(op ln co:Int)(tx:lU)(kids:Nd):RI (Option (lU×T1)×Bt×CS) :=
 if op==41 then (match Jv s ln co tx kids with
   |.error x=>.error x
   |.ok s1=>.ok (none,e,s1))
 else match kids with
   |.nil=>.ok (some (tx,.var 0),e,s)
   |.cons o l c x m k r =>
     if op==43 then (if s.roots.contains tx then .error (ln,co,11) else match GZ s.datas [] (.cons o l c x m k .nil) with
         |.error x=>.error x
         |.ok w=>match r with
           |.nil=>.ok (some (tx,.var 0),e,s)
           |.cons o2 l2 c2 x2 m2 k2 _=>match BP (k2.size+1) {s with roots:=tx::s.roots} e o2 l2 c2 x2 m2 k2 with
             |.error x=>.error x
             |.ok (t2,s1)=>match FJ s1 w.hd t2 ln co with
               |.error x=>.error x
               |.ok s2=>.ok (some (tx,.con Du w),⟨tx,.con Du w,[]⟩::e,s2))
     else if op==44 then (match BP (k.size+1) s e o l c x m k with
       |.error x=>.error x
       |.ok (t,s1)=>match GL s1 e tx t (C0 (k.size+1) o k) ln co with
         |.error x=>.error x
         |.ok e1=>.ok (some (tx,t),e1,s1))
     else if op==45 then (match Iq (BP (k.size+1)) s e ln co tx o l c x m k with
       |.error x=>.error x
       |.ok (t,s1)=>match GL s1 e tx t true ln co with
         |.error x=>.error x
         |.ok e1=>.ok (some (tx,t),e1,s1))
     else (match BP (k.size+1) s e o l c x m k with
       |.error x=>.error x
       |.ok (t,s1)=>.ok (some ([],t),e,s1))
def Gr:CS→Bt→Nd→List (lU×T1)→RI (List (lU×T1)×CS)
 |s,_,.nil,out=>.ok (out,s)
 |s,e,.cons op ln co tx _ k r,out=>match Ej s e op ln co tx k with
   |.error x=>.error x
   |.ok (none,e1,s1)=>Gr s1 e1 r out
   |.ok (some b,e1,s1)=>Gr s1 e1 r (out++[b])
def Uq:Nat→Nat→lU
 |0,_=>[]
 |k+1,n=>if n<10 then [UInt8.ofNat (48+n)] else Uq k (n / 10)++[UInt8.ofNat (48+n % 10)]
def Ec(i:Nat):lU:=[39,UInt8.ofNat (97+i % 26)]++(if i<26 then [] else Uq 20 (i / 26))
def DW(vs:List Int):Ty→lU
 |.nil=>[]
 |.var n r=>32::((match DS vs n with|some i=>Ec i|none=>[])++DW vs r)
 |.con tx .nil r=>32::(tx++DW vs r)
 |.con tx k r=>32::([40]++tx++DW vs k++[41]++DW vs r)
def M8(t:T1):lU:=(DW (Aq t) t.one).drop 1
def Lh(s:CS):List (lU×T1)→RI (List (lU×lU))
 | []=>.ok []
 |(n,t)::l=>match Fh s t 0 0 with
   |.error x=>.error x
   |.ok f=>match Lh s l with
     |.error x=>.error x
     |.ok r=>.ok ((n,M8 f)::r)
def aI:Int := -1
def lM:List (lU×Ty) :=
 let n:=c0 bI;let f:=c0 bF;let s:=c0 bS;let b:=c0 bB;let u:=c0 bU
 let a:=T1.var aI;let r:=T1.con Mg a.one;let p:=T1.con Du a.one
 let l2 (x y:T1):Ty:=x.cons y.one
 let l3 (x y z:T1):Ty:=x.cons (y.cons z.one)
 let ad (names:List lU) (t:Ty):List (lU×Ty):=names.map λx=>(x,t)
 ad [[43],[45],[42],[100,105,118],[109,111,100]] (l3 n n n)++ad [[110,101,103]] (l2 n n)++ad [[60],[60,61],[61]] (l3 n n b) ++
 ad [[102,43],[102,45],[102,42],[102,47]] (l3 f f f)++ad [[102,115,113,114,116],[102,110,101,103]] (l2 f f)++ad [[102,60],[102,61],[102,97,104,101,97,100]] (l3 f f b) ++
 ad [[105,116,111,102]] (l2 n f)++ad [[102,116,111,105]] (l2 f n)++ad [[102,98,105,116,115]] (l2 f s)++ad [[110,97,110],[105,110,102]] f.one ++
 ad [[99,97,116]] (l3 s s s)++ad [[108,101,110],[111,114,100],[97,116,111,105]] (l2 s n)++ad [[115,117,98]] (s.cons (l3 n n s))++ad [[115,61],[115,60]] (l3 s s b) ++
 ad [[105,116,111,97],[99,104,114]] (l2 n s)++ad [[112,114,105,110,116]] (l2 s u)++ad [[114,101,97,100]] (l2 u s)++ad [[114,101,102]] (l2 a r)++ad [[103,101,116]] (l2 r a) ++
 ad [[115,101,116]] (l3 r a u)++ad [[110,101,119]] (l2 a p)++ad [[108,111,97,100]] (l2 p a)++ad [[115,116,111,114,101]] (l3 p a u)
def La:Bt:=(lM.map λp=>(⟨p.1,HO p.2,[aI]⟩:Bd)).reverse
def pN:List (lU×Mk) :=
 [([70,97,105,108],⟨(c0 bS).one,c0 bX,[]⟩),([79,117,116],⟨.nil,c0 bX,[]⟩),([75,101,101,112],⟨.nil,c0 bX,[]⟩),([65,98,111,114,116],⟨.nil,c0 bX,[]⟩),([77,97,116,99,104],⟨.nil,c0 bX,[]⟩),([68,105,118],⟨.nil,c0 bX,[]⟩),
  ([84,114,117,101],⟨.nil,c0 bB,[]⟩),([70,97,108,115,101],⟨.nil,c0 bB,[]⟩)]
def OE:CS:=⟨[],0,pN,[],[],-1⟩
def DQ(nds:Nd):RI (List (lU×lU)):=match Gr OE La nds [] with
 |.error x=>.error x
 |.ok (out,s)=>Lh s out
end Go.SP
namespace Go.SP
open Go.SW Go.RowKit
namespace T1
def op:T1→Int
 |.var _=>0
 |.con _ _=>1
def num:T1→Int
 |.var n=>n
 |.con _ _=>0
def tx:T1→lU
 |.var _=>[]
 |.con t _=>t
def kids:T1→Ty
 |.var _=>.nil
 |.con _ k=>k
end T1
def tC(t:T1)(a:Option Addr)(c:Nat):List Value:=[.int .i64 t.op,.int .i64 t.num,S t.tx,.slice a t.kids.len c]
abbrev tV(t:T1)(a:Option Addr)(c:Nat):Value:=.agg #[.int .i64 t.op,.int .i64 t.num,S t.tx,.slice a t.kids.len c]
def J0(w:World)(f:Fq):Ty→Nat→Nat→Prop
 |.nil,_,_=>True
 |.var n r,b,off=>(∃a c,Cs w f b off [.int .i64 0,.int .i64 n,S [],.slice a 0 c])∧J0 w f r b (off+4)
 |.con tx k r,b,off=>(∃a c,Cs w f b off [.int .i64 1,.int .i64 0,S tx,.slice a k.len c]∧k.len≤c∧(k=.nil∨∃b' off',a=some ⟨b',off',none⟩∧J0 w f k b' off'))∧J0 w f r b (off+4)
def Ah(w:World)(f:Fq)(k:Ty)(a:Option Addr)(c:Nat):Prop:=k.len≤c∧(k=.nil∨∃b off,a=some ⟨b,off,none⟩∧J0 w f k b off)
variable {f f':Fq}{co ln nm:Int}{l:List Value}{b i off:Nat}{U:Nat→Prop}{a:Option Addr}{T:TypeId}{w w':World}
theorem J0.mono(hF:J1 w f w' f'):∀(k:Ty)(b off:Nat),J0 w f k b off→J0 w' f' k b off
 |.nil,_,_,_=>trivial
 |.var _ r,b,off,⟨⟨a,c,h1⟩,h2⟩=>⟨⟨a,c,h1.mono hF⟩,J0.mono hF r b _ h2⟩
 |.con _ k r,b,off,⟨⟨a,c,h1,h2,h3⟩,h4⟩=>⟨⟨a,c,h1.mono hF,h2,h3.imp id λ⟨b',off',h5,h6⟩=>⟨b',off',h5,J0.mono hF k b' off' h6⟩⟩,J0.mono hF r b _ h4⟩
theorem Ah.mono{k:Ty}{c:Nat}:GC (λw f=>Ah w f k a c):=λ_ _ _ _ h hF=>⟨h.1,h.2.imp id λ⟨b,off,h1,h2⟩=>⟨b,off,h1,J0.mono hF k b off h2⟩⟩
theorem Ah.nil(w:World)(f:Fq)(a:Option Addr)(c:Nat):Ah w f .nil a c:=⟨Nat.zero_le _,.inl rfl⟩
theorem J0.cons{t:T1}{r:Ty}:J0 w f (t.cons r) b off↔(∃a c,Cs w f b off (tC t a c)∧Ah w f t.kids a c)∧J0 w f r b (off+4):=by
 cases t with
 |var n=>exact⟨λ⟨⟨a,c,h1⟩,h2⟩=>⟨⟨a,c,h1,Ah.nil _ _ _ _⟩,h2⟩,λ⟨⟨a,c,h1,_⟩,h2⟩=>⟨⟨a,c,h1⟩,h2⟩⟩
 |con tx k=>exact⟨λ⟨⟨a,c,h1,h2,h3⟩,h4⟩=>⟨⟨a,c,h1,h2,h3⟩,h4⟩,λ⟨⟨a,c,h1,h2⟩,h4⟩=>⟨⟨a,c,h1,h2.1,h2.2⟩,h4⟩⟩
theorem J0.app:∀{x y:Ty}{b off:Nat},J0 w f x b off→J0 w f y b (off+x.len*4)→J0 w f (x.app y) b off
 |.nil,_,b,off,_,h=>by simpa[Ty.len,Ty.app] using h
 |.var _ r,y,b,off,h,hy=>⟨h.1,J0.app h.2 (by rw[show off+4+r.len*4=off+(r.len+1)*4 by omega];exact hy)⟩
 |.con _ _ r,y,b,off,h,hy=>⟨h.1,J0.app h.2 (by rw[show off+4+r.len*4=off+(r.len+1)*4 by omega];exact hy)⟩
def AZ(w:World)(f:Fq)(a:Option Addr)(i:Nat)(r:Ty):Prop:=r=.nil∨∃b off,a=some ⟨b,off,none⟩∧J0 w f r b (off+i*4)
theorem AZ.mono{r:Ty}:GC (λw f=>AZ w f a i r):=λ_ _ _ _ h hF=>h.imp id λ⟨b,off,h1,h2⟩=>⟨b,off,h1,J0.mono hF r b _ h2⟩
theorem Ah.at{k:Ty}{c:Nat}(h:Ah w f k a c):AZ w f a 0 k:=h.2.imp id λ⟨b,off,h1,h2⟩=>⟨b,off,h1,by simpa using h2⟩
theorem AZ.head{t:T1}{r:Ty}(h:AZ w f a i (t.cons r)):∃b off ka kc,a=some ⟨b,off,none⟩∧Cs w f b (off+i*4) (tC t ka kc)∧Ah w f t.kids ka kc∧AZ w f a (i+1) r:=by
 rcases h with h|⟨b,off,h1,h2⟩
 · cases t <;> cases h
 · obtain⟨⟨ka,kc,h3,h4⟩,h5⟩:=J0.cons.1 h2
   exact⟨b,off,ka,kc,h1,h3,h4,.inr ⟨b,off,h1,by rw[show off+(i+1)*4=off+i*4+4 by omega];exact h5⟩⟩
def Xo(w:World)(f:Fq):Nd→Nat→Nat→Prop
 |.nil,_,_=>True
 |.cons op ln co tx nm k r,b,off=>(∃a c,Cs w f b off [.int .i64 op,.int .i64 ln,.int .i64 co,S tx,.int .i64 nm,.slice a k.len c]∧k.len≤c∧(k=.nil∨∃b' off',a=some ⟨b',off',none⟩∧Xo w f k b' off'))∧Xo w f r b (off+6)
def AK(w:World)(f:Fq)(k:Nd)(a:Option Addr)(c:Nat):Prop:=k.len≤c∧(k=.nil∨∃b off,a=some ⟨b,off,none⟩∧Xo w f k b off)
theorem Xo.mono(hF:J1 w f w' f'):∀(k:Nd)(b off:Nat),Xo w f k b off→Xo w' f' k b off
 |.nil,_,_,_=>trivial
 |.cons _ _ _ _ _ k r,b,off,⟨⟨a,c,h1,h2,h3⟩,h4⟩=>⟨⟨a,c,h1.mono hF,h2,h3.imp id λ⟨b',off',h5,h6⟩=>⟨b',off',h5,Xo.mono hF k b' off' h6⟩⟩,Xo.mono hF r b _ h4⟩
theorem AK.mono{k:Nd}{c:Nat}:GC (λw f=>AK w f k a c):=λ_ _ _ _ h hF=>⟨h.1,h.2.imp id λ⟨b,off,h1,h2⟩=>⟨b,off,h1,Xo.mono hF k b off h2⟩⟩
def A0(w:World)(f:Fq)(a:Option Addr)(i:Nat)(r:Nd):Prop:=r=.nil∨∃b off,a=some ⟨b,off,none⟩∧Xo w f r b (off+i*6)
theorem A0.mono{r:Nd}:GC (λw f=>A0 w f a i r):=λ_ _ _ _ h hF=>h.imp id λ⟨b,off,h1,h2⟩=>⟨b,off,h1,Xo.mono hF r b _ h2⟩
theorem AK.at{k:Nd}{c:Nat}(h:AK w f k a c):A0 w f a 0 k:=h.2.imp id λ⟨b,off,h1,h2⟩=>⟨b,off,h1,by simpa using h2⟩
def FI(op ln co:Int)(tx:lU)(nm:Int)(a:Option Addr)(n c:Nat):List Value:=[.int .i64 op,.int .i64 ln,.int .i64 co,S tx,.int .i64 nm,.slice a n c]
theorem A0.head{op:Int}{tx:lU}{k r:Nd}(h:A0 w f a i (.cons op ln co tx nm k r)):∃b off ka kc,a=some ⟨b,off,none⟩∧Cs w f b (off+i*6) (FI op ln co tx nm ka k.len kc)∧AK w f k ka kc∧A0 w f a (i+1) r:=by
 rcases h with h|⟨b,off,h1,⟨ka,kc,h3,h4⟩,h5⟩
 · cases h
 · exact⟨b,off,ka,kc,h1,h3,h4,.inr ⟨b,off,h1,by rw[show off+(i+1)*6=off+i*6+6 by omega];exact h5⟩⟩
def RX(w:World):Fq:=λb=>match w.heap[b]? with
 |some (.cells cs _ (0,0))=>cs.size
 |_=>0
theorem Cs.all{m:List Value}(hb:AT w b l T)(h:l.drop off=m):Cs w (RX w) b off m:=λj v hj=>by
 have h1:l[off+j]?=some v:=by rw[← List.getElem?_drop,h,hj]
 obtain⟨hl,_⟩:=List.getElem?_eq_some_iff.1 h1;refine⟨?_,by rw[hb.cell,h1]⟩;unfold RX;unfold AT at hb;rw[hb];simpa using hl
theorem Cs.le{m:List Value}(h:Cs w f b off (l++m)):Cs w f b off l:=λj v hj=>h j v (by
 obtain⟨hl,_⟩:=List.getElem?_eq_some_iff.1 hj;rw[List.getElem?_append_left hl];exact hj)
theorem Gj.toG(hb:AT w b l T):∀(k:Nd)(off:Nat),Gj U w k (l.drop off)→(∀(k':Nd)(a:Option Addr)(n c:Nat),k'.size<k.size→HI U w a n c k'→AK w (RX w) k' a c)→Xo w (RX w) k b off
 |.nil,_,_,_=>trivial
 |.cons op ln co tx nm kids r,off,⟨a,n,c,l',h1,h2,h3⟩,ih=>by
   have hn:n=kids.len:=h2.1;have hk:=ih kids a n c (by simp only[Nd.size];omega) h2;refine⟨⟨a,c,?_,hk⟩,Gj.toG hb r (off+6) ?_ (λk' a n c hs=>ih k' a n c (by simp only[Nd.size];omega))⟩
   · have:=Cs.all hb h1
     rw[hn] at this;exact Cs.le (m:=l') this
   · rw[← List.drop_drop,h1];exact h3
theorem HI.toF:∀(m:Nat)(k:Nd)(a:Option Addr)(n c:Nat),k.size<m→HI U w a n c k→AK w (RX w) k a c
 |0,_,_,_,_,h,_=>by omega
 |m+1,k,a,n,c,hm,⟨h1,h2,h3⟩=>by
   refine⟨oM,?_⟩;rcases h3 with h3|⟨b,off,l,T,_,ha,hb,hc⟩
   · left
     cases k with
     |nil=>rfl
     |cons _ _ _ _ _ _ _=>rw[h3] at h1;cases h1
   · exact .inr ⟨b,off,ha,Gj.toG hb k off hc (λk' a n c hs=>HI.toF m k' a n c oM)⟩
end Go.SP
namespace Go.SP
open Go.SW Go.RowKit
def B7(w:World)(f:Fq)(l:List Int)(a:Option Addr)(c:Nat):Prop:=l.length≤c∧(l=[]∨∃b off,a=some ⟨b,off,none⟩∧Cs w f b off (l.map λn=>Value.int .i64 n))
variable {f:Fq}{l:List Value}{b i off:Nat}{a:Option Addr}{w:World}
theorem B7.mono{l:List Int}{c:Nat}:GC (λw f=>B7 w f l a c):=λ_ _ _ _ h hF=>⟨h.1,h.2.imp id λ⟨b,off,h1,h2⟩=>⟨b,off,h1,h2.mono hF⟩⟩
theorem Cs.at{v:Value}(h:Cs w f b off l)(hi:l[i]?=some v):Cs w f b (off+i) [v]:=λj u hj=>by
 cases j with
 |zero=>simp at hj;subst hj;simpa using h i v hi
 |succ j=>simp at hj
theorem B7.get{l:List Int}{c:Nat}{n:Int}(h:B7 w f l a c)(hi:l[i]?=some n):∃b off,a=some ⟨b,off,none⟩∧Cs w f b (off+i*1) [.int .i64 n]:=by
 rcases h.2 with h|⟨b,off,h1,h2⟩
 · subst h;simp at hi
 · exact⟨b,off,h1,by rw[Nat.mul_one];exact Cs.at h2 (by rw[List.getElem?_map,hi];rfl)⟩
theorem Pb{n:Int}:∀{l:List Int},DS l n=none→l.contains n=false
 | [],_=>rfl
 |k::l,h=>by
   unfold DS at h
   split at h
   · cases h
   · rename_i hk
     have:DS l n=none:=by cases hx:DS l n with|none=>rfl|some i=>rw[hx] at h;cases h
     rw[List.contains_cons,Pb this];have:¬n=k:=λe=>hk (by simp[e]);simp[this]
theorem Mw{n:Int}:∀{l:List Int}{i:Nat},DS l n=some i→l.contains n=true∧i<l.length∧l[i]?=some n
 | [],_,h=>by cases h
 |k::l,i,h=>by
   unfold DS at h
   split at h
   · rename_i hk
     have e:k=n:=by simpa using hk
     cases h
     subst e;simp
   · cases hx:DS l n with
     |none=>rw[hx] at h;cases h
     |some j =>
       rw[hx] at h
       cases h
       have:=Mw hx;exact⟨by rw[List.contains_cons,this.1,Bool.or_true],by simp;exact this.2.1,by simpa using this.2.2⟩
theorem V5{n:Int}:∀{l:List Int}{i:Nat},(l.take i).contains n=false→l[i]?=some n→DS l n=some i
 | [],i,_,h=>by simp at h
 |k::l,0,_,h=>by simp at h;subst h;simp[DS]
 |k::l,i+1,hn,h=>by
   simp only[List.take_succ_cons,List.contains_cons,Bool.or_eq_false_iff] at hn
   have hk:(k==n)=false:=by
     have:=hn.1
     cases hh:k==n with
     |false=>rfl
     |true =>
       have e:k=n:=by simpa using hh
       subst e;simp at this
   have:=V5 hn.2 (by simpa using h);simp[DS,hk,this]
theorem NK{n:Int}{l:List Int}(h:l.contains n=false):DS l n=none:=by
 cases hx:DS l n with
 |none=>rfl
 |some i=>rw[(Mw hx).1] at h;cases h
def X9(l:List Int)(n:Int):Int:=match DS l n with
 |some i=>i
 |none => -1
theorem D1{α:Type}{l:List α}{x:α}(h:l[i]?=some x):l.take (i+1)=l.take i++[x]:=by
 obtain⟨hl,he⟩:=List.getElem?_eq_some_iff.1 h;rw[List.take_succ_eq_append_getElem hl,he]
end Go.SP
namespace Go.SP
open Go.SW Go.RowKit
def Ty.size:Ty→Nat
 |.nil=>0
 |.var _ r=>r.size+1
 |.con _ k r=>k.size+r.size+1
def Ty.bnd:Ty→Prop
 |.nil=>True
 |.var _ r=>r.bnd
 |.con tx k r=>(k.len≤200000∧tx.length≤1000000)∧k.bnd∧r.bnd
def T1.bnd(t:T1):Prop:=(t.kids.len≤200000∧t.tx.length≤1000000)∧t.kids.bnd
theorem T1.bnd_cons{t:T1}{r:Ty}:(t.cons r).bnd↔t.bnd∧r.bnd:=by
 cases t with
 |var n=>exact⟨λh=>⟨⟨⟨Nat.zero_le _,Nat.zero_le _⟩,tQ⟩,h⟩,λh=>h.2⟩
 |con tx k=>exact⟨λh=>⟨⟨h.1,h.2.1⟩,h.2.2⟩,λh=>⟨h.1.1,h.1.2,h.2⟩⟩
theorem T1.len_cons(t:T1)(r:Ty):(t.cons r).len=r.len+1:=by cases t <;> rfl
theorem T1.size_cons(t:T1)(r:Ty):(t.cons r).size=t.kids.size+r.size+1:=by cases t <;> simp[T1.cons,Ty.size,T1.kids]
theorem Ty.len_app:∀x y:Ty,(x.app y).len=x.len+y.len
 |.nil,y=>by simp[Ty.app,Ty.len]
 |.var _ r,y=>by simp[Ty.app,Ty.len,Ty.len_app r y];omega
 |.con _ _ r,y=>by simp[Ty.app,Ty.len,Ty.len_app r y];omega
theorem Ty.app_assoc:∀x y z:Ty,(x.app y).app z=x.app (y.app z)
 |.nil,_,_=>rfl
 |.var _ r,y,z=>by simp[Ty.app,Ty.app_assoc r y z]
 |.con _ _ r,y,z=>by simp[Ty.app,Ty.app_assoc r y z]
theorem Ty.app_nil:∀x:Ty,x.app .nil=x
 |.nil=>rfl
 |.var _ r=>by simp[Ty.app,Ty.app_nil r]
 |.con _ _ r=>by simp[Ty.app,Ty.app_nil r]
theorem T1.one_app(t:T1)(r:Ty):t.one.app r=t.cons r:=by cases t <;> rfl
theorem Ty.len_snoc(x:Ty)(t:T1):(x.snoc t).len=x.len+1:=by unfold Ty.snoc T1.one;rw[Ty.len_app,T1.len_cons];rfl
theorem Ty.snoc_app(x:Ty)(t:T1)(r:Ty):(x.snoc t).app r=x.app (t.cons r):=by unfold Ty.snoc;rw[Ty.app_assoc,T1.one_app]
theorem Ty.cases1(k:Ty)(h:0<k.len):∃t r,k=T1.cons t r:=by
 cases k with
 |nil=>simp[Ty.len] at h
 |var n r=>exact⟨.var n,r,rfl⟩
 |con tx k r=>exact⟨.con tx k,r,rfl⟩
theorem Ty.len0{k:Ty}(h:k.len=0):k=.nil:=by cases k <;> simp_all [Ty.len]
def Bo(w:World)(f:Fq):Ty→List Value→Prop
 |.nil,xs=>xs=[]
 |.var n r,xs=>∃a c xs',xs=[.int .i64 0,.int .i64 n,S [],.slice a 0 c]++xs'∧Bo w f r xs'
 |.con tx k r,xs=>∃a c xs',xs=[.int .i64 1,.int .i64 0,S tx,.slice a k.len c]++xs'∧Ah w f k a c∧Bo w f r xs'
variable {f f':Fq}{l xs:List Value}{b off:Nat}{a:Option Addr}{w w':World}
theorem Bo.mono'(hF:J1 w f w' f'):∀(k:Ty)(xs:List Value),Bo w f k xs→Bo w' f' k xs
 |.nil,_,h=>h
 |.var _ r,_,⟨a,c,xs',h1,h2⟩=>⟨a,c,xs',h1,Bo.mono' hF r xs' h2⟩
 |.con _ k r,_,⟨a,c,xs',h1,h2,h3⟩=>⟨a,c,xs',h1,Ah.mono _ _ _ _ h2 hF,Bo.mono' hF r xs' h3⟩
theorem Bo.mono{k:Ty}:GC (λw f=>Bo w f k xs):=λ_ _ _ _ h hF=>Bo.mono' hF k xs h
theorem Bo.snoc{t:T1}{c:Nat}(ht:Ah w f t.kids a c):∀{k:Ty}{xs:List Value},Bo w f k xs→Bo w f (k.snoc t) (xs++tC t a c)
 |.nil,xs,h=>by
   have h:xs=[]:=h;subst h
   cases t with
   |var n=>exact⟨a,c,[],rfl,rfl⟩
   |con tx k=>exact⟨a,c,[],rfl,ht,rfl⟩
 |.var _ r,_,⟨a',c',xs',h1,h2⟩=>⟨a',c',xs'++tC t a c,by rw[h1,List.append_assoc],Bo.snoc ht h2⟩
 |.con _ k r,_,⟨a',c',xs',h1,h2,h3⟩=>⟨a',c',xs'++tC t a c,by rw[h1,List.append_assoc],h2,Bo.snoc ht h3⟩
theorem Cs.drop{m:List Value}(h:Cs w f b off (l++m)):Cs w f b (off+l.length) m:=λj v hj=>by
 have:=h (l.length+j) v (by rw[List.getElem?_append_right (by omega)];simpa using hj);rwa[← Nat.add_assoc] at this
theorem Bo.toG:∀{k:Ty}{xs:List Value}{off:Nat},Bo w f k xs→Cs w f b off xs→J0 w f k b off
 |.nil,_,_,_,_=>trivial
 |.var _ r,_,off,⟨a,c,xs',h1,h2⟩,hC=>by
   subst h1;exact⟨⟨a,c,Cs.le hC⟩,Bo.toG h2 (Cs.drop hC)⟩
 |.con _ k r,_,off,⟨a,c,xs',h1,h2,h3⟩,hC=>by
   subst h1;exact⟨⟨a,c,Cs.le hC,h2⟩,Bo.toG h3 (Cs.drop hC)⟩
theorem Bo.toF{c:Nat}{k:Ty}(h:Bo w f k xs)(hC:Cs w f b 0 xs)(hc:k.len≤c):Ah w f k (some ⟨b,0,none⟩) c:=⟨hc,.inr ⟨b,0,rfl,Bo.toG h hC⟩⟩
theorem Bo.len:∀{k:Ty}{xs:List Value},Bo w f k xs→xs.length=k.len*4
 |.nil,xs,h=>by have h:xs=[]:=h;subst h;rfl
 |.var _ r,_,⟨a,c,xs',h1,h2⟩=>by subst h1;have:=Bo.len h2;simp[Ty.len,this];omega
 |.con _ k r,_,⟨a,c,xs',h1,h2,h3⟩=>by subst h1;have:=Bo.len h3;simp[Ty.len,this];omega
theorem SN(a b c vs:List Value)(h:b.length=vs.length):EJ (a++(b++c)) a.length vs=(a++vs)++c:=by
 rw[MN vs _ _ (by simp;omega)];have h1:(a++(b++c)).take a.length=a:=by simp
 have h2:(a++(b++c)).drop (a.length+vs.length)=c:=by
   rw[← List.drop_drop];simp[← h]
 rw[h1,h2]
def oG(P:Program)(fid:FuncId)(m:Nat):Prop:=∀(w:World)(f:Fq)(_:Vl w f)(t:T1)(a:Option Addr)(c:Nat),t.kids.size<m→t.bnd→Ah w f t.kids a c →
 BC P fid #[tV t a c] w (BW (α:=Option Addr×Nat) (λx=>tV t x.1 x.2) (λ_=>True) (λx=>[λw f=>Ah w f t.kids x.1 x.2]) w f)
end Go.SP
namespace Go.SP
open Go.SW Go.RowKit
theorem ZN(t:T1)(a:Option Addr)(c:Nat):∀v∈tC t a c,v.oneCell'=true:=by
 intro v hv;unfold tC at hv;simp only[List.mem_cons,List.not_mem_nil,or_false] at hv;rcases hv with rfl|rfl|rfl|rfl <;> rfl
variable {f:Fq}{b:Nat}{w:World}
theorem J0.cells:∀{k:Ty}{off:Nat},J0 w f k b off→∃xs,Bo w f k xs∧Cs w f b off xs∧∀v∈xs,v.oneCell'=true
 |.nil,_,_=>⟨[],rfl,(λj v hj=>by simp at hj),λv hv=>by cases hv⟩
 |.var n r,off,⟨⟨a,c,h1⟩,h2⟩=>by
   obtain⟨xs,h3,h4,h5⟩:=J0.cells h2;refine⟨_++xs,⟨a,c,xs,rfl,h3⟩,?_,?_⟩
   · intro j v hj
     rcases Nat.lt_or_ge j 4 with hj4|hj4
     · exact h1 j v (by rwa[List.getElem?_append_left (by simpa using hj4)] at hj)
     · rw[List.getElem?_append_right (by simpa using hj4)] at hj
       have:=h4 (j-4) v (by simpa using hj);rwa[show off+4+(j-4)=off+j by omega] at this
   · intro v hv
     rcases List.mem_append.1 hv with hv|hv
     · exact ZN (.var n) a c v hv
     · exact h5 v hv
 |.con tx k r,off,⟨⟨a,c,h1,hk⟩,h2⟩=>by
   obtain⟨xs,h3,h4,h5⟩:=J0.cells h2;refine⟨_++xs,⟨a,c,xs,rfl,hk,h3⟩,?_,?_⟩
   · intro j v hj
     rcases Nat.lt_or_ge j 4 with hj4|hj4
     · exact h1 j v (by rwa[List.getElem?_append_left (by simpa using hj4)] at hj)
     · rw[List.getElem?_append_right (by simpa using hj4)] at hj
       have:=h4 (j-4) v (by simpa using hj);rwa[show off+4+(j-4)=off+j by omega] at this
   · intro v hv
     rcases List.mem_append.1 hv with hv|hv
     · exact ZN (.con tx k) a c v hv
     · exact h5 v hv
end Go.SP
namespace Go.SP
open Go.SW Go.RowKit
variable {X:Cx}{f:Fq}{Fs:List (World→Fq→Prop)}{B:List FB}{H:List HB}{xs:List Value}{m:Nat}{a:Option Addr}{e:TypeId}{w:World}
theorem Ou{R:List RB}{c:Nat}{k:Ty}(hM:AW X w f H (⟨e,4,a,c,m,xs⟩::R) B Fs)(hL:Bo w f k xs)(h0:0<k.len):∃f',AW X w f' H R B Fs∧Ah w f' k a c:=by
 have hr:=hM.row _ (.head _);have hlen:=Bo.len hL;have hm:m=k.len:=by have:=hr.1;simp only at this;omega
 rcases hr.2 with ⟨_,_,h⟩|⟨b,l,ha,_,hmc,_⟩
 · simp only at h;omega
 · simp only at ha hmc
   subst ha;obtain⟨f',hM'⟩:=(hM.more (B':=[]) (F':=[λw f=>Bo w f k xs]) (λ_ h=>by cases h) (A2.mem ⟨hL,tQ⟩) (Af.mem ⟨Bo.mono,tQ⟩)).done (i:=0) rfl rfl;exact⟨f',hM'.less (List.Sublist.refl _) (List.Sublist.refl _) (λe he=>.tail _ he) (λφ h=>.tail _ h),Bo.toF (hM'.fact (i:=0) rfl) (hM'.fro _ (.head _)) oM⟩
end Go.SP
namespace Go.SP
open Go.SW Go.RowKit
variable {f:Fq}{a:Option Addr}{w:World}
theorem Ah.cells{k:Ty}{c:Nat}(h:Ah w f k a c)(h0:0<k.len):∃x:Nat×Nat×List Value,(a=some ⟨x.1,x.2.1,none⟩∧(∀v∈x.2.2,v.oneCell'=true)∧x.2.2.length=k.len*4)∧Cs w f x.1 x.2.1 x.2.2∧Bo w f k x.2.2:=by
 rcases h.2 with h|⟨b,off,h1,h2⟩
 · subst h;cases h0
 · obtain⟨xs,h3,h4,h5⟩:=J0.cells h2
   exact⟨(b,off,xs),⟨h1,h5,Bo.len h3⟩,h4,h3⟩
def Gx(w:World)(f:Fq):BX→List (Int×Value)→Prop
 | [],es=>es=[]
 |(n,t)::s,es=>∃a c es',es=(n,tV t a c)::es'∧Ah w f t.kids a c∧Gx w f s es'
variable {s:BX}{f':Fq}{fr pr:Int}{Fs:List (World→Fq→Prop)}{mb sb:Nat}{MI:Nat→Prop}{T:TypeId}{w':World}
theorem Gx.mono(hF:J1 w f w' f'):∀(s:BX)(es:List (Int×Value)),Gx w f s es→Gx w' f' s es
 | [],_,h=>h
 |(_,_)::s,_,⟨a,c,es',h1,h2,h3⟩=>⟨a,c,es',h1,Ah.mono _ _ _ _ h2 hF,Gx.mono hF s es' h3⟩
def J3:BX→Prop
 | []=>True
 |(n,t)::s=>Ce s n=none∧(∀m,t=.var m→m≠n∧Ce s m=none)∧t.bnd∧J3 s
def aV:BX→Prop
 | []=>True
 |(n,t)::s=>Ce s n=none∧(∀m,t=.var m→m≠n∧Ce s m=none)∧aV s
theorem J3.v:∀{s:BX},J3 s→aV s
 | [],_=>trivial
 |(_,_)::_,h=>⟨h.1,h.2.1,J3.v h.2.2.2⟩
theorem Gx.look:∀{s:BX}{es:List (Int×Value)},Gx w f s es→∀n,(Ce s n=none→FL es n=none)∧∀t,Ce s n=some t→∃a c,FL es n=some (tV t a c)∧Ah w f t.kids a c
 | [],es,h,n=>by
   have h:es=[]:=h;subst h;exact⟨λ_=>rfl,λt h=>by cases h⟩
 |(k,t)::s,es,⟨a,c,es',h1,h2,h3⟩,n=>by
   subst h1;have ih:=Gx.look h3 n;simp only[Ce,FL]
   by_cases hk:k=n
   · subst hk
     refine⟨λh=>by simp at h,λt' h=>?_⟩;simp at h;subst h;exact⟨a,c,by simp,h2⟩
   · have e1:(k==n)=false:=by simpa using hk
     have e2:(n==k)=false:=by simpa using λe=>hk e.symm
     rw[e1,e2];simpa using ih
theorem Gx.dis:∀{s:BX}{es:List (Int×Value)},Gx w f s es→J3 s→Lm es
 | [],es,h,_=>by have h:es=[]:=h;subst h;trivial
 |(k,t)::s,es,⟨a,c,es',h1,h2,h3⟩,hw=>by
   subst h1;exact⟨(Gx.look h3 k).1 hw.1,Gx.dis h3 hw.2.2.2⟩
def BQ(T:TypeId)(sb mb:Nat)(s:BX)(fr pr:Int)(w:World)(f:Fq):Prop:=AT w sb [.map (some mb),.int .i64 fr,.int .i64 pr] T∧∃es,Cm Fw w mb es∧Gx w f s es
theorem BQ.stab(h1:MI sb)(h2:MI mb):GH MI (BQ T sb mb s fr pr):=λ_ _ _ _ ⟨hb,es,hm,hs⟩ hF h=>⟨(h sb h1).trans hb,es,hm.heap (h mb h2),Gx.mono hF s es hs⟩
abbrev MJ(sb mb:Nat):Nat→Prop:=λb=>b=sb∨b=mb
abbrev XS(T:TypeId)(sb mb:Nat)(s:BX)(fr pr:Int)(w:World)(f:Fq):Cx:=⟨MJ sb mb,MJ sb mb,BQ T sb mb s fr pr,w,f⟩
theorem bK(hv:Vl w f)(hS:BQ T sb mb s fr pr w f)(hf:f sb=0∧f mb=0)(hF:A2 Fs w f)(hm:Af Fs):AW (XS T sb mb s fr pr w f) w f [] [] [] Fs where
 stp:=MF.refl _ _
 old _ _:=rfl
 val:=hv
 ent:=J1.refl _ _
 res:=hS
 stab:=BQ.stab (.inl rfl) (.inr rfl)
 mi b hb:=by
   rcases hb with rfl|rfl
   · exact⟨hS.1.lt,hf.1,.inr (.inl rfl)⟩
   · obtain⟨_,es,h,_⟩:=hS;exact⟨h.lt,hf.2,.inr (.inr rfl)⟩
 blk _ h:=by cases h
 row _ h:=by cases h
 nd:=List.nodup_nil
 own _ h:=by cases h
 hnw _ h:=by cases h
 rnw _ h:=by cases h
 fro _ h:=by cases h
 fac:=hF.mem
 mono:=hm.mem
def J7:BX→Int→Option Nat
 | [],_=>none
 |(k,_)::s,n=>if k==n then some 0 else (J7 s n).map (· + 1)
def Ft(s:BX):T1→Nat
 |.con _ _=>0
 |.var n=>match J7 s n with
   |none=>0
   |some p=>p+1
theorem Tc{n:Int}:∀{s:BX},Ce s n=none↔J7 s n=none
 | []=>by simp[Ce,J7]
 |(k,t)::s=>by
   have:=Tc (n:=n) (s:=s);simp only[Ce,J7]
   split <;> simp[this]
theorem IS{n:Int}{t:T1}:∀{s:BX},aV s→Ce s n=some t→∃p,J7 s n=some p∧Ft s t≤p
 | [],_,h=>by cases h
 |(k,t0)::s,hw,h=>by
   simp only[Ce] at h
   split at h
   · rename_i hk
     cases h
     have e:k=n:=by simpa using hk
     subst e;refine⟨0,by simp[J7],?_⟩
     cases t with
     |con _ _=>simp[Ft]
     |var m =>
       obtain⟨h1,h2⟩:=hw.2.1 m rfl;have e1:(k==m)=false:=by simpa using λe=>h1 e.symm
       simp[Ft,J7,e1,Tc.1 h2]
   · rename_i hk
     obtain⟨p,h1,h2⟩:=IS hw.2.2 h;have e1:(k==n)=false:=by simpa using hk
     refine⟨p+1,by simp[J7,e1,h1],?_⟩
     cases t with
     |con _ _=>simp[Ft]
     |var m =>
       have hv:∀s:BX,Ft s (.var m)=(match J7 s m with|none=>0|some p=>p+1):=λ_=>rfl;rw[hv] at h2 ⊢;simp only[J7]
       cases hkm:(k==m) with
       |true=>simp
       |false =>
         simp only[Bool.false_eq_true,if_false]
         cases hp:J7 s m with
         |none=>simp
         |some q =>
           rw[hp] at h2;simp only[Option.map_some] at h2 ⊢;have h3:q+1≤p:=h2;show q+1+1≤p+1;exact Nat.succ_le_succ h3
theorem Uu{n:Int}:∀{s:BX}{p:Nat},J7 s n=some p→p<s.length
 | [],_,h=>by cases h
 |(k,t)::s,p,h=>by
   simp only[J7] at h
   split at h
   · cases h;simp
   · cases hp:J7 s n with
     |none=>rw[hp] at h;cases h
     |some q=>rw[hp] at h;cases h;have:=Uu hp;simp;exact this
theorem Vo(s:BX)(t:T1):Ft s t≤s.length:=by
 cases t with
 |con _ _=>simp[Ft]
 |var n =>
   have hv:Ft s (.var n)=(match J7 s n with|none=>0|some p=>p+1):=rfl;rw[hv]
   cases hp:J7 s n with
   |none=>simp
   |some p=>exact Uu hp
theorem Lo(hw:aV s):∀(k j:Nat)(t:T1),Ft s t≤k→Ft s t≤j→Hq s k t=Hq s j t
 |k,j,.con tx ks,_,_=>by cases k <;> cases j <;> rfl
 |k,j,.var n,hk,hj=>by
   cases hl:Ce s n with
   |none =>
     have:∀k,Hq s k (.var n)=.var n:=λk=>by cases k <;> simp[Hq,hl]
     rw[this,this]
   |some t =>
     obtain⟨p,h1,h2⟩:=IS hw hl;have hr:Ft s (.var n)=p+1:=by simp[Ft,h1]
     rw[hr] at hk hj
     cases k with
     |zero=>omega
     |succ k =>
       cases j with
       |zero=>omega
       |succ j =>
         simp only[Hq,hl];exact Lo hw k j t oM oM
theorem NF{n:Int}(h:Ce s n=none):Ai s (.var n)=.var n:=by simp[Ai,Hq,h]
theorem Hg(s:BX)(tx:lU)(k:Ty):Ai s (.con tx k)=.con tx k:=rfl
theorem Tg{n:Int}{t:T1}(hw:aV s)(h:Ce s n=some t):Ai s (.var n)=Ai s t:=by
 obtain⟨p,h1,h2⟩:=IS hw h;have:=Uu h1;unfold Ai
 conv=>lhs;rw[Hq];simp only[h]
 exact Lo hw _ _ t oM (by have:=Vo s t;omega)
theorem NG{n:Int}{t:T1}(hw:aV s)(h:Ce s n=some t):Ft s t<Ft s (.var n):=by
 obtain⟨p,h1,h2⟩:=IS hw h;have hv:Ft s (.var n)=p+1:=by simp[Ft,h1]
 rw[hv];omega
theorem UK{n:Int}{t:T1}(hw:J3 s)(h:Ce s n=some t):Ai s (.var n)=Ai s t:=Tg hw.v h
theorem dW{n:Int}{t:T1}(hw:J3 s)(h:Ce s n=some t):Ft s t<Ft s (.var n):=NG hw.v h
theorem Nk{n:Int}{t:T1}:∀{s:BX},J3 s→Ce s n=some t→t.bnd
 | [],_,h=>by cases h
 |(k,t0)::s,hw,h=>by
   simp only[Ce] at h
   split at h
   · cases h;exact hw.2.2.1
   · exact Nk hw.2.2.2 h
theorem EF{t:T1}(h:(t.op==0)=true):∃n,t=.var n:=by
 cases t with
 |var n=>exact⟨n,rfl⟩
 |con _ _=>cases h
theorem Ga{t:T1}(h:(t.op==0)=false):∃tx k,t=.con tx k:=by
 cases t with
 |var n=>cases h
 |con tx k=>exact⟨tx,k,rfl⟩
end Go.SP
namespace Go.SW
open Go.RowKit
section
variable{P:Program}{σ:Br}{w:World}{ty:TypeId}
variable {caps:List Operand}{vs:List Value}
theorem Uh{f:FuncId}{g:Operand}{args:List Operand}{caps:List Value}{ts:Array TypeId}(he:BV P f)(hg:ev σ g=some (.func (.func f) #[] caps.toArray))(ha:Jr σ args=some vs) :
   Enters P σ (.call {callee:=.value g,args:=args.toArray,argTypes:=ts}) ty w f (vs++caps).toArray:=λρ _ _ _ _ hρ=>by
 have h:=EY hρ ha;have e:=he (vs++caps).toArray w;simp[execOp,resolve,hρ _ _ hg,Deferred.ofValue,invoke,h];simpa using e
theorem Q5{f:FuncId}(ha:Jr σ caps=some vs):AS P σ (.makeFunc (.func f) #[] caps.toArray) ty w (.func (.func f) #[] vs.toArray) w:=λρ _ _ _ _ hρ=>by
 have h:=EY hρ ha;simp[execOp,Instr.makeFunc,h]
end
end Go.SW
namespace Go.SP
open Go.SW Go.RowKit
def BH(b:BX):Nat→Ty→Option Nat
 |k,.nil=>some k
 |0,.var _ _=>none
 |0,.con _ _ _=>none
 |k+1,.var n r=>match Ai b (.var n) with
   |.var _=>BH b k r
   |.con _ ks=>BH b k (ks.app r)
 |k+1,.con _ ks r=>BH b k (ks.app r)
theorem FQ(b:BX):∀(k:Nat)(t:Ty),FG b k t=(BH b k t).isSome
 |k,.nil=>by cases k <;> rfl
 |0,.var _ _=>rfl
 |0,.con _ _ _=>rfl
 |k+1,.var n r=>by
   simp only[FG,BH]
   cases Ai b (.var n) with
   |var _=>exact FQ b k r
   |con _ ks=>exact FQ b k _
 |k+1,.con _ ks r=>by simp only[FG,BH];exact FQ b k _
theorem Kl(b:BX):∀(k:Nat)(x y:Ty),BH b k (x.app y)=(BH b k x).bind λj=>BH b j y
 |k,.nil,y=>by cases k <;> rfl
 |0,.var _ _,y=>rfl
 |0,.con _ _ _,y=>rfl
 |k+1,.var n r,y=>by
   simp only[Ty.app,BH]
   cases Ai b (.var n) with
   |var _=>exact Kl b k r y
   |con _ ks =>
     simp only;rw[← Ty.app_assoc];exact Kl b k _ y
 |k+1,.con _ ks r,y=>by
   simp only[Ty.app,BH];rw[← Ty.app_assoc];exact Kl b k _ y
theorem Fe(b:BX):∀(k:Nat)(x:Ty)(j:Nat),BH b k x=some j→j≤k
 |k,.nil,j,h=>by cases k <;> (cases h;exact Nat.le_refl _)
 |0,.var _ _,_,h=>by cases h
 |0,.con _ _ _,_,h=>by cases h
 |k+1,.var n r,j,h=>by
   simp only[BH] at h
   split at h
   · have:=Fe b k _ j h;omega
   · have:=Fe b k _ j h;omega
 |k+1,.con _ ks r,j,h=>by
   simp only[BH] at h;have:=Fe b k _ j h;omega
theorem JW(b:BX)(k:Nat)(t:T1)(r:Ty):BH b k (t.cons r)=(BH b k t.one).bind λj=>BH b j r:=by rw[← T1.one_app,Kl]
theorem Kz(b:BX)(k:Nat)(t:T1):BH b (k+1) t.one=BH b k (Ai b t).kids:=by
 cases t with
 |var n =>
   simp only[T1.one,T1.cons,BH]
   cases Ai b (.var n) with
   |var _=>cases k <;> rfl
   |con _ ks=>simp only[Ty.app_nil];rfl
 |con tx ks =>
   simp only[T1.one,T1.cons,BH,Hg,Ty.app_nil];rfl
theorem L2(b:BX)(t:T1):BH b 0 t.one=none:=by cases t <;> rfl
variable {s:BX}
theorem OX(hw:J3 s):∀(k:Nat)(t:T1),t.bnd→(Hq s k t).bnd
 |0,t,h=>h
 |k+1,.con _ _,h=>h
 |k+1,.var n,h=>by
   simp only[Hq]
   split
   · exact h
   · rename_i t' hl;exact OX hw k t' (Nk hw hl)
theorem C7(hw:J3 s){t:T1}(h:t.bnd):(Ai s t).bnd:=OX hw _ t h
end Go.SP
namespace Go.SP
open Go.SW Go.RowKit
variable {s:BX}{f f':Fq}{fr pr:Int}{Fs:List (World→Fq→Prop)}{l:List Value}{mb nb sb:Nat}{M MI:Nat→Prop}{T:TypeId}{w':World}
theorem BQ.keep{w:World}(h:BQ T sb mb s fr pr w f)(hE:CR M w f w' f')(hF:J1 w f w' f')(h1:¬M sb)(h2:¬M mb):BQ T sb mb s fr pr w' f':=by
 obtain⟨hb,es,hm,hs⟩:=h;exact⟨(hE.stp.block sb hb.lt h1).trans hb,es,hm.heap (hE.stp.block mb hm.lt h2),Gx.mono hF s es hs⟩
theorem oD{w:World}(hv:Vl w f)(hb:AT w nb l T)(hf:f nb=0)(hF:A2 Fs w f)(hm:Af Fs):AW ⟨λb=>b=nb,λ_=>False,λ_ _=>True,w,f⟩ w f [⟨nb,l,T,false⟩] [] [] Fs where
 stp:=MF.refl _ _
 old _ _:=rfl
 val:=hv
 ent:=J1.refl _ _
 res:=trivial
 stab _ _ _ _ _ _ _:=trivial
 mi _ h:=h.elim
 blk e h:=by
   rcases List.mem_cons.1 h with rfl|h
   · exact hb
   · cases h
 row _ h:=by cases h
 nd:=by simp[CZ]
 own b h:=by
   have:b=nb:=by simpa[CZ] using h
   subst this;exact⟨hf,.inr rfl,λh=>h⟩
 hnw e h hn:=by
   rcases List.mem_cons.1 h with rfl|h
   · cases hn
   · cases h
 rnw _ h:=by cases h
 fro _ h:=by cases h
 fac:=hF.mem
 mono:=hm.mem
theorem Z3{I:World→Fq→Prop}{w:World}(hv:Vl w f)(hI:I w f)(hst:GH M I)(hm:∀b,M b→b<w.heap.size∧f b=0)(hF:A2 Fs w f)(hmo:Af Fs):AW ⟨M,M,I,w,f⟩ w f [] [] [] Fs where
 stp:=MF.refl _ _
 old _ _:=rfl
 val:=hv
 ent:=J1.refl _ _
 res:=hI
 stab:=hst
 mi b h:=⟨(hm b h).1,(hm b h).2,.inr h⟩
 blk _ h:=by cases h
 row _ h:=by cases h
 nd:=List.nodup_nil
 own _ h:=by cases h
 hnw _ h:=by cases h
 rnw _ h:=by cases h
 fro _ h:=by cases h
 fac:=hF.mem
 mono:=hmo.mem
def K2(nb:Nat)(n:Int)(w:World)(_:Fq):Prop:=AT w nb [.int .i64 n] 3
theorem K2.stab{n:Int}(h:MI nb):GH MI (K2 nb n):=λ_ _ _ _ hb _ hm=>(hm nb h).trans hb
def oR(P:Program)(fid:FuncId)(T:TypeId)(g:FuncId)(k:Nat):Prop:=∀(w:World)(f:Fq)(_:Vl w f)(sb mb:Nat)(s:BX)(fr pr:Int)(nb:Nat),BQ T sb mb s fr pr w f→J3 s→sb≠nb→mb≠nb→f nb=0→K2 nb (1000-(k:Int)) w f→k≤1000→∀(t:T1)(a:Option Addr)(c:Nat),t.bnd→Ah w f t.kids a c →
 BC P fid #[.pointer (some ⟨sb,0,none⟩),tV t a c,.func (.func g) #[] #[.pointer (some ⟨nb,0,none⟩)]] w (Fv (α:=Int) (λ_=>.bool (BH s k t.one).isSome) (λx=>∀j,BH s k t.one=some j→x=1000-(j:Int)) (λb=>b=nb) (λx=>K2 nb x) (λ_=>[]) w f)
end Go.SP
namespace Go.SW
open Go.RowKit
variable {Q:Bm}{nw:Bool}{X:Cx}{f:Fq}{Fs:List (World→Fq→Prop)}{ds:List Deferred}{B:List FB}{fs:List Fr}{H H':List HB}{l:List Value}{b i n:Nat}{T:TypeId}
theorem AW.give{w:World}{R:List RB}(h:AW X w f H R B Fs)(hg:Ig H i=some ⟨b,l,T,nw⟩)(hs:L1 H i=some H') :
   AW {X with MI:=λk=>X.MI k∨k=b,I:=λw f=>X.I w f∧AT w b l T} w f H' R B Fs:=by
 have hblk:AT w b l T:=h.blk _ (Cc hg);have hown:=h.own b (List.mem_append.2 (.inl (List.mem_map.2 ⟨_,Cc hg,rfl⟩)));have hsub:=LD hs;have hnd:(H.map HB.b++JS R).Nodup:=h.nd;have hbR:b∉CZ H' R:=Lu (L:=JS R) hg hs hnd;have hso:(CZ H' R).Sublist (CZ H R):=List.Sublist.append (hsub.map _) (List.Sublist.refl _)
 exact {h with
         res:=⟨h.res,hblk⟩,
         stab:=λw1 f1 w2 f2 hI hF hb=>⟨h.stab w1 f1 w2 f2 hI.1 hF λk hm=>hb k (.inl hm),(hb b (.inr rfl)).trans hI.2⟩,
         mi:=λk hk=>by
           rcases hk with hk|rfl
           · exact h.mi k hk
           · exact⟨hblk.lt,hown.1,hown.2.1⟩,
         blk:=λe he=>h.blk e (hsub.subset he),nd:=hso.nodup h.nd,
         own:=λk hk=>⟨(h.own k (hso.subset hk)).1,(h.own k (hso.subset hk)).2.1,λhm=>by
           rcases hm with hm|rfl
           · exact (h.own k (hso.subset hk)).2.2 hm
           · exact hbR hk⟩,
         hnw:=λe he=>h.hnw e (hsub.subset he)}
theorem pL{P:Program}{R:List RB}{σ:Br}{k:MU}(i:Nat)(hg:Ig H i=some ⟨b,l,T,nw⟩)(hs:L1 H i=some H')
   (h:AF P n Q ds {X with MI:=λk=>X.MI k∨k=b,I:=λw f=>X.I w f∧AT w b l T} R B Fs k fs σ H'):AF P n Q ds X R B Fs k fs σ H:=λw f hM=>h w f (hM.give hg hs)
end Go.SW
namespace Go.SW
open Go.RowKit
variable {Q:Bm}{X:Cx}{f:Fq}{Fs:List (World→Fq→Prop)}{ds:List Deferred}{B:List FB}{fs:List Fr}{H:List HB}{b n:Nat}{w':World}
theorem Hh.fle{w:World}(h:Hh b w w')(hf:f b=0):J1 w f w' f:=λk=>⟨Nat.le_refl _,λo ho=>E0 (h.block k (λe=>by rw[e,hf] at ho;omega)) o⟩
theorem pS{P:Program}{R:List RB}{σ:Br}{k:MU}{α:Type}(I2:α→World→Fq→Prop)(h1:∀w f,X.I w f→∃x,I2 x w f)(hst:∀x,GH X.MI (I2 x))
   (h:∀x,AF P n Q ds {X with I:=I2 x} R B Fs k fs σ H):AF P n Q ds X R B Fs k fs σ H:=λw f hM=>by
 obtain⟨x,hx⟩:=h1 w f hM.res;exact h x w f {hM with res:=hx,stab:=hst x}
end Go.SW
namespace Go.SP
open Go.SW Go.RowKit
variable {s:BX}{j k:Nat}
theorem L9{x:Int}:∀(k:Nat)(a b:Ty)(j:Nat),BH s k a=some j→Dg s x k (a.app b)=(Dg s x k a&&Dg s x j b)
 |k,.nil,b,j,h=>by
   have e:j=k:=by cases k <;> (cases h;rfl)
   subst e
   cases j <;> simp[Ty.app,Dg]
 |0,.var _ _,_,_,h=>by cases h
 |0,.con _ _ _,_,_,h=>by cases h
 |k+1,.var n r,b,j,h=>by
   simp only[Ty.app,BH,Dg] at h ⊢
   cases hh:Ai s (.var n) with
   |var m=>rw[hh] at h;simp only at h ⊢;rw[L9 k r b j h,Bool.and_assoc]
   |con tx ks=>rw[hh] at h;simp only at h ⊢;rw[← Ty.app_assoc];exact L9 k _ b j h
 |k+1,.con tx ks r,b,j,h=>by
   simp only[Ty.app,BH,Dg] at h ⊢;rw[← Ty.app_assoc];exact L9 k _ b j h
theorem PC{x:Int}{t:T1}{r:Ty}(h:BH s k t.one=some j):Dg s x k (t.cons r)=(Dg s x k t.one&&Dg s x j r):=by rw[← T1.one_app];exact L9 k t.one r j h
def Xk(x:Int):T1→Bool
 |.var m=>!(m==x)
 |.con _ _=>true
theorem JD(s:BX)(x:Int)(k:Nat)(t:T1):Dg s x (k+1) t.one=(Xk x (Ai s t)&&Dg s x k (Ai s t).kids):=by
 cases t with
 |var n =>
   simp only[T1.one,T1.cons,Dg]
   cases Ai s (.var n) with
   |var m=>cases k <;> simp[Xk,T1.kids,Dg]
   |con tx ks=>simp[Xk,T1.kids,Ty.app_nil]
 |con tx ks=>simp[T1.one,T1.cons,Dg,Hg,Xk,T1.kids,Ty.app_nil]
def rQ(P:Program)(fid:FuncId)(T:TypeId)(g:FuncId)(k:Nat):Prop:=∀(w:World)(f:Fq)(_:Vl w f)(sb mb:Nat)(s:BX)(fr pr:Int)(xb:Nat)(x:Int),BQ T sb mb s fr pr w f→J3 s→AT w xb [.int .i64 x] 3→∀(t:T1)(a:Option Addr)(c j:Nat),t.bnd→Ah w f t.kids a c→BH s k t.one=some j →
 BC P fid #[.pointer (some ⟨sb,0,none⟩),tV t a c,.func (.func g) #[] #[.pointer (some ⟨xb,0,none⟩)]] w (BW (α:=Unit) (λ_=>.bool (Dg s x k t.one)) (λ_=>True) (λ_=>[]) w f)
def Ke(s:BX)(n:Int)(t:T1):Int×BX:=match CE s n t with
 |.error e=>(e,s)
 |.ok s'=>(0,s')
end Go.SP
namespace Go.SP
open Go.SW Go.RowKit
def cZ(T:TypeId)(sb mb:Nat)(s:BX)(fr pr:Int)(es:List (Int×Value))(w:World)(f:Fq):Prop:=AT w sb [.map (some mb),.int .i64 fr,.int .i64 pr] T∧Cm Fw w mb es∧Gx w f s es
variable {s:BX}{fr pr:Int}{es:List (Int×Value)}{mb sb:Nat}{MI:Nat→Prop}{T:TypeId}
theorem cZ.stab(h1:MI sb)(h2:MI mb):GH MI (cZ T sb mb s fr pr es):=λ_ _ _ _ ⟨hb,hm,hs⟩ hF h=>⟨(h sb h1).trans hb,hm.heap (h mb h2),Gx.mono hF s es hs⟩
theorem Xj{n:Int}{t:T1}(h:FD s t=false):Ke s n t=(4,s):=by simp[Ke,CE,h]
theorem Ym{n:Int}{t:T1}(h:FD s t=true)(h2:Dg s n 1000 t.one=false):Ke s n t=(11,s):=by simp[Ke,CE,h,h2]
theorem Y4{n:Int}{t:T1}(h:FD s t=true)(h2:Dg s n 1000 t.one=true):Ke s n t=(0,(n,t)::s):=by simp[Ke,CE,h,h2]
end Go.SP
namespace Go.SW
open Go.RowKit
variable {af:Array Edge}{Q:Bm}{ag:Bool}{X:Cx}{Fs:List (World→Fq→Prop)}{ds:List Deferred}{B:List FB}{fs:List Fr}{H:List HB}{r:List Oper}{l l' vs:List Value}{b k n off:Nat}{x:Operand}{g:Option (Nat×Bool)}{pos:String}{T:TypeId}{I':World→Fq→Prop}
theorem aK{P:Program}{R:List RB}{σ:Br}{all:List Oper}{ty T':TypeId}{y:Operand}{v:Value}
   (hg:gd all σ g=some true) (hx:ev σ x=some (.pointer (some ⟨b,off,none⟩))) (hy:ev σ y=some v) (hv:Ih v=some vs) (hT:Bf P T=some (ag,k)) (hk:Nat.beq vs.length k=true) (h1:MK vs=true) (hp:OK l off vs=some l') (hmi:X.MI b)
   (hb:∀w f,X.I w f→AT w b l T') (hI:∀w f w',X.I w f→AW X w f H R B Fs→Hh b w w'→AT w' b l' T'→I' w' f) (hst:GH X.MI I')
   (h:AF P n Q ds {X with I:=I' } R B Fs (.ops all r) fs σ H):AF P n Q ds X R B Fs (.ops all (⟨none,.store T x y,ty,pos,af,g⟩::r)) fs σ H:=λw f hM =>
 BG hg (A4 hx hy hv hT hk (hb w f hM.res) h1 hp λw' hb' hC=>h w' f (hM.chgI hmi hC (hI w f w' hM.res hM hC hb') hst))
def oA(P:Program)(n:Nat){α:Type}(p:α→Prop)(s:α→Br)(X:α→Cx)(H:α→List HB)(R:α→List RB)(B:α→List FB)(Fs:α→List (World→Fq→Prop))(ds:List Deferred)(Q:Bm):Bm :=
 {q:=λe σ ds' w=>match e with
     |.normal=>∃x,p x∧ds'=ds∧Le (s x) σ∧∃f,AW (X x) w f (H x) (R x) (B x) (Fs x)
     |e=>Q.q e σ ds' w,
   p:=Q.p}
section
variable{P:Program}{n:Nat}{Q:Bm}{ds:List Deferred}{X:Cx}{R:List RB}{B:List FB}{Fs:List (World→Fq→Prop)}{fs:List Fr}{σ:Br}{H:List HB}
theorem Wk{c:Code}{α:Type}(p:α→Prop)(s:α→Br)(X':α→Cx)(H':α→List HB)(R':α→List RB)(B':α→List FB)(F':α→List (World→Fq→Prop))(h1:AF P n (oA P n p s X' H' R' B' F' ds (Oi P n Q fs)) ds X R B Fs (.code c) [] σ H)
   (h2:∀x,p x→AF P n Q ds (X' x) (R' x) (B' x) (F' x) (.out .normal) fs (s x) (H' x)):AF P n Q ds X R B Fs (.code c) fs σ H:=λw f hM a ha=>by
 refine wp_mono (h1 w f hM a ha) λe a' w' he=>?_
 cases e with
 |normal =>
   obtain⟨σ',ds',hs,x,hp,rfl,hl,f',hm⟩:=he;exact⟨s x,_,hs.le hl,h2 x hp w' f' hm⟩
 |panic c=>exact he
 |outgrown=>exact he
 |ret=>exact he
 |exit i=>exact he
 |goto i=>exact he
theorem LQ{α:Type}{p:α→Prop}{s:α→Br}{X':α→Cx}{H':α→List HB}{R':α→List RB}{B':α→List FB}{F':α→List (World→Fq→Prop)}(x:α)(hp:p x)(hl:Le (s x) σ)(hM:∀w f,AW X w f H R B Fs→∃f,AW (X' x) w f (H' x) (R' x) (B' x) (F' x)):AF P n (oA P n p s X' H' R' B' F' ds Q) ds X R B Fs (.out .normal) [] σ H :=
 λw f hm=>⟨x,hp,rfl,hl,hM w f hm⟩
end
end Go.SW
namespace Go.SP
open Go.SW Go.RowKit
def Ln(f:BX→Ty→Ty→Except Int (Nat×BX))(b:BX)(x y:T1)(r q:Ty):Except Int (Nat×BX) :=
 match x,y with
 |.var n,.var m=>if n==m then f b r q else (match CE b n (.var m) with|.error e=>.error e|.ok b'=>f b' r q)
 |.var n,.con ty kb=>(match CE b n (.con ty kb) with|.error e=>.error e|.ok b'=>f b' r q)
 |.con tx ka,.var m=>(match CE b m (.con tx ka) with|.error e=>.error e|.ok b'=>f b' r q)
 |.con tx ka,.con ty kb=>if !(tx==ty)||(ka.len:Int) != kb.len then .error 11 else f b (ka.app r) (kb.app q)
def Hd:Nat→BX→Ty→Ty→Except Int (Nat×BX)
 |k,b,.nil,_=>.ok (k,b)
 |0,_,.var _ _,_=>.error 4
 |0,_,.con _ _ _,_=>.error 4
 |k+1,b,.var n r,y=>Ln (Hd k) b (Ai b (.var n)) (Ai b y.hd) r y.tl
 |k+1,b,.con tx ka r,y=>Ln (Hd k) b (.con tx ka) (Ai b y.hd) r y.tl
def pA{α β:Type}(g:α→β):Except Int α→Except Int β
 |.error e=>.error e
 |.ok x=>.ok (g x)
def SX{α β:Type}(g:α→Except Int β):Except Int α→Except Int β
 |.error e=>.error e
 |.ok x=>g x
theorem RM:∀(k:Nat)(b:BX)(x y:Ty),IL k b x y=pA (·.2) (Hd k b x y):=by
 intro k
 induction k with
 |zero=>intro b x y;cases x <;> rfl
 |succ k ih =>
   have h1:∀b x y r q,Jl (IL k) b x y r q=pA (·.2) (Ln (Hd k) b x y r q):=by
     intro b x y r q
     cases x with
     |var n =>
       cases y with
       |var m =>
         simp only[Jl,Ln]
         cases (n==m) with
         |true=>simp only[if_true];exact ih _ _ _
         |false =>
           simp only[Bool.false_eq_true,if_false]
           cases CE b n (.var m) with
           |error e=>rfl
           |ok b'=>exact ih _ _ _
       |con ty kb =>
         simp only[Jl,Ln]
         cases CE b n (.con ty kb) with
         |error e=>rfl
         |ok b'=>exact ih _ _ _
     |con tx ka =>
       cases y with
       |var m =>
         simp only[Jl,Ln]
         cases CE b m (.con tx ka) with
         |error e=>rfl
         |ok b'=>exact ih _ _ _
       |con ty kb =>
         simp only[Jl,Ln]
         split
         · rfl
         · exact ih _ _ _
   intro b x y
   cases x with
   |nil=>rfl
   |var n r=>exact h1 _ _ _ _ _
   |con tx ka r=>exact h1 _ _ _ _ _
theorem T1.hd_cons(t:T1)(r:Ty):(t.cons r).hd=t:=by cases t <;> rfl
theorem T1.tl_cons(t:T1)(r:Ty):(t.cons r).tl=r:=by cases t <;> rfl
theorem cS(k:Nat)(b:BX)(x:T1)(r y:Ty):Hd (k+1) b (x.cons r) y=Ln (Hd k) b (Ai b x) (Ai b y.hd) r y.tl:=by cases x <;> rfl
theorem gY:∀(k:Nat)(b:BX)(x y r q:Ty),x.len=y.len→Hd k b (x.app r) (y.app q)=SX (λz=>Hd z.1 z.2 r q) (Hd k b x y):=by
 intro k
 induction k with
 |zero =>
   intro b x y r q h
   cases x with
   |nil =>
     have:y=.nil:=Ty.len0 (by simpa[Ty.len] using h.symm);subst this;rfl
   |var n x=>rfl
   |con tx ka x=>rfl
 |succ k ih =>
   have h1:∀b u v x y r q,x.len=y.len→Ln (Hd k) b u v (x.app r) (y.app q)=SX (λz=>Hd z.1 z.2 r q) (Ln (Hd k) b u v x y):=by
     intro b u v x y r q h
     cases u with
     |var n =>
       cases v with
       |var m =>
         simp only[Ln]
         cases (n==m) with
         |true=>simp only[if_true];exact ih _ _ _ _ _ h
         |false =>
           simp only[Bool.false_eq_true,if_false]
           cases CE b n (.var m) with
           |error e=>rfl
           |ok b'=>exact ih _ _ _ _ _ h
       |con ty kb =>
         simp only[Ln]
         cases CE b n (.con ty kb) with
         |error e=>rfl
         |ok b'=>exact ih _ _ _ _ _ h
     |con tx ka =>
       cases v with
       |var m =>
         simp only[Ln]
         cases CE b m (.con tx ka) with
         |error e=>rfl
         |ok b'=>exact ih _ _ _ _ _ h
       |con ty kb =>
         simp only[Ln]
         split
         · rfl
         · rename_i hc
           have hl:ka.len=kb.len:=by
             simp only[Bool.or_eq_true,not_or,bne_iff_ne,ne_eq,Decidable.not_not] at hc;omega
           rw[← Ty.app_assoc,← Ty.app_assoc];exact ih _ _ _ _ _ (by rw[Ty.len_app,Ty.len_app,hl,h])
   intro b x y r q h
   cases x with
   |nil =>
     have:y=.nil:=Ty.len0 (by simpa[Ty.len] using h.symm);subst this;rfl
   |var n x =>
     obtain⟨u,y,rfl⟩:=Ty.cases1 y (by rw[← h];simp[Ty.len]);have e1:(u.cons y).app q=u.cons (y.app q):=by cases u <;> rfl
     rw[e1];show Ln (Hd k) b (Ai b (.var n)) (Ai b (u.cons (y.app q)).hd) (x.app r) (u.cons (y.app q)).tl=SX _ (Ln (Hd k) b (Ai b (.var n)) (Ai b (u.cons y).hd) x (u.cons y).tl);rw[T1.hd_cons,T1.tl_cons,T1.hd_cons,T1.tl_cons];exact h1 _ _ _ _ _ _ _ (by rw[T1.len_cons] at h;simpa[Ty.len] using h)
   |con tx ka x =>
     obtain⟨u,y,rfl⟩:=Ty.cases1 y (by rw[← h];simp[Ty.len]);have e1:(u.cons y).app q=u.cons (y.app q):=by cases u <;> rfl
     rw[e1];show Ln (Hd k) b (.con tx ka) (Ai b (u.cons (y.app q)).hd) (x.app r) (u.cons (y.app q)).tl=SX _ (Ln (Hd k) b (.con tx ka) (Ai b (u.cons y).hd) x (u.cons y).tl);rw[T1.hd_cons,T1.tl_cons,T1.hd_cons,T1.tl_cons];exact h1 _ _ _ _ _ _ _ (by rw[T1.len_cons] at h;simpa[Ty.len] using h)
theorem Rr(k:Nat)(b:BX)(x y:T1)(r q:Ty)(h:r.len=q.len):Hd k b (x.cons r) (y.cons q)=SX (λz=>Hd z.1 z.2 r q) (Hd k b x.one y.one):=by
 rw[← T1.one_app,← T1.one_app];exact gY k b x.one y.one r q (by unfold T1.one;rw[T1.len_cons,T1.len_cons])
theorem KU(k:Nat)(b:BX)(x y:T1):Hd (k+1) b x.one y.one=Ln (Hd k) b (Ai b x) (Ai b y) .nil .nil:=by
 unfold T1.one;rw[cS,T1.hd_cons,T1.tl_cons]
theorem dY(b:BX)(x y:T1):Hd 0 b x.one y.one=.error 4:=by cases x <;> rfl
variable {s:BX}
theorem Ng(hw:aV s):∀(k:Nat)(t:T1)(n:Int),Ft s t≤k→Hq s k t=.var n→Ce s n=none
 |0,.con _ _,_,_,h=>by cases h
 |0,.var m,n,hr,h=>by
   cases h
   cases hl:Ce s m with
   |none=>rfl
   |some t=>have:=NG hw hl;omega
 |k+1,.con _ _,_,_,h=>by cases h
 |k+1,.var m,n,hr,h=>by
   simp only[Hq] at h
   cases hl:Ce s m with
   |none=>rw[hl] at h;cases h;exact hl
   |some t =>
     rw[hl] at h;exact Ng hw k t n (by have:=NG hw hl;omega) h
theorem Oe(hw:aV s){t:T1}{n:Int}(h:Ai s t=.var n):Ce s n=none:=Ng hw _ t n (by have:=Vo s t;omega) h
theorem FP(hw:J3 s){t:T1}{n:Int}(h:Ai s t=.var n):Ce s n=none:=Oe hw.v h
theorem U1(hw:aV s)(t:T1):Ai s (Ai s t)=Ai s t:=by
 cases h:Ai s t with
 |con tx k=>exact Hg s tx k
 |var n=>exact NF (Oe hw h)
theorem Ms(hw:J3 s)(t:T1):Ai s (Ai s t)=Ai s t:=U1 hw.v t
theorem Q4{s':BX}(hw:J3 s){n:Int}{t:T1}(hn:Ce s n=none)(ht:Ai s t=t)(hb:t.bnd)(h:CE s n t=.ok s'):J3 s':=by
 unfold CE at h
 split at h
 · split at h
   · rename_i hs hf
     cases h
     refine⟨hn,λm hm=>?_,hb,hw⟩;subst hm;refine⟨λe=>?_,FP hw ht⟩;have:=JD s n 999 (.var m);rw[hf,ht,e] at this;simp[Xk] at this
   · cases h
 · cases h
def gG(P:Program)(fid:FuncId)(T:TypeId)(k:Nat):Prop:=∀(w:World)(f:Fq)(_:Vl w f)(sb mb:Nat)(s:BX)(fr:Int),BQ T sb mb s fr (10000-(k:Int)) w f→(f sb=0∧f mb=0)→sb≠mb→J3 s→k≤10000→∀(t u:T1)(a:Option Addr)(c:Nat)(a2:Option Addr)(c2:Nat),t.bnd→u.bnd→Ah w f t.kids a c→Ah w f u.kids a2 c2 →
 BC P fid #[.pointer (some ⟨sb,0,none⟩),tV t a c,tV u a2 c2] w (Fv (α:=Int×BX×Int) (λx=>.int .i64 x.1) (λx=>(∀z,Hd k s t.one u.one=.ok z→x.1=0∧x.2.1=z.2∧x.2.2=10000-(z.1:Int)∧J3 z.2)∧∀e,Hd k s t.one u.one=.error e→x.1=e∧e≠0) (MJ sb mb) (λx=>BQ T sb mb x.2.1 fr x.2.2) (λ_=>[]) w f)
theorem rU:∀(k:Nat)(b:BX)(x y:Ty)(z:Nat×BX),Hd k b x y=.ok z→z.1≤k:=by
 intro k
 induction k with
 |zero=>intro b x y z h;cases x <;> cases h;exact Nat.le_refl _
 |succ k ih =>
   have h1:∀b u v r q z,Ln (Hd k) b u v r q=.ok z→z.1≤k:=by
     intro b u v r q z h;unfold Ln at h
     repeat' split at h
     all_goals first|exact ih _ _ _ _ h|cases h
   intro b x y z h
   cases x with
   |nil=>cases h;exact Nat.le_refl _
   |var n r=>have:=h1 _ _ _ _ _ _ h;omega
   |con tx ka r=>have:=h1 _ _ _ _ _ _ h;omega
end Go.SP
namespace Go.SP
variable {s:BX}
theorem PZ{n:Int}{t:T1}{e:Int}(h:CE s n t=.error e):e≠0:=by
 unfold CE at h
 split at h
 · split at h
   · cases h
   · cases h;decide
 · cases h;decide
end Go.SP
namespace Go.SP
open Go.SW Go.RowKit
theorem Hv(s:BX)(k:Nat):AP s k .nil=.nil:=by cases k <;> rfl
variable {s:BX}{j k:Nat}
theorem Pp:∀(k:Nat)(x:Ty)(j:Nat),BH s k x=some j→∀m,k-j≤m→AP s m x=AP s k x:=by
 intro k
 induction k using Nat.strongRecOn with
 |_ k ih =>
   intro x j h m hm
   have key:∀(k' m':Nat)(ks r:Ty),k'<k→BH s k' (ks.app r)=some j→k'-j≤m'→AP s m' ks=AP s k' ks∧AP s m' r=AP s k' r:=by
     intro k' m' ks r hk hr hm';rw[Kl] at hr
     cases hj:BH s k' ks with
     |none=>rw[hj] at hr;cases hr
     |some j1 =>
       rw[hj] at hr;have hr:BH s j1 r=some j:=hr;have h1:=Fe s _ _ _ hj;have h2:=Fe s _ _ _ hr;exact⟨ih k' hk ks j1 hj m' oM,(ih j1 oM r j hr m' oM).trans (ih j1 oM r j hr k' oM).symm⟩
   cases x with
   |nil=>rw[Hv,Hv]
   |var n r =>
     cases k with
     |zero=>cases h
     |succ k =>
       simp only[BH] at h
       cases hh:Ai s (.var n) with
       |var q =>
         rw[hh] at h;have h3:=Fe s _ _ _ h;obtain⟨m,rfl⟩:∃m',m=m'+1:=⟨m-1,oM⟩;simp only[AP,hh];rw[(key k m .nil r (by omega) h (by omega)).2]
       |con tx ks =>
         rw[hh] at h;have h3:=Fe s _ _ _ h;obtain⟨m,rfl⟩:∃m',m=m'+1:=⟨m-1,oM⟩;simp only[AP,hh];have:=key k m ks r oM h oM;rw[this.1,this.2]
   |con tx ks r =>
     cases k with
     |zero=>cases h
     |succ k =>
       simp only[BH] at h;have h3:=Fe s _ _ _ h;obtain⟨m,rfl⟩:∃m',m=m'+1:=⟨m-1,oM⟩;simp only[AP];have:=key k m ks r oM h oM;rw[this.1,this.2]
theorem On(k:Nat)(t:T1):(AP s (k+1) t.one).hd=(match Ai s t with|.var m=>.var m|.con tx ks=>.con tx (AP s k ks)):=by
 cases t with
 |var n =>
   simp only[T1.one,T1.cons,AP]
   cases Ai s (.var n) <;> rfl
 |con tx ks=>rw[Hg];rfl
theorem Mu{t:T1}{r:Ty}{j2:Nat}(h:BH s k t.one=some j)(h2:BH s j r=some j2):AP s k (t.cons r)=(AP s k t.one).hd.cons (AP s j r):=by
 cases k with
 |zero=>rw[L2] at h;cases h
 |succ k =>
   have h3:j≤k:=by rw[Kz] at h;exact Fe s _ _ _ h
   have hf:=Pp j r j2 h2 k oM;rw[On]
   cases t with
   |var n =>
     simp only[T1.cons,AP]
     cases Ai s (.var n) with
     |var m=>simp only[T1.cons];rw[hf]
     |con tx ks=>simp only[T1.cons];rw[hf]
   |con tx ks=>rw[Hg];simp only[T1.cons,AP];rw[hf]
theorem Wt(hw:J3 s):∀(k:Nat)(x:Ty),x.bnd→(AP s k x).bnd∧(AP s k x).len≤x.len:=by
 intro k
 induction k with
 |zero=>intro x _;cases x <;> exact⟨tQ,Nat.zero_le _⟩
 |succ k ih =>
   intro x hx
   cases x with
   |nil=>exact⟨tQ,Nat.le_refl _⟩
   |var n r =>
     have h1:=C7 hw (t:=.var n) ⟨⟨Nat.zero_le _,Nat.zero_le _⟩,tQ⟩;have h2:=ih r hx;simp only[AP]
     cases hh:Ai s (.var n) with
     |var m=>exact⟨h2.1,by simp only[Ty.len];omega⟩
     |con tx ks =>
       rw[hh] at h1;have h3:=ih ks h1.2;exact⟨⟨⟨Nat.le_trans h3.2 h1.1.1,h1.1.2⟩,h3.1,h2.1⟩,by simp only[Ty.len];omega⟩
   |con tx ks r =>
     have h2:=ih r hx.2.2;have h3:=ih ks hx.2.1;exact⟨⟨⟨Nat.le_trans h3.2 hx.1.1,hx.1.2⟩,h3.1,h2.1⟩,by simp only[AP,Ty.len];omega⟩
theorem GO{t:T1}(h:t.bnd):t.one.bnd:=T1.bnd_cons.2 ⟨h,tQ⟩
theorem Yj{x:Ty}(h:x.bnd):x.hd.bnd:=by
 cases x with
 |nil=>exact⟨⟨Nat.zero_le _,Nat.zero_le _⟩,tQ⟩
 |var n r=>exact⟨⟨Nat.zero_le _,Nat.zero_le _⟩,tQ⟩
 |con tx k r=>exact⟨h.1,h.2.1⟩
theorem YF(hw:J3 s){t:T1}(h:t.bnd)(k:Nat):(AP s k t.one).hd.bnd:=Yj (Wt hw k _ (GO h)).1
def eP(P:Program)(fid:FuncId)(T:TypeId)(k:Nat):Prop:=∀(w:World)(f:Fq)(_:Vl w f)(sb mb:Nat)(s:BX)(fr pr:Int),BQ T sb mb s fr pr w f→J3 s→∀(t:T1)(a:Option Addr)(c j:Nat),t.bnd→Ah w f t.kids a c→BH s k t.one=some j →
 BC P fid #[.pointer (some ⟨sb,0,none⟩),tV t a c] w (BW (α:=Option Addr×Nat) (λx=>tV (AP s k t.one).hd x.1 x.2) (λ_=>True) (λx=>[λw f=>Ah w f (AP s k t.one).hd.kids x.1 x.2]) w f)
end Go.SP
namespace Go.SP
open Go.SW Go.RowKit
variable {f:Fq}{i:Nat}{a:Option Addr}{w:World}
theorem Ah.get{t:T1}:∀{k:Ty}{b off i:Nat},J0 w f k b off→k.get i=some t→∃ka kc,Cs w f b (off+i*4) (tC t ka kc)∧Ah w f t.kids ka kc
 |k,b,off,0,h,hi=>by
   obtain⟨t2,r,rfl⟩:∃t r,k=T1.cons t r:=by
     cases k with
     |nil=>cases hi
     |var n r=>exact⟨.var n,r,rfl⟩
     |con tx q r=>exact⟨.con tx q,r,rfl⟩
   have e:t2=t:=by cases t2 <;> (cases hi;rfl)
   subst e;obtain⟨b2,off2,ka,kc,h1,h2,h3,_⟩:=AZ.head (a:=some ⟨b,off,none⟩) (i:=0) (.inr ⟨b,off,rfl,by simpa using h⟩)
   cases h1
   exact⟨ka,kc,by simpa using h2,h3⟩
 |k,b,off,i+1,h,hi=>by
   obtain⟨t2,r,rfl⟩:∃t r,k=T1.cons t r:=by
     cases k with
     |nil=>cases hi
     |var n r=>exact⟨.var n,r,rfl⟩
     |con tx q r=>exact⟨.con tx q,r,rfl⟩
   have e:r.get i=some t:=by cases t2 <;> exact hi
   obtain⟨b2,off2,ka,kc,h1,_,_,h4⟩:=AZ.head (a:=some ⟨b,off,none⟩) (i:=0) (.inr ⟨b,off,rfl,by simpa using h⟩);rcases h4 with rfl|⟨b3,off3,h5,h6⟩
   · cases e
   · cases h5
     obtain⟨ka,kc,h7,h8⟩:=Ah.get h6 e;exact⟨ka,kc,by rw[show off+(i+1)*4=off+(0+1)*4+i*4 by omega];exact h7,h8⟩
theorem Ah.nth{t:T1}{k:Ty}{c:Nat}(h:Ah w f k a c)(hi:k.get i=some t):∃b off ka kc,a=some ⟨b,off,none⟩∧Cs w f b (off+i*4) (tC t ka kc)∧Ah w f t.kids ka kc:=by
 rcases h.2 with rfl|⟨b,off,h1,h2⟩
 · cases hi
 · obtain⟨ka,kc,h3,h4⟩:=Ah.get h2 hi
   exact⟨b,off,ka,kc,h1,h3,h4⟩
theorem HZ{t:T1}:∀{k:Ty}{i:Nat},k.bnd→k.get i=some t→t.bnd
 |.nil,_,_,h=>by cases h
 |.var n r,0,_,h=>by cases h;exact⟨⟨Nat.zero_le _,Nat.zero_le _⟩,tQ⟩
 |.con tx q r,0,hb,h=>by cases h;exact⟨hb.1,hb.2.1⟩
 |.var n r,i+1,hb,h=>HZ (k:=r) hb h
 |.con tx q r,i+1,hb,h=>HZ (k:=r) hb.2.2 h
theorem Vg{k:Ty}(h:i<k.len):∃t,k.get i=some t:=by
 induction k generalizing i with
 |nil=>simp[Ty.len] at h
 |var n r ih=>cases i with
   |zero=>exact⟨_,rfl⟩
   |succ i=>exact ih (by simp only[Ty.len] at h;omega)
 |con tx q r _ ih=>cases i with
   |zero=>exact⟨_,rfl⟩
   |succ i=>exact ih (by simp only[Ty.len] at h;omega)
theorem Y9{k:Ty}(h:k.len≤i):k.get i=none:=by
 induction k generalizing i with
 |nil=>rfl
 |var n r ih=>cases i with
   |zero=>simp[Ty.len] at h
   |succ i=>exact ih (by simp only[Ty.len] at h;omega)
 |con tx q r _ ih=>cases i with
   |zero=>simp[Ty.len] at h
   |succ i=>exact ih (by simp only[Ty.len] at h;omega)
theorem Pj(l:List Int)(y:Ty)(t:T1)(r:Ty):DX l y (t.cons r)=(C2 t l y).cons (DX l y r):=by
 cases t with
 |var n =>
   simp only[T1.cons,DX,C2,T1.one]
   cases (DS l n).bind y.get with
   |none=>rfl
   |some t=>cases t <;> rfl
 |con tx k=>rfl
theorem It{l:List Int}{y:Ty}(hy:y.bnd):∀x:Ty,x.bnd→(DX l y x).bnd∧(DX l y x).len=x.len
 |.nil,_=>⟨tQ,rfl⟩
 |.var n r,hx=>by
   have h2:=It (l:=l) hy r hx;simp only[DX]
   cases hg:(DS l n).bind y.get with
   |none=>exact⟨h2.1,by simp only[Ty.len];omega⟩
   |some t =>
     obtain⟨i,_,hi⟩:=Option.bind_eq_some_iff.1 hg;exact⟨T1.bnd_cons.2 ⟨HZ hy hi,h2.1⟩,by rw[T1.len_cons];simp only[Ty.len];omega⟩
 |.con tx k r,hx=>by
   have h2:=It (l:=l) hy r hx.2.2;have h3:=It (l:=l) hy k hx.2.1;exact⟨⟨⟨by rw[h3.2];exact hx.1.1,hx.1.2⟩,h3.1,h2.1⟩,by simp only[DX,Ty.len];omega⟩
theorem JX{l:List Int}{y:Ty}(hy:y.bnd){t:T1}(h:t.bnd):(C2 t l y).bnd:=Yj (It hy _ (GO h)).1
theorem Nu{l:List Int}{y:Ty}{n:Int}:C2 (.var n) l y=((DS l n).bind y.get).getD (.var n):=by
 simp only[C2,T1.one,T1.cons,DX]
 cases (DS l n).bind y.get with
 |none=>rfl
 |some t=>cases t <;> rfl
theorem ZA{l:List Int}{y:Ty}{tx:lU}{k:Ty}:C2 (.con tx k) l y=.con tx (DX l y k):=rfl
def fJ(P:Program)(fid:FuncId)(m:Nat):Prop:=∀(w:World)(f:Fq)(_:Vl w f)(l:List Int)(la:Option Addr)(lc:Nat)(y:Ty)(ya:Option Addr)(yc:Nat),l.length≤1000000→y.len≤200000→y.bnd→B7 w f l la lc→Ah w f y ya yc→∀(t:T1)(a:Option Addr)(c:Nat),t.kids.size<m→t.bnd→Ah w f t.kids a c →
 BC P fid #[tV t a c,.slice la l.length lc,.slice ya y.len yc] w (BW (α:=Option Addr×Nat) (λx=>tV (C2 t l y) x.1 x.2) (λ_=>True) (λx=>[λw f=>Ah w f (C2 t l y).kids x.1 x.2]) w f)
end Go.SP
namespace Go.SW
open Go.RowKit
section
variable{X:Cx}{w w':World}{f f':Fq}{H:List HB}{R:List RB}{B:List FB}{Fs:List (World→Fq→Prop)}
variable {I':World→Fq→Prop}
theorem AW.callJ{MI':Nat→Prop}(h:AW X w f H R B Fs)(he:CR X.MI w f w' f')(hI:I' w' f')(hst:GH MI' I')(hmi:∀b,MI' b→X.MI b∨(w.heap.size≤b∧b<w'.heap.size∧f' b=0)):AW {X with MI:=MI',I:=I' } w' f' H R B Fs :=
 have h1:AW {X with I:=λ_ _=>True} w' f' H R B Fs:=h.callI he tQ (λ_ _ _ _ _ _ _=>trivial)
 {h1 with
   res:=hI,stab:=hst,
   mi:=λb hb=>by
     rcases hmi b hb with hb|⟨h2,h3,h4⟩
     · exact h1.mi b hb
     · exact⟨h3,h4,.inl (Nat.le_trans h.stp.size h2)⟩,
   own:=λb hb=>⟨(h1.own b hb).1,(h1.own b hb).2.1,λhm=>by
     rcases hmi b hm with hm|⟨h2,_,_⟩
     · exact (h1.own b hb).2.2 hm
     · exact Nat.lt_irrefl _ (Nat.lt_of_lt_of_le (h.lt hb) h2)⟩}
end
def OL{α:Type}(val:α→Value)(q:α→Prop)(M:Nat→Prop)(MI':α→Nat→Prop)(I':α→World→Fq→Prop)(F':α→List (World→Fq→Prop))(w:World)(f:Fq)(v:Value)(w':World):Prop:=∃x f',v=val x∧q x∧CR M w f w' f'∧(∀b,MI' x b→M b∨(w.heap.size≤b∧b<w'.heap.size∧f' b=0))∧I' x w' f'∧A2 (F' x) w' f'
section
variable{P:Program}{n:Nat}{Q:Bm}{ds:List Deferred}{X:Cx}{R:List RB}{B:List FB}{Fs:List (World→Fq→Prop)}{fs:List Fr}{σ:Br}{H:List HB}
variable{all r:List Oper}{ty T:TypeId}{pos:String}{af:Array Edge}{g:Option (Nat×Bool)}{d:Nat}{x y:Operand}
variable {args:Array Value}{nw:Bool}{fid:FuncId}{XX:List PanicEntry→World→Prop}{news xs zl:List Value}{bytes cs k:Nat}{Ts e:TypeId}
theorem cW{op:Op}{α:Type}{val:α→Value}{q:α→Prop}{MI':α→Nat→Prop}{I':α→World→Fq→Prop}{F':α→List (World→Fq→Prop)}
   (hg:gd all σ g=some true) (hd:Nat.blt d n=true) (he:∀w,Enters P σ op ty w fid args)
   (hc:∀w f,AW X w f H R B Fs→BS P fid args w (OL val q X.MI MI' I' F' w f) XX) (hst:∀x,GH (MI' x) (I' x)) (hm:∀x,Af (F' x))
   (hp:∀w f c w',AW X w f H R B Fs→XX c w'→Q.p c σ ds w')
   (h:∀x,q x→AF P n Q ds {X with MI:=MI' x,I:=I' x} R B (F' x++Fs) (.ops all r) fs (AL σ d (val x)) H):AF P n Q ds X R B Fs (.ops all (⟨some d,op,ty,pos,af,g⟩::r)) fs σ H:=λw f hM=>by
 refine BG hg (Ck hd (he w) (hc w f hM) ?_ ?_)
 · rintro v w' ⟨x,f',rfl,hq,hE,hmi,hI,hF⟩
   exact h x hq w' f' ((hM.callJ hE hI (hst x) hmi).more (B':=[]) (λ_ h=>by cases h) hF.mem (hm x).mem)
 · intro c w' hX
   rw[M6];exact hp w f c w' hM hX
theorem SS{size:Nat}{a:Option Addr}{c src:Nat}{MI':Option Addr→Nat→Prop}{I':Option Addr→Nat→World→Fq→Prop}(j:Nat)(hg:gd all σ g=some true)(hd:Nat.blt d n=true)(hT:OF P T=some (e,size,bytes,zl))(hzl:Nat.beq zl.length size=true)(hsz:Nat.blt 0 size=true)
   (hs:ev σ x=some (.slice a k c)) (hx:ev σ y=some (.slice (some ⟨src,0,none⟩) 1 cs)) (hH:Ig H j=some ⟨src,news,Ts,nw⟩) (hl:Nat.beq news.length size=true) (h1:MK news=true) (h47:(k+1)*bytes≤140737488355328) (h63:k+1≤9223372036854775807)
   (hrow:∀w f,X.I w f→Co w e size a c k xs) (hmi:∀b,rb a=some b→X.MI b) (hMI:∀a' b,MI' a' b→X.MI b∨rb a'=some b) (hI:∀w f w' a' c',X.I w f→AW X w f H R B Fs→Co w' e size a' c' (k+1) (xs++news)→GA a w a' w'→I' a' c' w' f) (hst:∀a' c',GH (MI' a') (I' a' c'))
   (h:∀a' c',AF P n Q ds {X with MI:=MI' a',I:=I' a' c' } R B Fs (.ops all r) fs (AL σ d (.slice a' (k+1) c')) H) :
   AF P n Q ds X R B Fs (.ops all (⟨some d,.call {callee:=.builtin .append,args:=#[x,y],argTypes:=#[T,T]},ty,pos,af,g⟩::r)) fs σ H:=λw f hM =>
 BG hg (Bg hd hT hzl hsz hs hx (hrow w f hM.res) (hM.blk _ (Cc hH)) hl h1 h47 h63 λa' c' w' hr hG=>h a' c' w' f (hM.callJ ⟨⟨hG.os,hG.tape,hG.output,hG.size,λb hb hm=>hG.block b hb λe=>hm (hmi b e.symm)⟩,λ_ _=>rfl,λb hb=>hM.val b (Nat.le_trans hG.size hb)⟩ (hI w f w' a' c' hM.res hM hr hG) (hst a' c') λb hb=>by
   rcases hMI a' b hb with hb|hb
   · exact .inl hb
   · rcases hG.own with ho|ho
     · exact .inl (hmi b (ho.symm.trans hb))
     · have e:b=w.heap.size:=Option.some.inj (hb.symm.trans ho)
       subst e;exact .inr ⟨Nat.le_refl _,hr.lt hb,hM.val _ (Nat.le_refl _)⟩))
end
variable {b:Nat}{M:Nat→Prop}
theorem CR.done{w w':World}{f f':Fq}(h:CR M w f w' f')(hb:w.heap.size≤b)(hl:b<w'.heap.size)(n:Nat):CR M w f w' (λk=>if k=b then n else f' k) :=
 ⟨h.stp,λk hk=>by show (if k=b then n else f' k)=f k;rw[if_neg (by omega)];exact h.old k hk,λk hk=>by show (if k=b then n else f' k)=0;rw[if_neg (by omega)];exact h.val k hk⟩
end Go.SW
namespace Go.SP
open Go.SW Go.RowKit
def HW(l:List Int):List (Int×Value):=l.reverse.map λn=>(n,.bool true)
theorem Qq(n:Int):∀l:List Int,FL (l.map λn=>(n,Value.bool true)) n=if l.contains n then some (.bool true) else none
 | []=>rfl
 |k::l=>by
   have:=Qq n l;simp only[List.map,FL,List.contains_cons]
   by_cases hk:n=k
   · subst hk;simp
   · have e:(n==k)=false:=by simpa using hk
     rw[e,this];simp
theorem Tw(n:Int)(l:List Int):FL (HW l) n=if l.contains n then some (.bool true) else none:=by
 unfold HW;rw[Qq];simp
theorem SK:∀l:List Int,l.Nodup→Lm (l.map λn=>(n,Value.bool true))
 | [],_=>trivial
 |k::l,h=>by
   have h':=List.nodup_cons.1 h;refine⟨?_,SK l h'.2⟩;rw[Qq,if_neg];simpa using h'.1
theorem LI{l:List Int}(h:l.Nodup):Lm (HW l):=SK _ ((List.reverse_perm l).nodup_iff.2 h)
def MT(ob mb:Nat)(a:Option Addr)(b:Nat):Prop:=b=ob∨b=mb∨rb a=some b
structure En(T:TypeId)(ob mb:Nat)(sl:Value)(lm:List Int)(a:Option Addr)(c:Nat)(l:List Int)(w:World)(f:Fq):Prop where
 blk:AT w ob [sl] T
 map:Cm Fw w mb (HW lm)
 row:Co w 3 1 a c l.length (l.map λn=>.int .i64 n)
 ne:ob≠mb∧rb a≠some ob∧rb a≠some mb
 nd:lm.Nodup
theorem En.stab{T:TypeId}{ob mb:Nat}{sl:Value}{lm:List Int}{a:Option Addr}{c:Nat}{l:List Int}:GH (MT ob mb a) (En T ob mb sl lm a c l):=λ_ _ _ _ h hF hb =>
 ⟨(hb ob (.inl rfl)).trans h.blk,h.map.heap (hb mb (.inr (.inl rfl))),⟨h.row.1,h.row.2.imp id λ⟨b,q,h1,h2,h3⟩=>⟨b,q,h1,(hb b (.inr (.inr (by rw[h1];rfl)))).trans h2,h3⟩⟩,h.ne,h.nd⟩
abbrev QO(T:TypeId)(ob mb:Nat)(a:Option Addr)(c:Nat)(l:List Int):World→Fq→Prop:=En T ob mb (.slice a l.length c) l a c l
variable {b:Nat}{M:Nat→Prop}{w0:World}
theorem En.lt{T:TypeId}{ob mb:Nat}{sl:Value}{lm:List Int}{a:Option Addr}{c:Nat}{l:List Int}{w:World}{f:Fq}(h:En T ob mb sl lm a c l w f)(hb:MT ob mb a b):b<w.heap.size:=by
 rcases hb with rfl|rfl|hb
 · exact h.blk.lt
 · exact h.map.lt
 · exact h.row.lt hb
theorem WC(t:T1)(r:Ty)(l:List Int):CW (t.cons r) l=CW r (CW t.one l):=by cases t <;> rfl
theorem JH:∀(x:Ty)(l:List Int),(CW x l).length≤x.size+l.length
 |.nil,l=>by simp[CW]
 |.var n r,l=>by
   have:=JH r (if l.contains n then l else l++[n]);simp only[CW,Ty.size]
   split at this <;> simp_all <;> omega
 |.con tx k r,l=>by
   have h1:=JH k l;have h2:=JH r (CW k l);simp only[CW,Ty.size];omega
def eR(P:Program)(fid:FuncId)(T:TypeId)(m:Nat):Prop:=∀(w:World)(f:Fq)(_:Vl w f)(ob mb:Nat)(a:Option Addr)(c:Nat)(l:List Int),QO T ob mb a c l w f→(∀b,MT ob mb a b→f b=0)→∀(t:T1)(ta:Option Addr)(tc:Nat),t.kids.size<m→t.kids.size+1+l.length≤1000000→t.bnd→Ah w f t.kids ta tc →
 BC P fid #[tV t ta tc,.map (some mb),.pointer (some ⟨ob,0,none⟩)] w (OL (α:=Option Addr×Nat) (λ_=>.tuple #[]) (λ_=>True) (MT ob mb a) (λx=>MT ob mb x.1) (λx=>QO T ob mb x.1 x.2 (CW t.one l)) (λ_=>[]) w f)
theorem En.int{T:TypeId}{ob mb:Nat}{sl:Value}{lm:List Int}{a:Option Addr}{c:Nat}{l:List Int}{w:World}{f0 f:Fq}(h:En T ob mb sl lm a c l w f)(hE:CR M w0 f0 w f)(hn:∀b,rb a=some b→w0.heap.size≤b):∃f',CR M w0 f0 w f'∧B7 w f' l a c:=by
 obtain⟨hl,⟨ha,hc,hz⟩|⟨b,q,ha,hb,hmc,_,hq,ht⟩⟩:=h.row
 · exact⟨f,hE,oM,.inl (by cases l with|nil=>rfl|cons _ _=>simp at hz)⟩
 · refine⟨λk=>if k=b then l.length else f k,hE.done (hn b (by rw[ha];rfl)) hb.lt _,hmc,.inr ⟨b,0,ha,λj v hj=>?_⟩⟩
   have hj2:j<l.length:=by have:=(List.getElem?_eq_some_iff.1 hj).1;simpa using this
   refine⟨?_,?_⟩
   · show 0+j<(if b=b then l.length else f b)
     rw[if_pos rfl];omega
   · rw[Nat.zero_add,hb.cell]
     rw[← ht,List.getElem?_take] at hj
     split at hj
     · exact hj
     · cases hj
end Go.SP
namespace Go.SP
open Go.SW Go.RowKit
theorem Wc(n:Int)(l:List Int):(FL (HW l) n).getD (.bool false)=.bool (l.contains n):=by
 rw[Tw];cases l.contains n <;> rfl
theorem Vw{n:Int}{l:List Int}(h:l.contains n=false):FL (HW l) n=none:=by rw[Tw,h];rfl
theorem Pf(n:Int)(l:List Int):HW (l++[n])=(n,.bool true)::HW l:=by simp[HW]
section
variable{T:TypeId}{ob mb:Nat}{sl sl':Value}{lm l:List Int}{a a':Option Addr}{c c':Nat}{w w':World}{f f':Fq}{n:Int}
theorem En.app(h:En T ob mb sl lm a c l w f)(hr:Co w' 3 1 a' c' (l.length+1) (l.map (λn=>Value.int .i64 n)++[.int .i64 n]))(hG:GA a w a' w'):En T ob mb sl lm a' c' (l++[n]) w' f' where
 blk:=h.blk.grow hG (λe=>h.ne.2.1 e.symm)
 map:=h.map.heap (hG.block mb h.map.lt (λe=>h.ne.2.2 e.symm))
 row:=by simpa using hr
 ne:=⟨h.ne.1,λe=>hG.own.elim (λo=>h.ne.2.1 (o.symm.trans e)) (λo=>absurd h.blk.lt (by rw[← Option.some.inj (o.symm.trans e)];exact Nat.lt_irrefl _)),λe=>hG.own.elim (λo=>h.ne.2.2 (o.symm.trans e)) (λo=>absurd h.map.lt (by rw[← Option.some.inj (o.symm.trans e)];exact Nat.lt_irrefl _))⟩
 nd:=h.nd
variable {xs:List Value}{b:Nat}{e:TypeId}
theorem Co.chgB{size:Nat}{a:Option Addr}{c n:Nat}(h:Co w e size a c n xs)(hC:Hh b w w')(hne:rb a≠some b):Co w' e size a c n xs :=
 ⟨h.1,h.2.imp id λ⟨g,q,h1,h2,h3⟩=>⟨g,q,h1,(hC.block g (λe=>hne (by rw[h1,← e];rfl))).trans h2,h3⟩⟩
theorem En.mapped{q:List Int}(h:En T ob mb sl l a c q w f)(hC:Hh mb w w')(hm:Cm Fw w' mb ((n,.bool true)::HW l))(hn:l.contains n=false):En T ob mb sl (l++[n]) a c q w' f' where
 blk:=(hC.block ob h.ne.1).trans h.blk
 map:=by rw[Pf];exact hm
 row:=Co.chgB h.row hC h.ne.2.2
 ne:=h.ne
 nd:=by
   have h9:n∉l:=by simpa using hn
   exact List.nodup_append.2 ⟨h.nd,List.nodup_cons.2 ⟨by simp,List.nodup_nil⟩,λx hx y hy e=>by simp at hy;subst hy;subst e;exact h9 hx⟩
theorem En.store(h:En T ob mb sl lm a c l w f)(hC:Hh ob w w')(hb:AT w' ob [sl'] T):En T ob mb sl' lm a c l w' f' where
 blk:=hb
 map:=h.map.heap (hC.block mb (λe=>h.ne.1 e.symm))
 row:=Co.chgB h.row hC h.ne.2.1
 ne:=h.ne
 nd:=h.nd
end
variable {b:Nat}
theorem MT.or{ob mb:Nat}{a a':Option Addr}(h:MT ob mb a' b):MT ob mb a b∨rb a'=some b:=h.elim (λh=>.inl (.inl h)) λh=>h.elim (λh=>.inl (.inr (.inl h))) .inr
theorem Nj(n:Int)(l:List Int):CW (T1.var n).one l=if l.contains n then l else l++[n]:=rfl
theorem ZZ(tx:lU)(k:Ty)(l:List Int):CW (T1.con tx k).one l=CW k l:=rfl
end Go.SP
namespace Go.SW
open Go.RowKit
section
variable{P:Program}{σ:Br}{w:World}{ty T T':TypeId}{x y:Operand}
variable {t t':TypeId}
theorem bQ{k:IntKind}{a b:Int}(m:Int)(hx:ev σ x=some (.int k a))(hy:ev σ y=some (.int k b))(hb:b≠0)(h:k.wrap (a.tdiv b)=m):AS P σ (.binOp .quo t x y t') ty w (.int k m) w :=
 λρ _ _ _ _ hρ=>by simp[execOp,hρ _ _ hx,hρ _ _ hy,eqGuard,binOp,Op.intDiv,hb,h]
theorem dV{k:IntKind}{a b:Int}(m:Int)(hx:ev σ x=some (.int k a))(hy:ev σ y=some (.int k b))(hb:b≠0)(h:a.tmod b=m):AS P σ (.binOp .rem t x y t') ty w (.int k m) w :=
 λρ _ _ _ _ hρ=>by simp[execOp,hρ _ _ hx,hρ _ _ hy,eqGuard,binOp,Op.intDiv,hb,h]
theorem mH{k:IntKind}{n:Int}{l:lU}(hx:ev σ x=some (.int k n))(hc:mV P T T'=true)(h:Utf8.encode n=⟨l.toArray⟩):AS P σ (.convert T T' x) ty w (S l) w:=by
 unfold mV at hc
 cases hs:P.underlying T with
 |none=>rw[hs] at hc;cases hc
 |some s =>
   cases hd:P.underlying T' with
   |none=>rw[hs,hd] at hc;cases hc
   |some d =>
     rw[hs,hd] at hc
     cases d <;> simp at hc
     exact λρ _ _ _ _ hρ=>by
       simp[execOp,hρ _ _ hx,convert,run_underlying hs,run_underlying hd,Conv.intToString,h,S]
end
variable {Q:Bm}{X:Cx}{f:Fq}{Fs:List (World→Fq→Prop)}{ds:List Deferred}{B:List FB}{fs:List Fr}{H H':List HB}{l:List Value}{b i n:Nat}{w':World}
theorem AW.toRow{w:World}{R:List RB}{T:TypeId}(h:AW X w f H R B Fs)(hg:Ig H i=some ⟨b,l,T,true⟩)(hs:L1 H i=some H')(size c:Nat)(hl:l.length=c*size)(hc:c≤maxLen):AW X w f H' (⟨T,size,some ⟨b,0,none⟩,c,c,l⟩::R) B Fs:=by
 have hblk:AT w b l T:=h.blk _ (Cc hg);have hmem:b∈CZ H R:=List.mem_append.2 (.inl (List.mem_map.2 ⟨_,Cc hg,rfl⟩));have hown:=h.own b hmem;have hsub:=LD hs;have hnd:(H.map HB.b++JS R).Nodup:=h.nd;have hbR:b∉CZ H' R:=Lu (L:=JS R) hg hs hnd;have hso:(CZ H' R).Sublist (CZ H R):=List.Sublist.append (hsub.map _) (List.Sublist.refl _)
 have hp:∀k,k∈CZ H' (⟨T,size,some ⟨b,0,none⟩,c,c,l⟩::R)→k=b∨k∈CZ H' R:=λk hk=>by
   have hk':k∈H'.map HB.b++b::R.filterMap (λr=>rb r.a):=hk;rcases List.mem_append.1 hk' with hk' | hk'
   · exact .inr (List.mem_append.2 (.inl hk'))
   · rcases List.mem_cons.1 hk' with rfl|hk'
     · exact .inl rfl
     · exact .inr (List.mem_append.2 (.inr hk'))
 exact {h with
         blk:=λe he=>h.blk e (hsub.subset he),
         row:=λr hr=>by
           rcases List.mem_cons.1 hr with rfl|hr
           · exact⟨hl,.inr ⟨b,l,rfl,hblk,Nat.le_refl _,hc,hl,by rw[← hl];exact List.take_length⟩⟩
           · exact h.row r hr,
         nd:=by
           show (H'.map HB.b++b::R.filterMap (λr=>rb r.a)).Nodup;exact List.perm_middle.nodup_iff.2 (List.nodup_cons.2 ⟨hbR,hso.nodup h.nd⟩),
         own:=λk hk=>by
           rcases hp k hk with rfl|hk
           · exact hown
           · exact h.own k (hso.subset hk),
         hnw:=λe he=>h.hnw e (hsub.subset he),
         rnw:=λr hr k hk=>by
           rcases List.mem_cons.1 hr with rfl|hr
           · cases hk;exact h.hnw _ (Cc hg) rfl
           · exact h.rnw r hr k hk}
theorem rE{P:Program}{R:List RB}{σ:Br}{k:MU}{T:TypeId}(i size c:Nat)(hg:Ig H i=some ⟨b,l,T,true⟩)(hs:L1 H i=some H')(hl:Nat.beq l.length (c*size)=true)(hc:c≤maxLen)
   (h:AF P n Q ds X (⟨T,size,some ⟨b,0,none⟩,c,c,l⟩::R) B Fs k fs σ H'):AF P n Q ds X R B Fs k fs σ H:=λw f hM=>h w f (hM.toRow hg hs size c (Nat.eq_of_beq_eq_true hl) hc)
theorem Below.exm{w:World}(h:Below w.heap.size w w')(hv:∀b,w.heap.size≤b→f b=0)(M:Nat→Prop):CR M w f w' f:=⟨⟨h.os,h.tape,h.output,h.size,λk hk _=>h.block k hk⟩,λ_ _=>rfl,λb hb=>hv b (Nat.le_trans h.size hb)⟩
end Go.SW
namespace Go.SP
open Go.SW Go.RowKit
def OG(vs:List Int)(t:T1):lU:=(DW vs t.one).drop 1
theorem Mn(vs:List Int)(t:T1)(r:Ty):DW vs (t.cons r)=32::(OG vs t++DW vs r):=by
 cases t with
 |var n=>simp[OG,T1.one,T1.cons,DW]
 |con tx k=>cases k <;> simp[OG,T1.one,T1.cons,DW]
theorem ZO(vs:List Int)(n:Int):OG vs (.var n)=(match DS vs n with|some i=>Ec i|none=>[]):=by
 simp[OG,T1.one,T1.cons,DW] <;> cases DS vs n <;> rfl
theorem Vy(vs:List Int)(tx:lU):OG vs (.con tx .nil)=tx:=by simp[OG,T1.one,T1.cons,DW]
theorem ZB(vs:List Int)(tx:lU)(k:Ty)(h:k.len≠0):OG vs (.con tx k)=[40]++(tx++DW vs k)++[41]:=by
 cases k with
 |nil=>exact absurd rfl h
 |var n r=>simp[OG,T1.one,T1.cons,DW]
 |con tx k r=>simp[OG,T1.one,T1.cons,DW]
theorem TI(s:lU)(l:List lU)(x:lU):Lib.joinTail s (l++[x])=Lib.joinTail s l++(s++x):=by simp[Lib.joinTail]
theorem N8:∀k n,(Uq k n).length≤k
 |0,_=>Nat.le_refl _
 |k+1,n=>by
   unfold Uq
   split
   · simp
   · have:=N8 k (n / 10);simp;omega
theorem Up(i:Nat):(Ec i).length≤22:=by
 unfold Ec
 split
 · simp
 · have:=N8 20 (i / 26);simp;omega
theorem LM(vs:List Int):∀x:Ty,x.bnd→(DW vs x).length≤x.size*1000100
 |.nil,_=>by simp[DW]
 |.var n r,h=>by
   have h2:=LM vs r h;rw[show Ty.var n r=(T1.var n).cons r from rfl,Mn,T1.size_cons,ZO]
   have h3:(match DS vs n with|some i=>Ec i|none=>[]).length≤22:=by
     cases DS vs n with
     |none=>simp
     |some i=>exact Up i
   simp only[List.length_cons,List.length_append,T1.kids,Ty.size] at h3 ⊢;omega
 |.con tx k r,h=>by
   have h2:=LM vs r h.2.2;have h3:=LM vs k h.2.1;have h4:=h.1.2;rw[show Ty.con tx k r=(T1.con tx k).cons r from rfl,Mn,T1.size_cons]
   have h5:(OG vs (.con tx k)).length≤tx.length+k.size*1000100+2:=by
     by_cases hk:k.len=0
     · obtain rfl:=Ty.len0 hk
       rw[Vy];exact Nat.le_trans (Nat.le_add_right _ _) (Nat.le_add_right _ _)
     · rw[ZB vs tx k hk];simp;omega
   simp only[List.length_cons,List.length_append,T1.kids] at h5 ⊢;omega
theorem Uk(i:Nat):Utf8.encode (97+((i % 26:Nat):Int))=⟨[UInt8.ofNat (97+i % 26)].toArray⟩:=by
 have h:∀j,j<26→Utf8.encode (97+((j:Nat):Int))=⟨[UInt8.ofNat (97+j)].toArray⟩:=dC;exact h _ (Nat.mod_lt _ oM)
theorem Qr:∀(k n:Nat),n<10 ^ (k+1)→Uq (k+1) n=Lib.decDigits n
 |0,n,h=>by
   have:n<10:=by simpa using h
   rw[Lib.decDigits,Uq,if_pos this,dif_pos this]
 |k+1,n,h=>by
   rw[Lib.decDigits,Uq]
   by_cases h1:n<10
   · rw[if_pos h1,dif_pos h1]
   · rw[if_neg h1,dif_neg h1,Qr k (n / 10) (by rw[Nat.pow_succ] at h;omega)]
def Mj(vs:List Int)(es:List (Int×Value)):Prop:=Lm es∧∀n,FL es n=(DS vs n).map λi=>S (Ec i)
variable {es:List (Int×Value)}
theorem Mj.get{vs:List Int}(h:Mj vs es)(n:Int):(FL es n).getD (S [])=S (OG vs (.var n)):=by
 rw[h.2,ZO]
 cases DS vs n <;> rfl
def gM(P:Program)(fid:FuncId)(m:Nat):Prop:=∀(w:World)(f:Fq)(_:Vl w f)(mb:Nat)(vs:List Int)(es:List (Int×Value)),Cm Fw w mb es→Mj vs es→∀(t:T1)(a:Option Addr)(c:Nat),t.kids.size<m→t.kids.size≤1000000→t.bnd→Ah w f t.kids a c →
 BC P fid #[tV t a c,.map (some mb)] w (BW (α:=Unit) (λ_=>S (OG vs t)) (λ_=>True) (λ_=>[]) w f)
end Go.SP
namespace Go.SP
open Go.SW Go.RowKit
theorem S1(x n:Int):∀l:List Int,DS (l++[n]) x=(match DS l x with|some j=>some j|none=>if n==x then some l.length else none)
 | []=>by simp[DS]
 |k::l=>by
   have ih:=S1 x n l;simp only[List.cons_append,DS]
   by_cases hk:(k==x)=true
   · rw[if_pos hk,if_pos hk]
   · rw[if_neg hk,if_neg hk,ih]
     cases DS l x with
     |some j=>rfl
     |none=>by_cases hn:(n==x)=true <;> simp[hn]
theorem Mj.nil:Mj [] []:=⟨tQ,λ_=>rfl⟩
variable {f:Fq}{es:List (Int×Value)}{l:List Value}{b i m mb sb:Nat}
theorem Mj.snoc{l:List Int}(h:Mj l es){n:Int}(hn:l.contains n=false):FL es n=none∧Mj (l++[n]) ((n,S (Ec l.length))::es):=by
 have h0:FL es n=none:=by rw[h.2,NK hn];rfl
 refine⟨h0,⟨h0,h.1⟩,λx=>?_⟩;rw[S1];simp only[FL]
 by_cases hx:x=n
 · subst hx;rw[NK hn];simp
 · have e1:(x==n)=false:=by simpa using hx
   have e2:(n==x)=false:=by simpa using λe:n=x=>hx e.symm
   rw[e1,e2,h.2]
   cases DS l x <;> simp
theorem Jd:∀(x:Ty)(l:List Int),l.Nodup→(CW x l).Nodup
 |.nil,_,h=>h
 |.var n r,l,h=>by
   simp only[CW];apply Jd r
   split
   · exact h
   · rename_i hn
     have h9:n∉l:=by simpa using hn
     exact List.nodup_append.2 ⟨h,List.nodup_cons.2 ⟨by simp,List.nodup_nil⟩,λx hx y hy e=>by simp at hy;subst hy;subst e;exact h9 hx⟩
 |.con tx k r,l,h=>Jd r _ (Jd k l h)
theorem TO{l:List Int}(h:l.Nodup){n:Int}(hi:l[i]?=some n):(l.take i).contains n=false:=by
 have hlt:=(List.getElem?_eq_some_iff.1 hi).1;have e:l=l.take i++l.drop i:=(List.take_append_drop i l).symm
 have hd:n∈l.drop i:=by
   rw[List.drop_eq_getElem_cons hlt,(List.getElem?_eq_some_iff.1 hi).2];exact .head _
 rw[e] at h;have:=(List.nodup_append.1 h).2.2;have hn:n∉l.take i:=λhm=>this n hm n hd rfl;simpa using hn
theorem Hn(t:T1):(Aq t).length≤t.kids.size+1:=by
 have:=JH t.one [];have e:t.one.size=t.kids.size+0+1:=T1.size_cons t .nil;rw[e] at this;simpa[Aq] using this
theorem BQ.new{T:TypeId}{w:World}(h1:AT w sb [.map (some mb),.int .i64 0,.int .i64 0] T)(h2:Cm Fw w mb []):BQ T sb mb [] 0 0 w f:=⟨h1,[],h2,rfl⟩
theorem kJ{w:World}{T:TypeId}(h:AT w b l T)(hm:Cm Fw w m es):b≠m:=λe=>by
 subst e;obtain⟨es,c,h3,_⟩:=hm;have h4:=h.symm.trans h3
 cases h4
structure Ad where
 cb:Nat
 sb:Nat
 mb:Nat
 km:Nat
 dm:Nat
 rm:Nat
def BE(A:Ad)(b:Nat):Prop:=b=A.cb∨b=A.sb∨b=A.mb∨b=A.km∨b=A.dm∨b=A.rm
structure Ad.ok(A:Ad):Prop where
 cs:A.cb≠A.sb
 cm:A.cb≠A.mb∧A.cb≠A.km∧A.cb≠A.dm∧A.cb≠A.rm
 sm:A.sb≠A.mb∧A.sb≠A.km∧A.sb≠A.dm∧A.sb≠A.rm
 mm:A.mb≠A.km∧A.mb≠A.dm∧A.mb≠A.rm∧A.km≠A.dm∧A.km≠A.rm∧A.dm≠A.rm
def aQ(m:Mk)(aa:Option Addr)(ac:Nat)(oa:Option Addr)(oc:Nat)(va:Option Addr)(vc:Nat):List Value:=.slice aa m.args.len ac::(tC m.out oa oc++[.slice va m.vars.length vc])
def Ci(w:World)(f:Fq):List (lU×Mk)→List (lU×Value)→Prop
 | [],es=>es=[]
 |(k,m)::l,es=>∃aa ac oa oc va vc es',es=(k,.agg (aQ m aa ac oa oc va vc).toArray)::es'∧Ah w f m.args aa ac∧Ah w f m.out.kids oa oc∧B7 w f m.vars va vc∧Ci w f l es'
variable {A:Ad}{s:BX}{f f':Fq}{b:Nat}{a:Option Addr}{TS:TypeId}{w w':World}
theorem Ci.mono(hF:J1 w f w' f'):∀(l:List (lU×Mk))(es:List (lU×Value)),Ci w f l es→Ci w' f' l es
 | [],_,h=>h
 |(_,_)::l,_,⟨aa,ac,oa,oc,va,vc,es',h1,h2,h3,h4,h5⟩=>⟨aa,ac,oa,oc,va,vc,es',h1,Ah.mono _ _ _ _ h2 hF,Ah.mono _ _ _ _ h3 hF,B7.mono _ _ _ _ h4 hF,Ci.mono hF l es' h5⟩
theorem Ci.look{n:lU}:∀{l:List (lU×Mk)}{es:List (lU×Value)},Ci w f l es→(Cd l n=none→FL es n=none)∧∀m,Cd l n=some m→∃aa ac oa oc va vc,FL es n=some (.agg (aQ m aa ac oa oc va vc).toArray)∧Ah w f m.args aa ac∧Ah w f m.out.kids oa oc∧B7 w f m.vars va vc
 | [],es,h=>by
   have h:es=[]:=h;subst h;exact⟨λ_=>rfl,λt h=>by cases h⟩
 |(k,m)::l,es,⟨aa,ac,oa,oc,va,vc,es',h1,h2,h3,h4,h5⟩=>by
   subst h1;have ih:=Ci.look (n:=n) h5;simp only[Cd,FL]
   by_cases hk:k=n
   · subst hk
     refine⟨λh=>by simp at h,λt' h=>?_⟩;simp at h;subst h;exact⟨aa,ac,oa,oc,va,vc,by simp,h2,h3,h4⟩
   · have e1:(k==n)=false:=by simpa using hk
     have e2:(n==k)=false:=by simpa using λe:n=k=>hk e.symm
     rw[e1,e2];simpa using ih
structure Au(T TS:TypeId)(A:Ad)(s:CS)(w:World)(f:Fq):Prop where
 blk:AT w A.cb [.pointer (some ⟨A.sb,0,none⟩),.map (some A.km),.map (some A.dm),.map (some A.rm),.int .i64 s.vars] T
 sol:∃pr,BQ TS A.sb A.mb s.sol s.fresh pr w f
 cons:∃es,Cm CG w A.km es∧Ci w f s.cons es
 datas:Cm CG w A.dm (s.datas.map λp=>(p.1,.int .i64 p.2))
 roots:Cm CG w A.rm (s.roots.map λk=>(k,.bool true))
theorem Au.stab{T:TypeId}{s:CS}:GH (BE A) (Au T TS A s):=λw f w' f' h hF hb =>
 ⟨(
   hb _ (.inl rfl)).trans h.blk,let ⟨pr,hs⟩:=h.sol;⟨pr,BQ.stab (MI:=MJ A.sb A.mb) (.inl rfl) (.inr rfl) _ _ _ _ hs hF λb hm=>hb b (hm.elim (λe=>.inr (.inl e)) λe=>.inr (.inr (.inl e)))⟩,
   let ⟨es,h1,h2⟩:=h.cons;⟨es,h1.heap (hb _ (.inr (.inr (.inr (.inl rfl))))),Ci.mono hF _ _ h2⟩,h.datas.heap (hb _ (.inr (.inr (.inr (.inr (.inl rfl)))))),h.roots.heap (hb _ (.inr (.inr (.inr (.inr (.inr rfl))))))⟩
theorem Au.lt{T:TypeId}{s:CS}(h:Au T TS A s w f)(hb:BE A b):b<w.heap.size:=by
 rcases hb with rfl|rfl|rfl|rfl|rfl|rfl
 · exact h.blk.lt
 · obtain⟨_,hs⟩:=h.sol;exact hs.1.lt
 · obtain⟨_,_,_,hm,_⟩:=h.sol;exact hm.lt
 · obtain⟨_,hm,_⟩:=h.cons;exact hm.lt
 · exact h.datas.lt
 · exact h.roots.lt
structure DZ(s:CS):Prop where
 sol:J3 s.sol
 cons:∀k m,Cd s.cons k=some m→m.args.len≤200000∧m.args.bnd∧m.out.bnd∧m.vars.length≤200000
 dc:Lm (s.cons.map λp=>(p.1,Value.bool true))
 dd:Lm (s.datas.map λp=>(p.1,Value.int .i64 p.2))
 dr:Lm (s.roots.map λk=>(k,Value.bool true))
 fr:0≤s.fresh
def AQ(w:World)(f:Fq):Bt→Option Addr→Prop
 | [],a=>a=none
 |b::e,a=>∃k ta tc va vc ra,a=some ⟨k,0,none⟩∧Cs w f k 0 (S b.name::(tC b.t ta tc++[.slice va b.all.length vc,.pointer ra]))∧Ah w f b.t.kids ta tc∧B7 w f b.all va vc∧AQ w f e ra
theorem AQ.mono'(hF:J1 w f w' f'):∀(e:Bt)(a:Option Addr),AQ w f e a→AQ w' f' e a
 | [],_,h=>h
 |_::e,_,⟨k,ta,tc,va,vc,ra,h1,h2,h3,h4,h5⟩=>⟨k,ta,tc,va,vc,ra,h1,h2.mono hF,Ah.mono _ _ _ _ h3 hF,B7.mono _ _ _ _ h4 hF,AQ.mono' hF e ra h5⟩
theorem AQ.mono{e:Bt}:GC (λw f=>AQ w f e a):=λ_ _ _ _ h hF=>AQ.mono' hF e a h
def Gt(e:Bt):Prop:=∀b,b∈e→b.t.bnd∧b.all.length≤1000000
def trI(T:TypeId)(e:Er):List PanicEntry:=[{v:=.iface T (.agg #[.int .i64 e.1,.int .i64 e.2.1,.int .i64 e.2.2]),recovered:=false}]
def PanE(T:TypeId)(M:Nat→Prop)(q:Er→Prop)(w:World)(f:Fq)(c:List PanicEntry)(w':World):Prop:=∃er f',c=trI T er∧q er∧CR M w f w' f'
abbrev XC(T TS:TypeId)(A:Ad)(s:CS)(w:World)(f:Fq):Cx:=⟨BE A,BE A,Au T TS A s,w,f⟩
theorem Lt{T:TypeId}{s:CS}{Fs:List (World→Fq→Prop)}(hv:Vl w f)(hC:Au T TS A s w f)(hf:∀b,BE A b→f b=0)(hF:A2 Fs w f)(hm:Af Fs):AW (XC T TS A s w f) w f [] [] [] Fs :=
 Z3 (M:=BE A) hv hC Au.stab (λb hb=>⟨hC.lt hb,hf b hb⟩) hF hm
theorem WO:∀(k:Nat)(x:Ty)(j:Nat),BH s k x=some j→(AP s k x).size+j≤k:=by
 intro k
 induction k using Nat.strongRecOn with
 |_ k ih =>
   intro x j h
   have key:∀(k':Nat)(ks r:Ty),k'<k→BH s k' (ks.app r)=some j→(AP s k' ks).size+(AP s k' r).size+j≤k':=by
     intro k' ks r hk hr;rw[Kl] at hr
     cases hj:BH s k' ks with
     |none=>rw[hj] at hr;cases hr
     |some j1 =>
       rw[hj] at hr;have hr:BH s j1 r=some j:=hr;have h1:=Fe s _ _ _ hj;have h2:=ih k' hk ks j1 hj;have h3:=ih j1 oM r j hr;rw[Pp j1 r j hr k' (by omega)];omega
   cases x with
   |nil=>rw[Hv];cases k <;> (cases h;simp[Ty.size])
   |var n r =>
     cases k with
     |zero=>cases h
     |succ k =>
       simp only[BH] at h
       cases hh:Ai s (.var n) with
       |var q =>
         rw[hh] at h;have:=key k .nil r oM h;simp only[AP,hh,Ty.size];rw[Hv] at this;simp only[Ty.size] at this;omega
       |con tx ks =>
         rw[hh] at h;have:=key k ks r oM h;simp only[AP,hh,Ty.size];omega
   |con tx ks r =>
     cases k with
     |zero=>cases h
     |succ k =>
       simp only[BH] at h;have:=key k ks r oM h;simp only[AP,Ty.size];omega
theorem YW(s:BX)(k:Nat)(t:T1):AP s (k+1) t.one=(AP s (k+1) t.one).hd.one:=by
 cases t with
 |var n =>
   simp only[T1.one,T1.cons,AP]
   cases Ai s (.var n) <;> (simp only[Hv];rfl)
 |con tx ks=>simp only[T1.one,T1.cons,AP,Hv];rfl
theorem IX{t u:T1}(h:CL s t=some u):u.kids.size+1≤1000:=by
 unfold CL at h
 split at h
 · rename_i hs
   rw[FD,FQ] at hs;obtain⟨j,hj⟩:=Option.isSome_iff_exists.1 hs;have h1:=WO 1000 t.one j hj;have h2:=YW s 999 t
   cases h
   have h3:(AP s 1000 t.one).size=(AP s 1000 t.one).hd.kids.size+0+1:=(congrArg Ty.size h2).trans (T1.size_cons _ .nil);omega
 · cases h
theorem Kv(hw:J3 s){t u:T1}(hb:t.bnd)(h:CL s t=some u):u.bnd:=by
 unfold CL at h
 split at h
 · cases h;exact YF hw hb 1000
 · cases h
end Go.SP
namespace Go.SW
open Go.RowKit Go.SP
variable {args:Array Value}{f f':Fq}{fid:FuncId}{M:Nat→Prop}{w w':World}
theorem AW.exmI{X:Cx}{H:List HB}{R:List RB}{B:List FB}{Fs:List (World→Fq→Prop)}(h:AW X w f H R B Fs)(hs:∀b,M b→X.MI b)(he:CR M w f w' f'):CR X.M X.w0 X.f0 w' f' :=
 (h.callI (I':=λ_ _=>True) (he.mono hs) tQ (λ_ _ _ _ _ _ _=>trivial)).exm
section
variable{P:Program}{n:Nat}{Q:Bm}{ds:List Deferred}{X:Cx}{R:List RB}{B:List FB}{Fs:List (World→Fq→Prop)}{fs:List Fr}{σ:Br}{H:List HB}
variable{all r:List Oper}{ty T:TypeId}{pos:String}{af:Array Edge}{g:Option (Nat×Bool)}{d:Nat}
theorem Eg{op:Op}{α:Type}{val:α→Value}{q:α→Prop}{I':α→World→Fq→Prop}{F':α→List (World→Fq→Prop)}{pe:Er→Prop}
   (hg:gd all σ g=some true) (hd:Nat.blt d n=true) (he:∀w,Enters P σ op ty w fid args) (hs:∀b,M b→X.MI b)
   (hc:∀w f,AW X w f H R B Fs→BS P fid args w (Fv val q X.MI I' F' w f) (PanE T M pe w f)) (hst:∀x,GH X.MI (I' x)) (hm:∀x,Af (F' x))
   (hp:∀er w' f',pe er→CR X.M X.w0 X.f0 w' f'→Q.p (trI T er) σ ds w')
   (h:∀x,q x→AF P n Q ds {X with I:=I' x} R B (F' x++Fs) (.ops all r) fs (AL σ d (val x)) H):AF P n Q ds X R B Fs (.ops all (⟨some d,op,ty,pos,af,g⟩::r)) fs σ H :=
 OM (XX:=λc w'=>∃er f',c=trI T er∧pe er∧CR X.M X.w0 X.f0 w' f') hg hd he (λw f hM=>(hc w f hM).mono (λ_ _ h=>h) λ_ _ ⟨er,f',h1,h2,h3⟩=>⟨er,f',h1,h2,hM.exmI hs h3⟩) hst hm (λ_ _ _ _ _ ⟨er,f',h1,h2,h3⟩=>h1▸hp er _ f' h2 h3) h
theorem O3{op:Op}{pe:Er→Prop}
   (hg:gd all σ g=some true) (hd:Nat.blt d n=true) (he:∀w,Enters P σ op ty w fid args) (hs:∀b,M b→X.MI b)
   (hc:∀w f,AW X w f H R B Fs→BS P fid args w (λ_ _=>False) (PanE T M pe w f))
   (hp:∀er w' f',pe er→CR X.M X.w0 X.f0 w' f'→Q.p (trI T er) σ ds w'):AF P n Q ds X R B Fs (.ops all (⟨some d,op,ty,pos,af,g⟩::r)) fs σ H :=
 Eg (α:=Unit) (val:=λ_=>.tuple #[]) (q:=λ_=>False) (I':=λ_ _ _=>True) (F':=λ_=>[]) hg hd he hs (λw f hM=>(hc w f hM).mono (λ_ _ h=>h.elim) λ_ _ h=>h) (λ_ _ _ _ _ _ _ _=>trivial) (λ_=>trivial) hp (λ_ h=>h.elim)
end
end Go.SW
namespace Go.SP
open Go.SW Go.RowKit
variable {A:Ad}{f f':Fq}{fr pr:Int}{M:Nat→Prop}{TS:TypeId}{w w' w0:World}
theorem MJ.c:∀b,MJ A.sb A.mb b→BE A b:=λ_ h=>h.elim (λe=>.inr (.inl e)) λe=>.inr (.inr (.inl e))
theorem Au.solved{T:TypeId}{s:CS}(h:Au T TS A s w f)(hA:A.ok)(hv:Vl w f)(hz:∀b,MJ A.sb A.mb b→f b=0)(hE:CR (MJ A.sb A.mb) w f w' f'){s':BX}(hS:BQ TS A.sb A.mb s' fr pr w' f'):Au T TS A {s with sol:=s',fresh:=fr} w' f' where
 blk:=(hE.stp.block _ (h.lt (.inl rfl)) (λe=>e.elim hA.cs hA.cm.1)).trans h.blk
 sol:=⟨pr,hS⟩
 cons:=let ⟨es,h1,h2⟩:=h.cons;⟨es,h1.heap (hE.stp.block _ h1.lt (λe=>e.elim (λe=>hA.sm.2.1 e.symm) (λe=>hA.mm.1 e.symm))),Ci.mono (hE.fle hv hz) _ _ h2⟩
 datas:=h.datas.heap (hE.stp.block _ h.datas.lt (λe=>e.elim (λe=>hA.sm.2.2.1 e.symm) (λe=>hA.mm.2.1 e.symm)))
 roots:=h.roots.heap (hE.stp.block _ h.roots.lt (λe=>e.elim (λe=>hA.sm.2.2.2 e.symm) (λe=>hA.mm.2.2.1 e.symm)))
theorem aM{P:Program}{n:Nat}{Q:Bm}{ds:List Deferred}{f0:Fq}{T:TypeId}{s:CS}{R:List RB}{B:List FB}{Fs:List (World→Fq→Prop)}{fs:List Fr}{σ:Br}{H:List HB}{k:MU}
   (h:∀pr,AF P n Q ds ⟨M,BE A,λw f=>Au T TS A s w f∧BQ TS A.sb A.mb s.sol s.fresh pr w f,w0,f0⟩ R B Fs k fs σ H):AF P n Q ds ⟨M,BE A,Au T TS A s,w0,f0⟩ R B Fs k fs σ H :=
 pS (X:=⟨M,BE A,Au T TS A s,w0,f0⟩) (λpr w f=>Au T TS A s w f∧BQ TS A.sb A.mb s.sol s.fresh pr w f) (λw f h=>let ⟨pr,hp⟩:=h.sol;⟨pr,h,hp⟩) (λpr w f w' f' h hF hb=>⟨Au.stab w f w' f' h.1 hF hb,BQ.stab (MI:=MJ A.sb A.mb) (.inl rfl) (.inr rfl) _ _ _ _ h.2 hF λb hm=>hb b (MJ.c b hm)⟩) h
end Go.SP
namespace Go.SP
open Go.SW Go.RowKit
def EI(fr:Int):Nat→Ty
 |0=>.nil
 |n+1=>.var (fr+1) (EI (fr+1) n)
theorem Gc:∀(n:Nat)(fr:Int),(EI fr n).len=n
 |0,_=>rfl
 |n+1,fr=>by simp only[EI,Ty.len];rw[Gc n]
theorem IV:∀(n:Nat)(fr:Int),(EI fr n).bnd
 |0,_=>trivial
 |n+1,fr=>IV n (fr+1)
theorem Mz:∀(n:Nat)(fr:Int),EI fr (n+1)=(EI fr n).snoc (.var (fr+n+1))
 |0,fr=>by simp[EI,Ty.snoc,Ty.app,T1.one,T1.cons]
 |n+1,fr=>by
   have:=Mz n (fr+1);rw[EI,this];show _=Ty.var _ _
   congr 2
   simp;omega
theorem BU:∀(l:List Int)(s:CS),B2 l s=(EI s.fresh l.length,{s with fresh:=s.fresh+l.length})
 | [],s=>by simp[B2,EI]
 |_::l,s=>by
   have h:=BU l (AB s).2;simp only[B2,T1.cons,EI,List.length_cons];rw[h];simp only[AB,T1.cons];have e:s.fresh+1+(l.length:Int)=s.fresh+((l.length+1:Nat):Int):=oM;rw[e]
theorem DZ.fresh{s:CS}(h:DZ s){n:Int}(hn:0≤n):DZ {s with fresh:=n}:={h with fr:=hn}
end Go.SP
namespace Go.SP
open Go.SW Go.RowKit
variable {A:Ad}{Q:Bm}{σ:Br}{f:Fq}{Fs:List (World→Fq→Prop)}{ds:List Deferred}{B:List FB}{fs:List Fr}{H:List HB}{n:Nat}{M:Nat→Prop}{P:Program}{T TS:TypeId}{w w0:World}
theorem Ci.keys{n:lU}:∀{l:List (lU×Mk)}{es:List (lU×Value)},Ci w f l es→(FL (l.map λp=>(p.1,Value.bool true)) n=none→FL es n=none)
 | [],es,h,_=>by have h:es=[]:=h;subst h;rfl
 |(k,m)::l,es,⟨_,_,_,_,_,_,es',h1,_,_,_,h5⟩,hn=>by
   subst h1;simp only[List.map,FL] at hn ⊢
   split at hn
   · cases hn
   · rename_i hk;rw[if_neg hk];exact Ci.keys h5 hn
theorem Ci.dis:∀{l:List (lU×Mk)}{es:List (lU×Value)},Ci w f l es→Lm (l.map λp=>(p.1,Value.bool true))→Lm es
 | [],es,h,_=>by have h:es=[]:=h;subst h;trivial
 |(k,m)::l,es,⟨_,_,_,_,_,_,es',h1,_,_,_,h5⟩,hd=>by
   subst h1;exact⟨Ci.keys h5 hd.1,Ci.dis h5 hd.2⟩
theorem vT{f0:Fq}{s:CS}{R:List RB}{k:MU}
   (h:∀es,AF P n Q ds ⟨M,BE A,λw f=>Au T TS A s w f∧Cm CG w A.km es∧Ci w f s.cons es,w0,f0⟩ R B Fs k fs σ H):AF P n Q ds ⟨M,BE A,Au T TS A s,w0,f0⟩ R B Fs k fs σ H :=
 pS (X:=⟨M,BE A,Au T TS A s,w0,f0⟩) (λes w f=>Au T TS A s w f∧Cm CG w A.km es∧Ci w f s.cons es) (λw f h=>let ⟨es,h1,h2⟩:=h.cons;⟨es,h,h1,h2⟩) (λes w f w' f' h hF hb=>⟨Au.stab w f w' f' h.1 hF hb,h.2.1.heap (hb _ (.inr (.inr (.inr (.inl rfl))))),Ci.mono hF _ _ h.2.2⟩) h
end Go.SP
namespace Go.SW
open Go.RowKit Go.SP
variable {Q:Bm}{σ:Br}{X:Cx}{Fs:List (World→Fq→Prop)}{ds:List Deferred}{B:List FB}{fs:List Fr}{H:List HB}{n:Nat}{P:Program}
theorem Rb{R:List RB}{k:MU}{r:RB}(φ:World→Fq→Prop)(hm:GC φ)(hr:∀w f,AW X w f H (r::R) B Fs→∃f',AW X w f' H R B Fs∧φ w f')
   (h:AF P n Q ds X R B (φ::Fs) k fs σ H):AF P n Q ds X (r::R) B Fs k fs σ H:=λw f hM=>by
 obtain⟨f',hM',hφ⟩:=hr w f hM;exact h w f' (hM'.more (B':=[]) (F':=[φ]) (λ_ h=>by cases h) (A2.mem ⟨hφ,tQ⟩) (Af.mem ⟨hm,tQ⟩))
end Go.SW
namespace Go.SP
open Go.SW Go.RowKit
variable {X:Cx}{f:Fq}{Fs:List (World→Fq→Prop)}{B:List FB}{H:List HB}{xs:List Value}{m:Nat}{a:Option Addr}{e:TypeId}{w:World}
theorem Ia{R:List RB}{c:Nat}{k:Ty}(hM:AW X w f H (⟨e,4,a,c,m,xs⟩::R) B Fs)(hL:Bo w f k xs):∃f',AW X w f' H R B Fs∧Ah w f' k a c:=by
 rcases Nat.eq_zero_or_pos k.len with h0|h0
 · obtain rfl:=Ty.len0 h0
   exact⟨f,hM.less (List.Sublist.refl _) (List.sublist_cons_self _ _) (λ_ h=>h) (λ_ h=>h),Ah.nil _ _ _ _⟩
 · exact Ou hM hL h0
theorem MR{R:List RB}{c:Nat}{l:List Int}(hM:AW X w f H (⟨3,1,a,c,l.length,l.map λn=>.int .i64 n⟩::R) B Fs):∃f',AW X w f' H R B Fs∧B7 w f' l a c:=by
 have hr:=hM.row _ (.head _);rcases hr.2 with ⟨_,_,hz⟩|⟨b,q,ha,hb,hmc,_,hq,ht⟩
 · simp only at hz
   exact⟨f,hM.less (List.Sublist.refl _) (List.sublist_cons_self _ _) (λ_ h=>h) (λ_ h=>h),oM,.inl (by cases l with|nil=>rfl|cons _ _=>simp at hz)⟩
 · simp only at ha
   subst ha;obtain⟨f',hM'⟩:=hM.done (i:=0) rfl rfl;refine⟨f',hM'.less (List.Sublist.refl _) (List.Sublist.refl _) (λ_ h=>.tail _ h) (λ_ h=>h),hmc,.inr ⟨b,0,rfl,hM'.fro _ (.head _)⟩⟩
end Go.SP
namespace Go.SW
open Go.RowKit Go.SP
section
variable{κ:Type}[BEq κ]{K:oB κ}[LawfulBEq κ]
theorem Pm(x:κ):∀(es:List MapEntry)(l:List (κ×Value))(i:Nat)(v:Value),es.map (λe=>(e.key,e.val))=l.map (λp=>(K.enc p.1,p.2))→LV x l=some v →
   ∃j e,Instr.findNow K.desc (K.enc x) es i=some (some (i+j,v))∧es[j]?=some e∧e.key=K.enc x∧e.val=v
 | [],[],i,v,_,h=>by cases h
 | [],_::_,_,_,h,_=>by simp at h
 |_::_,[],_,_,h,_=>by simp at h
 |e::es,p::l,i,v,h,hl=>by
   simp only[List.map_cons,List.cons.injEq,Prod.mk.injEq] at h;obtain⟨⟨hk,hv⟩,hr⟩:=h;have hs:Instr.sameNow K.desc (K.enc x) e.key=some (x==p.1):=by rw[hk];exact K.same x p.1
   obtain⟨pk,pv⟩:=p;unfold Instr.findNow;unfold LV at hl;rw[hs]
   cases hc:x==pk with
   |true =>
     rw[hc] at hl;have hl:pv=v:=by simpa using hl
     have he:x=pk:=by simpa using hc
     subst he;exact⟨0,e,by simp[hv,hl],rfl,hk,hv.trans hl⟩
   |false =>
     rw[hc] at hl;obtain⟨j,e',h1,h2,h3⟩:=Pm x es l (i+1) v hr (by simpa using hl);exact⟨j+1,e',by simp only[h1];congr 3;omega,h2,h3⟩
variable{P:Program}{n:Nat}{Q:Bm}{ds:List Deferred}{X:Cx}{R:List RB}{B:List FB}{Fs:List (World→Fq→Prop)}{fs:List Fr}{σ:Br}{H:List HB}{w:World}
variable{all r:List Oper}{ty T k e:TypeId}{pos:String}{af:Array Edge}{g:Option (Nat×Bool)}{d m:Nat}{x y z:Operand}{a:κ}{l:List (κ×Value)}
theorem Tr{v:Value}(hT:G4 P T=some (k,e))(hk:P.underlying k=some K.desc)(hsb:Instr.sameBits 10000 (K.enc a) (K.enc a)=true)(hm:Cm K w m l)(hd:Lm l)(hn:FL l a=some v):∃w',(Instr.mapUpdate T (.map (some m)) (K.enc a) v).run P w=.ok () w'∧Cm K w' m l∧Hh m w w':=by
 have hu:=Kr hT;obtain⟨es,c,h1,h2⟩:=id hm;obtain⟨j,e',hj,he,hek,hev⟩:=Pm (K:=K) a es l.reverse 0 v h2 (by rw[Qi a l hd];exact hn);have hget:(getObj m).run P w=.ok (.map es.toArray c) w:=by simp[getObj,Sem.run,h1]
 have hlt:=hm.lt;have hck:=λb=>K.chk P k w a b hk
 have hset:∀o,(setObj m o).run P w=.ok () {w with heap:=w.heap.setIfInBounds m o}:=λo=>by
   simp[setObj,Sem.run,h1]
 rw[Nat.zero_add] at hj;refine⟨{w with heap:=w.heap.setIfInBounds m (.map (es.toArray.modify j λe=>{e with key:=K.enc a,val:=v}) c)},?_,?_,?_⟩
 · simp only[Instr.mapUpdate,Sem.run_bind,run_underlying hu,Result.andThen_ok,hget]
   simp only[hck,Result.andThen_ok,Instr.findKey,Sem.run_bind,run_underlying hk,hj];simp only[Sem.run_pure,Result.andThen_ok,List.getElem?_toArray,he,Option.map_some,Option.getD_some,hek,Instr.keyThatStays,hsb,if_true];exact hset _
 · refine⟨es.modify j λe=>{e with key:=K.enc a,val:=v},c,?_,?_⟩
   · rw[show (es.modify j λe=>{e with key:=K.enc a,val:=v}).toArray=es.toArray.modify j λe=>{e with key:=K.enc a,val:=v} from Array.ext' (by simp)]
     simp[hlt]
   · rw[← h2]
     apply List.ext_getElem?;intro i;rw[List.getElem?_map,List.getElem?_map,List.getElem?_modify]
     by_cases hij:j=i
     · subst hij
       rw[he];simp[hek,hev]
     · simp[hij]
 · refine⟨rfl,rfl,rfl,by simp,λi him=>?_⟩
   show (w.heap.setIfInBounds m _)[i]?=_;rw[Array.getElem?_setIfInBounds_ne (λe=>him e.symm)]
variable {I':World→Fq→Prop}
theorem sH{v:Value}(hg:gd all σ g=some true)(hx:ev σ x=some (.map (some m)))(hy:ev σ y=some (K.enc a))(hz:ev σ z=some v)(hT:G4 P T=some (k,e))(hk:P.underlying k=some K.desc)(hsb:Instr.sameBits 10000 (K.enc a) (K.enc a)=true)(hmi:X.MI m)(hd:Lm l)(hn:FL l a=some v)
   (hm:∀w f,X.I w f→Cm K w m l) (hI:∀w f w',X.I w f→AW X w f H R B Fs→Hh m w w'→Cm K w' m l→I' w' f) (hst:GH X.MI I')
   (h:AF P n Q ds {X with I:=I' } R B Fs (.ops all r) fs σ H):AF P n Q ds X R B Fs (.ops all (⟨none,.mapUpdate T x y z,ty,pos,af,g⟩::r)) fs σ H:=λw f hM=>by
 obtain⟨w',h1,h2,h3⟩:=Tr (v:=v) hT hk hsb (hm w f hM.res) hd hn;refine BG hg (Kc (w':=w') (λρ _ _ _ _ hρ=>?_) (h w' f (hM.chgI hmi h3 (hI w f w' hM.res hM h3 h2) hst)));simp only[execOp,hρ _ _ hx,hρ _ _ hy,hρ _ _ hz];rw[Sem.run_bind,h1];rfl
omit [LawfulBEq κ] in
theorem Z5(hg:gd all σ g=some true)(hd:Nat.blt d n=true)
   (h:∀m,¬X.MI m→AF P n Q ds {X with MI:=λb=>X.MI b∨b=m,I:=λw f=>X.I w f∧Cm K w m []} R B Fs (.ops all r) fs (AL σ d (.map (some m))) H):AF P n Q ds X R B Fs (.ops all (⟨some d,.makeMap T none,ty,pos,af,g⟩::r)) fs σ H:=λw f hM=>by
 refine BG hg (Aa (v:=.map (some w.heap.size)) (w':=w.alloc (.map #[] 0)) hd (λρ _ _ _ _ hρ=>by simp[execOp,Instr.makeMap]) (h w.heap.size (λhm=>Nat.lt_irrefl _ (hM.mi _ hm).1) _ f ?_));have h1:AW X (w.alloc (.map #[] 0)) f H R B Fs:=hM.call0 (CR.of_ext (Kj w _) hM.val);have hnew:∀b,b∈CZ H R→b≠w.heap.size:=λb hb e=>Nat.lt_irrefl _ (e▸hM.lt hb)
 exact {h1 with
         res:=⟨h1.res,[],0,heap_alloc_new w _,rfl⟩,
         stab:=λw1 f1 w2 f2 hI hF hb=>⟨h1.stab w1 f1 w2 f2 hI.1 hF λb hm=>hb b (.inl hm),hI.2.heap (hb _ (.inr rfl))⟩,
         mi:=λb hb=>by
           rcases hb with hb|rfl
           · exact h1.mi b hb
           · exact⟨by rw[H7];omega,hM.val _ (Nat.le_refl _),.inl hM.stp.size⟩,
         own:=λb hb=>⟨(h1.own b hb).1,(h1.own b hb).2.1,λhm=>by
           rcases hm with hm|rfl
           · exact (h1.own b hb).2.2 hm
           · exact hnew _ hb rfl⟩}
end
end Go.SW
namespace Go.SP
open Go.SW Go.RowKit
def LH(T TS:TypeId)(A:Ad)(s:CS)(m:Nat)(l:List Int)(w:World)(f:Fq):Prop:=Au T TS A s w f∧Cm Fw w m (HW l)
variable {A:Ad}{f:Fq}{mb:Nat}{M:Nat→Prop}{TS:TypeId}{w' w0:World}
theorem LH.stab{T:TypeId}{s:CS}{m:Nat}{l:List Int}:GH (λb=>BE A b∨b=m) (LH T TS A s m l):=λw f w' f' h hF hb =>
 ⟨Au.stab w f w' f' h.1 hF λb hm=>hb b (.inl hm),h.2.heap (hb _ (.inr rfl))⟩
theorem Au.chg{T:TypeId}{s:CS}{m:Nat}{w:World}(h:Au T TS A s w f)(hC:Hh m w w')(hm:¬BE A m)(hf:f m=0):Au T TS A s w' f :=
 Au.stab w f w' f h (Hh.fle hC hf) λb hb=>hC.block b λe=>hm (e▸hb)
theorem ON(l:List Int)(v n:Int):(l++[v]).contains n=(l.contains n||v==n):=by
 cases h:(v==n) with
 |true =>
   have:v=n:=by simpa using h
   subst this;simp
 |false =>
   have:¬v=n:=by simpa using h
   simp;intro h2;exact absurd h2.symm this
theorem wD(n:Int):Instr.sameBits 10000 (Fw.enc n) (Fw.enc n)=true:=by
 show Instr.sameBits 10000 (.int .i64 n) (.int .i64 n)=true;simp[Instr.sameBits]
theorem L4(l:List Int)(v n:Int)(q:List Int)(b:Bool):(((if l.contains v then l else l++[v]).contains n||q.contains n)||b)=((l.contains n||(v::q).contains n)||b):=by
 have h1:(v::q).contains n=((v==n)||q.contains n):=by
   rw[List.contains_cons];congr 1
   cases h:(v==n) with
   |true =>
     have:v=n:=by simpa using h
     subst this;simp
   |false =>
     have:¬v=n:=by simpa using h
     simpa using λe:n=v=>this e.symm
 rw[h1]
 split
 · rename_i hc
   cases hv:(v==n) with
   |true =>
     have:v=n:=by simpa using hv
     subst this;rw[hc];simp
   |false=>simp
 · rw[ON,Bool.or_assoc (l.contains n)]
theorem Pz{l:List Int}{v:Int}(h:l.Nodup):(if l.contains v then l else l++[v]).Nodup:=by
 split
 · exact h
 · rename_i hc
   refine List.nodup_append.2 ⟨h,List.pairwise_singleton _ _,λa ha b hb e=>?_⟩;obtain rfl:b=v:=by simpa using hb
   subst e;exact hc (by simpa using ha)
theorem qC{P:Program}{n:Nat}{Q:Bm}{ds:List Deferred}{f0:Fq}{T:TypeId}{s:CS}{R:List RB}{B:List FB}{Fs:List (World→Fq→Prop)}{fs:List Fr}{σ:Br}{H:List HB}
   {all r:List Oper} {ty TM k e:TypeId} {pos:String} {af:Array Edge} {g:Option (Nat×Bool)} {x y z:Operand} {l:List Int} {v:Int} (hg:gd all σ g=some true) (hx:ev σ x=some (.map (some mb))) (hy:ev σ y=some (.int .i64 v)) (hz:ev σ z=some (.bool true))
   (hT:G4 P TM=some (k,e)) (hk:P.underlying k=some (.int .i64)) (hmn:¬BE A mb) (hnd:l.Nodup)
   (h:AF P n Q ds ⟨M,λb=>BE A b∨b=mb,LH T TS A s mb (if l.contains v then l else l++[v]),w0,f0⟩ R B Fs (.ops all r) fs σ H) :
   AF P n Q ds ⟨M,λb=>BE A b∨b=mb,LH T TS A s mb l,w0,f0⟩ R B Fs (.ops all (⟨none,.mapUpdate TM x y z,ty,pos,af,g⟩::r)) fs σ H:=by
 cases hc:l.contains v with
 |true =>
   rw[hc] at h;exact sH (K:=Fw) (a:=v) (l:=HW l) (I':=LH T TS A s mb l) hg hx hy hz hT hk (wD v) (.inr rfl) (LI hnd) (by rw[Tw,hc];rfl) (λw f h=>h.2) (λw f w2 h hM hC hm=>⟨h.1.chg hC hmn (hM.mi mb (.inr rfl)).2.1,hm⟩) LH.stab h
 |false =>
   rw[hc] at h;exact aN (K:=Fw) (a:=v) (l:=HW l) (I':=LH T TS A s mb (l++[v])) hg hx hy hz hT hk (.inr rfl) (LI hnd) (Vw hc) (λw f h=>h.2) (λw f w2 h hM hC hm=>⟨h.1.chg hC hmn (hM.mi mb (.inr rfl)).2.1,by rw[Pf];exact hm⟩) LH.stab h
theorem Gt.cons{e:Bt}(h:Gt e){b:Bd}(h1:b.t.bnd)(h2:b.all.length≤1000000):Gt (b::e):=λb2 hb=>by
 rcases List.mem_cons.1 hb with rfl|hb
 · exact⟨h1,h2⟩
 · exact h b2 hb
theorem Nd.len_le:∀x:Nd,x.len≤x.size
 |.nil=>Nat.le_refl _
 |.cons _ _ _ _ _ k r=>by have:=Nd.len_le r;simp only[Nd.len,Nd.size];omega
theorem Nd.cases1(x:Nd)(h:0<x.len):∃op ln co tx nm k r,x=.cons op ln co tx nm k r:=by
 cases x with
 |nil=>simp[Nd.len] at h
 |cons op ln co tx nm k r=>exact⟨op,ln,co,tx,nm,k,r,rfl⟩
theorem Nd.len0{x:Nd}(h:x.len=0):x=.nil:=by
 cases x with
 |nil=>rfl
 |cons=>simp[Nd.len] at h
def Nd.wfm:Nd→Nat→Prop
 |.nil,m=>m=0∨m=1
 |.cons op _ _ _ _ k r,m =>
   let X:Prop:=(1≤op∧op≤5)∨(op=6∧k.wfm 0)∨(op=7∧k.wfm 4)∨((op=8∨op=12)∧0<k.len∧k.wfm 0)∨((op=9∨op=10)∧k.wfm 6)∨(op=11∧k.wfm 7)∨(op=13∧k.wfm 0)∨((op=14∨op=15)∧k.wfm 5)∨((op=16∨op=17)∧k.wfm 3)
   match m with
   |0=>X∧r.wfm 0
   |1=>k.wfm 2∧r.wfm 1
   |2=>r.wfm 3
   |3=>X
   |4=>(r=.nil∧X)∨(r≠.nil∧r.wfm 4)
   |5=>X∧r.wfm 1
   |6=>X∧r.wfm 3
   |7=>X∧r.wfm 6
   |_=>False
def Hj(op:Int)(k:Nd):Prop:=(1≤op∧op≤5)∨(op=6∧k.wfm 0)∨(op=7∧k.wfm 4)∨((op=8∨op=12)∧0<k.len∧k.wfm 0)∨((op=9∨op=10)∧k.wfm 6)∨(op=11∧k.wfm 7)∨(op=13∧k.wfm 0)∨((op=14∨op=15)∧k.wfm 5)∨((op=16∨op=17)∧k.wfm 3)
section
variable{op ln co nm:Int}{tx:lU}{k r:Nd}
theorem jU:(Nd.cons op ln co tx nm k r).wfm 0↔Hj op k∧r.wfm 0:=Iff.rfl
theorem vH:(Nd.cons op ln co tx nm k r).wfm 1↔k.wfm 2∧r.wfm 1:=Iff.rfl
theorem uL:(Nd.cons op ln co tx nm k r).wfm 2↔r.wfm 3:=Iff.rfl
theorem WU:(Nd.cons op ln co tx nm k r).wfm 3↔Hj op k:=Iff.rfl
theorem oC:(Nd.cons op ln co tx nm k r).wfm 4↔(r=.nil∧Hj op k)∨(r≠.nil∧r.wfm 4):=Iff.rfl
theorem tZ:(Nd.cons op ln co tx nm k r).wfm 6↔Hj op k∧r.wfm 3:=Iff.rfl
end
abbrev nV(op ln co:Int)(tx:lU)(nm:Int)(k:Nd)(na:Option Addr)(nc:Nat):Value:=.agg #[.int .i64 op,.int .i64 ln,.int .i64 co,S tx,.int .i64 nm,.slice na k.len nc]
def ZY(P:Program)(fid:FuncId)(n:Nat):Prop:=∀(w:World)(f:Fq)(_:Vl w f)(op ln co nm:Int)(tx:lU)(kids:Nd)(na:Option Addr)(nc:Nat),kids.size<n→kids.size≤1000000→AK w f kids na nc →
 BC P fid #[nV op ln co tx nm kids na nc] w (BW (α:=Unit) (λ_=>.bool (C0 n op kids)) (λ_=>True) (λ_=>[]) w f)
end Go.SP
namespace Go.SW
open Go.RowKit
variable {σ':Br}{fn:Func}{a0:HB}{vs:List Value}{d:Nat}{x0 x1 x10 x2 x3 x4 x5 x6 x7 x8 x9:Value}{a1 a10 a11 a12 a13 a2 a3 a4 a5 a6 a7 a8 a9:World→Fq→Prop}
theorem lE{σ:Br}(h:Le σ' σ:=by (repeat (first|exact KJ _|refine AD ?_ rfl))):Le σ' σ:=h
theorem wU{σ:Br}{a0:Nat}(h0:σ a0=some x0):Le (AL e0 a0 x0) σ:=AD (KJ _) h0
@[reducible] def E2(a0:Nat)(x0:Value)(a1:Nat)(x1:Value):Br:=AL (AL e0 a0 x0) a1 x1
theorem wH{σ:Br}{a0 a1 a2:Nat}(h0:σ a0=some x0)(h1:σ a1=some x1)(h2:σ a2=some x2):Le (AL (AL (AL e0 a0 x0) a1 x1) a2 x2) σ:=AD (AD (AD (KJ _) h0) h1) h2
@[reducible] def E3(a0:Nat)(x0:Value)(a1:Nat)(x1:Value)(a2:Nat)(x2:Value):Br:=AL (AL (AL e0 a0 x0) a1 x1) a2 x2
theorem vX{σ:Br}{a0 a1 a2 a3:Nat}(h0:σ a0=some x0)(h1:σ a1=some x1)(h2:σ a2=some x2)(h3:σ a3=some x3):Le (AL (AL (AL (AL e0 a0 x0) a1 x1) a2 x2) a3 x3) σ:=AD (AD (AD (AD (KJ _) h0) h1) h2) h3
@[reducible] def E4(a0:Nat)(x0:Value)(a1:Nat)(x1:Value)(a2:Nat)(x2:Value)(a3:Nat)(x3:Value):Br:=AL (AL (AL (AL e0 a0 x0) a1 x1) a2 x2) a3 x3
theorem aO{σ:Br}{a0 a1 a2 a3 a4:Nat}(h0:σ a0=some x0)(h1:σ a1=some x1)(h2:σ a2=some x2)(h3:σ a3=some x3)(h4:σ a4=some x4):Le (AL (AL (AL (AL (AL e0 a0 x0) a1 x1) a2 x2) a3 x3) a4 x4) σ:=AD (AD (AD (AD (AD (KJ _) h0) h1) h2) h3) h4
@[reducible] def E5(a0:Nat)(x0:Value)(a1:Nat)(x1:Value)(a2:Nat)(x2:Value)(a3:Nat)(x3:Value)(a4:Nat)(x4:Value):Br:=AL (AL (AL (AL (AL e0 a0 x0) a1 x1) a2 x2) a3 x3) a4 x4
@[reducible] def E6(a0:Nat)(x0:Value)(a1:Nat)(x1:Value)(a2:Nat)(x2:Value)(a3:Nat)(x3:Value)(a4:Nat)(x4:Value)(a5:Nat)(x5:Value):Br:=AL (AL (AL (AL (AL (AL e0 a0 x0) a1 x1) a2 x2) a3 x3) a4 x4) a5 x5
theorem xP{σ:Br}{a0 a1 a2 a3 a4 a5 a6:Nat}(h0:σ a0=some x0)(h1:σ a1=some x1)(h2:σ a2=some x2)(h3:σ a3=some x3)(h4:σ a4=some x4)(h5:σ a5=some x5)(h6:σ a6=some x6):Le (AL (AL (AL (AL (AL (AL (AL e0 a0 x0) a1 x1) a2 x2) a3 x3) a4 x4) a5 x5) a6 x6) σ:=AD (AD (AD (AD (AD (AD (AD (KJ _) h0) h1) h2) h3) h4) h5) h6
@[reducible] def E7(a0:Nat)(x0:Value)(a1:Nat)(x1:Value)(a2:Nat)(x2:Value)(a3:Nat)(x3:Value)(a4:Nat)(x4:Value)(a5:Nat)(x5:Value)(a6:Nat)(x6:Value):Br:=AL (AL (AL (AL (AL (AL (AL e0 a0 x0) a1 x1) a2 x2) a3 x3) a4 x4) a5 x5) a6 x6
theorem uP{σ:Br}{a0 a1 a2 a3 a4 a5 a6 a7:Nat}(h0:σ a0=some x0)(h1:σ a1=some x1)(h2:σ a2=some x2)(h3:σ a3=some x3)(h4:σ a4=some x4)(h5:σ a5=some x5)(h6:σ a6=some x6)(h7:σ a7=some x7):Le (AL (AL (AL (AL (AL (AL (AL (AL e0 a0 x0) a1 x1) a2 x2) a3 x3) a4 x4) a5 x5) a6 x6) a7 x7) σ:=AD (AD (AD (AD (AD (AD (AD (AD (KJ _) h0) h1) h2) h3) h4) h5) h6) h7
@[reducible] def E8(a0:Nat)(x0:Value)(a1:Nat)(x1:Value)(a2:Nat)(x2:Value)(a3:Nat)(x3:Value)(a4:Nat)(x4:Value)(a5:Nat)(x5:Value)(a6:Nat)(x6:Value)(a7:Nat)(x7:Value):Br:=AL (AL (AL (AL (AL (AL (AL (AL e0 a0 x0) a1 x1) a2 x2) a3 x3) a4 x4) a5 x5) a6 x6) a7 x7
theorem fS{σ:Br}{a0 a1 a2 a3 a4 a5 a6 a7 a8:Nat}(h0:σ a0=some x0)(h1:σ a1=some x1)(h2:σ a2=some x2)(h3:σ a3=some x3)(h4:σ a4=some x4)(h5:σ a5=some x5)(h6:σ a6=some x6)(h7:σ a7=some x7)(h8:σ a8=some x8):Le (AL (AL (AL (AL (AL (AL (AL (AL (AL e0 a0 x0) a1 x1) a2 x2) a3 x3) a4 x4) a5 x5) a6 x6) a7 x7) a8 x8) σ:=AD (AD (AD (AD (AD (AD (AD (AD (AD (KJ _) h0) h1) h2) h3) h4) h5) h6) h7) h8
@[reducible] def E9(a0:Nat)(x0:Value)(a1:Nat)(x1:Value)(a2:Nat)(x2:Value)(a3:Nat)(x3:Value)(a4:Nat)(x4:Value)(a5:Nat)(x5:Value)(a6:Nat)(x6:Value)(a7:Nat)(x7:Value)(a8:Nat)(x8:Value):Br:=AL (AL (AL (AL (AL (AL (AL (AL (AL e0 a0 x0) a1 x1) a2 x2) a3 x3) a4 x4) a5 x5) a6 x6) a7 x7) a8 x8
@[reducible] def xU(a0:Nat)(x0:Value)(a1:Nat)(x1:Value)(a2:Nat)(x2:Value)(a3:Nat)(x3:Value)(a4:Nat)(x4:Value)(a5:Nat)(x5:Value)(a6:Nat)(x6:Value)(a7:Nat)(x7:Value)(a8:Nat)(x8:Value)(a9:Nat)(x9:Value):Br:=AL (AL (AL (AL (AL (AL (AL (AL (AL (AL e0 a0 x0) a1 x1) a2 x2) a3 x3) a4 x4) a5 x5) a6 x6) a7 x7) a8 x8) a9 x9
theorem uX{σ:Br}{a0 a1 a2 a3 a4 a5 a6 a7 a8 a9 a10:Nat}(h0:σ a0=some x0)(h1:σ a1=some x1)(h2:σ a2=some x2)(h3:σ a3=some x3)(h4:σ a4=some x4)(h5:σ a5=some x5)(h6:σ a6=some x6)(h7:σ a7=some x7)(h8:σ a8=some x8)(h9:σ a9=some x9)(h10:σ a10=some x10):Le (AL (AL (AL (AL (AL (AL (AL (AL (AL (AL (AL e0 a0 x0) a1 x1) a2 x2) a3 x3) a4 x4) a5 x5) a6 x6) a7 x7) a8 x8) a9 x9) a10 x10) σ:=AD (AD (AD (AD (AD (AD (AD (AD (AD (AD (AD (KJ _) h0) h1) h2) h3) h4) h5) h6) h7) h8) h9) h10
@[reducible] def pY(a0:Nat)(x0:Value)(a1:Nat)(x1:Value)(a2:Nat)(x2:Value)(a3:Nat)(x3:Value)(a4:Nat)(x4:Value)(a5:Nat)(x5:Value)(a6:Nat)(x6:Value)(a7:Nat)(x7:Value)(a8:Nat)(x8:Value)(a9:Nat)(x9:Value)(a10:Nat)(x10:Value):Br:=AL (AL (AL (AL (AL (AL (AL (AL (AL (AL (AL e0 a0 x0) a1 x1) a2 x2) a3 x3) a4 x4) a5 x5) a6 x6) a7 x7) a8 x8) a9 x9) a10 x10
@[reducible] def vZ(a0:Nat)(x0:Value)(a1:Nat)(x1:Value)(a2:Nat)(x2:Value)(a3:Nat)(x3:Value)(a4:Nat)(x4:Value)(a5:Nat)(x5:Value)(a6:Nat)(x6:Value)(a7:Nat)(x7:Value)(a8:Nat)(x8:Value)(a9:Nat)(x9:Value)(a10:Nat)(x10:Value)(a11:Nat)(x11:Value):Br:=AL (AL (AL (AL (AL (AL (AL (AL (AL (AL (AL (AL e0 a0 x0) a1 x1) a2 x2) a3 x3) a4 x4) a5 x5) a6 x6) a7 x7) a8 x8) a9 x9) a10 x10) a11 x11
theorem qD{σ:Br}{a0 a1 a2 a3 a4 a5 a6 a7 a8 a9 a10 a11 a12 a13 a14 a15:Nat}{x11 x12 x13 x14 x15:Value}(h0:σ a0=some x0)(h1:σ a1=some x1)(h2:σ a2=some x2)(h3:σ a3=some x3)(h4:σ a4=some x4)(h5:σ a5=some x5)(h6:σ a6=some x6)(h7:σ a7=some x7)(h8:σ a8=some x8)(h9:σ a9=some x9)(h10:σ a10=some x10)(h11:σ a11=some x11)(h12:σ a12=some x12)(h13:σ a13=some x13)(h14:σ a14=some x14)(h15:σ a15=some x15):Le (AL (AL (AL (AL (AL (AL (AL (AL (AL (AL (AL (AL (AL (AL (AL (AL e0 a0 x0) a1 x1) a2 x2) a3 x3) a4 x4) a5 x5) a6 x6) a7 x7) a8 x8) a9 x9) a10 x10) a11 x11) a12 x12) a13 x13) a14 x14) a15 x15) σ:=AD (AD (AD (AD (AD (AD (AD (AD (AD (AD (AD (AD (AD (AD (AD (AD (KJ _) h0) h1) h2) h3) h4) h5) h6) h7) h8) h9) h10) h11) h12) h13) h14) h15
@[reducible] def nQ(a0:Nat)(x0:Value)(a1:Nat)(x1:Value)(a2:Nat)(x2:Value)(a3:Nat)(x3:Value)(a4:Nat)(x4:Value)(a5:Nat)(x5:Value)(a6:Nat)(x6:Value)(a7:Nat)(x7:Value)(a8:Nat)(x8:Value)(a9:Nat)(x9:Value)(a10:Nat)(x10:Value)(a11:Nat)(x11:Value)(a12:Nat)(x12:Value)(a13:Nat)(x13:Value)(a14:Nat)(x14:Value)(a15:Nat)(x15:Value):Br:=AL (AL (AL (AL (AL (AL (AL (AL (AL (AL (AL (AL (AL (AL (AL (AL e0 a0 x0) a1 x1) a2 x2) a3 x3) a4 x4) a5 x5) a6 x6) a7 x7) a8 x8) a9 x9) a10 x10) a11 x11) a12 x12) a13 x13) a14 x14) a15 x15
theorem mR{α:Type}{F' Fs:List α}(ix:List Nat)(h:ix.map (nth Fs)=F'.map some:=by rfl):∀φ,φ∈F'→φ∈Fs:=λφ hφ=>by
 have h1:some φ∈ix.map (nth Fs):=by rw[h];exact List.mem_map.2 ⟨φ,hφ,rfl⟩
 obtain⟨i,_,hi⟩:=List.mem_map.1 h1;rw[F5] at hi;exact List.mem_of_getElem? hi
theorem sK{α:Type}{a:α}{l l':List α}(h:l.Sublist l'):(a::l).Sublist (a::l'):=.cons_cons _ h
theorem sD{α:Type}{a:α}{l l':List α}(h:l.Sublist l'):l.Sublist (a::l'):=.cons _ h
theorem sZ{α:Type}:([]:List α).Sublist []:=.slnil
theorem sR{α:Type}{l:List α}:l.Sublist l:=List.Sublist.refl _
theorem nE{α:Type _}{p:α→Prop}:∀e,e∈([]:List α)→p e:=λ_ h=>by cases h
theorem Fy{α:Sort _}{β:α→Sort _}{γ:(a:α)→β a→Sort _}{δ:(a:α)→(b:β a)→γ a b→Sort _}:∀(a:α)(b:β a)(c:γ a b)(_:δ a b c),True:=λ_ _ _ _=>trivial
@[reducible] def rd:List Nat→OT→OT
 | [],t=>t
 |i::l,t=>.rd i (rd l t)
section
variable{X:Cx}{w:World}{f:Fq}{H:List HB}{R:List RB}{B:List FB}{Fs:List (World→Fq→Prop)}
theorem AW.mz(h:AW X w f H R B Fs):∀b,X.MI b→f b=0:=λb hb=>(h.mi b hb).2.1
theorem AW.f0{a0:World→Fq→Prop}(h:AW X w f H R B (a0::Fs)):a0 w f:=h.fac _ (List.mem_of_getElem? (i:=0) rfl)
theorem AW.f1{a0:World→Fq→Prop}(h:AW X w f H R B (a0::a1::Fs)):a1 w f:=h.fac _ (List.mem_of_getElem? (i:=1) rfl)
theorem AW.f2{a0:World→Fq→Prop}(h:AW X w f H R B (a0::a1::a2::Fs)):a2 w f:=h.fac _ (List.mem_of_getElem? (i:=2) rfl)
theorem AW.f3{a0:World→Fq→Prop}(h:AW X w f H R B (a0::a1::a2::a3::Fs)):a3 w f:=h.fac _ (List.mem_of_getElem? (i:=3) rfl)
theorem AW.f4{a0:World→Fq→Prop}(h:AW X w f H R B (a0::a1::a2::a3::a4::Fs)):a4 w f:=h.fac _ (List.mem_of_getElem? (i:=4) rfl)
theorem AW.f5{a0:World→Fq→Prop}(h:AW X w f H R B (a0::a1::a2::a3::a4::a5::Fs)):a5 w f:=h.fac _ (List.mem_of_getElem? (i:=5) rfl)
theorem AW.f6{a0:World→Fq→Prop}(h:AW X w f H R B (a0::a1::a2::a3::a4::a5::a6::Fs)):a6 w f:=h.fac _ (List.mem_of_getElem? (i:=6) rfl)
theorem AW.f7{a0:World→Fq→Prop}(h:AW X w f H R B (a0::a1::a2::a3::a4::a5::a6::a7::Fs)):a7 w f:=h.fac _ (List.mem_of_getElem? (i:=7) rfl)
theorem AW.f8{a0:World→Fq→Prop}(h:AW X w f H R B (a0::a1::a2::a3::a4::a5::a6::a7::a8::Fs)):a8 w f:=h.fac _ (List.mem_of_getElem? (i:=8) rfl)
theorem AW.f9{a0:World→Fq→Prop}(h:AW X w f H R B (a0::a1::a2::a3::a4::a5::a6::a7::a8::a9::Fs)):a9 w f:=h.fac _ (List.mem_of_getElem? (i:=9) rfl)
theorem AW.f10{a0:World→Fq→Prop}(h:AW X w f H R B (a0::a1::a2::a3::a4::a5::a6::a7::a8::a9::a10::Fs)):a10 w f:=h.fac _ (List.mem_of_getElem? (i:=10) rfl)
theorem AW.f12{a0:World→Fq→Prop}(h:AW X w f H R B (a0::a1::a2::a3::a4::a5::a6::a7::a8::a9::a10::a11::a12::Fs)):a12 w f:=h.fac _ (List.mem_of_getElem? (i:=12) rfl)
theorem AW.f13{a0:World→Fq→Prop}(h:AW X w f H R B (a0::a1::a2::a3::a4::a5::a6::a7::a8::a9::a10::a11::a12::a13::Fs)):a13 w f:=h.fac _ (List.mem_of_getElem? (i:=13) rfl)
theorem AW.f16{a0 a14 a15 a16:World→Fq→Prop}(h:AW X w f H R B (a0::a1::a2::a3::a4::a5::a6::a7::a8::a9::a10::a11::a12::a13::a14::a15::a16::Fs)):a16 w f:=h.fac _ (List.mem_of_getElem? (i:=16) rfl)
theorem AW.b0{a0:FB}(h:AW X w f H R (a0::B) Fs):Cs w f a0.b a0.off a0.l:=h.fro _ (List.mem_of_getElem? (i:=0) rfl)
theorem AW.b1{a0 a1:FB}(h:AW X w f H R (a0::a1::B) Fs):Cs w f a1.b a1.off a1.l:=h.fro _ (List.mem_of_getElem? (i:=1) rfl)
theorem AW.b2{a0 a1 a2:FB}(h:AW X w f H R (a0::a1::a2::B) Fs):Cs w f a2.b a2.off a2.l:=h.fro _ (List.mem_of_getElem? (i:=2) rfl)
theorem AW.b3{a0 a1 a2 a3:FB}(h:AW X w f H R (a0::a1::a2::a3::B) Fs):Cs w f a3.b a3.off a3.l:=h.fro _ (List.mem_of_getElem? (i:=3) rfl)
theorem AW.b4{a0 a1 a2 a3 a4:FB}(h:AW X w f H R (a0::a1::a2::a3::a4::B) Fs):Cs w f a4.b a4.off a4.l:=h.fro _ (List.mem_of_getElem? (i:=4) rfl)
theorem AW.b5{a0 a1 a2 a3 a4 a5:FB}(h:AW X w f H R (a0::a1::a2::a3::a4::a5::B) Fs):Cs w f a5.b a5.off a5.l:=h.fro _ (List.mem_of_getElem? (i:=5) rfl)
theorem AW.b6{a0 a1 a2 a3 a4 a5 a6:FB}(h:AW X w f H R (a0::a1::a2::a3::a4::a5::a6::B) Fs):Cs w f a6.b a6.off a6.l:=h.fro _ (List.mem_of_getElem? (i:=6) rfl)
theorem AW.b7{a0 a1 a2 a3 a4 a5 a6 a7:FB}(h:AW X w f H R (a0::a1::a2::a3::a4::a5::a6::a7::B) Fs):Cs w f a7.b a7.off a7.l:=h.fro _ (List.mem_of_getElem? (i:=7) rfl)
theorem AW.k0(h:AW X w f (a0::H) R B Fs):AT w a0.b a0.l a0.T:=h.blk _ (List.mem_of_getElem? (i:=0) rfl)
theorem uH{H:List HB}:a0∈a0::H:=List.mem_of_getElem? (i:=0) rfl
theorem AW.k1{a1:HB}(h:AW X w f (a0::a1::H) R B Fs):AT w a1.b a1.l a1.T:=h.blk _ (List.mem_of_getElem? (i:=1) rfl)
theorem kH{a1:HB}{H:List HB}:a1∈a0::a1::H:=List.mem_of_getElem? (i:=1) rfl
theorem AW.k2{a1 a2:HB}(h:AW X w f (a0::a1::a2::H) R B Fs):AT w a2.b a2.l a2.T:=h.blk _ (List.mem_of_getElem? (i:=2) rfl)
theorem V3{a1 a2:HB}{H:List HB}:a2∈a0::a1::a2::H:=List.mem_of_getElem? (i:=2) rfl
theorem AW.k3{a1 a2 a3:HB}(h:AW X w f (a0::a1::a2::a3::H) R B Fs):AT w a3.b a3.l a3.T:=h.blk _ (List.mem_of_getElem? (i:=3) rfl)
theorem Vn{a1 a2 a3:HB}{H:List HB}:a3∈a0::a1::a2::a3::H:=List.mem_of_getElem? (i:=3) rfl
theorem AW.k4{a1 a2 a3 a4:HB}(h:AW X w f (a0::a1::a2::a3::a4::H) R B Fs):AT w a4.b a4.l a4.T:=h.blk _ (List.mem_of_getElem? (i:=4) rfl)
theorem YO{a1 a2 a3 a4:HB}{H:List HB}:a4∈a0::a1::a2::a3::a4::H:=List.mem_of_getElem? (i:=4) rfl
theorem AW.k5{a1 a2 a3 a4 a5:HB}(h:AW X w f (a0::a1::a2::a3::a4::a5::H) R B Fs):AT w a5.b a5.l a5.T:=h.blk _ (List.mem_of_getElem? (i:=5) rfl)
theorem sN{a1 a2 a3 a4 a5:HB}{H:List HB}:a5∈a0::a1::a2::a3::a4::a5::H:=List.mem_of_getElem? (i:=5) rfl
theorem AW.k6{a1 a2 a3 a4 a5 a6:HB}(h:AW X w f (a0::a1::a2::a3::a4::a5::a6::H) R B Fs):AT w a6.b a6.l a6.T:=h.blk _ (List.mem_of_getElem? (i:=6) rfl)
theorem AW.k7{a1 a2 a3 a4 a5 a6 a7:HB}(h:AW X w f (a0::a1::a2::a3::a4::a5::a6::a7::H) R B Fs):AT w a7.b a7.l a7.T:=h.blk _ (List.mem_of_getElem? (i:=7) rfl)
theorem AW.k8{a1 a2 a3 a4 a5 a6 a7 a8:HB}(h:AW X w f (a0::a1::a2::a3::a4::a5::a6::a7::a8::H) R B Fs):AT w a8.b a8.l a8.T:=h.blk _ (List.mem_of_getElem? (i:=8) rfl)
end
section
variable{P:Program}{σ:Br}{ty:TypeId}
theorem eC{f:FuncId}{g:Operand}{args:List Operand}{ts:Array TypeId}(he:BV P f)(hg:ev σ g=some (.func (.func f) #[] #[]))(ha:Jr σ args=some vs) :
   ∀w,Enters P σ (.call {callee:=.value g,args:=args.toArray,argTypes:=ts}) ty w f vs.toArray:=λ_=>Aw he hg ha
theorem DI{v:Value}{X:Cx}{H:List HB}{R:List RB}{B:List FB}{Fs:List (World→Fq→Prop)}(hr:fn.results=#[.tmp d])(h:σ d=some v):∀w f,AW X w f H R B Fs→VN P fn σ w v:=λ_ _ _=>AJ hr (Ak h)
end
open Go.SP (Rc)
def Sx(T:TypeId)(q:Int×Int→Prop)(w:World)(f:Fq)(c:List PanicEntry)(w':World):Prop:=∃e f',c=Rc T e∧q e∧CR (λ_=>False) w f w' f'
def Z8{α:Type}(e:TypeId)(size:Nat)(n:α→Nat)(xs:α→List Value)(q:α→Prop)(F':α→List (World→Fq→Prop))(w:World)(f:Fq)(v:Value)(w':World):Prop :=
 ∃x a c f',v=.slice a (n x) c∧q x∧CR (λ_=>False) w f w' f'∧Co w' e size a c (n x) (xs x)∧(∀b,rb a=some b→w.heap.size≤b∧f' b=0)∧A2 (F' x) w' f'
variable {f f':Fq}{pe:Int×Int→Prop}{xs:List Value}{w w':World}
theorem AW.addRow{X:Cx}{H:List HB}{R:List RB}{B:List FB}{Fs:List (World→Fq→Prop)}(h:AW X w f H R B Fs)(hE:CR (λ_=>False) w f w' f'){e:TypeId}{size c n:Nat}{a:Option Addr}
   (hr:Co w' e size a c n xs) (hb:∀b,rb a=some b→w.heap.size≤b∧f' b=0):AW X w' f' H (⟨e,size,a,c,n,xs⟩::R) B Fs:=by
 have h1:=h.call0 hE
 cases ha:rb a with
 |none =>
   have ho:CZ H (⟨e,size,a,c,n,xs⟩::R)=CZ H R:=by simp only[CZ,List.filterMap_cons,ha]
   exact {h1 with
     row:=λr hm=>by rcases List.mem_cons.1 hm with rfl|hm;exact hr;exact h1.row r hm,
     nd:=by rw[ho];exact h1.nd,
     own:=by rw[ho];exact h1.own,
     rnw:=λr hm b hb=>by rcases List.mem_cons.1 hm with rfl|hm;(rw[ha] at hb;cases hb);exact h1.rnw r hm b hb}
 |some b =>
   obtain⟨hn,hz⟩:=hb b ha;have ho:CZ H (⟨e,size,a,c,n,xs⟩::R)=H.map (·.b)++b::(R.filterMap λr=>rb r.a):=by simp only[CZ,List.filterMap_cons,ha]
   have hp:(H.map (·.b)++b::(R.filterMap λr=>rb r.a)).Perm (b::CZ H R):=List.perm_middle;have hw0:X.w0.heap.size≤b:=Nat.le_trans h.stp.size hn
   exact {h1 with
     row:=λr hm=>by rcases List.mem_cons.1 hm with rfl|hm;exact hr;exact h1.row r hm,
     nd:=by rw[ho];exact hp.nodup_iff.2 (List.nodup_cons.2 ⟨λhm=>by have:=h.lt hm;omega,h1.nd⟩),
     own:=λk hk=>by
       rw[ho] at hk;rcases List.mem_cons.1 (hp.mem_iff.1 hk) with rfl|hk
       · exact⟨hz,.inl hw0,λhm=>by have:=(h.mi _ hm).1;omega⟩
       · exact h1.own k hk,
     rnw:=λr hm b' hb'=>by
       rcases List.mem_cons.1 hm with rfl|hm
       · rw[ha] at hb';cases hb';exact hw0
       · exact h1.rnw r hm b' hb' }
section
variable{P:Program}{n:Nat}{Q:Bm}{ds:List Deferred}{X:Cx}{R:List RB}{B:List FB}{Fs:List (World→Fq→Prop)}{fs:List Fr}{σ:Br}{H:List HB}
variable{all r:List Oper}{ty T:TypeId}{pos:String}{af:Array Edge}{g:Option (Nat×Bool)}{d:Nat}{op:Op}{fid:FuncId}{args:Array Value}{α:Type}
theorem Kx{val:α→Value}{q:α→Prop}{F':α→List (World→Fq→Prop)}
   (hg:gd all σ g=some true) (hd:Nat.blt d n=true) (he:∀w,Enters P σ op ty w fid args)
   (hc:∀w f,AW X w f H R B Fs→BS P fid args w (BW val q F' w f) (Sx T pe w f)) (hm:∀x,Af (F' x))
   (hp:∀e w' f',pe e→CR X.M X.w0 X.f0 w' f'→Q.p (Rc T e) σ ds w')
   (h:∀x,q x→AF P n Q ds X R B (F' x++Fs) (.ops all r) fs (AL σ d (val x)) H):AF P n Q ds X R B Fs (.ops all (⟨some d,op,ty,pos,af,g⟩::r)) fs σ H:=λw f hM=>by
 refine BG hg (Ck hd (he w) (hc w f hM) ?_ ?_)
 · rintro v w' ⟨x,f',rfl,hq,hE,hF⟩
   exact h x hq w' f' ((hM.call0 hE).more (B':=[]) (λ_ h=>by cases h) hF.mem (hm x).mem)
 · rintro c w' ⟨e,f',rfl,hq,hE⟩
   rw[M6];exact hp e w' f' hq (hM.call0 hE).exm
theorem jN(hg:gd all σ g=some true)(hd:Nat.blt d n=true)(he:∀w,Enters P σ op ty w fid args)
   (hc:∀w f,AW X w f H R B Fs→BS P fid args w (λ_ _=>False) (Sx T pe w f))
   (hp:∀e w' f',pe e→CR X.M X.w0 X.f0 w' f'→Q.p (Rc T e) σ ds w'):AF P n Q ds X R B Fs (.ops all (⟨some d,op,ty,pos,af,g⟩::r)) fs σ H :=
 Kx (α:=Unit) (val:=λ_=>.tuple #[]) (q:=λ_=>False) (F':=λ_=>[]) hg hd he (λw f hM=>(hc w f hM).mono (λ_ _ h=>h.elim) λ_ _ h=>h) (λ_=>trivial) hp (λ_ h=>h.elim)
theorem Xb{e:TypeId}{size:Nat}{m:α→Nat}{xs:α→List Value}{q:α→Prop}{F':α→List (World→Fq→Prop)}
   (hg:gd all σ g=some true) (hd:Nat.blt d n=true) (he:∀w,Enters P σ op ty w fid args)
   (hc:∀w f,AW X w f H R B Fs→BS P fid args w (Z8 e size m xs q F' w f) (Sx T pe w f)) (hm:∀x,Af (F' x))
   (hp:∀e w' f',pe e→CR X.M X.w0 X.f0 w' f'→Q.p (Rc T e) σ ds w')
   (h:∀x a c,q x→AF P n Q ds X (⟨e,size,a,c,m x,xs x⟩::R) B (F' x++Fs) (.ops all r) fs (AL σ d (.slice a (m x) c)) H):AF P n Q ds X R B Fs (.ops all (⟨some d,op,ty,pos,af,g⟩::r)) fs σ H:=λw f hM=>by
 refine BG hg (Ck hd (he w) (hc w f hM) ?_ ?_)
 · rintro v w' ⟨x,a,c,f',rfl,hq,hE,hr,hb,hF⟩
   exact h x a c hq w' f' ((hM.addRow hE hr hb).more (B':=[]) (λ_ h=>by cases h) hF.mem (hm x).mem)
 · rintro c w' ⟨e,f',rfl,hq,hE⟩
   rw[M6];exact hp e w' f' hq (hM.call0 hE).exm
end
end Go.SW
namespace Go.SP
open Go.SW Go.RowKit
def XA(w:World)(f:Fq):Fo→Nat→Nat→Prop
 |.nil,_,_=>True
 |.cons t k r,b,off=>(∃a c,Cs w f b off [.int .i64 t.k,.int .i64 t.ln,.int .i64 t.co,.int .i64 t.nm,S t.tx,.slice a k.len c]∧k.len≤c∧(k=.nil∨∃b' off',a=some ⟨b',off',none⟩∧XA w f k b' off'))∧XA w f r b (off+6)
def Bx(w:World)(f:Fq)(k:Fo)(a:Option Addr)(c:Nat):Prop:=k.len≤c∧(k=.nil∨∃b off,a=some ⟨b,off,none⟩∧XA w f k b off)
variable {f f':Fq}{co ln nm:Int}{xs ys:List Value}{b i:Nat}{w w':World}
theorem XA.mono(hF:J1 w f w' f'):∀(k:Fo)(b off:Nat),XA w f k b off→XA w' f' k b off
 |.nil,_,_,_=>trivial
 |.cons _ k r,b,off,⟨⟨a,c,h1,h2,h3⟩,h4⟩=>⟨⟨a,c,h1.mono hF,h2,h3.imp id λ⟨b',off',h5,h6⟩=>⟨b',off',h5,XA.mono hF k b' off' h6⟩⟩,XA.mono hF r b _ h4⟩
theorem Bx.mono{k:Fo}{a:Option Addr}{c:Nat}:GC (λw f=>Bx w f k a c):=λ_ _ _ _ h hF=>⟨h.1,h.2.imp id λ⟨b,off,h1,h2⟩=>⟨b,off,h1,XA.mono hF k b off h2⟩⟩
theorem Bx.nil(w:World)(f:Fq)(a:Option Addr)(c:Nat):Bx w f .nil a c:=⟨Nat.zero_le _,.inl rfl⟩
def A9(w:World)(f:Fq)(a:Option Addr)(i:Nat)(r:Fo):Prop:=r=.nil∨∃b off,a=some ⟨b,off,none⟩∧XA w f r b (off+i*6)
theorem A9.mono{a:Option Addr}{r:Fo}:GC (λw f=>A9 w f a i r):=λ_ _ _ _ h hF=>h.imp id λ⟨b,off,h1,h2⟩=>⟨b,off,h1,XA.mono hF r b _ h2⟩
theorem Bx.at{k:Fo}{a:Option Addr}{c:Nat}(h:Bx w f k a c):A9 w f a 0 k:=h.2.imp id λ⟨b,off,h1,h2⟩=>⟨b,off,h1,by simpa using h2⟩
def J6(t:AM)(a:Option Addr)(n c:Nat):List Value:=[.int .i64 t.k,.int .i64 t.ln,.int .i64 t.co,.int .i64 t.nm,S t.tx,.slice a n c]
abbrev fV(t:AM)(a:Option Addr)(n c:Nat):Value:=.agg #[.int .i64 t.k,.int .i64 t.ln,.int .i64 t.co,.int .i64 t.nm,S t.tx,.slice a n c]
theorem A9.head{a:Option Addr}{t:AM}{k r:Fo}(h:A9 w f a i (.cons t k r)):∃b off ka kc,a=some ⟨b,off,none⟩∧Cs w f b (off+i*6) (J6 t ka k.len kc)∧Bx w f k ka kc∧A9 w f a (i+1) r:=by
 rcases h with h|⟨b,off,h1,⟨ka,kc,h3,h4⟩,h5⟩
 · cases h
 · exact⟨b,off,ka,kc,h1,h3,h4,.inr ⟨b,off,h1,by rw[show off+(i+1)*6=off+i*6+6 by omega];exact h5⟩⟩
theorem A9.rest{a:Option Addr}{t:AM}{k r:Fo}{c:Nat}(h:Bx w f (.cons t k r) a c):Bx w f r (DA a c 6) (c-1):=by
 obtain⟨h1,h2⟩:=h;simp only[Fo.len] at h1;refine⟨oM,?_⟩;rcases h2 with h2|⟨b,off,rfl,h3,h4⟩
 · cases h2
 · by_cases hc:c=1
   · left
     cases r with
     |nil=>rfl
     |cons _ _ _=>simp only[Fo.len] at h1;omega
   · exact .inr ⟨b,off+1*6,by unfold DA;rw[if_neg hc];rfl,h4⟩
def Cj(w:World)(f:Fq):Nd→List Value→Prop
 |.nil,xs=>xs=[]
 |.cons op ln co tx nm k r,xs=>∃a c xs',xs=FI op ln co tx nm a k.len c++xs'∧AK w f k a c∧Cj w f r xs'
theorem Cj.mono'(hF:J1 w f w' f'):∀(k:Nd)(xs:List Value),Cj w f k xs→Cj w' f' k xs
 |.nil,_,h=>h
 |.cons _ _ _ _ _ _ r,_,⟨a,c,xs',h1,h2,h3⟩=>⟨a,c,xs',h1,AK.mono _ _ _ _ h2 hF,Cj.mono' hF r xs' h3⟩
theorem Cj.mono{k:Nd}:GC (λw f=>Cj w f k xs):=λ_ _ _ _ h hF=>Cj.mono' hF k xs h
theorem Cj.app{y:Nd}(hy:Cj w f y ys):∀{x:Nd}{xs:List Value},Cj w f x xs→Cj w f (x.app y) (xs++ys)
 |.nil,xs,h=>by have h:xs=[]:=h;subst h;exact hy
 |.cons _ _ _ _ _ _ r,_,⟨a,c,xs',h1,h2,h3⟩=>⟨a,c,xs'++ys,by rw[h1,List.append_assoc],h2,Cj.app hy h3⟩
theorem Cj.one{op:Int}{tx:lU}{k:Nd}{a:Option Addr}{c:Nat}(h:AK w f k a c):Cj w f (.cons op ln co tx nm k .nil) (FI op ln co tx nm a k.len c):=⟨a,c,[],by simp,h,rfl⟩
theorem Cj.len:∀{k:Nd}{xs:List Value},Cj w f k xs→xs.length=k.len*6
 |.nil,xs,h=>by have h:xs=[]:=h;subst h;rfl
 |.cons _ _ _ _ _ _ r,_,⟨a,c,xs',h1,h2,h3⟩=>by subst h1;have:=Cj.len h3;simp[Nd.len,FI,this];omega
theorem Cj.toG:∀{k:Nd}{xs:List Value}{off:Nat},Cj w f k xs→Cs w f b off xs→Xo w f k b off
 |.nil,_,_,_,_=>trivial
 |.cons _ _ _ _ _ k r,_,off,⟨a,c,xs',h1,h2,h3⟩,hC=>by
   subst h1;exact⟨⟨a,c,Cs.le hC,h2⟩,Cj.toG h3 (Cs.drop hC)⟩
theorem Cj.toF{c:Nat}{k:Nd}(h:Cj w f k xs)(hC:Cs w f b 0 xs)(hc:k.len≤c):AK w f k (some ⟨b,0,none⟩) c:=⟨hc,.inr ⟨b,0,rfl,Cj.toG h hC⟩⟩
theorem KX{X:Cx}{H:List HB}{R:List RB}{B:List FB}{Fs:List (World→Fq→Prop)}{e:TypeId}{a:Option Addr}{c m:Nat}{k:Nd}(hM:AW X w f H (⟨e,6,a,c,m,xs⟩::R) B Fs)(hL:Cj w f k xs):∃f',AW X w f' H R B Fs∧AK w f' k a c:=by
 have hr:=hM.row _ (.head _);have hlen:=Cj.len hL;have hm:m=k.len:=by have:=hr.1;simp only at this;omega
 rcases hr.2 with ⟨_,_,h⟩|⟨b,l,ha,_,hmc,_⟩
 · simp only at h
   have h0:k=.nil:=by
     cases k with
     |nil=>rfl
     |cons _ _ _ _ _ _ _=>simp only[Nd.len] at hm;omega
   exact⟨f,hM.less (List.Sublist.refl _) (List.sublist_cons_self _ _) (λ_ h=>h) (λ_ h=>h),by rw[h0];exact⟨Nat.zero_le _,.inl rfl⟩⟩
 · simp only at ha hmc
   subst ha;obtain⟨f',hM'⟩:=(hM.more (B':=[]) (F':=[λw f=>Cj w f k xs]) (λ_ h=>by cases h) (A2.mem ⟨hL,tQ⟩) (Af.mem ⟨Cj.mono,tQ⟩)).done (i:=0) rfl rfl;exact⟨f',hM'.less (List.Sublist.refl _) (List.Sublist.refl _) (λe he=>.tail _ he) (λφ h=>.tail _ h),Cj.toF (hM'.fact (i:=0) rfl) (hM'.fro _ (.head _)) oM⟩
end Go.SP
namespace Go.SP
open Go.SW Go.RowKit
theorem Nd.app_len:∀x y:Nd,(x.app y).len=x.len+y.len
 |.nil,y=>by simp[Nd.app,Nd.len]
 |.cons _ _ _ _ _ _ r,y=>by simp only[Nd.app,Nd.len,Nd.app_len r y];omega
section
variable{m:AM→Fo→R N}{t:AM}{k r:Fo}{a:N}{dn:Nd}{e:Int×Int}
theorem Uf(h:m t k=.ok a):(match AN m (.cons t k r) with|.error e=>.error e|.ok b=>.ok (dn.app b):R Nd)=(match AN m r with|.error e=>.error e|.ok b=>.ok ((dn.app a.one).app b)):=by
 simp only[AN,h]
 cases AN m r with
 |error e=>rfl
 |ok b=>simp only[Nd.app_assoc];rfl
theorem W6(h:m t k=.error e):(match AN m (.cons t k r) with|.error e=>.error e|.ok b=>.ok (dn.app b):R Nd)=.error e:=by simp only[AN,h]
theorem Sn{l:Fo}:AN m l=(match AN m l with|.error e=>.error e|.ok b=>.ok (Nd.nil.app b)):=by cases AN m l <;> rfl
end
theorem Fo.cases1:∀r:Fo,0<r.len→∃t k q,r=.cons t k q
 |.nil,h=>by cases h
 |.cons t k q,_=>⟨t,k,q,rfl⟩
theorem Fo.len0:∀{r:Fo},r.len=0→r=.nil
 |.nil,_=>rfl
 |.cons _ _ _,h=>by simp[Fo.len] at h
abbrev ID(x:R N)(w:World)(f:Fq):Value→World→Prop:=BW (α:=N×Option Addr×Nat) (λy=>nV y.1.op y.1.ln y.1.co y.1.tx y.1.nm y.1.kids y.2.1 y.2.2) (λy=>x=.ok y.1) (λy=>[λw f=>AK w f y.1.kids y.2.1 y.2.2]) w f
abbrev IK(T:TypeId)(x:R N)(w:World)(f:Fq):List PanicEntry→World→Prop:=Sx T (λe=>x=.error e) w f
end Go.SP
namespace Go.SP
open Go.SW Go.RowKit
variable {f:Fq}{w w':World}
theorem Z8.fro{T:TypeId}{q:Nd×List Value→Prop}{v:Value}(hv:Vl w f)(h:Z8 T 6 (λx:Nd×List Value=>x.1.len) (λx=>x.2) q (λx=>[λw f=>Cj w f x.1 x.2]) w f v w') :
   BW (α:=(Nd×List Value)×Option Addr×Nat) (λy=>.slice y.2.1 y.1.1.len y.2.2) (λy=>q y.1) (λy=>[λw f=>AK w f y.1.1 y.2.1 y.2.2]) w f v w':=by
 obtain⟨x,a,c,f',h1,h2,h3,h4,h5,h6,-⟩:=h;have hM:=(C8 hv (Fs:=[]) tQ tQ).addRow h3 h4 h5;obtain⟨f2,hM2,h7⟩:=KX hM h6;exact⟨(x,a,c),f2,h1,h2,hM2.exm,h7,tQ⟩
end Go.SP
namespace Go.SP
open Go.SW Go.RowKit
variable {lo x:Operand}{w:World}
theorem Hz{P:Program}{σ:Br}{ty T e:TypeId}{k len m c:Nat}{a:Option Addr}(hl:len=m+1)(hx:ev σ x=some (.slice a len c))(hlo:ev σ lo=some (.int .i64 1))(hs:Kg P T=some (e,k)):AS P σ (.slice T x (some lo) none none) ty w (.slice (DA a c k) m (c-1)) w:=by
 subst hl;exact VQ hx hlo hs
end Go.SP
namespace Go.SP
open Go.SW Go.RowKit
variable {f:Fq}{xs:List Value}{w:World}
theorem Cj.one':∀{k:Nd}{xs:List Value},Cj w f k xs→∀v∈xs,v.oneCell'=true
 |.nil,xs,h,v,hv=>by have h:xs=[]:=h;subst h;cases hv
 |.cons _ _ _ _ _ _ r,_,⟨a,c,xs',h1,h2,h3⟩,v,hv=>by
   subst h1;rcases List.mem_append.1 hv with hv|hv
   · simp only[FI,List.mem_cons,List.not_mem_nil,or_false] at hv
     rcases hv with rfl|rfl|rfl|rfl|rfl|rfl <;> rfl
   · exact Cj.one' h3 v hv
theorem Cj.cons'{nd:N}{r:Nd}{a:Option Addr}{c:Nat}(h:AK w f nd.kids a c)(hr:Cj w f r xs):Cj w f (nd.cons r) (FI nd.op nd.ln nd.co nd.tx nd.nm a nd.kids.len c++xs):=⟨a,c,xs,rfl,h,hr⟩
theorem Fo.two:∀l:Fo,(∃p pk b bk,l=.cons p pk (.cons b bk .nil))∨l.len≠2
 |.nil=>.inr (by simp[Fo.len])
 |.cons _ _ .nil=>.inr (by simp[Fo.len])
 |.cons p pk (.cons b bk .nil)=>.inl ⟨p,pk,b,bk,rfl⟩
 |.cons _ _ (.cons _ _ (.cons _ _ r))=>.inr (by simp only[Fo.len];omega)
theorem Fo.three:∀l:Fo,(∃p pk b bk c ck,l=.cons p pk (.cons b bk (.cons c ck .nil)))∨l.len≠3
 |.nil=>.inr (by simp[Fo.len])
 |.cons _ _ .nil=>.inr (by simp[Fo.len])
 |.cons _ _ (.cons _ _ .nil)=>.inr (by simp[Fo.len])
 |.cons p pk (.cons b bk (.cons c ck .nil))=>.inl ⟨p,pk,b,bk,c,ck,rfl⟩
 |.cons _ _ (.cons _ _ (.cons _ _ (.cons _ _ r)))=>.inr (by simp only[Fo.len];omega)
theorem Fo.single:∀l:Fo,(∃p pk,l=.cons p pk .nil)∨l.len≠1
 |.nil=>.inr (by simp[Fo.len])
 |.cons p pk .nil=>.inl ⟨p,pk,rfl⟩
 |.cons _ _ (.cons _ _ r)=>.inr (by simp only[Fo.len];omega)
section
variable{n:Nat}{ex:AM→Fo→R N}{t:AM}{l:Fo}
theorem rK(h:l.len≠2):Bn n ex t [102,110] l=.error (t.ln,t.co):=by
 unfold Bn;rw[if_pos (by decide)]
 split
 · simp[Fo.len] at h
 · rfl
theorem jH(h:l.len≠3):Bn n ex t [108,101,116] l=.error (t.ln,t.co):=by
 unfold Bn;rw[if_neg (by decide),if_pos (by decide)]
 split
 · simp[Fo.len] at h
 · rfl
theorem mG(h:l.len≠3):Bn n ex t [114,101,99] l=.error (t.ln,t.co):=by
 unfold Bn;rw[if_neg (by decide),if_neg (by decide),if_pos (by decide)]
 split
 · simp[Fo.len] at h
 · rfl
theorem XK{w:lU}(hw:w=[114,97,105,115,101]∨w=[116,114,97,110,115,97,99,116])(h:l.len≠1):Bn n ex t w l=.error (t.ln,t.co):=by
 unfold Bn;rw[if_neg (by rcases hw with rfl|rfl <;> decide),if_neg (by rcases hw with rfl|rfl <;> decide),if_neg (by rcases hw with rfl|rfl <;> decide),if_neg (by rcases hw with rfl|rfl <;> decide),if_neg (by rcases hw with rfl|rfl <;> decide),if_neg (by rcases hw with rfl|rfl <;> decide),if_neg (by rcases hw with rfl|rfl <;> decide),if_pos (by rcases hw with rfl|rfl <;> decide)]
 split
 · simp[Fo.len] at h
 · rfl
end
end Go.SP
namespace Go.SW
open Go.RowKit
def vP(w:World)(e:FB):Prop:=∀j v,e.l[j]?=some v→w.cell? ⟨e.b,e.off+j,none⟩=some v
def BK(w:World):List FB→Prop
 | []=>True
 |e::l=>vP w e∧BK w l
theorem Ar(w:World):BK w []:=trivial
variable {σ:Br}{r:List Oper}{l:List Value}{b:Nat}{T:TypeId}
theorem kB{w:World}{B:List FB}(h:AT w b l T)(hB:BK w B):BK w (⟨b,0,l⟩::B) :=
 ⟨λj v hj=>by rw[h.cell,Nat.zero_add];exact hj,hB⟩
theorem BK.get{w:World}:∀{B:List FB}{i:Nat}{e:FB},BK w B→nth B i=some e→vP w e
 |_::_,0,_,h,hg=>by cases hg;exact h.1
 |_::B,i+1,e,h,hg=>BK.get (B:=B) h.2 hg
section
variable(P:Program)(n:Nat)(Q:Bm)(ds:List Deferred)(w:World)(B:List FB)(tb:Eh)
def pW(k:MU)(fs:List Fr)(σ:Br):Prop:=match k with
 |.code c=>Ic P n c (Oi P n Q fs) σ ds w
 |.ops all l=>HJ P n all.toArray (Oi P n Q fs) l σ ds w
 |.out e=>(Oi P n Q fs).q e σ ds w
def KH:Nat→List Nat→MU→List Fr→Br→Prop
 |0,_,k,fs,σ=>True→pW P n Q ds w k fs σ
 |m+1,hs,.code c,fs,σ=>(match c with
   |.skip=>KH m hs (.out .normal) fs σ
   |.ret=>KH m hs (.out .ret) fs σ
   |.exit i=>KH m hs (.out (.exit i)) fs σ
   |.seq a b=>KH m hs (.code a) (.sq b::fs) σ
   |.block i a=>KH m hs (.code a) (.bk i::fs) σ
   |.region _ ⟨l⟩ false=>KH m hs (.ops l l) fs σ
   |.cond x a b=>(match ev σ x with
     |some (.bool true)=>KH m hs (.code a) fs σ
     |some (.bool false)=>KH m hs (.code b) fs σ
     |_=>False)
   |_=>False)
 |m+1,hs,.out e,fs,σ=>(match fs with
   | []=>False
   |.sq y::fs=>(match e with
     |.normal=>KH m hs (.code y) fs σ
     |.ret=>KH m hs (.out .ret) fs σ
     |.exit i=>KH m hs (.out (.exit i)) fs σ
     |_=>False)
   |.bk i::fs=>(match e with
     |.normal=>KH m hs (.out .normal) fs σ
     |.ret=>KH m hs (.out .ret) fs σ
     |.exit j=>(match Nat.beq j i with
       |true=>KH m hs (.out .normal) fs σ
       |false=>KH m hs (.out (.exit j)) fs σ)
     |_=>False))
 |m+1,hs,.ops all [],fs,σ=>KH m hs (.out .normal) fs σ
 |m+1,hs,.ops all (⟨dst,op,ty,pos,af,g⟩::r),fs,σ=>(match gd all σ g with
   |none=>False
   |some false=>(match dst with
     |some d=>(match Nat.blt d n with
       |true=>KH m hs (.ops all r) fs (AL σ d undef)
       |false=>False)
     |none=>False)
   |some true=>(match dst with
     |none=>False
     |some d=>(match Nat.blt d n with|false=>False|true=>(match op with
       |.load T x=>(match hs with
         |h::q::hs=>(match ev σ x,mQ tb.ti T with
           |some (.pointer (some ⟨b,o,none⟩)),some (a,k)=>(match nth B h with
             |some ⟨b',off,l⟩=>(match a with
               |false=>(match nth l q with
                 |some v=>(b'=b∧off+q=o)∧KH m hs (.ops all r) fs (AL σ d v)
                 |none=>False)
               |true=>(match UZ l q k with
                 |some vs=>(b'=b∧off+q=o)∧KH m hs (.ops all r) fs (AL σ d (.agg ⟨vs⟩))
                 |none=>False))
             |none=>False)
           |_,_=>False)
         |_=>False)
       |.indexAddr T x y=>(match ev σ x,ev σ y,We tb.sl T with
         |some (.slice (some ⟨b,o,none⟩) len _),some (.int _ i),some (_,k)=>(0≤i∧i<len)∧KH m hs (.ops all r) fs (AL σ d (.pointer (some ⟨b,o+i.toNat*k,none⟩)))
         |_,_,_=>False)
       |.index T x y=>(match ev σ x,ev σ y,nR tb.st T with
         |some (.string ⟨⟨s⟩⟩),some (.int _ i),true=>(0≤i∧i<s.length)∧∀c,s[i.toNat]?=some c→KH m hs (.ops all r) fs (AL σ d (.int .u8 c.toNat))
         |_,_,_=>False)
       |.binOp .add T x y T'=>(match ev σ x,ev σ y with
         |some (.int .i64 a),some (.int .i64 b)=>QU (a+b)∧KH m hs (.ops all r) fs (AL σ d (.int .i64 (a+b)))
         |_,_=>False)
       |.binOp .sub T x y T'=>(match ev σ x,ev σ y with
         |some (.int .i64 a),some (.int .i64 b)=>QU (a-b)∧KH m hs (.ops all r) fs (AL σ d (.int .i64 (a-b)))
         |_,_=>False)
       |op=>(match pv tb σ op with
         |some v=>KH m hs (.ops all r) fs (AL σ d v)
         |none=>False)))))
end
section
variable{P:Program}{n:Nat}{Q:Bm}{ds:List Deferred}{w:World}{B:List FB}{tb:Eh}
theorem FZ(ht:tb.Ok P)(hB:BK w B):∀(m:Nat)(hs:List Nat)(k:MU)(fs:List Fr)(σ:Br),KH P n Q ds w B tb m hs k fs σ→pW P n Q ds w k fs σ
 |0,_,_,_,_,h=>h tQ
 |m+1,hs,.code c,fs,σ,h=>by
   have ih:=FZ ht hB m;unfold KH at h
   split at h
   · exact Iv (ih _ _ _ _ h)
   · exact Kf (ih _ _ _ _ h)
   · exact Lz (ih _ _ _ _ h)
   · exact Cg (ih _ _ _ _ h)
   · exact Es (ih _ _ _ _ h)
   · exact CN (ih _ _ _ _ h)
   · split at h
     · rename_i hx;exact Gk hx rfl (ih _ _ _ _ h)
     · rename_i hx;exact Kh hx rfl (ih _ _ _ _ h)
     · exact h.elim
   · exact h.elim
 |m+1,hs,.out e,fs,σ,h=>by
   have ih:=FZ ht hB m;unfold KH at h
   split at h
   · exact h.elim
   · split at h
     · exact DE (ih _ _ _ _ h)
     · exact VX (ih _ _ _ _ h)
     · exact VA (ih _ _ _ _ h)
     · exact h.elim
   · split at h
     · exact Ef (ih _ _ _ _ h)
     · exact V0 (ih _ _ _ _ h)
     · split at h
       · rename_i hb
         have e:=Nat.eq_of_beq_eq_true hb;subst e;exact P8 (ih _ _ _ _ h)
       · rename_i hb;exact eN hb (ih _ _ _ _ h)
     · exact h.elim
 |m+1,hs,.ops all [],fs,σ,h=>by
   unfold KH at h;exact Ab (FZ ht hB m _ _ _ _ h)
 |m+1,hs,.ops all (⟨dst,op,ty,pos,af,g⟩::r),fs,σ,h=>by
   have ih:=FZ ht hB m;unfold KH at h
   split at h
   · exact h.elim
   · rename_i hg
     split at h
     · split at h
       · rename_i hd;exact Ni hg hd (ih _ _ _ _ h)
       · exact h.elim
     · exact h.elim
   · rename_i hg
     refine BG hg ?_
     split at h
     · exact h.elim
     · split at h
       · exact h.elim
       rename_i hd
       split at h
       · split at h
         · split at h
           · rename_i hx hT
             split at h
             · rename_i hB'
               have hc:=hB.get hB'
               split at h
               · split at h
                 · rename_i v hv
                   obtain⟨⟨rfl,rfl⟩,h⟩:=h;rw[F5] at hv;exact Aa hd (JG hx (G7 ht.ti hT) (hc _ v hv)) (ih _ _ _ _ h)
                 · exact h.elim
               · split at h
                 · rename_i vs hv
                   obtain⟨⟨rfl,rfl⟩,h⟩:=h;obtain⟨hk,hg2⟩:=Qy hv;exact Aa hd (Lw hx (G7 ht.ti hT) hk (λj v hj=>by have:=hc _ v (hg2 j v hj);rwa[← Nat.add_assoc] at this)) (ih _ _ _ _ h)
                 · exact h.elim
             · exact h.elim
           · exact h.elim
         · exact h.elim
       · split at h
         · rename_i hx hy hT
           exact Aa hd (Ov hx hy (KZ ht.sl hT) h.1) (ih _ _ _ _ h.2)
         · exact h.elim
       · split at h
         · rename_i s _ i hx hy hT
           obtain⟨h1,h⟩:=h;have hlt:i.toNat<s.length:=oM;exact Aa hd (DB hx hy (PL ht.st hT) h1.1 (List.getElem?_eq_getElem hlt)) (ih _ _ _ _ (h _ (List.getElem?_eq_getElem hlt)))
         · exact h.elim
       · split at h
         · rename_i hx hy
           exact Aa hd (Nh hx hy h.1) (ih _ _ _ _ h.2)
         · exact h.elim
       · split at h
         · rename_i hx hy
           exact Aa hd (Hx hx hy h.1) (ih _ _ _ _ h.2)
         · exact h.elim
       · split at h
         · rename_i v hv
           exact Aa hd (QS ht hv) (ih _ _ _ _ h)
         · exact h.elim
theorem gL{all:List Oper}(fs:List Fr)(ht:tb.Ok P)(m:Nat)(hs:List Nat)(hB:BK w B)(h:KH P n Q ds w B tb m hs (.ops all r) fs σ):HJ P n all.toArray (Oi P n Q fs) r σ ds w:=FZ ht hB m hs _ fs σ h
theorem gP{c:Code}(fs:List Fr)(ht:tb.Ok P)(m:Nat)(hs:List Nat)(hB:BK w B)(h:KH P n Q ds w B tb m hs (.code c) fs σ):Ic P n c (Oi P n Q fs) σ ds w:=FZ ht hB m hs _ fs σ h
theorem gQ{e:Exit}(fs:List Fr)(ht:tb.Ok P)(m:Nat)(hs:List Nat)(hB:BK w B)(h:KH P n Q ds w B tb m hs (.out e) fs σ):(Oi P n Q fs).q e σ ds w:=FZ ht hB m hs _ fs σ h
theorem sL{all:Array Oper}{Q:Bm}{b:Bool}(t:Nat)(hx:σ t=some (.bool b))(h1:b=true→HJ P n all Q r (AL σ t (.bool true)) ds w)(h2:b=false→HJ P n all Q r (AL σ t (.bool false)) ds w):HJ P n all Q r σ ds w:=by
 cases b with
 |true=>exact λa ha=>h1 rfl a (ha.le (AD (le_refl _) hx))
 |false=>exact λa ha=>h2 rfl a (ha.le (AD (le_refl _) hx))
theorem sP{c:Code}{Q:Bm}{b:Bool}(t:Nat)(hx:σ t=some (.bool b))(h1:b=true→Ic P n c Q (AL σ t (.bool true)) ds w)(h2:b=false→Ic P n c Q (AL σ t (.bool false)) ds w):Ic P n c Q σ ds w:=by
 cases b with
 |true=>exact Nf (AD (le_refl _) hx) (h1 rfl)
 |false=>exact Nf (AD (le_refl _) hx) (h2 rfl)
theorem kP{c:Code}{Q:Bm}{b:Bool}(t:Nat)(c':Bool)(hx:σ t=some (.bool b))(hb:b=c')(h:Ic P n c Q (AL σ t (.bool c')) ds w):Ic P n c Q σ ds w:=by
 subst hb;exact Nf (AD (le_refl _) hx) h
end
def rD(σ0:Br)(I:World→Prop)(ds0:List Deferred)(Q:Bm):Bm :=
 {q:=λe σ ds w=>match e with|.normal=>Le σ0 σ∧ds=ds0∧I w|e=>Q.q e σ ds w,p:=Q.p}
theorem Qd{P:Program}{n:Nat}{Q:Bm}{ds:List Deferred}{w:World}{x y:Code}(σ0:Br)(I:World→Prop)(h1:Ic P n x (rD σ0 I ds Q) σ ds w)(h2:∀w',I w'→Ic P n y Q σ0 ds w'):Ic P n (.seq x y) Q σ ds w :=
 Cg λa ha=>wp_mono (h1 a ha) λe a' w' he=>by
   cases e with
   |normal=>obtain⟨σ',ds',hs,hl,rfl,hI⟩:=he;exact⟨σ',_,hs,Nf hl (h2 w' hI)⟩
   |panic c=>exact he
   |outgrown=>exact he
   |ret=>exact he
   |exit i=>exact he
   |goto i=>exact he
theorem Py{σ0:Br}{I:World→Prop}{ds:List Deferred}{Q:Bm}{w:World}(hl:Le σ0 σ)(h:I w):(rD σ0 I ds Q).q .normal σ ds w:=⟨hl,rfl,h⟩
end Go.SW
namespace Go.Proofs.YtegedalegfadgaaGreatDoor
open Go.SW Go.SP Go.RowKit Go.Proofs.Tryz
def tH:Eh:=⟨[(82,0,0),(80,0,0),(80,3,4)],[],[],[],[(3,false,1),(82,true,6),(9,false,1)],[],[],[]⟩
theorem EP:tH.Ok prog:=⟨(And.intro Zj (And.intro YV (And.intro ZM tQ))),tQ,tQ,tQ,(And.intro Qs (And.intro NO (And.intro UA tQ))),tQ,tQ,tQ⟩
theorem VC{l:lU}(h:l≠[]):l[(0:Int).toNat]?=some (Zd l):=by cases l <;> simp_all [Zd]
theorem C3(w:World)(t:AM)(kv:Value) :
  BC prog 30 #[.agg #[.int .i64 t.k,.int .i64 t.ln,.int .i64 t.co,.int .i64 t.nm,S t.tx,kv]] w λv w'=>v=.bool (t.k==0)∧AY w w':=by
 have hX:=AY.refl w;refine enter func30 rfl rfl rfl<|gP [] EP 2 [] (Ar _) (λ_=>Ew rfl rfl rfl λb1 w1 hb1 hE1 hs1 hz1=>?_);replace hX:=hX.trans hE1;exact gL [.sq _] EP 13 [0,0] (kB hb1 (Ar _)) (y2<|λ_=>B1 (AJ rfl (Ak rfl))<|⟨rfl,hX⟩)
theorem G2(w:World)(t:AM)(kv:Value) :
  BC prog 31 #[.agg #[.int .i64 t.k,.int .i64 t.ln,.int .i64 t.co,.int .i64 t.nm,S t.tx,kv]] w λv w'=>v=.bool (t.k==5)∧AY w w':=by
 have hX:=AY.refl w;refine enter func31 rfl rfl rfl<|gP [] EP 2 [] (Ar _) (λ_=>Ew rfl rfl rfl λb1 w1 hb1 hE1 hs1 hz1=>?_);replace hX:=hX.trans hE1;exact gL [.sq _] EP 13 [0,0] (kB hb1 (Ar _)) (y2<|λ_=>B1 (AJ rfl (Ak rfl))<|⟨rfl,hX⟩)
theorem DL(w:World)(t:AM)(kv:Value)(s:lU) :
  BC prog 63 #[.agg #[.int .i64 t.k,.int .i64 t.ln,.int .i64 t.co,.int .i64 t.nm,S t.tx,kv],S s] w λv w'=>v=.bool (t.isWord s)∧AY w w':=by
 have hX:=AY.refl w;refine enter func63 rfl rfl rfl<|gP [] EP 2 [] (Ar _) (λ_=>Ew rfl rfl rfl λb1 w1 hb1 hE1 hs1 hz1=>?_);replace hX:=hX.trans hE1;refine gL [.sq _] EP 6 [0,0] (kB hb1 (Ar _)) (y2<|λ_=>A7 rfl (Aw YT rfl rfl) (G2 _ ⟨_,_,_,_,_⟩ _) ?_);rintro _ w2 ⟨rfl,hE2⟩;replace hb1:=hb1.ext hE2;replace hX:=hX.trans hE2;have sz1:=hE2.size;refine Aa rfl (A1 rfl)<|sL 7 rfl (λh1=>?_) (λh1=>?_);exact gL [.sq _] EP 10 [0,4] (kB hb1 (Ar _)) (y2<|λ_=>B1 (AJ rfl (Ak rfl))<|⟨by simp[AM.isWord,h1],hX⟩);exact gL [.sq _] EP 10 [] (Ar _) (λ_=>B1 (AJ rfl (Ak rfl))<|⟨by simp[AM.isWord,h1],hX⟩)
theorem Dw(w:World)(n lo hi:Int) :
  BC prog 64 #[.int .i64 n,.int .i64 lo,.int .i64 hi] w λv w'=>v=.bool (SP.within n lo hi)∧AY w w':=by
 have hX:=AY.refl w;refine enter func64 rfl rfl rfl<|gP [] EP 11 [] (Ar _) (λ_=>sL 10 rfl (λh1=>?_) (λh1=>?_));exact gL [.sq _] EP 8 [] (Ar _) (λ_=>B1 (AJ rfl (Ak rfl))<|⟨by simp[SP.within,h1],hX⟩);exact gL [.sq _] EP 8 [] (Ar _) (λ_=>B1 (AJ rfl (Ak rfl))<|⟨by simp[SP.within,h1],hX⟩)
theorem Ff(w:World)(hG:Gl w)(t:AM)(kv:Value)(htx:t.k=5→t.tx≠[])(hlen:t.tx.length≤100000) :
  BC prog 36 #[.agg #[.int .i64 t.k,.int .i64 t.ln,.int .i64 t.co,.int .i64 t.nm,S t.tx,kv]] w λv w'=>v=.bool t.isVar∧AY w w':=by
 have hX:=AY.refl w;refine enter func36 rfl rfl rfl<|gP [] EP 2 [] (Ar _) (λ_=>Ew rfl rfl rfl λb1 w1 hb1 hE1 hs1 hz1=>?_);replace hX:=hX.trans hE1;refine gL [.sq _] EP 6 [0,0] (kB hb1 (Ar _)) (y2<|λ_=>A7 rfl (Aw YT rfl rfl) (G2 _ ⟨_,_,_,_,_⟩ _) ?_);rintro _ w2 ⟨rfl,hE2⟩;replace hb1:=hb1.ext hE2;replace hX:=hX.trans hE2;have sz1:=hE2.size;refine Aa rfl (A1 rfl)<|sL 5 rfl (λh1=>?_) (λh1=>?_);refine gL [.sq _] EP 6 [0,4] (kB hb1 (Ar _)) (y2<|λ_=>sL 11 rfl (λh2=>?_) (λh2=>?_));refine gL [.sq _] EP 3 [0,4] (kB hb1 (Ar _)) (y2<|λ_=>BI rfl rfl rfl<|Aa rfl (DB rfl rfl I5 dC (VC (htx (by simpa using h1))))<|gL [.sq _] EP 3 [] (Ar _) (λ_=>sL 18 rfl (λh3=>?_) (λh3=>?_)));refine gL [.sq _] EP 3 [0,4] (kB hb1 (Ar _)) (y2<|λ_=>BI rfl rfl rfl<|Aa rfl (Km rfl rfl (by simp;omega))<|BI rfl rfl rfl<|Aa rfl (Km rfl rfl (by simp;omega))<|BI rfl rfl rfl<|A7 rfl (Aw fC rfl rfl) (Ie _ (hG.ext hX) _ _ dC) ?_);rintro _ w3 ⟨rfl,hE3⟩;replace hb1:=hb1.ext hE3;replace hX:=hX.trans hE3;have sz2:=hE3.size;refine gL [.sq _] EP 6 [] (Ar _) (λ_=>B1 (AJ rfl (Ak rfl))<|⟨?_,hX⟩);show _=Value.bool (t.k==5&&(!(t.tx==[95])&&(((Zd t.tx).toNat:Int) != 39&&!KF t.tx)));rw[h1,h2,h3];rfl;refine gL [.sq _] EP 12 [] (Ar _) (λ_=>B1 (AJ rfl (Ak rfl))<|⟨?_,hX⟩);show _=Value.bool (t.k==5&&(!(t.tx==[95])&&(((Zd t.tx).toNat:Int) != 39&&!KF t.tx)));simp[h1,h2,h3];refine gL [.sq _] EP 19 [] (Ar _) (λ_=>B1 (AJ rfl (Ak rfl))<|⟨?_,hX⟩);show _=Value.bool (t.k==5&&(!(t.tx==[95])&&(((Zd t.tx).toNat:Int) != 39&&!KF t.tx)));simp[h1,h2];refine gL [.sq _] EP 25 [] (Ar _) (λ_=>B1 (AJ rfl (Ak rfl))<|⟨?_,hX⟩);show _=Value.bool (t.k==5&&(!(t.tx==[95])&&(((Zd t.tx).toNat:Int) != 39&&!KF t.tx)));simp[h1]
def sX:Eh:=⟨[(82,0,0),(80,3,4),(80,1,1),(82,1,5)],[(44,82,6)],[9],[],[(82,true,6),(9,false,1),(26,true,2),(44,false,1)],[(42,[.int .i64 0,.int .i64 0]),(55,[.int .i64 0,.int .i64 0,.int .i64 0,.string ⟨#[]⟩,.int .i64 0,.slice none 0 0])],[(42,[(0,2)]),(55,[(0,1),(1,2),(3,1),(4,1),(5,1)])],[]⟩
theorem DK:sX.Ok prog:=⟨(And.intro Zj (And.intro ZM (And.intro T4 (And.intro kL tQ)))),(And.intro Lj tQ),(And.intro I5 tQ),tQ,(And.intro NO (And.intro UA (And.intro Hp (And.intro JN tQ)))),(And.intro jY (And.intro nX tQ)),(And.intro kT (And.intro tJ tQ)),tQ⟩
theorem JI(w:World)(hG:Gl w)(t:AM)(kv:Value)(htx:t.k=5→t.tx≠[])(hlen:t.tx.length≤100000) :
  BC prog 93 #[.agg #[.int .i64 t.k,.int .i64 t.ln,.int .i64 t.co,.int .i64 t.nm,S t.tx,kv]] w λv w'=>v=.bool t.isHole∧AY w w':=by
 have hX:=AY.refl w;refine enter func93 rfl rfl rfl<|gP [] DK 2 [] (Ar _) (λ_=>Ew rfl rfl rfl λb1 w1 hb1 hE1 hs1 hz1=>?_);replace hX:=hX.trans hE1;refine gL [.sq _] DK 6 [0,0] (kB hb1 (Ar _)) (y2<|λ_=>A7 rfl (Aw fX rfl rfl) (Ff _ (hG.ext hX) ⟨_,_,_,_,_⟩ _ htx hlen) ?_);rintro _ w2 ⟨rfl,hE2⟩;replace hb1:=hb1.ext hE2;replace hX:=hX.trans hE2;have sz1:=hE2.size;refine Aa rfl (A1 rfl)<|sL 5 rfl (λh1=>?_) (λh1=>?_);exact gL [.sq _] DK 7 [] (Ar _) (λ_=>B1 (AJ rfl (Ak rfl))<|⟨by simp[AM.isHole,h1],hX⟩);refine gL [.sq _] DK 1 [0,0] (kB hb1 (Ar _)) (y2<|λ_=>BI rfl rfl rfl<|A7 rfl (Aw nU rfl rfl) (DL _ ⟨_,_,_,_,_⟩ _ _) ?_);rintro _ w3 ⟨rfl,hE3⟩;replace hb1:=hb1.ext hE3;replace hX:=hX.trans hE3;have sz2:=hE3.size;exact gL [.sq _] DK 5 [] (Ar _) (λ_=>B1 (AJ rfl (Ak rfl))<|⟨by simp[AM.isHole,h1],hX⟩)
theorem GD(w:World)(hG:Gl w)(t:AM)(kv:Value)(htx:t.k=5→t.tx≠[])(hlen:t.tx.length≤100000) :
  BC prog 32 #[.agg #[.int .i64 t.k,.int .i64 t.ln,.int .i64 t.co,.int .i64 t.nm,S t.tx,kv]] w λv w'=>v=.bool t.isTypeName∧AY w w':=by
 have hX:=AY.refl w;refine enter func32 rfl rfl rfl<|gP [] DK 2 [] (Ar _) (λ_=>Ew rfl rfl rfl λb1 w1 hb1 hE1 hs1 hz1=>?_);replace hX:=hX.trans hE1;refine gL [.sq _] DK 6 [0,0] (kB hb1 (Ar _)) (y2<|λ_=>A7 rfl (Aw fX rfl rfl) (Ff _ (hG.ext hX) ⟨_,_,_,_,_⟩ _ htx hlen) ?_);rintro _ w2 ⟨rfl,hE2⟩;replace hb1:=hb1.ext hE2;replace hX:=hX.trans hE2;have sz1:=hE2.size;refine Aa rfl (A1 rfl)<|sL 5 rfl (λh1=>?_) (λh1=>?_);refine gL [.sq _] DK 3 [0,4] (kB hb1 (Ar _)) (y2<|λ_=>BI rfl rfl rfl<|Aa rfl (Km rfl rfl (by simp;omega))<|BI rfl rfl rfl<|Aa rfl (Km rfl rfl (by simp;omega))<|BI rfl rfl rfl<|A7 rfl (Aw fC rfl rfl) (Ie _ (hG.ext hX) _ _ dC) ?_);rintro _ w3 ⟨rfl,hE3⟩;replace hb1:=hb1.ext hE3;replace hX:=hX.trans hE3;have sz2:=hE3.size;refine gL [.sq _] DK 6 [] (Ar _) (λ_=>B1 (AJ rfl (Ak rfl))<|⟨?_,hX⟩);show _=Value.bool (t.isVar&&!T0 t.tx);rw[h1];rfl;refine gL [.sq _] DK 12 [] (Ar _) (λ_=>B1 (AJ rfl (Ak rfl))<|⟨?_,hX⟩);show _=Value.bool (t.isVar&&!T0 t.tx);simp[h1]
theorem JQ(w:World)(t:AM)(kv:Value)(htx:t.k=5→t.tx≠[]) :
  BC prog 33 #[.agg #[.int .i64 t.k,.int .i64 t.ln,.int .i64 t.co,.int .i64 t.nm,S t.tx,kv]] w λv w'=>v=.bool t.isTypeVar∧AY w w':=by
 have hX:=AY.refl w;refine enter func33 rfl rfl rfl<|gP [] DK 2 [] (Ar _) (λ_=>Ew rfl rfl rfl λb1 w1 hb1 hE1 hs1 hz1=>?_);replace hX:=hX.trans hE1;refine gL [.sq _] DK 6 [0,0] (kB hb1 (Ar _)) (y2<|λ_=>A7 rfl (Aw YT rfl rfl) (G2 _ ⟨_,_,_,_,_⟩ _) ?_);rintro _ w2 ⟨rfl,hE2⟩;replace hb1:=hb1.ext hE2;replace hX:=hX.trans hE2;have sz1:=hE2.size;refine Aa rfl (A1 rfl)<|sL 5 rfl (λh1=>?_) (λh1=>?_);refine gL [.sq _] DK 3 [0,4] (kB hb1 (Ar _)) (y2<|λ_=>BI rfl rfl rfl<|Aa rfl (DB rfl rfl I5 dC (VC (htx (by simpa using h1))))<|gL [.sq _] DK 3 [] (Ar _) (λ_=>sL 12 rfl (λh2=>?_) (λh2=>?_)));refine gL [.sq _] DK 10 [0,4] (kB hb1 (Ar _)) (y2<|λ_=>B1 (AJ rfl (Ak rfl))<|⟨?_,hX⟩);show _=Value.bool (t.k==5&&(((Zd t.tx).toNat:Int)==39&&decide (1<(t.tx.length:Int))));rw[h1,h2];rfl;refine gL [.sq _] DK 10 [] (Ar _) (λ_=>B1 (AJ rfl (Ak rfl))<|⟨?_,hX⟩);show _=Value.bool (t.k==5&&(((Zd t.tx).toNat:Int)==39&&decide (1<(t.tx.length:Int))));simp[h1,h2];refine gL [.sq _] DK 17 [] (Ar _) (λ_=>B1 (AJ rfl (Ak rfl))<|⟨?_,hX⟩);show _=Value.bool (t.k==5&&(((Zd t.tx).toNat:Int)==39&&decide (1<(t.tx.length:Int))));simp[h1]
theorem Jh(w:World)(t:AM)(kv:Value) :
  BS prog 40 #[.agg #[.int .i64 t.k,.int .i64 t.ln,.int .i64 t.co,.int .i64 t.nm,S t.tx,kv]] w (λv w'=>False) (λc w'=>c=Rc 42 (t.ln,t.co)∧AY w w'):=by
 have hX:=AY.refl w;refine IY func40 rfl rfl rfl<|gP [] DK 2 [] (Ar _) (λ_=>Ew rfl rfl rfl λb1 w1 hb1 hE1 hs1 hz1=>?_);replace hX:=hX.trans hE1;exact gL [.sq _] DK 7 [0,1] (kB hb1 (Ar _)) (y2<|λ_=>Aa rfl (BZ rfl aT)<|Cr (BN rfl) (And.intro rfl<|⟨rfl,hX⟩))
theorem UU(w:World)(t:AM)(kv:Value)(ok:Bool) :
  BS prog 29 #[.agg #[.int .i64 t.k,.int .i64 t.ln,.int .i64 t.co,.int .i64 t.nm,S t.tx,kv],.bool ok] w (λv w'=>ok=true∧v=.tuple #[]∧AY w w') (λc w'=>ok=false∧c=Rc 42 (t.ln,t.co)∧AY w w'):=by
 have hX:=AY.refl w;refine IY func29 rfl rfl rfl<|gP [] DK 2 [] (Ar _) (λ_=>Ew rfl rfl rfl λb1 w1 hb1 hE1 hs1 hz1=>?_);replace hX:=hX.trans hE1;refine gL [.sq _] DK 8 [] (Ar _) (λ_=>sP 5 rfl (λh1=>?_) (λh1=>?_));replace h1:=Gg h1;refine gP [] DK 3 [0,0] (kB hb1 (Ar _)) (y2<|λ_=>Ck rfl (Aw rT rfl rfl) (Jh _ ⟨_,_,_,_,_⟩ _) (λ_ _ hf=>hf.elim) (λc wp hc=>And.intro rfl (⟨h1,hc.1,hX.trans hc.2⟩)));replace h1:=Gs h1;exact gP [] DK 2 [] (Ar _) (λ_=>GI (Ea rfl)<|⟨h1,rfl,hX⟩)
theorem AE(w:World)(t:AM)(kv:Value)(op:Int)(tx:lU)(ka:Option Addr)(kn kc:Nat) :
  BC prog 34 #[.agg #[.int .i64 t.k,.int .i64 t.ln,.int .i64 t.co,.int .i64 t.nm,S t.tx,kv],.int .i64 op,S tx,.slice ka kn kc] w λv w'=>v=.agg #[.int .i64 op,.int .i64 t.ln,.int .i64 t.co,S tx,.int .i64 0,.slice ka kn kc]∧AY w w':=by
 have hX:=AY.refl w;refine enter func34 rfl rfl rfl<|gP [] DK 2 [] (Ar _) (λ_=>Ew rfl rfl rfl λb1 w1 hb1 hE1 hs1 hz1=>?_);replace hX:=hX.trans hE1;refine CT rfl nX λb2 w2 hb2 hE2 hs2 hz2=>?_;replace hb1:=hb1.ext hE2;replace hX:=hX.trans hE2;refine gL [.sq _] DK 11 [0,1] (kB hb1 (Ar _)) (y2<|λ_=>A4 rfl rfl rfl pF rfl hb2 rfl rfl λw3 hb3 hC1=>?_);replace hb1:=hb1.chg hC1 oM;replace hX:=hX.chg hC1 oM;have sz1:=hC1.size;exact gL [.sq _] DK 3 [] (Ar _) (λ_=>B1 (AJ rfl (Ac rfl pF hb3 rfl))<|⟨rfl,hX⟩)
end Go.Proofs.YtegedalegfadgaaGreatDoor
namespace Go.Proofs.YtegedalegfadgaaGreatDoor
open Go.SW Go.RowKit Go.Proofs.Tryz
theorem M1:OF prog 22=some (3,1,8,[.int .i64 0]):=kR
theorem Dt:OF prog 53=some (57,4,56,[.int .i64 0,.int .i64 0,.string ⟨#[]⟩,.slice none 0 0]):=kR
theorem nA:OF prog 131=some (9,1,16,[.string ⟨#[]⟩]):=kR
theorem dL:ZF prog 3 21=some .i32:=kR
theorem B6:BV prog 20:=Ao func20 kR kR
theorem DD:BV prog 44:=Ao func44 kR kR
theorem Hu:BV prog 45:=Ao func45 kR kR
theorem Y2:BV prog 50:=Ao func50 kR kR
theorem Mo:BV prog 52:=Ao func52 kR kR
theorem lD:BV prog 56:=Ao func56 kR kR
theorem Z0:BV prog 57:=Ao func57 kR kR
theorem aF:BV prog 69:=Ao func69 kR kR
theorem Qj:BV prog 70:=Ao func70 kR kR
theorem XP:BV prog 72:=Ao func72 kR kR
theorem Yo:BV prog 78:=Ao func78 kR kR
theorem iX:BV prog 80:=Ao func80 kR kR
theorem jA:BV prog 81:=Ao func81 kR kR
theorem ZC:BV prog 82:=Ao func82 kR kR
theorem UY:BV prog 83:=Ao func83 kR kR
theorem Jo:BV prog 99:=Ao func99 kR kR
theorem Ra:BV prog 100:=Ao func100 kR kR
theorem MZ:BV prog 107:=Ao func107 kR kR
theorem cE:BV prog 108:=Ao func108 kR kR
theorem bR:BV prog 124:=Ao func124 kR kR
theorem HS:FM prog 57 0=some 0:=kR
theorem Jq:FM prog 57 1=some 1:=kR
theorem QV:FM prog 57 2=some 2:=kR
theorem FH:FM prog 57 3=some 3:=kR
theorem R9:FM prog 130 0=some 0:=kR
theorem YU:FM prog 130 1=some 1:=kR
theorem SY:FM prog 130 2=some 2:=kR
theorem dE:mV prog 21 9=true:=kR
theorem Nx:G4 prog 111=some (3,4):=kR
theorem YD:G4 prog 116=some (3,9):=kR
theorem U0:G4 prog 128=some (3,57):=kR
theorem Ap:prog.follows .mixedOrders=true:=kR
theorem RO:Nt prog 57=some [(0,1),(1,1),(2,1),(3,1)]:=kR
theorem lX:Nt prog 130=some [(0,1),(1,1),(2,1)]:=kR
theorem KD:Kg prog 22=some (3,1):=kR
theorem DT:Kg prog 53=some (57,4):=kR
theorem YM:Kg prog 131=some (9,1):=kR
theorem Dd:Bf prog 3=some (false,1):=kR
theorem GX:Bf prog 9=some (false,1):=kR
theorem KE:Bf prog 22=some (false,1):=kR
theorem Hs:Bf prog 53=some (false,1):=kR
theorem AI:Bf prog 57=some (true,4):=kR
theorem TD:Bf prog 128=some (false,1):=kR
theorem OJ:prog.underlying 3=some (.int .i64):=kR
theorem Yd:prog.underlying 60=some (.pointer 130):=kR
theorem dB:zO prog 4=some (.bool false):=kR
theorem sF:zO prog 9=some (.string ⟨#[]⟩):=kR
theorem NU:zO prog 57=some (.agg #[.int .i64 0,.int .i64 0,.string ⟨#[]⟩,.slice none 0 0]):=kR
theorem WL:Io prog 3=some [.int .i64 0]:=kR
theorem tA:Io prog 9=some [.string ⟨#[]⟩]:=kR
theorem oX:Io prog 22=some [.slice none 0 0]:=kR
theorem DN:Io prog 57=some [.int .i64 0,.int .i64 0,.string ⟨#[]⟩,.slice none 0 0]:=kR
theorem kN:Io prog 130=some [.map none,.int .i64 0,.int .i64 0]:=kR
theorem EZ:BV prog 16:=Ao func16 kR kR
theorem G8:BV prog 18:=Ao func18 kR kR
theorem CY:BV prog 19:=Ao func19 kR kR
theorem IW:BV prog 21:=Ao func21 kR kR
theorem Ul:BV prog 22:=Ao func22 kR kR
theorem Gf:BV prog 25:=Ao func25 kR kR
theorem Qf:BV prog 47:=Ao func47 kR kR
theorem hZ:BV prog 48:=Ao func48 kR kR
theorem kY:BV prog 49:=Ao func49 kR kR
theorem jF:BV prog 51:=Ao func51 kR kR
theorem XO:BV prog 53:=Ao func53 kR kR
theorem lV:BV prog 54:=Ao func54 kR kR
theorem Lg:BV prog 55:=Ao func55 kR kR
theorem QF:BV prog 58:=Ao func58 kR kR
theorem Yc:BV prog 74:=Ao func74 kR kR
theorem Qm:BV prog 77:=Ao func77 kR kR
theorem mL:BV prog 79:=Ao func79 kR kR
theorem mS:BV prog 97:=Ao func97 kR kR
theorem QG:BV prog 101:=Ao func101 kR kR
theorem Qp:BV prog 102:=Ao func102 kR kR
theorem cK:BV prog 120:=Ao func120 kR kR
theorem IM:FM prog 55 0=some 0:=kR
theorem GS:FM prog 55 1=some 1:=kR
theorem GW:FM prog 55 2=some 3:=kR
theorem Gi:FM prog 55 4=some 5:=kR
theorem Ky:FM prog 65 0=some 0:=kR
theorem PG:FM prog 65 1=some 1:=kR
theorem PS:FM prog 92 0=some 0:=kR
theorem aU:FM prog 92 1=some 1:=kR
theorem dM:FM prog 92 2=some 5:=kR
theorem Ot:FM prog 100 0=some 0:=kR
theorem OA:FM prog 100 1=some 4:=kR
theorem XR:FM prog 102 0=some 0:=kR
theorem SO:FM prog 102 1=some 1:=kR
theorem SZ:FM prog 102 2=some 6:=kR
theorem Pt:G4 prog 61=some (9,92):=kR
theorem qK:nL prog 48=true:=kR
theorem pZ:Nt prog 48=some [(0,2),(2,1)]:=kR
theorem Yz:Nt prog 100=some [(0,4),(4,1)]:=kR
theorem Yv:Nt prog 102=some [(0,1),(1,5),(6,1)]:=kR
theorem FF:Kg prog 34=some (55,6):=kR
theorem Db:Bf prog 26=some (true,2):=kR
theorem EK:Bf prog 34=some (false,1):=kR
theorem gB:Bf prog 50=some (false,1):=kR
theorem Bh:Bf prog 55=some (true,6):=kR
theorem HU:Bf prog 60=some (false,1):=kR
theorem Po:Bf prog 61=some (false,1):=kR
theorem ZV:Bf prog 92=some (true,6):=kR
theorem mA:Bf prog 100=some (true,5):=kR
theorem Ii:prog.underlying 9=some .string:=kR
theorem gK:prog.underlying 50=some (.pointer 102):=kR
theorem VS:zO prog 92=some (.agg #[.slice none 0 0,.int .i64 0,.int .i64 0,.string ⟨#[]⟩,.slice none 0 0,.slice none 0 0]):=kR
theorem eM:Io prog 48=some [.int .i64 0,.int .i64 0,.int .i64 0]:=kR
theorem GJ:Io prog 55=some [.int .i64 0,.int .i64 0,.int .i64 0,.string ⟨#[]⟩,.int .i64 0,.slice none 0 0]:=kR
theorem ZQ:Io prog 92=some [.slice none 0 0,.int .i64 0,.int .i64 0,.string ⟨#[]⟩,.slice none 0 0,.slice none 0 0]:=kR
theorem Y8:Io prog 100=some [.int .i64 0,.int .i64 0,.string ⟨#[]⟩,.slice none 0 0,.slice none 0 0]:=kR
theorem Z9:Io prog 102=some [.string ⟨#[]⟩,.int .i64 0,.int .i64 0,.string ⟨#[]⟩,.slice none 0 0,.slice none 0 0,.pointer none]:=kR
theorem VB:OF prog 24=some (32,2,32,[.string ⟨#[]⟩,.string ⟨#[]⟩]):=kR
theorem ZK:OF prog 93=some (96,6,80,[.string ⟨#[]⟩,.int .i64 0,.int .i64 0,.int .i64 0,.string ⟨#[]⟩,.slice none 0 0]):=kR
theorem XG:BV prog 13:=Ao func13 kR kR
theorem nB:BV prog 14:=Ao func14 kR kR
theorem kC:BV prog 15:=Ao func15 kR kR
theorem NL:BV prog 17:=Ao func17 kR kR
theorem ZE:BV prog 23:=Ao func23 kR kR
theorem iC:BV prog 24:=Ao func24 kR kR
theorem kO:BV prog 41:=Ao func41 kR kR
theorem jV:BV prog 42:=Ao func42 kR kR
theorem lQ:BV prog 43:=Ao func43 kR kR
theorem QT:BV prog 46:=Ao func46 kR kR
theorem jS:BV prog 66:=Ao func66 kR kR
theorem iJ:BV prog 67:=Ao func67 kR kR
theorem Q6:BV prog 68:=Ao func68 kR kR
theorem kQ:BV prog 73:=Ao func73 kR kR
theorem XT:BV prog 75:=Ao func75 kR kR
theorem Zs:BV prog 76:=Ao func76 kR kR
theorem PU:FM prog 32 1=some 1:=kR
theorem aS:FM prog 48 0=some 0:=kR
theorem dJ:FM prog 48 1=some 2:=kR
theorem Vu:FM prog 65 2=some 2:=kR
theorem dG:FM prog 65 3=some 3:=kR
theorem VW:FM prog 65 4=some 4:=kR
theorem bV:FM prog 90 0=some 0:=kR
theorem cD:FM prog 90 1=some 1:=kR
theorem dH:FM prog 90 3=some 3:=kR
theorem aW:FM prog 96 0=some 0:=kR
theorem dN:FM prog 96 2=some 2:=kR
theorem PT:XV prog 20=true:=kR
theorem Tb:G4 prog 62=some (9,3):=kR
theorem VH:G4 prog 63=some (9,4):=kR
theorem Ml:G4 prog 105=some (9,57):=kR
theorem Zn:Nt prog 26=some [(0,1),(1,1)]:=kR
theorem qM:Nt prog 32=some [(0,1),(1,1)]:=kR
theorem pT:Nt prog 65=some [(0,1),(1,1),(2,1),(3,1),(4,1)]:=kR
theorem pJ:Nt prog 90=some [(0,1),(1,1),(2,1),(3,1)]:=kR
theorem fI:Nt prog 92=some [(0,1),(1,4),(5,1)]:=kR
theorem pG:Nt prog 96=some [(0,1),(1,1),(2,4)]:=kR
theorem Z1:Kg prog 24=some (32,2):=kR
theorem eI:Kg prog 87=some (90,4):=kR
theorem fM:Kg prog 93=some (96,6):=kR
theorem kD:oQ prog 48=true:=kR
theorem Wf:Bf prog 24=some (false,1):=kR
theorem H3:Bf prog 27=some (false,1):=kR
theorem oL:Bf prog 48=some (true,3):=kR
theorem SM:Bf prog 62=some (false,1):=kR
theorem gE:Bf prog 63=some (false,1):=kR
theorem oF:Bf prog 90=some (true,4):=kR
theorem OC:Bf prog 93=some (false,1):=kR
theorem oP:Bf prog 96=some (true,6):=kR
theorem dT:zO prog 3=some (.int .i64 0):=kR
theorem pP:Io prog 24=some [.slice none 0 0]:=kR
theorem VO:Io prog 26=some [.int .i64 0,.int .i64 0]:=kR
theorem fR:Io prog 27=some [.int .i64 0]:=kR
theorem rH:Io prog 32=some [.string ⟨#[]⟩,.string ⟨#[]⟩]:=kR
theorem qZ:Io prog 65=some [.pointer none,.map none,.map none,.map none,.int .i64 0]:=kR
theorem eL:Io prog 90=some [.string ⟨#[]⟩,.string ⟨#[]⟩,.int .i64 0,.int .i64 0]:=kR
theorem rW:Io prog 93=some [.slice none 0 0]:=kR
theorem eU:Io prog 96=some [.string ⟨#[]⟩,.int .i64 0,.int .i64 0,.int .i64 0,.string ⟨#[]⟩,.slice none 0 0]:=kR
end Go.Proofs.YtegedalegfadgaaGreatDoor
