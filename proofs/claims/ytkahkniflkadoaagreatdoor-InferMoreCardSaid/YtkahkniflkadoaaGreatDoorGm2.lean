/- What it rests on, part 2. -/
import Derived.Test.YtkahkniflkadoaaGreatDoorGm1
import Derived.Laws.MakeOwn
import Derived.Lib.Join
import Derived.Lib.ItoaNum
set_option linter.unusedVariables false
set_option linter.unusedSimpArgs false
namespace Go.SW
open Go.RowKit
structure CD(M:Nat→Prop)(w:World)(f:Fq)(w':World)(f':Fq):Prop where
 stp:Mc M w w'
 old:∀b,b<w.heap.size→f' b=f b
 val:∀b,w'.heap.size≤b→f' b=0
variable {af:Array Edge}{args:Array Value}{σ':Bj}{fid:FuncId}{H':List HB}{XX:List PanicEntry→World→Prop}{l:List Value}{d i:Nat}{M M':Nat→Prop}{g:Option (Nat×Bool)}{dst:Option Tmp}{pos:String}{ty:TypeId}{R0:Value→World→Prop}{I' φ:World→Fq→Prop}
theorem CD.fle{w w':World}{f f':Fq}(h:CD M w f w' f')(hv:∀b,w.heap.size≤b→f b=0)(hm:∀b,M b→f b=0):I4 w f w' f':=λb=>by
 rcases Nat.lt_or_ge b w.heap.size with hb|hb
 · refine⟨by rw[h.old b hb];exact Nat.le_refl _,λo ho=>DY (h.stp.block b hb λhh=>?_) o⟩
   rw[hm b hh] at ho;omega
 · refine⟨by rw[hv b hb];exact Nat.zero_le _,λo ho=>?_⟩
   rw[hv b hb] at ho;omega
theorem CD.refl(M:Nat→Prop){w:World}{f:Fq}(hv:∀b,w.heap.size≤b→f b=0):CD M w f w f:=⟨Mc.refl _ _,λ_ _=>rfl,hv⟩
theorem CD.mono{w w':World}{f f':Fq}(h:CD M w f w' f')(hm:∀b,M b→M' b):CD M' w f w' f':=⟨h.stp.mono hm,h.old,h.val⟩
theorem CD.of_ext{w w':World}{f:Fq}(h:AR w w')(hv:∀b,w.heap.size≤b→f b=0):CD (λ_=>False) w f w' f:=⟨Mc.of_ext h,λ_ _=>rfl,λb hb=>hv b (Nat.le_trans h.size hb)⟩
theorem AO.exm{X:Cx}{w:World}{f:Fq}{H:List HB}{R:List RB}{B:List FB}{Fs:List (World→Fq→Prop)}(h:AO X w f H R B Fs):CD X.M X.w0 X.f0 w f:=⟨h.stp,h.old,h.val⟩
section
variable{X:Cx}{w w':World}{f f':Fq}{H:List HB}{R:List RB}{B:List FB}{Fs:List (World→Fq→Prop)}
theorem AO.call0(h:AO X w f H R B Fs)(he:CD (λ_=>False) w f w' f'):AO X w' f' H R B Fs :=
 have hF:=he.fle h.val (λ_ h=>h.elim)
 h.step (he.stp.mono λ_ h=>h.elim) hF he.old he.val (λb hb=>he.stp.block b (h.lt hb) λh=>h) (λb hb=>he.stp.block b (h.mi b hb).1 λh=>h)
theorem AO.callI(h:AO X w f H R B Fs)(he:CD X.MI w f w' f')(hI:I' w' f')(hst:Gg X.MI I'):AO {X with I:=I' } w' f' H R B Fs :=
 have hF:=he.fle h.val (λb hb=>(h.mi b hb).2.1);have hown:∀b,b∈CM H R→w'.heap[b]?=w.heap[b]?:=λb hb=>he.stp.block b (h.lt hb) (h.own b hb).2.2
 {stp:=⟨he.stp.os.trans h.stp.os,he.stp.tape.trans h.stp.tape,he.stp.output.trans h.stp.output,Nat.le_trans h.stp.size he.stp.size,λk hk hm=>(he.stp.block k (Nat.lt_of_lt_of_le hk h.stp.size) λhh=>by
       rcases (h.mi k hh).2.2 with h1|h1
       · exact absurd hk (Nat.not_lt.2 h1)
       · exact hm h1).trans (h.stp.block k hk hm)⟩,
   old:=λb hb=>(he.old b (Nat.lt_of_lt_of_le hb h.stp.size)).trans (h.old b hb),val:=he.val,ent:=h.ent.trans hF,res:=hI,stab:=hst,
   mi:=λb hb=>⟨Nat.lt_of_lt_of_le (h.mi b hb).1 he.stp.size,(he.old b (h.mi b hb).1).trans (h.mi b hb).2.1,(h.mi b hb).2.2⟩,
   blk:=λe hh=>(hown e.b (List.mem_append.2 (.inl (List.mem_map.2 ⟨e,hh,rfl⟩)))).trans (h.blk e hh),
   row:=λr hr=>by
     refine⟨(h.row r hr).1,(h.row r hr).2.imp id ?_⟩;rintro⟨b,l,h1,h2,h3⟩;exact⟨b,l,h1,(hown b (List.mem_append.2 (.inr (List.mem_filterMap.2 ⟨r,hr,by rw[h1];rfl⟩)))).trans h2,h3⟩,
   nd:=h.nd,
   own:=λb hb=>⟨(he.old b (h.lt hb)).trans (h.own b hb).1,(h.own b hb).2⟩,hnw:=h.hnw,rnw:=h.rnw,
   fro:=λe hh=>(h.fro e hh).mono hF,fac:=λφ hφ=>h.mono φ hφ _ _ _ _ (h.fac φ hφ) hF,mono:=h.mono}
theorem AO.more{B':List FB}{F':List (World→Fq→Prop)}(h:AO X w f H R B Fs)(hB:∀e,e∈B'→Cs w f e.b e.off e.l)(hF:∀φ,φ∈F'→φ w f)(hm:∀φ,φ∈F'→Gf φ):AO X w f H R (B'++B) (F'++Fs) :=
 {h with
   fro:=λe he=>(List.mem_append.1 he).elim (hB e) (h.fro e),
   fac:=λφ hφ=>(List.mem_append.1 hφ).elim (hF φ) (h.fac φ),
   mono:=λφ hφ=>(List.mem_append.1 hφ).elim (hm φ) (h.mono φ)}
theorem AO.less{R':List RB}{B':List FB}{F':List (World→Fq→Prop)}(h:AO X w f H R B Fs)(hH:H'.Sublist H)(hR:R'.Sublist R)(hB:∀e,e∈B'→e∈B)(hF:∀φ,φ∈F'→φ∈Fs):AO X w f H' R' B' F' :=
 have hs:(CM H' R').Sublist (CM H R):=List.Sublist.append (hH.map _) (hR.filterMap _)
 {h with
   blk:=λe he=>h.blk e (hH.subset he),row:=λr hr=>h.row r (hR.subset hr),nd:=hs.nodup h.nd,own:=λb hb=>h.own b (hs.subset hb),hnw:=λe he=>h.hnw e (hH.subset he),rnw:=λr hr=>h.rnw r (hR.subset hr),
   fro:=λe he=>h.fro e (hB e he),fac:=λφ hφ=>h.fac φ (hF φ hφ),mono:=λφ hφ=>h.mono φ (hF φ hφ)}
theorem AO.fact(h:AO X w f H R B Fs)(hi:nth Fs i=some φ):φ w f:=by
 rw[Ez] at hi;exact h.fac _ (List.mem_of_getElem? hi)
end
section
variable{P:Program}{n:Nat}{Q:AY}{ds:List Deferred}{X:Cx}{R:List RB}{B:List FB}{Fs:List (World→Fq→Prop)}{tb:Xx}{fs:List Fr}{σ:Bj}{H:List HB}
theorem go{k:Li}(ht:tb.Ok P)(m:Nat)(hs:List Nat)(h:ex P n Q ds X R B Fs tb m hs k fs σ H):A5 P n Q ds X R B Fs k fs σ H:=I8 ht m hs k fs σ H h
theorem y{α:Type}{a:α}{p:Prop}(h:p):a=a∧p:=⟨rfl,h⟩
theorem y2{α β:Type}{a:α}{b:β}{p:Prop}(h:p):(a=a∧b=b)∧p:=⟨⟨rfl,rfl⟩,h⟩
def lG:Li→Bool
 |.out _=>false
 |_=>true
theorem A5.le{k:Li}(hk:lG k=true)(hl:Le σ' σ)(h:A5 P n Q ds X R B Fs k fs σ' H):A5 P n Q ds X R B Fs k fs σ H:=λw f hM=>by
 have:=h w f hM
 cases k with
 |code c=>exact Of hl this
 |ops all l=>exact λa ha=>this a (ha.le hl)
 |out e=>cases hk
theorem AZ{k:Li}{b:Bool}(t:Nat)(hk:lG k=true)(hx:σ t=some (.bool b))(h1:b=true→A5 P n Q ds X R B Fs k fs (AF σ t (.bool true)) H)(h2:b=false→A5 P n Q ds X R B Fs k fs (AF σ t (.bool false)) H):A5 P n Q ds X R B Fs k fs σ H:=by
 cases b with
 |true=>exact A5.le hk (A7 (le_refl _) hx) (h1 rfl)
 |false=>exact A5.le hk (A7 (le_refl _) hx) (h2 rfl)
theorem tL{k:Li}{b:Bool}(t:Nat)(c:Bool)(hk:lG k=true)(hx:σ t=some (.bool b))(hb:b=c)(h1:A5 P n Q ds X R B Fs k fs (AF σ t (.bool c)) H):A5 P n Q ds X R B Fs k fs σ H:=by
 subst hb;exact A5.le hk (A7 (le_refl _) hx) h1
theorem LQ{k:Li}{α:Type}(p:α→Prop)(B':α→List FB)(F':α→List (World→Fq→Prop))(hφ:∀w f,AO X w f H R B Fs→∃x,p x∧(∀e,e∈B' x→Cs w f e.b e.off e.l)∧∀φ,φ∈F' x→φ w f)(hm:∀x φ,φ∈F' x→Gf φ)
   (h:∀x,p x→A5 P n Q ds X R (B' x++B) (F' x++Fs) k fs σ H):A5 P n Q ds X R B Fs k fs σ H:=λw f hM=>by
 obtain⟨x,hp,hB,hF⟩:=hφ w f hM;exact h x hp w f (hM.more hB hF (hm x))
theorem JU{k:Li}{p:Prop}(hφ:∀w f,AO X w f H R B Fs→p)(h:p→A5 P n Q ds X R B Fs k fs σ H):A5 P n Q ds X R B Fs k fs σ H:=λw f hM=>h (hφ w f hM) w f hM
theorem LZ:∀fs:List Fr,(LK P n Q fs).p=Q.p
 | []=>rfl
 |.sq _::fs=>LZ fs
 |.bk _::fs=>LZ fs
theorem yW{all r:List Oper}{op:Op}{α:Type}{val:α→Value}{q:α→Prop}{F':α→List (World→Fq→Prop)}(hg:gd all σ g=some true)(hd:Nat.blt d n=true)(he:∀w,Enters P σ op ty w fid args)
   (hc:∀w f,AO X w f H R B Fs→B3 P fid args w λv w'=>∃x f',v=val x∧q x∧CD (λ_=>False) w f w' f'∧∀φ,φ∈F' x→φ w' f') (hm:∀x φ,φ∈F' x→Gf φ)
   (h:∀x,q x→A5 P n Q ds X R B (F' x++Fs) (.ops all r) fs (AF σ d (val x)) H):A5 P n Q ds X R B Fs (.ops all (⟨some d,op,ty,pos,af,g⟩::r)) fs σ H:=λw f hM=>by
 refine B2 hg (A3 hd (he w) (hc w f hM) ?_);rintro v w' ⟨x,f',rfl,hq,hE,hF⟩;exact h x hq w' f' ((hM.call0 hE).more (B':=[]) (λ_ h=>by cases h) hF (hm x))
theorem yT{all r:List Oper}{op:Op}{α:Type}{val:α→Value}{q:α→Prop}{I':α→World→Fq→Prop}{F':α→List (World→Fq→Prop)}
   (hg:gd all σ g=some true) (hd:Nat.blt d n=true) (he:∀w,Enters P σ op ty w fid args)
   (hc:∀w f,AO X w f H R B Fs→BD P fid args w (λv w'=>∃x f',v=val x∧q x∧CD X.MI w f w' f'∧I' x w' f'∧∀φ,φ∈F' x→φ w' f') XX) (hst:∀x,Gg X.MI (I' x)) (hm:∀x φ,φ∈F' x→Gf φ)
   (hp:∀w f c w',AO X w f H R B Fs→XX c w'→Q.p c σ ds w')
   (h:∀x,q x→A5 P n Q ds {X with I:=I' x} R B (F' x++Fs) (.ops all r) fs (AF σ d (val x)) H):A5 P n Q ds X R B Fs (.ops all (⟨some d,op,ty,pos,af,g⟩::r)) fs σ H:=λw f hM=>by
 refine B2 hg (Cf hd (he w) (hc w f hM) ?_ ?_)
 · rintro v w' ⟨x,f',rfl,hq,hE,hI,hF⟩
   exact h x hq w' f' ((hM.callI hE hI (hst x)).more (B':=[]) (λ_ h=>by cases h) hF (hm x))
 · intro c w' hX
   rw[LZ];exact hp w f c w' hM hX
theorem Fm{all r:List Oper}{op:Op}{v:Value}(hg:gd all σ g=some true)(hd:Nat.blt d n=true)(hr:∀w f,AO X w f H R B Fs→AL P σ op ty w v w)
   (h:A5 P n Q ds X R B Fs (.ops all r) fs (AF σ d v) H):A5 P n Q ds X R B Fs (.ops all (⟨some d,op,ty,pos,af,g⟩::r)) fs σ H:=λw f hM=>B2 hg (Ab hd (hr w f hM) (h w f hM))
theorem wY{all r:List Oper}{op:Op}{v:Value}(hg:gd all σ g=some true)(hr:∀w,kQ P σ op ty w v w)
   (h:∀w f,AO X w f H R B Fs→Q.p [{v,recovered:=false}] σ ds w):A5 P n Q ds X R B Fs (.ops all (⟨dst,op,ty,pos,af,g⟩::r)) fs σ H:=λw f hM=>B2 hg (Cm (hr w) (by rw[LZ];exact h w f hM))
def vM(P:Program)(n:Nat){α:Type}(m:α→Nat)(p:α→Prop)(s:α→Bj)(X:α→Cx)(H:α→List HB)(R:α→List RB)(B:α→List FB)(Fs:α→List (World→Fq→Prop))(ds:List Deferred)(k:Nat)(Q:AY):AY :=
 {q:=λe σ ds' w=>match e with
     |.normal=>∃x,m x<k∧p x∧ds'=ds∧Le (s x) σ∧∃f,AO (X x) w f (H x) (R x) (B x) (Fs x)
     |e=>Q.q e σ ds' w,
   p:=Q.p}
theorem GC{c:Code}{α:Type}(m:α→Nat)(p:α→Prop)(s:α→Bj)(X':α→Cx)(H':α→List HB)(R':α→List RB)(B':α→List FB)(F':α→List (World→Fq→Prop))(x0:α)(h0:p x0)(hl:Le (s x0) σ)
   (hM:∀w f,AO X w f H R B Fs→AO (X' x0) w f (H' x0) (R' x0) (B' x0) (F' x0))
   (body:∀x,p x→A5 P n (vM P n m p s X' H' R' B' F' ds (m x) (LK P n Q fs)) ds (X' x) (R' x) (B' x) (F' x) (.code c) [] (s x) (H' x)):A5 P n Q ds X R B Fs (.code (.loop c)) fs σ H:=λw f hm=>by
 refine DO (λk σ ds' w=>∃x,m x=k∧p x∧ds'=ds∧σ=s x∧∃f,AO (X' x) w f (H' x) (R' x) (B' x) (F' x)) (m x0) (s x0) hl ⟨x0,rfl,h0,rfl,rfl,f,hM w f hm⟩ ?_;rintro k σ ds' w ⟨x,rfl,hp,rfl,rfl,f,hm⟩;have:=body x hp w f hm;intro a ha;refine wp_mono (this a ha) λe a' w' he=>?_
 cases e with
 |normal =>
   obtain⟨σ',ds',hs,y,hy,hpy,rfl,hly,f',hm'⟩:=he;exact⟨σ',_,hs,m y,s y,hy,hly,y,rfl,hpy,rfl,rfl,f',hm'⟩
 |panic c=>exact he
 |outgrown=>exact he
 |ret=>exact he
 |exit i=>exact he
 |goto i=>exact he
theorem DF{α:Type}{m:α→Nat}{p:α→Prop}{s:α→Bj}{X':α→Cx}{H':α→List HB}{R':α→List RB}{B':α→List FB}{F':α→List (World→Fq→Prop)}{k:Nat}(x:α)(hk:m x<k)(hp:p x)(hl:Le (s x) σ)
   (hM:∀w f,AO X w f H R B Fs→∃f,AO (X' x) w f (H' x) (R' x) (B' x) (F' x)):A5 P n (vM P n m p s X' H' R' B' F' ds k Q) ds X R B Fs (.out .normal) [] σ H :=
 λw f hm=>⟨x,hk,hp,rfl,hl,hM w f hm⟩
theorem Gp{α:Type}{m:α→Nat}{p:α→Prop}{s:α→Bj}{X':α→Cx}{H':α→List HB}{R':α→List RB}{B':α→List FB}{F':α→List (World→Fq→Prop)}{k:Nat}(h:A5 P n Q ds X R B Fs (.out (.exit i)) fs σ H):A5 P n (vM P n m p s X' H' R' B' F' ds k (LK P n Q fs)) ds X R B Fs (.out (.exit i)) [] σ H:=λw f hm=>h w f hm
theorem dN{α:Type}{m:α→Nat}{p:α→Prop}{s:α→Bj}{X':α→Cx}{H':α→List HB}{R':α→List RB}{B':α→List FB}{F':α→List (World→Fq→Prop)}{k:Nat}(h:A5 P n Q ds X R B Fs (.out .ret) fs σ H):A5 P n (vM P n m p s X' H' R' B' F' ds k (LK P n Q fs)) ds X R B Fs (.out .ret) [] σ H:=λw f hm=>h w f hm
theorem MR{fn:Func}{c:Code}{w:World}{f:Fq}(hf:P.funcs[fid]?=some fn)(hb:fn.body=some c)(hn:fn.ntmps=n)(hl:Nat.ble l.length n=true)(hM:AO X w f H R B Fs)
   (h:A5 P n (F8 P fn R0 XX) [] X R B Fs (.code c) [] (HI l 0) H):BD P fid l.toArray w R0 XX:=Ig hf hb hn hl (h w f hM)
theorem CV{fn:Func}{c:Code}{w:World}{f:Fq}(hf:P.funcs[fid]?=some fn)(hb:fn.body=some c)(hn:fn.ntmps=n)(hl:Nat.ble l.length n=true)(hM:AO X w f H R B Fs)
   (h:A5 P n (F8 P fn R0 λ_ _=>False) [] X R B Fs (.code c) [] (HI l 0) H):B3 P fid l.toArray w R0:=enter hf hb hn hl (h w f hM)
theorem AV{fn:Func}{v:Value}(hv:∀w f,AO X w f H R B Fs→Vz P fn σ w v)(h:∀w f,AO X w f H R B Fs→R0 v w):A5 P n (F8 P fn R0 XX) [] X R B Fs (.out .ret) [] σ H:=λw f hM=>Bm (hv w f hM) (h w f hM)
theorem eU{fn:Func}{v:Value}(hv:∀w f,AO X w f H R B Fs→Vz P fn σ w v)(h:∀w f,AO X w f H R B Fs→R0 v w):A5 P n (F8 P fn R0 XX) [] X R B Fs (.out .normal) [] σ H:=λw f hM=>Gh (hv w f hM) (h w f hM)
end
def Ot:List RB→Nat→Option RB
 | [],_=>none
 |x::_,0=>some x
 |_::l,i+1=>Ot l i
def RC:List RB→Nat→RB→Option (List RB)
 | [],_,_=>none
 |_::H,0,e=>some (e::H)
 |x::H,i+1,e=>match RC H i e with
   |some r=>some (x::r)
   |none=>none
def PQ:List RB→Nat→Option (List RB)
 | [],_=>none
 |_::H,0=>some H
 |x::H,i+1=>match PQ H i with
   |some r=>some (x::r)
   |none=>none
theorem D7:∀{R:List RB}{i:Nat}{r:RB},Ot R i=some r→r∈R
 | [],_,_,h=>by cases h
 |_::_,0,_,h=>by cases h;exact .head _
 |_::R,i+1,r,h=>.tail _ (D7 (R:=R) h)
theorem RJ:∀{R R':List RB}{i:Nat},PQ R i=some R'→R'.Sublist R
 | [],_,_,h=>by cases h
 |_::_,_,0,h=>by cases h;exact List.sublist_cons_self _ _
 |x::R,R',i+1,h=>by
   unfold PQ at h
   cases hr:PQ R i with
   |none=>rw[hr] at h;cases h
   |some r=>rw[hr] at h;cases h;exact (RJ hr).cons_cons x
def IV(R:List RB):List Nat:=R.filterMap λr=>rb r.a
theorem Rr:∀{R R':List RB}{i:Nat}{r r':RB},Ot R i=some r→RC R i r'=some R'→(∀x,x∈R'→x=r'∨x∈R)∧∀N,(rb r'.a=rb r.a∨∃k,rb r'.a=some k∧k∉N∧k∉IV R)→(N++IV R).Nodup→(N++IV R').Nodup∧(∀b,b∈IV R'→some b=rb r'.a∨b∈IV R)∧∀x,x∈R'→x=r'∨(x∈R∧(rb x.a=none∨rb x.a≠rb r.a))
 | [],_,_,_,_,h,_=>by cases h
 |x::R,R',0,r,r',hg,hs=>by
   cases hg;cases hs
   refine⟨λy hy=>by rcases List.mem_cons.1 hy with h|h;exact .inl h;exact .inr (.tail _ h),λN hk hn=>?_⟩
   have e1:IV (x::R)=(match rb x.a with|some b=>b::IV R|none=>IV R):=by
     unfold IV;rw[List.filterMap_cons];cases rb x.a <;> rfl
   have e2:IV (r'::R)=(match rb r'.a with|some b=>b::IV R|none=>IV R):=by
     unfold IV;rw[List.filterMap_cons];cases rb r'.a <;> rfl
   have hsub:(N++IV R).Nodup:=by
     rw[e1] at hn
     cases hx:rb x.a with
     |none=>rw[hx] at hn;exact hn
     |some b=>rw[hx] at hn;exact (List.Sublist.append (List.Sublist.refl N) (List.sublist_cons_self b _)).nodup hn
   have hother:∀y,y∈R→rb y.a=none∨rb y.a≠rb x.a:=λy hy=>by
     cases hb:rb y.a with
     |none=>exact .inl rfl
     |some b =>
       refine .inr λe=>?_;rw[e1,← e] at hn;have h2:=(List.nodup_append.1 hn).2.1;exact (List.nodup_cons.1 h2).1 (List.mem_filterMap.2 ⟨y,hy,hb⟩)
   refine⟨?_,?_,?_⟩
   · rcases hk with hk|⟨k,hk,hkN,hkR⟩
     · rw[e2,hk,← e1];exact hn
     · rw[e2,hk]
       have hkR':k∉IV R:=λh=>hkR (by rw[e1];cases rb x.a with|none=>exact h|some b=>exact .tail _ h)
       exact List.nodup_append.2 ⟨(List.nodup_append.1 hsub).1,List.nodup_cons.2 ⟨hkR',(List.nodup_append.1 hsub).2.1⟩,λa ha b hb e=>by
         rcases List.mem_cons.1 hb with rfl|hb
         · exact hkN (e▸ha)
         · exact (List.nodup_append.1 hsub).2.2 a ha b hb e⟩
   · intro b hb
     rw[e2] at hb
     cases hr:rb r'.a with
     |none=>rw[hr] at hb;right;rw[e1];cases rb x.a with|none=>exact hb|some c=>exact .tail _ hb
     |some c =>
       rw[hr] at hb;rcases List.mem_cons.1 hb with rfl|hb
       · exact .inl rfl
       · right;rw[e1];cases rb x.a with|none=>exact hb|some c=>exact .tail _ hb
   · intro y hy
     rcases List.mem_cons.1 hy with h|h
     · exact .inl h
     · exact .inr ⟨.tail _ h,hother y h⟩
 |x::R,R',i+1,r,r',hg,hs=>by
   unfold RC at hs
   cases hr:RC R i r' with
   |none=>rw[hr] at hs;cases hs
   |some R1 =>
     rw[hr] at hs;cases hs;obtain⟨h1,h2⟩:=Rr (R:=R) hg hr
     refine⟨λy hy=>by
       rcases List.mem_cons.1 hy with rfl|hy
       · exact .inr (.head _)
       · rcases h1 y hy with h|h
         · exact .inl h
         · exact .inr (.tail _ h),λN hk hn=>?_⟩
     have ex:∀L:List RB,IV (x::L)=(match rb x.a with|some b=>b::IV L|none=>IV L):=λL=>by
       unfold IV;rw[List.filterMap_cons];cases rb x.a <;> rfl
     cases hx:rb x.a with
     |none =>
       rw[ex,hx] at hn;obtain⟨a1,a2,a3⟩:=h2 N (by rw[ex,hx] at hk;exact hk) hn;refine⟨by rw[ex,hx];exact a1,λb hb=>by rw[ex,hx] at hb;rw[ex,hx];exact a2 b hb,λy hy=>?_⟩;rcases List.mem_cons.1 hy with rfl|hy
       · exact .inr ⟨.head _,.inl hx⟩
       · rcases a3 y hy with h|h
         · exact .inl h
         · exact .inr ⟨.tail _ h.1,h.2⟩
     |some c =>
       rw[ex,hx] at hn;simp only at hn;have hn':((N++[c])++IV R).Nodup:=by simpa using hn
       obtain⟨a1,a2,a3⟩:=h2 (N++[c]) (by
         rw[ex,hx] at hk;rcases hk with hk|⟨k,hk,hkN,hkR⟩
         · exact .inl hk
         · exact .inr ⟨k,hk,λh=>by
             rcases List.mem_append.1 h with h|h
             · exact hkN h
             · exact hkR (by rw[List.mem_singleton] at h;subst h;exact .head _),λh=>hkR (.tail _ h)⟩) hn'
       have hrc:rb r.a≠some c:=λe=>by
         have:c∈IV R:=List.mem_filterMap.2 ⟨r,D7 hg,e⟩;exact (List.nodup_append.1 hn').2.2 c (List.mem_append.2 (.inr (.head _))) c this rfl
       refine⟨by rw[ex,hx];simpa using a1,λb hb=>?_,λy hy=>?_⟩
       · rw[ex,hx] at hb
         rcases List.mem_cons.1 hb with rfl|hb
         · right;rw[ex,hx];exact .head _
         · rcases a2 b hb with h|h
           · exact .inl h
           · right;rw[ex,hx];exact .tail _ h
       · rcases List.mem_cons.1 hy with rfl|hy
         · exact .inr ⟨.head _,.inr (by rw[hx];exact λe=>hrc e.symm)⟩
         · rcases a3 y hy with h|h
           · exact .inl h
           · exact .inr ⟨.tail _ h.1,h.2⟩
section
variable{X:Cx}{w w':World}{f:Fq}{H:List HB}{R R':List RB}{B:List FB}{Fs:List (World→Fq→Prop)}
variable {xs:List Value}{b c' n n':Nat}{a':Option Addr}{e:TypeId}
theorem AO.grow{r:RB}{xs':List Value}(h:AO X w f H R B Fs)(hg:Ot R i=some r)(hs:RC R i ⟨r.e,r.size,a',c',n',xs'⟩=some R')(hr:Ci w' r.e r.size a' c' n' xs')(hG:Gm r.a w a' w'):AO X w' f H R' B Fs:=by
 have hmemr:∀b,rb r.a=some b→b∈CM H R:=λb hb=>List.mem_append.2 (.inr (List.mem_filterMap.2 ⟨r,D7 hg,hb⟩))
 have hF:I4 w f w' f:=λk=>⟨Nat.le_refl _,λo ho=>by
   have hk:k<w.heap.size:=by
     rcases Nat.lt_or_ge k w.heap.size with hh|hh
     · exact hh
     · have:=h.val k hh;omega
   exact DY (hG.block k hk λe=>by have:=(h.own k (hmemr k e.symm)).1;omega) o⟩
 have hmi:∀k,X.MI k→w'.heap[k]?=w.heap[k]?:=λk hk=>hG.block k (h.mi k hk).1 λe=>(h.own k (hmemr k e.symm)).2.2 hk;have hnew:w.heap.size∉CM H R:=λhh=>Nat.lt_irrefl _ (h.lt hh);obtain⟨h1,h2⟩:=Rr hg hs
 obtain⟨a1,a2,a3⟩:=h2 (H.map HB.b) (by
   rcases hG.own with ho|ho
   · exact .inl ho
   · exact .inr ⟨_,ho,λhh=>hnew (List.mem_append.2 (.inl hh)),λhh=>hnew (List.mem_append.2 (.inr hh))⟩) h.nd
 have hblk:∀e,e∈H→w'.heap[e.b]?=w.heap[e.b]?:=λe he=>hG.block e.b (h.blk e he).lt λhh=>by
   exact (List.nodup_append.1 h.nd).2.2 e.b (List.mem_map.2 ⟨e,he,rfl⟩) e.b (List.mem_filterMap.2 ⟨r,D7 hg,hh.symm⟩) rfl
 exact {stp:=⟨hG.os.trans h.stp.os,hG.tape.trans h.stp.tape,hG.output.trans h.stp.output,Nat.le_trans h.stp.size hG.size,λk hk hm=>(hG.block k (Nat.lt_of_lt_of_le hk h.stp.size) λe=>by have:=h.rnw r (D7 hg) k e.symm;omega).trans (h.stp.block k hk hm)⟩,
         old:=h.old,val:=λk hk=>h.val k (Nat.le_trans hG.size hk),ent:=h.ent.trans hF,res:=h.stab _ _ _ _ h.res hF hmi,stab:=h.stab,
         mi:=λk hk=>⟨Nat.lt_of_lt_of_le (h.mi k hk).1 hG.size,(h.mi k hk).2⟩,
         blk:=λe he=>(hblk e he).trans (h.blk e he),
         row:=λx hx=>by
           rcases a3 x hx with rfl|⟨hx,hne⟩
           · exact hr
           · exact (h.row x hx).grow hG hne,
         nd:=a1,
         own:=λb hb=>by
           rcases List.mem_append.1 hb with hb|hb
           · exact h.own b (List.mem_append.2 (.inl hb))
           · rcases a2 b hb with hb|hb
             · rcases hG.own with ho|ho
               · exact h.own b (hmemr b (by rw[← ho];exact hb.symm))
               · have:b=w.heap.size:=Option.some.inj (hb.trans ho)
                 subst this;exact⟨h.val _ (Nat.le_refl _),.inl h.stp.size,λhm=>Nat.lt_irrefl _ (h.mi _ hm).1⟩
             · exact h.own b (List.mem_append.2 (.inr hb)),
         hnw:=h.hnw,
         rnw:=λx hx b hb=>by
           rcases a3 x hx with rfl|⟨hx,_⟩
           · rcases hG.own with ho|ho
             · exact h.rnw r (D7 hg) b (by rw[← ho];exact hb)
             · have:b=w.heap.size:=Option.some.inj (hb.symm.trans ho)
               subst this;exact h.stp.size
           · exact h.rnw x hx b hb,
         fro:=λx hx=>(h.fro x hx).mono hF,fac:=λφ hφ=>h.mono φ hφ _ _ _ _ (h.fac φ hφ) hF,mono:=h.mono}
theorem AO.rowNil(h:AO X w f H R B Fs)(e:TypeId)(size:Nat):AO X w f H (⟨e,size,none,0,0,[]⟩::R) B Fs :=
 {h with
   row:=λr hr=>by
     rcases List.mem_cons.1 hr with rfl|hr
     · exact Gy _ _ _
     · exact h.row r hr,
   rnw:=λr hr b hb=>by
     rcases List.mem_cons.1 hr with rfl|hr
     · cases hb
     · exact h.rnw r hr b hb}
theorem AO.done{size c:Nat}(h:AO X w f H R B Fs)(hg:Ot R i=some ⟨e,size,some ⟨b,0,none⟩,c,n,xs⟩)(hs:PQ R i=some R'):∃f',AO X w f' H R' (⟨b,0,xs⟩::B) Fs:=by
 have hr:=h.row _ (D7 hg);have hown:=h.own b (List.mem_append.2 (.inr (List.mem_filterMap.2 ⟨_,D7 hg,rfl⟩)));have hnw:=h.rnw _ (D7 hg) b rfl;have hlt:b<w.heap.size:=hr.lt rfl
 let f':Fq:=λk=>if k=b then n*size else f k
 have hF:I4 w f w f':=λk=>by
   show f k≤(if k=b then n*size else f k)∧_
   split
   · rename_i hk;subst hk;rw[hown.1];exact⟨Nat.zero_le _,λo ho=>by omega⟩
   · exact⟨Nat.le_refl _,λ_ _=>rfl⟩
 have hne:∀k,k≠b→f' k=f k:=λk hk=>if_neg hk;have hsub:=RJ hs
 have hbR:b∉CM H R':=by
   have:∀(R R':List RB)(i:Nat)(N:List Nat),Ot R i=some ⟨e,size,some ⟨b,0,none⟩,c,n,xs⟩→PQ R i=some R'→(N++IV R).Nodup→b∉N++IV R':=by
     intro R
     induction R with
     |nil=>intro R' i N hg;cases hg
     |cons x R ih =>
       intro R' i N hg hs hn
       cases i with
       |zero =>
         cases hg;cases hs
         have e1:IV (⟨e,size,some ⟨b,0,none⟩,c,n,xs⟩::R)=b::IV R:=rfl;rw[e1] at hn;intro hb;rcases List.mem_append.1 hb with hb|hb
         · exact (List.nodup_append.1 hn).2.2 b hb b (.head _) rfl
         · exact (List.nodup_cons.1 (List.nodup_append.1 hn).2.1).1 hb
       |succ i =>
         unfold PQ at hs
         cases hr:PQ R i with
         |none=>rw[hr] at hs;cases hs
         |some R1 =>
           rw[hr] at hs;cases hs
           have ex:∀L:List RB,IV (x::L)=(match rb x.a with|some b=>b::IV L|none=>IV L):=λL=>by
             unfold IV;rw[List.filterMap_cons];cases rb x.a <;> rfl
           rw[ex] at hn ⊢
           cases hx:rb x.a with
           |none=>rw[hx] at hn;exact ih R1 i N hg hr hn
           |some k =>
             rw[hx] at hn;have:=ih R1 i (N++[k]) hg hr (by simpa using hn);simpa using this
   exact this R R' i (H.map HB.b) hg hs h.nd
 refine⟨f',{stp:=h.stp,old:=λk hk=>(hne k oM).trans (h.old k hk),val:=λk hk=>(hne k oM).trans (h.val k hk),ent:=h.ent.trans hF,res:=h.stab _ _ _ _ h.res hF (λ_ _=>rfl),stab:=h.stab,
               mi:=λk hk=>⟨(h.mi k hk).1,(hne k (λe=>hown.2.2 (e▸hk))).trans (h.mi k hk).2.1,(h.mi k hk).2.2⟩,
               blk:=h.blk,row:=λr hr=>h.row r (hsub.subset hr),nd:=(List.Sublist.append (List.Sublist.refl _) (hsub.filterMap _)).nodup h.nd,
               own:=λk hk=>by
                 have hk2:k∈CM H R:=(List.Sublist.append (List.Sublist.refl (H.map (·.b))) (hsub.filterMap _)).subset hk;exact⟨(hne k (λe=>hbR (e▸hk))).trans (h.own k hk2).1,(h.own k hk2).2⟩,
               hnw:=h.hnw,rnw:=λr hr=>h.rnw r (hsub.subset hr),
               fro:=λx hx=>by
                 rcases List.mem_cons.1 hx with rfl|hx
                 · intro j v hj
                   have hj:xs[j]?=some v:=hj;obtain⟨hl,_⟩:=List.getElem?_eq_some_iff.1 hj;rcases hr.2 with ⟨h0,_⟩|⟨b',l,ha,hb,hnc,_,hll,ht⟩
                   · cases h0
                   · cases ha
                     have hxl:xs.length=n*size:=hr.1;have ht:l.take (n*size)=xs:=ht;refine⟨?_,?_⟩
                     · show 0+j<(if b=b then n*size else f b)
                       rw[if_pos rfl];omega
                     · show w.cell? ⟨b,0+j,none⟩=some v
                       rw[hb.cell,Nat.zero_add];rw[← ht,List.getElem?_take] at hj
                       split at hj
                       · exact hj
                       · cases hj
                 · exact (h.fro x hx).mono hF,
               fac:=λφ hφ=>h.mono φ hφ _ _ _ _ (h.fac φ hφ) hF,mono:=h.mono}⟩
end
def AI:List (World→Fq→Prop)→World→Fq→Prop
 | [],_,_=>True
 |φ::l,w,f=>φ w f∧AI l w f
def Az:List (World→Fq→Prop)→Prop
 | []=>True
 |φ::l=>Gf φ∧Az l
theorem AI.mem:∀{l:List (World→Fq→Prop)}{w:World}{f:Fq},AI l w f→∀φ,φ∈l→φ w f
 | [],_,_,_,_,h=>by cases h
 |_::_,_,_,h,φ,hφ=>by
   rcases List.mem_cons.1 hφ with rfl|hφ
   · exact h.1
   · exact AI.mem h.2 φ hφ
theorem Az.mem:∀{l:List (World→Fq→Prop)},Az l→∀φ,φ∈l→Gf φ
 | [],_,_,h=>by cases h
 |_::_,h,φ,hφ=>by
   rcases List.mem_cons.1 hφ with rfl|hφ
   · exact h.1
   · exact Az.mem h.2 φ hφ
def BO{α:Type}(val:α→Value)(q:α→Prop)(F':α→List (World→Fq→Prop))(w:World)(f:Fq)(v:Value)(w':World):Prop:=∃x f',v=val x∧q x∧CD (λ_=>False) w f w' f'∧AI (F' x) w' f'
def EP{α:Type}(val:α→Value)(q:α→Prop)(MI:Nat→Prop)(I':α→World→Fq→Prop)(F':α→List (World→Fq→Prop))(w:World)(f:Fq)(v:Value)(w':World):Prop:=∃x f',v=val x∧q x∧CD MI w f w' f'∧I' x w' f'∧AI (F' x) w' f'
def Vl(w:World)(f:Fq):Prop:=∀b,w.heap.size≤b→f b=0
abbrev X0(w:World)(f:Fq):Cx:=⟨λ_=>False,λ_=>False,λ_ _=>True,w,f⟩
theorem Cz{w:World}{f:Fq}{Fs:List (World→Fq→Prop)}(hv:Vl w f)(hF:AI Fs w f)(hm:Az Fs):AO (X0 w f) w f [] [] [] Fs where
 stp:=Mc.refl _ _
 old _ _:=rfl
 val:=hv
 ent:=I4.refl _ _
 res:=trivial
 stab _ _ _ _ _ _ _:=trivial
 mi _ h:=h.elim
 blk _ h:=by cases h
 row _ h:=by cases h
 nd:=List.nodup_nil
 own _ h:=by cases h
 hnw _ h:=by cases h
 rnw _ h:=by cases h
 fro _ h:=by cases h
 fac:=hF.mem
 mono:=hm.mem
theorem AO.vl{X:Cx}{w:World}{f:Fq}{H:List HB}{R:List RB}{B:List FB}{Fs:List (World→Fq→Prop)}(h:AO X w f H R B Fs):Vl w f:=h.val
def K9:List HB→Nat→Option (List HB)
 | [],_=>none
 |_::H,0=>some H
 |x::H,i+1=>match K9 H i with
   |some r=>some (x::r)
   |none=>none
theorem KU:∀{H H':List HB}{i:Nat},K9 H i=some H'→H'.Sublist H
 | [],_,_,h=>by cases h
 |_::_,_,0,h=>by cases h;exact List.sublist_cons_self _ _
 |x::H,H',i+1,h=>by
   unfold K9 at h
   cases hr:K9 H i with
   |none=>rw[hr] at h;cases h
   |some r=>rw[hr] at h;cases h;exact (KU hr).cons_cons x
theorem KY:∀{H H':List HB}{i:Nat}{e:HB}{L:List Nat},H3 H i=some e→K9 H i=some H'→(H.map HB.b++L).Nodup→e.b∉H'.map HB.b++L
 | [],_,_,_,_,h,_,_=>by cases h
 |x::H,H',0,e,L,hg,hs,hn=>by
   cases hg;cases hs
   exact (List.nodup_cons.1 hn).1
 |x::H,H',i+1,e,L,hg,hs,hn=>by
   unfold K9 at hs
   cases hr:K9 H i with
   |none=>rw[hr] at hs;cases hs
   |some r =>
     rw[hr] at hs;cases hs;have hn':(x.b::(H.map HB.b++L)).Nodup:=hn;have ih:=KY (H:=H) (L:=L) hg hr (List.nodup_cons.1 hn').2;intro hb;have hb':e.b∈x.b::(r.map HB.b++L):=hb;rcases List.mem_cons.1 hb' with h|h
     · exact (List.nodup_cons.1 hn').1 (by rw[← h];exact List.mem_append.2 (.inl (List.mem_map.2 ⟨e,BV hg,rfl⟩)))
     · exact ih h
section
variable{X:Cx}{w w':World}{f:Fq}{H H':List HB}{R R':List RB}{B:List FB}{Fs:List (World→Fq→Prop)}
variable {b:Nat}
theorem AO.doneH{T:TypeId}(h:AO X w f H R B Fs)(hg:H3 H i=some ⟨b,l,T,true⟩)(hs:K9 H i=some H'):∃f',AO X w f' H' R (⟨b,0,l⟩::B) Fs:=by
 have hblk:=h.blk _ (BV hg);have hown:=h.own b (List.mem_append.2 (.inl (List.mem_map.2 ⟨_,BV hg,rfl⟩)));have hnw:=h.hnw _ (BV hg) rfl;have hlt:b<w.heap.size:=hblk.lt
 let f':Fq:=λk=>if k=b then l.length else f k
 have hF:I4 w f w f':=λk=>by
   show f k≤(if k=b then l.length else f k)∧_
   split
   · rename_i hk;subst hk;rw[hown.1];exact⟨Nat.zero_le _,λo ho=>by omega⟩
   · exact⟨Nat.le_refl _,λ_ _=>rfl⟩
 have hne:∀k,k≠b→f' k=f k:=λk hk=>if_neg hk;have hsub:=KU hs;have hnd:(H.map HB.b++IV R).Nodup:=h.nd;have hbR:b∉CM H' R:=KY (L:=IV R) hg hs hnd;have hso:(CM H' R).Sublist (CM H R):=List.Sublist.append (hsub.map _) (List.Sublist.refl _);have hnw':X.w0.heap.size≤b:=hnw
 refine⟨f',{stp:=h.stp,old:=λk hk=>(hne k oM).trans (h.old k hk),val:=λk hk=>(hne k oM).trans (h.val k hk),ent:=h.ent.trans hF,res:=h.stab _ _ _ _ h.res hF (λ_ _=>rfl),stab:=h.stab,
               mi:=λk hk=>⟨(h.mi k hk).1,(hne k (λe=>hown.2.2 (e▸hk))).trans (h.mi k hk).2.1,(h.mi k hk).2.2⟩,
               blk:=λe he=>h.blk e (hsub.subset he),row:=h.row,nd:=hso.nodup h.nd,
               own:=λk hk=>⟨(hne k (λe=>hbR (e▸hk))).trans (h.own k (hso.subset hk)).1,(h.own k (hso.subset hk)).2⟩,
               hnw:=λe he=>h.hnw e (hsub.subset he),rnw:=h.rnw,
               fro:=λx hx=>by
                 rcases List.mem_cons.1 hx with rfl|hx
                 · intro j v hj
                   have hj:l[j]?=some v:=hj;obtain⟨hl,_⟩:=List.getElem?_eq_some_iff.1 hj;refine⟨?_,?_⟩
                   · show 0+j<(if b=b then l.length else f b)
                     rw[if_pos rfl];omega
                   · show w.cell? ⟨b,0+j,none⟩=some v
                     have hblk:AM w b l T:=hblk;rw[hblk.cell,Nat.zero_add,hj]
                 · exact (h.fro x hx).mono hF,
               fac:=λφ hφ=>h.mono φ hφ _ _ _ _ (h.fac φ hφ) hF,mono:=h.mono}⟩
end
section
variable{P:Program}{n:Nat}{Q:AY}{ds:List Deferred}{X:Cx}{R R':List RB}{B:List FB}{Fs:List (World→Fq→Prop)}{tb:Xx}{fs:List Fr}{σ:Bj}{H:List HB}
variable{all r:List Oper}{ty T:TypeId}{pos:String}{af:Array Edge}{g:Option (Nat×Bool)}{d:Nat}{x y:Operand}
theorem QP{k:Li}(e:TypeId)(size:Nat)(h:A5 P n Q ds X (⟨e,size,none,0,0,[]⟩::R) B Fs k fs σ H):A5 P n Q ds X R B Fs k fs σ H:=λw f hM=>h w f (hM.rowNil e size)
variable {ag nw:Bool}{news vs xs z zl:List Value}{b bytes cs m o off:Nat}{a:Option Addr}{Ts e:TypeId}
theorem iT{k:Li}{size c:Nat}(i:Nat)(hg:Ot R i=some ⟨e,size,some ⟨b,0,none⟩,c,m,xs⟩)(hs:PQ R i=some R')(h:A5 P n Q ds X R' (⟨b,0,xs⟩::B) Fs k fs σ H):A5 P n Q ds X R B Fs k fs σ H:=λw f hM=>by
 obtain⟨f',hM'⟩:=hM.done hg hs;exact h w f' hM'
theorem CY{k:Li}{H':List HB}{T:TypeId}(i:Nat)(hg:H3 H i=some ⟨b,l,T,true⟩)(hs:K9 H i=some H')(h:A5 P n Q ds X R (⟨b,0,l⟩::B) Fs k fs σ H'):A5 P n Q ds X R B Fs k fs σ H:=λw f hM=>by
 obtain⟨f',hM'⟩:=hM.doneH hg hs;exact h w f' hM'
theorem D4{size:Nat}{c k src:Nat}{R':Option Addr→Nat→List RB}(i j:Nat)(hg:gd all σ g=some true)(hd:Nat.blt d n=true)(hT:Oo P T=some (e,size,bytes,zl))(hzl:Nat.beq zl.length size=true)(hsz:Nat.blt 0 size=true)
   (hs:ev σ x=some (.slice a k c)) (hx:ev σ y=some (.slice (some ⟨src,0,none⟩) 1 cs)) (hR:Ot R i=some ⟨e,size,a,c,k,xs⟩) (hH:H3 H j=some ⟨src,news,Ts,nw⟩) (hl:Nat.beq news.length size=true) (h1:Md news=true)
   (hS:∀a' c',RC R i ⟨e,size,a',c',k+1,xs++news⟩=some (R' a' c')) (h47:(k+1)*bytes≤140737488355328) (h63:k+1≤9223372036854775807)
   (h:∀a' c',A5 P n Q ds X (R' a' c') B Fs (.ops all r) fs (AF σ d (.slice a' (k+1) c')) H) :
   A5 P n Q ds X R B Fs (.ops all (⟨some d,.call {callee:=.builtin .append,args:=#[x,y],argTypes:=#[T,T]},ty,pos,af,g⟩::r)) fs σ H:=λw f hM =>
 B2 hg (Ba hd hT hzl hsz hs hx (hM.row _ (D7 hR)) (hM.blk _ (BV hH)) hl h1 h47 h63 λa' c' w' hr hG=>h a' c' w' f (hM.grow hR (hS a' c') hr hG))
theorem Wq{size:Nat}{c k src:Nat}{R':Option Addr→Nat→List RB}(i j:Nat)(hg:gd all σ g=some true)(hd:Nat.blt d n=true)(hT:Oo P T=some (e,size,bytes,zl))(hzl:Nat.beq zl.length size=true)(hsz:Nat.blt 0 size=true)
   (hs:ev σ x=some (.slice a k c)) (hx:ev σ y=some (.slice (some ⟨src,off,none⟩) m cs)) (hR:Ot R i=some ⟨e,size,a,c,k,xs⟩) (hB:nth B j=some ⟨src,off,news⟩) (hl:news.length=m*size) (h1:∀v∈news,v.oneCell'=true) (hm:0<m)
   (hS:∀a' c',RC R i ⟨e,size,a',c',k+m,xs++news⟩=some (R' a' c')) (h47:(k+m)*bytes≤140737488355328) (h63:k+m≤9223372036854775807)
   (h:∀a' c',A5 P n Q ds X (R' a' c') B Fs (.ops all r) fs (AF σ d (.slice a' (k+m) c')) H) :
   A5 P n Q ds X R B Fs (.ops all (⟨some d,.call {callee:=.builtin .append,args:=#[x,y],argTypes:=#[T,T]},ty,pos,af,g⟩::r)) fs σ H:=λw f hM=>by
 obtain⟨a',c',w',hr,hrw,hG⟩:=Wm (ty:=ty) hT hzl hsz hs hx (hM.row _ (D7 hR)) (λj u hj=>by rw[Ew];exact (hM.getB hB j u hj).2) hl h1 hm h47 h63;exact B2 hg (Ab hd hr (h a' c' w' f (hM.grow hR (hS a' c') hrw hG)))
theorem yS{k:Nat}(hg:gd all σ g=some true)(hd:Nat.blt d n=true)(hT:J5 P T=some (e,k))
   (h:∀b,A5 P n Q ds X (⟨e,k,some ⟨b,0,none⟩,0,0,[]⟩::R) B Fs (.ops all r) fs (AF σ d (.slice (some ⟨b,0,none⟩) 0 0)) H) :
   A5 P n Q ds X R B Fs (.ops all (⟨some d,.buildSlice T 0 #[],ty,pos,af,g⟩::r)) fs σ H:=λw f hM=>by
 obtain⟨i,hu,hi,rfl⟩:=GW hT
 have hr:(Instr.buildSlice T 0 #[]).run P w=.ok (.slice (some ⟨w.heap.size,0,none⟩) 0 0) (w.alloc (.cells #[] e)):=by
   simp[Instr.buildSlice,run_underlying hu,sizeOf,typeInfo,hi,Instr.fill,newRow,show Array.range 0=#[] from rfl]
 refine B2 hg (Ab hd (v:=.slice (some ⟨w.heap.size,0,none⟩) 0 0) (w':=w.alloc (.cells #[] e)) (λρ _ _ _ _ hρ=>by simp[execOp,hr]) ?_)
 have hM1:=(hM.rowNil e i.size).grow (i:=0) (a':=some ⟨w.heap.size,0,none⟩) (c':=0) (n':=0) (xs':=[]) (w':=w.alloc (.cells #[] e)) rfl rfl
   ⟨by simp,.inr ⟨w.heap.size,[],rfl,Mx w [] _,Nat.le_refl _,Nat.zero_le _,by simp,by simp⟩⟩ ⟨rfl,rfl,rfl,by rw[GL];omega,λk hk _=>IN w _ k hk,.inr rfl⟩
 exact h w.heap.size _ f hM1
theorem RN{size:Nat}(hz:z.length=size)(hs:0<size)(m:Nat):madeCells z.toArray (m*size)=(FU m z).toArray:=by
 rw[← Qr size z hz hs m,← NJ m size z hz hs];rfl
theorem K5{size:Nat}(hz:z.length=size):∀m,(FU m z).length=m*size
 |0=>by simp[FU]
 |m+1=>by rw[FU,List.length_append,K5 hz m,hz,Nat.add_mul];omega
theorem yI{size:Nat}{x y:Operand}(hg:gd all σ g=some true)(hd:Nat.blt d n=true)(hT:Oo P T=some (e,size,bytes,zl))(hzl:Nat.beq zl.length size=true)(hsz:Nat.blt 0 size=true)
   (hx:ev σ x=some (.int .i64 (m:Int))) (hy:ev σ y=some (.int .i64 (m:Int))) (hb:bytes*m≤281474976710656) (h63:m≤maxLen)
   (h:∀b,A5 P n Q ds X (⟨e,size,some ⟨b,0,none⟩,m,m,FU m zl⟩::R) B Fs (.ops all r) fs (AF σ d (.slice (some ⟨b,0,none⟩) m m)) H) :
   A5 P n Q ds X R B Fs (.ops all (⟨some d,.makeSlice T x y,ty,pos,af,g⟩::r)) fs σ H:=λw f hM=>by
 unfold Oo at hT
 split at hT
 · rename_i e' hu
   split at hT
   · rename_i i hi
     split at hT
     · rename_i z hz
       injection hT with hT
       obtain⟨rfl,rfl,rfl,rfl⟩:=by simpa using hT
       have hzl':z.cells.toList.length=i.size:=Nat.eq_of_beq_eq_true hzl;have hsz':0<i.size:=Nat.le_of_ble_eq_true hsz;have hm63:(m:Int)≤9223372036854775807:=by have:=h63;unfold maxLen at this;omega
       have hbI:(i.bytes:Int)*(m:Int)≤281474976710656:=by
         have:((i.bytes*m:Nat):Int)≤281474976710656:=oM;rwa[Int.natCast_mul] at this
       have hr:=run_make (P:=P) w T e' i z hu hi hz .i64 .i64 (m:Int) (m:Int) oM oM hbI hm63;simp only[Int.toNat_natCast] at hr
       have hc:madeCells z.cells (m*i.size)=(FU m z.cells.toList).toArray:=by
         have:=RN (z:=z.cells.toList) hzl' hsz' m;simpa using this
       rw[hc] at hr;refine B2 hg (Ab hd (v:=.slice (some ⟨w.heap.size,0,none⟩) m m) (w':=w.alloc (.cells (FU m z.cells.toList).toArray e')) ?_ ?_)
       · intro ρ _ _ _ _ hρ
         simp[execOp,hρ _ _ hx,hρ _ _ hy,hr]
       · have hM1:=(hM.rowNil e' i.size).grow (i:=0) (a':=some ⟨w.heap.size,0,none⟩) (c':=m) (n':=m) (xs':=FU m z.cells.toList) (w':=w.alloc (.cells (FU m z.cells.toList).toArray e')) rfl rfl
           ⟨K5 hzl' m,.inr ⟨w.heap.size,_,rfl,Mx w _ _,Nat.le_refl _,h63,K5 hzl' m,by rw[List.take_of_length_le (by rw[K5 hzl' m];exact Nat.le_refl _)]⟩⟩
           ⟨rfl,rfl,rfl,by rw[GL];omega,λk hk _=>IN w _ k hk,.inr rfl⟩
         exact h w.heap.size _ f hM1
     · cases hT
   · cases hT
 · cases hT
theorem OH:∀(vs cs:List Value)(o k:Nat),(Ej cs o vs).take k=Ej (cs.take k) o vs
 | [],_,_,_=>rfl
 |v::vs,cs,o,k=>by rw[Ej,Ej,OH vs (cs.set o v) (o+1) k,List.take_set]
theorem wV{size c k:Nat}{v:Value}(i:Nat)(xs':List Value)(hg:gd all σ g=some true)(hx:ev σ x=some (.pointer (some ⟨b,o,none⟩)))(hy:ev σ y=some v)(hv:H0 v=some vs)(hT:AS P T=some (ag,k))(hk:Nat.beq vs.length k=true)(h1:Md vs=true)
   (hR:Ot R i=some ⟨e,size,some ⟨b,0,none⟩,c,m,xs⟩) (hf:o+vs.length≤m*size) (he:Ej xs o vs=xs') (hS:RC R i ⟨e,size,some ⟨b,0,none⟩,c,m,xs'⟩=some R')
   (h:A5 P n Q ds X R' B Fs (.ops all r) fs σ H):A5 P n Q ds X R B Fs (.ops all (⟨none,.store T x y,ty,pos,af,g⟩::r)) fs σ H:=λw f hM=>by
 subst he;have hr:=hM.row _ (D7 hR);rcases hr.2 with ⟨h0,_⟩|⟨b',l,ha,hb,hmc,hcm,hll,ht⟩
 · cases h0
 · cases ha
   have hxl:xs.length=m*size:=hr.1;have hll:l.length=c*size:=hll;have ht:l.take (m*size)=xs:=ht;have hms:m*size≤c*size:=Nat.mul_le_mul_right _ hmc;have hb:AM w b l e:=hb;refine B2 hg (Ja (N6 hx hy (G6 hv) hT hk hb h1 oM) (h _ f (hM.grow hR hS ?_ ?_)))
   · refine⟨by rw[FL];exact hxl,.inr ⟨b,Ej l o vs,rfl,setRow_heap w b _ _ e _ hb,hmc,hcm,by rw[FL];exact hll,?_⟩⟩
     rw[OH,ht]
   · exact⟨rfl,rfl,rfl,by simp[World.setRow],λk hk hne=>setRow_other w b k _ (λe=>hne (by rw[e];rfl)),.inl rfl⟩
end
def Kp(Hk:List HB)(B:List FB)(J:World→Prop)(w:World):Prop:=(∀e,e∈Hk→AM w e.b e.l e.T)∧(∀e,e∈B→∀(j:Nat)(v:Value),e.l[j]?=some v→w.cell? ⟨e.b,e.off+j,none⟩=some v)∧J w
def LY(H:List HB):List Nat→Option (List HB)
 | []=>some []
 |i::l=>match H3 H i,LY H l with
   |some e,some r=>some (e::r)
   |_,_=>none
theorem JA{H:List HB}:∀{ix:List Nat}{Hk:List HB},LY H ix=some Hk→∀e,e∈Hk→e∈H
 | [],_,h,e,he=>by cases h;cases he
 |i::ix,Hk,h,e,he=>by
   unfold LY at h
   split at h
   · rename_i e0 r h1 h2
     cases h
     rcases List.mem_cons.1 he with rfl|he
     · exact BV h1
     · exact JA h2 e he
   · cases h
variable {nw top:Bool}{f:Fq}{b id off:Nat}{T:TypeId}{w:World}
theorem AO.kp{X:Cx}{H Hk:List HB}{R:List RB}{B:List FB}{Fs:List (World→Fq→Prop)}{J:World→Prop}(h:AO X w f H R B Fs)(hs:∀e,e∈Hk→e∈H)(hJ:∀w f,X.I w f→CD X.M X.w0 X.f0 w f→J w):Kp Hk B J w :=
 ⟨λe he=>h.blk e (hs e he),λe he j v hj=>(h.fro e he j v hj).2,hJ w f h.res h.exm⟩
section
variable(P:Program)(n:Nat)(Q:AY)(ds:List Deferred)(X:Cx)(R:List RB)(B:List FB)(Fs:List (World→Fq→Prop))(tb:Xx)(l:List Oper)(Hk:List HB)(B0:List FB)(J:World→Prop)
def Dc(top:Bool)(t:OT)(σ:Bj)(H:List HB):Prop:=∀w f,AO X w f H R B Fs→Vi P n l Q (Kp Hk B0 J) top t σ ds w
def VL:Nat→List Nat→OT→Bj→List HB→Prop
 |0,_,t,σ,H=>True→Dc P n Q ds X R B Fs l Hk B0 J true t σ H
 |m+1,hs,.rd i k,σ,H=>(match nth l i with
   |some ⟨some d,op,_,_,_,g⟩=>(match Nat.blt d n with
     |false=>False
     |true=>(match gd l σ g with
       |none=>False
       |some false=>VL m hs k (AF σ d undef) H
       |some true=>(match op with
         |.load T x=>(match hs with
           | []=>False
           |h::hs=>(match ev σ x,mT tb.ti T with
             |some (.pointer (some ⟨b,o,none⟩)),some (a,q)=>(match Nat.blt h 100 with
               |true=>(match H3 Hk h with
                 |some ⟨b',c,_,_⟩=>(match a with
                   |false=>(match nth c o with
                     |some v=>b'=b∧VL m hs k (AF σ d v) H
                     |none=>False)
                   |true=>(match Ur c o q with
                     |some vs=>b'=b∧VL m hs k (AF σ d (.agg ⟨vs⟩)) H
                     |none=>False))
                 |none=>False)
               |false=>(match hs with
                 | []=>False
                 |j::hs=>(match nth B0 (h-100) with
                   |some ⟨b',off,c⟩=>(match a with
                     |false=>(match nth c j with
                       |some v=>(b'=b∧off+j=o)∧VL m hs k (AF σ d v) H
                       |none=>False)
                     |true=>(match Ur c j q with
                       |some vs=>(b'=b∧off+j=o)∧VL m hs k (AF σ d (.agg ⟨vs⟩)) H
                       |none=>False))
                   |none=>False)))
             |_,_=>False))
         |.indexAddr T x y=>(match ev σ x,ev σ y,Wh tb.sl T with
           |some (.slice (some ⟨b,o,none⟩) len _),some (.int _ i),some (_,q)=>(0≤i∧i<len)∧VL m hs k (AF σ d (.pointer (some ⟨b,o+i.toNat*q,none⟩))) H
           |_,_,_=>False)
         |.binOp .add T x y T'=>(match ev σ x,ev σ y with
           |some (.int .i64 a),some (.int .i64 b)=>PH (a+b)∧VL m hs k (AF σ d (.int .i64 (a+b))) H
           |some (.string ⟨⟨a⟩⟩),some (.string ⟨⟨b⟩⟩)=>a.length+b.length≤9223372036854775807∧VL m hs k (AF σ d (S (a++b))) H
           |_,_=>False)
         |.binOp .sub T x y T'=>(match ev σ x,ev σ y with
           |some (.int .i64 a),some (.int .i64 b)=>PH (a-b)∧VL m hs k (AF σ d (.int .i64 (a-b))) H
           |_,_=>False)
         |op=>(match pv tb σ op with
           |some v=>VL m hs k (AF σ d v) H
           |none=>False))))
   |_=>False)
 |_+1,_,_,_,_=>False
end
section
variable{P:Program}{n:Nat}{Q:AY}{ds:List Deferred}{X:Cx}{R:List RB}{B:List FB}{Fs:List (World→Fq→Prop)}{tb:Xx}{l:List Oper}{Hk:List HB}{B0:List FB}{J:World→Prop}{σ:Bj}{H:List HB}{fs:List Fr}
theorem FG{S:World→Prop}{op:Op}{k:OT}{v:Value}(hi:nth l i=some ⟨some d,op,ty,pos,af,g⟩)(hd:Nat.blt d n=true)(hg:gd l σ g=some true)(hr:∀w,S w→AL P σ op ty w v w)
   (h:Vi P n l Q S true k (AF σ d v) ds w):Vi P n l Q S top (.rd i k) σ ds w:=λa ha =>
 ⟨_,v,(Ez l i).symm.trans hi,.inl ⟨JF ha hg,λw hS=>hr w hS a.eval _ _ _ _ ha.ev⟩,h _ (ha.put hd v)⟩
theorem fN{S:World→Prop}{op:Op}{k:OT}(hi:nth l i=some ⟨some d,op,ty,pos,af,g⟩)(hd:Nat.blt d n=true)(hg:gd l σ g=some false)
   (h:Vi P n l Q S true k (AF σ d undef) ds w):Vi P n l Q S top (.rd i k) σ ds w:=λa ha =>
 ⟨_,undef,(Ez l i).symm.trans hi,.inr ⟨JF ha hg,rfl⟩,h _ (ha.put hd undef)⟩
theorem Kp.blk{c:List Value}(h:Kp Hk B0 J w)(hg:H3 Hk i=some ⟨b,c,T,nw⟩):AM w b c T:=h.1 _ (BV hg)
theorem Kp.cel{c:List Value}(h:Kp Hk B0 J w)(hg:nth B0 i=some ⟨b,off,c⟩):∀(j:Nat)(v:Value),c[j]?=some v→w.cell? ⟨b,off+j,none⟩=some v:=by
 rw[Ez] at hg;exact h.2.1 _ (List.mem_of_getElem? hg)
theorem OE(ht:tb.Ok P):∀(m:Nat)(hs:List Nat)(t:OT)(σ:Bj)(H:List HB),VL P n Q ds X R B Fs tb l Hk B0 J m hs t σ H→Dc P n Q ds X R B Fs l Hk B0 J true t σ H
 |0,_,_,_,_,h=>h tQ
 |m+1,hs,.fin,σ,H,h=>h.elim
 |m+1,hs,.br _ _ _,σ,H,h=>h.elim
 |m+1,hs,.rd i k,σ,H,h=>by
   have ih:=OE ht m;intro w f hM;unfold VL at h
   split at h
   · rename_i hi
     split at h
     · exact h.elim
     rename_i hd
     split at h
     · exact h.elim
     · rename_i hg
       exact fN hi hd hg (ih _ _ _ _ h w f hM)
     · rename_i hg
       split at h
       · split at h
         · exact h.elim
         · split at h
           · rename_i hx hT
             split at h
             · split at h
               · rename_i hH
                 split at h
                 · split at h
                   · rename_i v hv
                     obtain⟨rfl,h⟩:=h;rw[Ez] at hv;exact FG hi hd hg (λw hS=>Al hx (Gd ht.ti hT) (hS.blk hH) hv) (ih _ _ _ _ h w f hM)
                   · exact h.elim
                 · split at h
                   · rename_i vs hv
                     obtain⟨rfl,h⟩:=h;exact FG hi hd hg (λw hS=>Db hx (Gd ht.ti hT) (hS.blk hH) hv) (ih _ _ _ _ h w f hM)
                   · exact h.elim
               · exact h.elim
             · split at h
               · exact h.elim
               · split at h
                 · rename_i hB
                   split at h
                   · split at h
                     · rename_i v hv
                       obtain⟨⟨rfl,rfl⟩,h⟩:=h;rw[Ez] at hv;exact FG hi hd hg (λw hS=>I9 hx (Gd ht.ti hT) (hS.cel hB _ v hv)) (ih _ _ _ _ h w f hM)
                     · exact h.elim
                   · split at h
                     · rename_i vs hv
                       obtain⟨⟨rfl,rfl⟩,h⟩:=h;obtain⟨hk,hg2⟩:=P7 hv;exact FG hi hd hg (λw hS=>K7 hx (Gd ht.ti hT) hk (λj v hj=>by have:=hS.cel hB _ v (hg2 j v hj);rwa[← Nat.add_assoc] at this)) (ih _ _ _ _ h w f hM)
                     · exact h.elim
                 · exact h.elim
           · exact h.elim
       · split at h
         · rename_i hx hy hT
           exact FG hi hd hg (λw _=>MF hx hy (JV ht.sl hT) h.1) (ih _ _ _ _ h.2 w f hM)
         · exact h.elim
       · split at h
         · rename_i hx hy;exact FG hi hd hg (λw _=>Nf hx hy h.1) (ih _ _ _ _ h.2 w f hM)
         · rename_i hx hy;exact FG hi hd hg (λw _=>Jt hx hy h.1) (ih _ _ _ _ h.2 w f hM)
         · exact h.elim
       · split at h
         · rename_i hx hy;exact FG hi hd hg (λw _=>Hf hx hy h.1) (ih _ _ _ _ h.2 w f hM)
         · exact h.elim
       · split at h
         · rename_i v hv;exact FG hi hd hg (λw _=>Qh ht hv) (ih _ _ _ _ h w f hM)
         · exact h.elim
   · exact h.elim
theorem yU{t:OT}(ht:tb.Ok P)(m:Nat)(hs:List Nat)(h:VL P n Q ds X R B Fs tb l Hk B0 J m hs t σ H):Dc P n Q ds X R B Fs l Hk B0 J true t σ H:=OE ht m hs t σ H h
theorem TQ(hpi:PI Q):∀fs:List Fr,PI (LK P n Q fs)
 | []=>hpi
 |.sq _::fs=>TQ hpi fs
 |.bk _::fs=>TQ hpi fs
theorem LV(J:World→Prop)(hJ:∀w f,X.I w f→CD X.M X.w0 X.f0 w f→J w)(ix:List Nat)(hm:P.follows .mixedOrders=true)(t:OT)(hk:LY H ix=some Hk)(hok:t.ok l.toArray true (Array.replicate l.length false)=true)(hev:t.even true l.length=true)(hsel:Region.noSelect l.toArray=true)(hpi:PI Q)
   (h:Dc P n (LK P n Q fs) ds X R B Fs l Hk B J true t σ H):A5 P n Q ds X R B Fs (.code (.region id l.toArray true)) fs σ H:=λw f hM=>by
 refine Ea hm (Kp Hk B J) t hok hev hsel (λw' hE hz=>?_) (TQ hpi fs);have hM':AO X w' f H R B Fs:=hM.call0 (CD.of_ext hE hM.val);exact⟨hM'.kp (JA hk) hJ,h w' f hM'⟩
theorem Bo(h:A5 P n Q ds X R B Fs (.out .normal) fs σ H):Dc P n (LK P n Q fs) ds X R B Fs l Hk B0 J true .fin σ H:=λw f hM=>B1 (h w f hM)
theorem Ag{k o:OT}{x:Oper}(hi:nth l i=some x)(h:A5 P n (Xy P n l Q (Kp Hk B0 J) k) ds X R B Fs (.ops l [x]) [] σ H)(h2:Dc P n Q ds X R B Fs l Hk B0 J false o σ H):Dc P n Q ds X R B Fs l Hk B0 J top (.br i k o) σ H :=
 λw f hM=>Am ((Ez l i).symm.trans hi) (h w f hM) (h2 w f hM)
theorem Aj:Dc P n Q ds X R B Fs l Hk B0 J false .fin σ H:=λ_ _ _=>Af
theorem Be{k:OT}(ix:List Nat)(hJ:∀w f,X.I w f→CD X.M X.w0 X.f0 w f→J w)(hk:LY H ix=some Hk)(hB:∀e,e∈B0→e∈B)(h:Dc P n Q ds X R B Fs l Hk B0 J true k σ H):A5 P n (Xy P n l Q (Kp Hk B0 J) k) ds X R B Fs (.out .normal) [] σ H:=λw f hM =>
 ⟨⟨λe he=>hM.blk e (JA hk e he),λe he j v hj=>(hM.fro e (hB e he) j v hj).2,hJ w f hM.res hM.exm⟩,h w f hM⟩
theorem Dc.le{t:OT}(hl:Le σ' σ)(h:Dc P n Q ds X R B Fs l Hk B0 J top t σ' H):Dc P n Q ds X R B Fs l Hk B0 J top t σ H:=λw f hM a ha=>h w f hM a (ha.le hl)
theorem JI{t:OT}{b:Bool}(s:Nat)(hx:σ s=some (.bool b))(h1:b=true→Dc P n Q ds X R B Fs l Hk B0 J top t (AF σ s (.bool true)) H)(h2:b=false→Dc P n Q ds X R B Fs l Hk B0 J top t (AF σ s (.bool false)) H):Dc P n Q ds X R B Fs l Hk B0 J top t σ H:=by
 cases b with
 |true=>exact Dc.le (A7 (le_refl _) hx) (h1 rfl)
 |false=>exact Dc.le (A7 (le_refl _) hx) (h2 rfl)
theorem Hm{k:OT}{op:Op}{v:Value}(hi:nth l i=some ⟨some d,op,ty,pos,af,g⟩)(hd:Nat.blt d n=true)(hg:gd l σ g=some true)(hr:∀w,Kp Hk B0 J w→AL P σ op ty w v w)
   (h:Dc P n Q ds X R B Fs l Hk B0 J true k (AF σ d v) H):Dc P n Q ds X R B Fs l Hk B0 J true (.rd i k) σ H:=λw f hM=>FG hi hd hg hr (h w f hM)
theorem By{all r:List Oper}{op:Op}{α:Type}{val:α→Value}{q:α→Prop}{F':α→List (World→Fq→Prop)}(hg:gd all σ g=some true)(hd:Nat.blt d n=true)(he:∀w,Enters P σ op ty w fid args)
   (hc:∀w f,AO X w f H R B Fs→B3 P fid args w (BO val q F' w f)) (hm:∀x,Az (F' x))
   (h:∀x,q x→A5 P n Q ds X R B (F' x++Fs) (.ops all r) fs (AF σ d (val x)) H):A5 P n Q ds X R B Fs (.ops all (⟨some d,op,ty,pos,af,g⟩::r)) fs σ H :=
 yW hg hd he (λw f hM=>(hc w f hM).mono λv w' ⟨x,f',h1,h2,h3,h4⟩=>⟨x,f',h1,h2,h3,h4.mem⟩) (λx=>(hm x).mem) h
theorem Ow{all r:List Oper}{op:Op}{α:Type}{val:α→Value}{q:α→Prop}{I':α→World→Fq→Prop}{F':α→List (World→Fq→Prop)}
   (hg:gd all σ g=some true) (hd:Nat.blt d n=true) (he:∀w,Enters P σ op ty w fid args)
   (hc:∀w f,AO X w f H R B Fs→BD P fid args w (EP val q X.MI I' F' w f) XX) (hst:∀x,Gg X.MI (I' x)) (hm:∀x,Az (F' x))
   (hp:∀w f c w',AO X w f H R B Fs→XX c w'→Q.p c σ ds w')
   (h:∀x,q x→A5 P n Q ds {X with I:=I' x} R B (F' x++Fs) (.ops all r) fs (AF σ d (val x)) H):A5 P n Q ds X R B Fs (.ops all (⟨some d,op,ty,pos,af,g⟩::r)) fs σ H :=
 yT hg hd he (λw f hM=>(hc w f hM).mono (λv w' ⟨x,f',h1,h2,h3,h4,h5⟩=>⟨x,f',h1,h2,h3,h4,h5.mem⟩) λ_ _ h=>h) hst (λx=>(hm x).mem) hp h
end
end Go.SW
namespace Go.SW
open Go.RowKit Go.SP
structure uV(κ:Type)[BEq κ] where
 enc:κ→Value
 desc:TypeDesc
 same:∀a b,Instr.sameNow desc (enc a) (enc b)=some (a==b)
 chk:∀(P:Program)(k:TypeId)(w:World)(a:κ)(b:Bool),P.underlying k=some desc→(Instr.checkKey b 10000 k (enc a)).run P w=.ok () w
def C4:uV lU where
 enc:=S
 desc:=.string
 same a b:=by
   have:Instr.sameNow .string (S a) (S b)=some ((⟨a.toArray⟩:ByteArray)==⟨b.toArray⟩):=rfl;rw[this,beq_toListBytes,OA,OA]
 chk P k w a b hk:=JH hk
def EO:uV Int where
 enc n:=.int .i64 n
 desc:=.int .i64
 same a b:=by simp[Instr.sameNow]
 chk P k w a b hk:=by rw[Instr.checkKey];simp[run_underlying hk]
section
variable{κ:Type}[BEq κ](K:uV κ)
def Ch(w:World)(m:Nat)(l:List (κ×Value)):Prop:=∃(es:List MapEntry)(c:Nat),w.heap[m]?=some (.map es.toArray c)∧es.map (λe=>(e.key,e.val))=l.reverse.map λp=>(K.enc p.1,p.2)
def Fp:List (κ×Value)→κ→Option Value
 | [],_=>none
 |(k,v)::l,x=>if x==k then some v else Fp l x
def Gj(P:Program)(T:TypeId):Option (TypeId×TypeId):=match P.underlying T with
 |some (.map k e)=>some (k,e)
 |_=>none
end
section
variable{κ:Type}[BEq κ]{K:uV κ}
theorem Ch.lt{w:World}{m:Nat}{l:List (κ×Value)}(h:Ch K w m l):m<w.heap.size:=by
 obtain⟨es,c,h1,_⟩:=h;rcases Nat.lt_or_ge m w.heap.size with h' | h'
 · exact h'
 · rw[Array.getElem?_eq_none h'] at h1;cases h1
variable {f:Fq}{b:Nat}{w':World}{I':World→Fq→Prop}
theorem Ch.heap{w:World}{m:Nat}{l:List (κ×Value)}(h:Ch K w m l)(he:w'.heap[m]?=w.heap[m]?):Ch K w' m l:=let ⟨es,c,h1,h2⟩:=h;⟨es,c,he.trans h1,h2⟩
def LI(x:κ):List (κ×Value)→Option Value
 | []=>none
 |(k,v)::l=>if x==k then some v else LI x l
theorem Oi(x:κ):∀(es:List MapEntry)(l:List (κ×Value))(i:Nat),es.map (λe=>(e.key,e.val))=l.map (λp=>(K.enc p.1,p.2)) →
   (∀v,LI x l=some v→∃j,Instr.findNow K.desc (K.enc x) es i=some (some (j,v)))∧(LI x l=none→Instr.findNow K.desc (K.enc x) es i=some none)
 | [],[],i,_=>⟨λv h=>(by cases h),λ_=>rfl⟩
 | [],_::_,_,h=>by simp at h
 |_::_,[],_,h=>by simp at h
 |e::es,p::l,i,h=>by
   simp only[List.map_cons,List.cons.injEq,Prod.mk.injEq] at h;obtain⟨⟨hk,hv⟩,hr⟩:=h;have ih:=Oi x es l (i+1) hr;have hs:Instr.sameNow K.desc (K.enc x) e.key=some (x==p.1):=by rw[hk];exact K.same x p.1
   obtain⟨pk,pv⟩:=p;unfold Instr.findNow LI;rw[hs]
   cases hc:x==pk with
   |true=>exact⟨λv h=>⟨i,by simp at h;simp[hv,h]⟩,λh=>by simp at h⟩
   |false=>exact⟨λv h=>ih.1 v (by simpa using h),λh=>ih.2 (by simpa using h)⟩
theorem Wc(x:κ):∀(a b:List (κ×Value)),LI x (a++b)=(LI x a).or (LI x b)
 | [],b=>by simp[LI]
 |(k,v)::a,b=>by
   simp only[List.cons_append,LI,Wc x a b]
   split <;> rfl
def Kw[BEq κ]:List (κ×Value)→Prop
 | []=>True
 |(k,_)::l=>Fp l k=none∧Kw l
variable[LawfulBEq κ]
theorem Pz(x:κ):∀l:List (κ×Value),Kw l→LI x l.reverse=Fp l x
 | [],_=>rfl
 |(k,v)::l,h=>by
   rw[List.reverse_cons,Wc,Pz x l h.2];simp only[LI,Fp]
   cases hc:x==k with
   |true =>
     have:x=k:=by simpa using hc
     subst this;rw[h.1];rfl
   |false=>cases Fp l x <;> simp
section
variable{P:Program}{n:Nat}{Q:AY}{ds:List Deferred}{X:Cx}{R:List RB}{B:List FB}{Fs:List (World→Fq→Prop)}{fs:List Fr}{σ:Bj}{H:List HB}{w:World}
variable{all r:List Oper}{ty T k e:TypeId}{pos:String}{af:Array Edge}{g:Option (Nat×Bool)}{d m:Nat}{x y z:Operand}{a:κ}{l:List (κ×Value)}
theorem Jz(h:Gj P T=some (k,e)):P.underlying T=some (.map k e):=by
 unfold Gj at h
 split at h
 · rename_i hu;cases h;exact hu
 · cases h
def zO(P:Program)(e:TypeId):Option Value:=match P.info? e with|some i=>i.zero|none=>none
def iD(P:Program)(e:TypeId)(z:Value):Prop:=zO P e=some z
theorem R3{z:Value}(h:iD P e z):∃i,P.info? e=some i∧i.zero=some z:=by
 unfold iD zO at h
 split at h
 · rename_i i hi;exact⟨i,hi,h⟩
 · cases h
theorem Vd{z:Value}{ok:Bool}(hT:Gj P T=some (k,e))(hk:P.underlying k=some K.desc)(hz:iD P e z)(hm:Ch K w m l)(hd:Kw l) :
   (Instr.lookup T (.map (some m)) (K.enc a) ok).run P w=.ok (if ok then .tuple #[(Fp l a).getD z,.bool (Fp l a).isSome] else (Fp l a).getD z) w:=by
 have hu:=Jz hT;obtain⟨es,c,h1,h2⟩:=hm;obtain⟨i,hi,hz⟩:=R3 hz;have hget:(getObj m).run P w=.ok (.map es.toArray c) w:=by simp[getObj,Sem.run,h1]
 obtain⟨f1,f2⟩:=Oi (K:=K) a es l.reverse 0 h2;rw[Pz a l hd] at f1 f2;have hck:=λb=>K.chk P k w a b hk
 cases hc:Fp l a with
 |some v =>
   obtain⟨j,hj⟩:=f1 v hc;simp only[Instr.lookup,Sem.run_bind,run_underlying hu,Result.andThen_ok,hget]
   cases ok <;> simp[hck,Instr.findKey,run_underlying hk,hj]
 |none =>
   have hj:=f2 hc;simp only[Instr.lookup,Sem.run_bind,run_underlying hu,Result.andThen_ok,hget]
   cases ok <;> simp[hck,Instr.findKey,run_underlying hk,hj,zeroValue,typeInfo,hi,hz]
theorem Y0{z:Value}{ok:Bool}(hx:ev σ x=some (.map (some m)))(hy:ev σ y=some (K.enc a))(hT:Gj P T=some (k,e))(hk:P.underlying k=some K.desc)(hz:iD P e z)(hm:Ch K w m l)(hd:Kw l) :
   AL P σ (.lookup T x y ok) ty w (if ok then .tuple #[(Fp l a).getD z,.bool (Fp l a).isSome] else (Fp l a).getD z) w:=λρ _ _ _ _ hρ=>by
 simp only[execOp,hρ _ _ hx,hρ _ _ hy];rw[Sem.run_bind,Vd hT hk hz hm hd];rfl
theorem Kj{z v:Value}(hx:ev σ x=some (.map (some m)))(hy:ev σ y=some (K.enc a))(hT:Gj P T=some (k,e))(hk:P.underlying k=some K.desc)(hz:iD P e z)(hm:Ch K w m l)(hd:Kw l)(hl:Fp l a=some v):AL P σ (.lookup T x y true) ty w (.tuple #[v,.bool true]) w:=by
 have:=Y0 (ty:=ty) (ok:=true) hx hy hT hk hz hm hd;rw[hl] at this;exact this
theorem JZ{z:Value}(hx:ev σ x=some (.map (some m)))(hy:ev σ y=some (K.enc a))(hT:Gj P T=some (k,e))(hk:P.underlying k=some K.desc)(hz:iD P e z)(hm:Ch K w m l)(hd:Kw l)(hl:Fp l a=none):AL P σ (.lookup T x y true) ty w (.tuple #[z,.bool false]) w:=by
 have:=Y0 (ty:=ty) (ok:=true) hx hy hT hk hz hm hd;rw[hl] at this;exact this
theorem Nk{z v:Value}(hx:ev σ x=some (.map (some m)))(hy:ev σ y=some (K.enc a))(hT:Gj P T=some (k,e))(hk:P.underlying k=some K.desc)(hz:iD P e z)(hm:Ch K w m l)(hd:Kw l)(hl:(Fp l a).getD z=v):AL P σ (.lookup T x y false) ty w v w:=by
 have:=Y0 (ty:=ty) (ok:=false) hx hy hT hk hz hm hd;rw[← hl];exact this
theorem Xa{v:Value}(hT:Gj P T=some (k,e))(hk:P.underlying k=some K.desc)(hm:Ch K w m l)(hd:Kw l)(hn:Fp l a=none):∃w',(Instr.mapUpdate T (.map (some m)) (K.enc a) v).run P w=.ok () w'∧Ch K w' m ((a,v)::l)∧G9 m w w':=by
 have hu:=Jz hT;obtain⟨es,c,h1,h2⟩:=id hm;have hj:=(Oi (K:=K) a es l.reverse 0 h2).2 (by rw[Pz a l hd];exact hn);have hget:(getObj m).run P w=.ok (.map es.toArray c) w:=by simp[getObj,Sem.run,h1]
 have hlt:=hm.lt;have hck:=λb=>K.chk P k w a b hk
 have hset:(setObj m (.map (es.toArray.push {key:=K.enc a,val:=v,born:=c}) (c+1))).run P w=.ok () {w with heap:=w.heap.setIfInBounds m (.map (es.toArray.push {key:=K.enc a,val:=v,born:=c}) (c+1))}:=by
   simp[setObj,Sem.run,h1]
 refine⟨{w with heap:=w.heap.setIfInBounds m (.map (es.toArray.push {key:=K.enc a,val:=v,born:=c}) (c+1))},?_,?_,?_⟩
 · simp only[Instr.mapUpdate,Sem.run_bind,run_underlying hu,Result.andThen_ok,hget]
   simp only[hck,Result.andThen_ok,Instr.findKey,Sem.run_bind,run_underlying hk,hj];simp only[Sem.run_pure,Result.andThen_ok];exact hset
 · refine⟨es++[{key:=K.enc a,val:=v,born:=c}],c+1,?_,?_⟩
   · simp[hlt]
   · simp[h2]
 · refine⟨rfl,rfl,rfl,by simp,λj hjm=>?_⟩
   show (w.heap.setIfInBounds m _)[j]?=_;rw[Array.getElem?_setIfInBounds_ne (λe=>hjm e.symm)]
theorem AO.chgI{w:World}(h:AO X w f H R B Fs)(hb:X.MI b)(hC:G9 b w w')(hI:I' w' f)(hst:Gg X.MI I'):AO {X with I:=I' } w' f H R B Fs :=
 h.callI ⟨⟨hC.os,hC.tape,hC.output,by rw[hC.size];exact Nat.le_refl _,λk _ hm=>hC.block k (λe=>hm (e▸hb))⟩,λ_ _=>rfl,λk hk=>h.val k (by rw[hC.size] at hk;exact hk)⟩ hI hst
theorem bT{v:Value}(hg:gd all σ g=some true)(hx:ev σ x=some (.map (some m)))(hy:ev σ y=some (K.enc a))(hz:ev σ z=some v)(hT:Gj P T=some (k,e))(hk:P.underlying k=some K.desc)(hmi:X.MI m)(hd:Kw l)(hn:Fp l a=none)
   (hm:∀w f,X.I w f→Ch K w m l) (hI:∀w f w',X.I w f→AO X w f H R B Fs→G9 m w w'→Ch K w' m ((a,v)::l)→I' w' f) (hst:Gg X.MI I')
   (h:A5 P n Q ds {X with I:=I' } R B Fs (.ops all r) fs σ H):A5 P n Q ds X R B Fs (.ops all (⟨none,.mapUpdate T x y z,ty,pos,af,g⟩::r)) fs σ H:=λw f hM=>by
 obtain⟨w',h1,h2,h3⟩:=Xa (v:=v) hT hk (hm w f hM.res) hd hn;refine B2 hg (Ja (w':=w') (λρ _ _ _ _ hρ=>?_) (h w' f (hM.chgI hmi h3 (hI w f w' hM.res hM h3 h2) hst)));simp only[execOp,hρ _ _ hx,hρ _ _ hy,hρ _ _ hz];rw[Sem.run_bind,h1];rfl
omit [LawfulBEq κ] in
theorem vO(hg:gd all σ g=some true)(hd:Nat.blt d n=true)
   (h:∀m,A5 P n Q ds {X with MI:=λb=>X.MI b∨b=m,I:=λw f=>X.I w f∧Ch K w m []} R B Fs (.ops all r) fs (AF σ d (.map (some m))) H):A5 P n Q ds X R B Fs (.ops all (⟨some d,.makeMap T none,ty,pos,af,g⟩::r)) fs σ H:=λw f hM=>by
 refine B2 hg (Ab (v:=.map (some w.heap.size)) (w':=w.alloc (.map #[] 0)) hd (λρ _ _ _ _ hρ=>by simp[execOp,Instr.makeMap]) (h w.heap.size _ f ?_));have h1:AO X (w.alloc (.map #[] 0)) f H R B Fs:=hM.call0 (CD.of_ext (JE w _) hM.val);have hnew:∀b,b∈CM H R→b≠w.heap.size:=λb hb e=>Nat.lt_irrefl _ (e▸hM.lt hb)
 exact {h1 with
         res:=⟨h1.res,[],0,heap_alloc_new w _,rfl⟩,
         stab:=λw1 f1 w2 f2 hI hF hb=>⟨h1.stab w1 f1 w2 f2 hI.1 hF λb hm=>hb b (.inl hm),hI.2.heap (hb _ (.inr rfl))⟩,
         mi:=λb hb=>by
           rcases hb with hb|rfl
           · exact h1.mi b hb
           · exact⟨by rw[GL];omega,hM.val _ (Nat.le_refl _),.inl hM.stp.size⟩,
         own:=λb hb=>⟨(h1.own b hb).1,(h1.own b hb).2.1,λhm=>by
           rcases hm with hm|rfl
           · exact (h1.own b hb).2.2 hm
           · exact hnew _ hb rfl⟩}
end
end
end Go.SW
namespace Go.SW
def nG(P:Program)(T T':TypeId):Bool:=match P.underlying T,P.underlying T' with
 |some _,some .string=>true
 |_,_=>false
end Go.SW
namespace Go.SP
inductive Ty where
 |nil
 |var (n:Int) (r:Ty)
 |con (tx:lU) (k r:Ty)
inductive T1 where
 |var (n:Int)
 |con (tx:lU) (k:Ty)
def T1.cons:T1→Ty→Ty
 |.var n,r=>.var n r
 |.con tx k,r=>.con tx k r
def T1.one(t:T1):Ty:=t.cons .nil
def Ty.app:Ty→Ty→Ty
 |.nil,y=>y
 |.var n r,y=>.var n (r.app y)
 |.con tx k r,y=>.con tx k (r.app y)
def Ty.len:Ty→Nat
 |.nil=>0
 |.var _ r=>r.len+1
 |.con _ _ r=>r.len+1
def Ty.get:Ty→Nat→Option T1
 |.nil,_=>none
 |.var n _,0=>some (.var n)
 |.con tx k _,0=>some (.con tx k)
 |.var _ r,i+1=>r.get i
 |.con _ _ r,i+1=>r.get i
def Ty.snoc(a:Ty)(t:T1):Ty:=a.app t.one
def Ty.hd:Ty→T1
 |.nil=>.var 0
 |.var n _=>.var n
 |.con tx k _=>.con tx k
abbrev Bn:=List (Int×T1)
def AW:Bn→Int→Option T1
 | [],_=>none
 |(k,t)::s,n=>if k==n then some t else AW s n
def Hw(b:Bn):Nat→T1→T1
 |0,t=>t
 |k+1,t=>match t with
   |.con tx ks=>.con tx ks
   |.var n=>match AW b n with
     |none=>.var n
     |some t'=>Hw b k t'
def Ah(b:Bn)(t:T1):T1:=Hw b (b.length+1) t
def BG(b:Bn):Nat→Ty→Bool
 |_,.nil=>true
 |0,_=>false
 |k+1,.var n r=>match Ah b (.var n) with
   |.var _=>BG b k r
   |.con _ ks=>BG b k (ks.app r)
 |k+1,.con _ ks r=>BG b k (ks.app r)
def El(b:Bn)(t:T1):Bool:=BG b 1000 t.one
def Cv(b:Bn)(x:Int):Nat→Ty→Bool
 |_,.nil=>true
 |0,_=>true
 |k+1,.var n r=>match Ah b (.var n) with
   |.var m=>!(m==x)&&Cv b x k r
   |.con _ ks=>Cv b x k (ks.app r)
 |k+1,.con _ ks r=>Cv b x k (ks.app r)
def Ca(b:Bn)(n:Int)(t:T1):Except Int Bn :=
 if El b t then (if Cv b n 1000 t.one then .ok ((n,t)::b) else .error 11) else .error 4
def ED(f:Bn→Ty→Ty→Except Int Bn)(b:Bn)(x y:T1)(r q:Ty):Except Int Bn :=
 match x,y with
 |.var n,.var m=>if n==m then f b r q else (match Ca b n (.var m) with|.error e=>.error e|.ok b'=>f b' r q)
 |.var n,.con ty kb=>(match Ca b n (.con ty kb) with|.error e=>.error e|.ok b'=>f b' r q)
 |.con tx ka,.var m=>(match Ca b m (.con tx ka) with|.error e=>.error e|.ok b'=>f b' r q)
 |.con tx ka,.con ty kb=>if !(tx==ty)||(ka.len:Int) != kb.len then .error 11 else f b (ka.app r) (kb.app q)
def Ty.tl:Ty→Ty
 |.nil=>.nil
 |.var _ r=>r
 |.con _ _ r=>r
def Gb:Nat→Bn→Ty→Ty→Except Int Bn
 |_,b,.nil,_=>.ok b
 |0,_,_,_=>.error 4
 |k+1,b,.var n r,y=>ED (Gb k) b (Ah b (.var n)) (Ah b y.hd) r y.tl
 |k+1,b,.con tx ka r,y=>ED (Gb k) b (.con tx ka) (Ah b y.hd) r y.tl
def FC(b:Bn)(x y:T1):Except Int Bn:=Gb 10000 b x.one y.one
def AH(b:Bn):Nat→Ty→Ty
 |_,.nil=>.nil
 |0,_=>.nil
 |k+1,.var n r=>match Ah b (.var n) with
   |.var m=>.var m (AH b k r)
   |.con tx ks=>.con tx (AH b k ks) (AH b k r)
 |k+1,.con tx ks r=>.con tx (AH b k ks) (AH b k r)
def fullS(b:Bn)(t:T1):Option T1:=if El b t then some (AH b 1000 t.one).hd else none
def Cu:Ty→List Int→List Int
 |.nil,s=>s
 |.var n r,s=>Cu r (if s.contains n then s else s++[n])
 |.con _ k r,s=>Cu r (Cu k s)
def An(t:T1):List Int:=Cu t.one []
def CR:List Int→Int→Option Nat
 | [],_=>none
 |k::l,n=>if k==n then some 0 else (CR l n).map (· + 1)
def De(l:List Int)(by_:Ty):Ty→Ty
 |.nil=>.nil
 |.var n r=>match (CR l n).bind by_.get with
   |some t=>t.cons (De l by_ r)
   |none=>.var n (De l by_ r)
 |.con tx k r=>.con tx (De l by_ k) (De l by_ r)
def Cg(t:T1)(l:List Int)(by_:Ty):T1:=(De l by_ t.one).hd
def bI:lU:=[105,110,116]
def bF:lU:=[102,108,111,97,116]
def bS:lU:=[115,116,114,105,110,103]
def bU:lU:=[117,110,105,116]
def bB:lU:=[98,111,111,108]
def bX:lU:=[101,120,110]
def Dz:lU:=[45,62]
def SA:lU:=[116,117,112,108,101]
def L8:lU:=[114,101,102]
def CA:lU:=[112,114,101,102]
def c0(tx:lU):T1:=.con tx .nil
def Gt:Ty→T1
 |.nil=>.var 0
 |.var n .nil=>.var n
 |.con tx k .nil=>.con tx k
 |.var n r=>.con Dz (.var n (Gt r).one)
 |.con tx k r=>.con Dz (.con tx k (Gt r).one)
structure Mk where
 args:Ty
 out:T1
 vars:List Int
structure CS where
 sol:Bn
 fresh:Int
 cons:List (lU×Mk)
 datas:List (lU×Int)
 roots:List lU
 vars:Int
structure Bd where
 name:lU
 t:T1
 all:List Int
abbrev AD:=List Bd
abbrev Er:=Int×Int×Int
abbrev RI(α:Type):=Except Er α
def BM{α:Type}:List (lU×α)→lU→Option α
 | [],_=>none
 |(k,v)::l,n=>if k==n then some v else BM l n
def A2(s:CS):T1×CS:=(.var (s.fresh+1),{s with fresh:=s.fresh+1})
def Es(s:CS)(a b:T1)(ln co:Int):RI CS:=match FC s.sol a b with
 |.error e=>.error (ln,co,e)
 |.ok m=>.ok {s with sol:=m}
def Eu(s:CS)(t:T1)(ln co:Int):RI T1:=match fullS s.sol t with
 |none=>.error (ln,co,4)
 |some f=>.ok f
def AN(s:CS):AD→List Int
 | []=>[]
 |b::e=>(match fullS s.sol b.t with
   |none=>[]
   |some f=>(An f).filter λv=>!b.all.contains v)++AN s e
def Ev(s:CS)(e:AD)(name:lU)(t:T1)(value:Bool)(ln co:Int):RI AD :=
 if value then (match Eu s t ln co with
   |.error x=>.error x
   |.ok f=>.ok (⟨name,f,(An f).filter λv=>!(AN s e).contains v⟩::e))
 else .ok (⟨name,t,[]⟩::e)
def Bf:List Int→CS→Ty×CS
 | [],s=>(.nil,s)
 |_::l,s=>((A2 s).1.cons (Bf l (A2 s).2).1,(Bf l (A2 s).2).2)
def GJ(s:CS)(tx:lU)(k:Nat)(ln co:Int):RI (Ty×T1×CS):=match BM s.cons tx with
 |none=>.error (ln,co,11)
 |some m=>if (m.args.len:Int)==k then .ok (De m.vars (Bf m.vars s).1 m.args,Cg m.out m.vars (Bf m.vars s).1,(Bf m.vars s).2) else .error (ln,co,11)
def CL:AD→lU→Option Bd
 | [],_=>none
 |b::e,n=>if b.name==n then some b else CL e n
def Ft(s:CS)(e:AD)(tx:lU)(ln co:Int):RI (T1×CS):=match CL e tx with
 |none=>.error (ln,co,11)
 |some b=>match Eu s b.t ln co with
   |.error x=>.error x
   |.ok f =>
     let vs:=(An f).filter λv=>b.all.contains v
     .ok (Cg f vs (Bf vs s).1,(Bf vs s).2)
def Ov(f:Int→Nd→Bool):Nd→Bool
 |.nil=>true
 |.cons op _ _ _ _ k r=>f op k&&Ov f r
def BL:Nat→Int→Nd→Bool
 |0,_,_=>false
 |n+1,op,kids =>
   if op==1||op==2||op==3||op==4||op==5||op==7 then true
   else if op==6||op==13 then Ov (BL n) kids else false
abbrev Kn:=CS→AD→Int→Int→Int→lU→Int→Nd→RI (T1×CS)
def D5(f:Kn)(e:AD):CS→Nd→RI (Ty×CS)
 |s,.nil=>.ok (.nil,s)
 |s,.cons op ln co tx nm k r=>match f s e op ln co tx nm k with
   |.error x=>.error x
   |.ok (t,s1)=>match D5 f e s1 r with
     |.error x=>.error x
     |.ok (l,s2)=>.ok (t.cons l,s2)
def EL(f:Kn)(e:AD):CS→Ty→Nd→RI CS
 |s,a,.cons op ln co tx nm k r=>match f s e op ln co tx nm k with
   |.error x=>.error x
   |.ok (t,s1)=>match Es s1 a.hd t ln co with
     |.error x=>.error x
     |.ok s2=>EL f e s2 a.tl r
 |s,_,.nil=>.ok s
def HS(f:Kn)(e:AD):CS→T1→Nd→RI (T1×CS)
 |s,t,.nil=>.ok (t,s)
 |s,t,.cons op ln co tx nm k r=>match f s e op ln co tx nm k with
   |.error x=>.error x
   |.ok (a,s1)=>match Es (A2 s1).2 t (.con Dz (a.cons (A2 s1).1.one)) ln co with
     |.error x=>.error x
     |.ok s2=>HS f e s2 (A2 s1).1 r
def D6:CS→AD→Nd→Ty×AD×CS
 |s,e,.nil=>(.nil,e,s)
 |s,e,.cons _ _ _ _ _ _ .nil=>(.nil,e,s)
 |s,e,.cons op _ _ tx _ _ r =>
   let e1:=if op==22 then ⟨tx,(A2 s).1,[]⟩::e else e
   let (l,e2,s2):=D6 (A2 s).2 e1 r
   ((A2 s).1.cons l,e2,s2)
def Nd.last:Nd→Option N
 |.nil=>none
 |.cons op ln co tx nm k .nil=>some ⟨op,ln,co,tx,nm,k⟩
 |.cons _ _ _ _ _ _ r=>r.last
def Ty.last:Ty→T1
 |.nil=>.var 0
 |.var n .nil=>.var n
 |.con tx k .nil=>.con tx k
 |.var _ r=>r.last
 |.con _ _ r=>r.last
abbrev Lo:=CS→AD→Int→Int→Int→lU→Int→Nd→RI (T1×AD×CS)
def EG(f:Lo):CS→AD→Ty→Nd→RI (AD×CS)
 |s,e,_,.nil=>.ok (e,s)
 |s,e,a,.cons op ln co tx nm k r=>match f s e op ln co tx nm k with
   |.error x=>.error x
   |.ok (q,e1,s1)=>match Es s1 a.hd q ln co with
     |.error x=>.error x
     |.ok s2=>EG f s2 e1 a.tl r
def Ec(f:Lo):CS→AD→Nd→RI (Ty×AD×CS)
 |s,e,.nil=>.ok (.nil,e,s)
 |s,e,.cons op ln co tx nm k r=>match f s e op ln co tx nm k with
   |.error x=>.error x
   |.ok (q,e1,s1)=>match Ec f s1 e1 r with
     |.error x=>.error x
     |.ok (l,e2,s2)=>.ok (q.cons l,e2,s2)
def CC(f:Lo)(s:CS)(e:AD)(op ln co:Int)(tx:lU)(kids:Nd):RI (T1×AD×CS) :=
 if op==21 then .ok ((A2 s).1,e,(A2 s).2)
 else if op==22 then .ok ((A2 s).1,⟨tx,(A2 s).1,[]⟩::e,(A2 s).2)
 else if op==23 then .ok (c0 bI,e,s)
 else if op==24 then .ok (c0 bS,e,s)
 else if op==25 then .ok (c0 bU,e,s)
 else if op==26 then (match GJ s tx kids.len ln co with
   |.error x=>.error x
   |.ok (args,out,s1)=>match EG f s1 e args kids with
     |.error x=>.error x
     |.ok (e2,s2)=>.ok (out,e2,s2))
 else if op==27 then (match Ec f s e kids with
   |.error x=>.error x
   |.ok (l,e2,s2)=>.ok (.con SA l,e2,s2))
 else .ok (.var 0,e,s)
def Cl:Nat→Lo
 |0,_,_,_,ln,co,_,_,_=>.error (ln,co,11)
 |n+1,s,e,op,ln,co,tx,_,kids=>match CC (Cl n) s e op ln co tx kids with
   |.error x=>.error x
   |.ok (t,e1,s1)=>match Eu s1 t ln co with
     |.error x=>.error x
     |.ok _=>.ok (t,e1,s1)
def C6(n:Nat)(f:Kn)(e:AD)(pt:T1):CS→Option T1→Nd→RI (T1×CS)
 |s,t,.nil=>.ok (t.getD (.var 0),s)
 |s,t,.cons _ _ _ _ _ ks r=>match ks with
   |.cons op ln co tx nm pk (.cons bop bln bco btx bnm bk _)=>(match Cl n s e op ln co tx nm pk with
     |.error x=>.error x
     |.ok (q,inner,s1)=>match Es s1 pt q ln co with
       |.error x=>.error x
       |.ok s2=>match f s2 inner bop bln bco btx bnm bk with
         |.error x=>.error x
         |.ok (rt,s3)=>match t with
           |some t0=>(match Es s3 t0 rt bln bco with
             |.error x=>.error x
             |.ok s4=>C6 n f e pt s4 (some t0) r)
           |none=>C6 n f e pt s3 (some rt) r)
   |_=>.ok (t.getD (.var 0),s)
def FK(f:Kn)(s:CS)(e:AD)(ln co:Int)(tx:lU)(op0 ln0 co0:Int)(tx0:lU)(nm0:Int)(k0:Nd):RI (T1×CS) :=
 match f (A2 s).2 (⟨tx,(A2 s).1,[]⟩::e) op0 ln0 co0 tx0 nm0 k0 with
 |.error x=>.error x
 |.ok (t,s1)=>match Es s1 (A2 s).1 t ln co with
   |.error x=>.error x
   |.ok s2=>.ok (t,s2)
def Bg(n:Nat)(f:Kn)(s:CS)(e:AD)(op ln co:Int)(tx:lU)(kids:Nd):RI (T1×CS) :=
 if op==1 then .ok (c0 bI,s)
 else if op==2 then .ok (c0 bF,s)
 else if op==3 then .ok (c0 bS,s)
 else if op==4 then .ok (c0 bU,s)
 else if op==5 then Ft s e tx ln co
 else if op==6 then (match GJ s tx kids.len ln co with
   |.error x=>.error x
   |.ok (args,out,s1)=>match EL f e s1 args kids with
     |.error x=>.error x
     |.ok s2=>.ok (out,s2))
 else if op==7 then (match kids.last with
   |none=>.ok (.var 0,s)
   |some b =>
     let p:=D6 s e kids
     match f p.2.2 p.2.1 b.op b.ln b.co b.tx b.nm b.kids with
     |.error x=>.error x
     |.ok (t,s1)=>.ok (Gt (p.1.snoc t),s1))
 else if op==8 then (match kids with
   |.nil=>.ok (.var 0,s)
   |.cons o l c x m k r=>match f s e o l c x m k with
     |.error x=>.error x
     |.ok (t,s1)=>HS f e s1 t r)
 else if op==9 then (match kids with
   |.cons o l c x m k (.cons o2 l2 c2 x2 m2 k2 _)=>(match f s e o l c x m k with
     |.error x=>.error x
     |.ok (t,s1)=>match (if tx==[95] then .ok e else Ev s1 e tx t (BL (n+1) o k) ln co) with
       |.error x=>.error x
       |.ok e1=>f s1 e1 o2 l2 c2 x2 m2 k2)
   |_=>.ok (.var 0,s))
 else if op==10 then (match kids with
   |.cons o l c x m k (.cons o2 l2 c2 x2 m2 k2 _)=>(match FK f s e ln co tx o l c x m k with
     |.error x=>.error x
     |.ok (t,s1)=>match Ev s1 e tx t true ln co with
       |.error x=>.error x
       |.ok e1=>f s1 e1 o2 l2 c2 x2 m2 k2)
   |_=>.ok (.var 0,s))
 else if op==11 then (match kids with
   |.cons o l c x m k (.cons o2 l2 c2 x2 m2 k2 (.cons o3 l3 c3 x3 m3 k3 _))=>(match f s e o l c x m k with
     |.error x=>.error x
     |.ok (t,s1)=>match Es s1 (c0 bB) t l c with
       |.error x=>.error x
       |.ok s2=>match f s2 e o2 l2 c2 x2 m2 k2 with
         |.error x=>.error x
         |.ok (t2,s3)=>match f s3 e o3 l3 c3 x3 m3 k3 with
           |.error x=>.error x
           |.ok (t3,s4)=>match Es s4 t2 t3 l3 c3 with
             |.error x=>.error x
             |.ok s5=>.ok (t2,s5))
   |_=>.ok (.var 0,s))
 else if op==12 then (match D5 f e s kids with
   |.error x=>.error x
   |.ok (l,s1)=>.ok (l.last,s1))
 else if op==13 then (match D5 f e s kids with
   |.error x=>.error x
   |.ok (l,s1)=>.ok (.con SA l,s1))
 else if op==14 then (match kids with
   |.nil=>.ok (.var 0,s)
   |.cons o l c x m k r=>match f s e o l c x m k with
     |.error x=>.error x
     |.ok (t,s1)=>C6 n f e t s1 none r)
 else if op==15 then (match kids with
   |.nil=>.ok (.var 0,s)
   |.cons o l c x m k r=>match f s e o l c x m k with
     |.error x=>.error x
     |.ok (t,s1)=>C6 n f e (c0 bX) s1 (some t) r)
 else if op==16 then (match kids with
   |.nil=>.ok (.var 0,s)
   |.cons o l c x m k _=>match f s e o l c x m k with
     |.error x=>.error x
     |.ok (t,s1)=>match Es s1 (c0 bX) t l c with
       |.error x=>.error x
       |.ok s2=>.ok (A2 s2))
 else (match kids with
   |.nil=>.ok (.var 0,s)
   |.cons o l c x m k _=>f s e o l c x m k)
def BT:Nat→Kn
 |0,_,_,_,ln,co,_,_,_=>.error (ln,co,11)
 |n+1,s,e,op,ln,co,tx,_,kids=>match Bg n (BT n) s e op ln co tx kids with
   |.error x=>.error x
   |.ok (t,s1)=>match Eu s1 t ln co with
     |.error x=>.error x
     |.ok _=>.ok (t,s1)
def Hc:lU:=[32,105,110,116,32,102,108,111,97,116,32,115,116,114,105,110,103,32,117,110,105,116,32,98,111,111,108,32,101,120,110,32]
def Q4:lU:=[32,116,117,112,108,101,32,114,101,102,32,112,114,101,102,32]
def Fw(datas:List (lU×Int))(vars:List (lU×T1)):Nd→RI Ty
 |.nil=>.ok .nil
 |.cons op ln co tx _ kids r =>
   let one:RI T1:=if op==31 then (match BM vars tx with
       |some t=>.ok t
       |none=>.error (ln,co,11))
     else if (if BF Hc ([32]++tx++[32]) then (kids.len:Int)==0
         else if tx==Dz then (kids.len:Int)==2
         else if BF Q4 ([32]++tx++[32]) then true
         else match BM datas tx with|some c=>c==(kids.len:Int)|none=>false)
       then (match Fw datas vars kids with|.error x=>.error x|.ok k=>.ok (.con tx k))
       else .error (ln,co,11)
   match one with
   |.error x=>.error x
   |.ok t=>match Fw datas vars r with
     |.error x=>.error x
     |.ok l=>.ok (t.cons l)
def D0(ln co:Int):Nd→Int→List (lU×T1)→Ty→List Int→RI (Int×List (lU×T1)×Ty×List Int)
 |.nil,v,m,self,nums=>.ok (v,m,self,nums)
 |.cons op _ _ tx _ _ r,v,m,self,nums =>
   if op==31 then (if (BM m tx).isSome then .error (ln,co,11) else D0 ln co r (v-1) ((tx,.var (v-1))::m) (self.snoc (.var (v-1))) (nums++[v-1]))
   else D0 ln co r v m self nums
def Dh(datas:List (lU×Int))(m:List (lU×T1))(out:T1)(nums:List Int):Nd→List (lU×Mk)→RI (List (lU×Mk))
 |.nil,c=>.ok c
 |.cons op ln co tx _ kids r,c =>
   if op==42 then (if (BM c tx).isSome then .error (ln,co,11) else match Fw datas m kids with
     |.error x=>.error x
     |.ok args=>Dh datas m out nums r ((tx,⟨args,out,nums⟩)::c))
   else Dh datas m out nums r c
def FQ(s:CS)(ln co:Int)(tx:lU)(kids:Nd):RI CS :=
 if (BM s.datas tx).isSome||BF Hc ([32]++tx++[32]) then .error (ln,co,11)
 else match D0 ln co kids s.vars [] .nil [] with
   |.error x=>.error x
   |.ok (v,m,self,nums) =>
     let datas:=(tx,(nums.length:Int))::s.datas
     match Dh datas m (.con tx self) nums kids s.cons with
     |.error x=>.error x
     |.ok cons=>.ok {s with datas:=datas,cons:=cons,vars:=v}
def CG(s:CS)(e:AD)(op ln co:Int)(tx:lU)(kids:Nd):RI (Option (lU×T1)×AD×CS) :=
 if op==41 then (match FQ s ln co tx kids with
   |.error x=>.error x
   |.ok s1=>.ok (none,e,s1))
 else match kids with
   |.nil=>.ok (some (tx,.var 0),e,s)
   |.cons o l c x m k r =>
     if op==43 then (if s.roots.contains tx then .error (ln,co,11) else match Fw s.datas [] (.cons o l c x m k .nil) with
         |.error x=>.error x
         |.ok w=>match r with
           |.nil=>.ok (some (tx,.var 0),e,s)
           |.cons o2 l2 c2 x2 m2 k2 _=>match BT (k2.size+1) {s with roots:=tx::s.roots} e o2 l2 c2 x2 m2 k2 with
             |.error x=>.error x
             |.ok (t2,s1)=>match Es s1 w.hd t2 ln co with
               |.error x=>.error x
               |.ok s2=>.ok (some (tx,.con CA w),⟨tx,.con CA w,[]⟩::e,s2))
     else if op==44 then (match BT (k.size+1) s e o l c x m k with
       |.error x=>.error x
       |.ok (t,s1)=>match Ev s1 e tx t (BL (k.size+1) o k) ln co with
         |.error x=>.error x
         |.ok e1=>.ok (some (tx,t),e1,s1))
     else if op==45 then (match FK (BT (k.size+1)) s e ln co tx o l c x m k with
       |.error x=>.error x
       |.ok (t,s1)=>match Ev s1 e tx t true ln co with
         |.error x=>.error x
         |.ok e1=>.ok (some (tx,t),e1,s1))
     else (match BT (k.size+1) s e o l c x m k with
       |.error x=>.error x
       |.ok (t,s1)=>.ok (some ([],t),e,s1))
def BH:CS→AD→Nd→List (lU×T1)→RI (List (lU×T1)×CS)
 |s,_,.nil,out=>.ok (out,s)
 |s,e,.cons op ln co tx _ k r,out=>match CG s e op ln co tx k with
   |.error x=>.error x
   |.ok (none,e1,s1)=>BH s1 e1 r out
   |.ok (some b,e1,s1)=>BH s1 e1 r (out++[b])
def UO:Nat→Nat→lU
 |0,_=>[]
 |k+1,n=>if n<10 then [UInt8.ofNat (48+n)] else UO k (n / 10)++[UInt8.ofNat (48+n % 10)]
def DH(i:Nat):lU:=[39,UInt8.ofNat (97+i % 26)]++(if i<26 then [] else UO 20 (i / 26))
def CJ(vs:List Int):Ty→lU
 |.nil=>[]
 |.var n r=>32::((match CR vs n with|some i=>DH i|none=>[])++CJ vs r)
 |.con tx .nil r=>32::(tx++CJ vs r)
 |.con tx k r=>32::([40]++tx++CJ vs k++[41]++CJ vs r)
def JR(t:T1):lU:=(CJ (An t) t.one).drop 1
def EY(s:CS):List (lU×T1)→RI (List (lU×lU))
 | []=>.ok []
 |(n,t)::l=>match Eu s t 0 0 with
   |.error x=>.error x
   |.ok f=>match EY s l with
     |.error x=>.error x
     |.ok r=>.ok ((n,JR f)::r)
def aI:Int := -1
def oT:List (lU×Ty) :=
 let n:=c0 bI;let f:=c0 bF;let s:=c0 bS;let b:=c0 bB;let u:=c0 bU
 let a:=T1.var aI;let r:=T1.con L8 a.one;let p:=T1.con CA a.one
 let l2 (x y:T1):Ty:=x.cons y.one
 let l3 (x y z:T1):Ty:=x.cons (y.cons z.one)
 let ad (names:List lU) (t:Ty):List (lU×Ty):=names.map λx=>(x,t)
 ad [[43],[45],[42],[100,105,118],[109,111,100]] (l3 n n n)++ad [[110,101,103]] (l2 n n)++ad [[60],[60,61],[61]] (l3 n n b) ++
 ad [[102,43],[102,45],[102,42],[102,47]] (l3 f f f)++ad [[102,115,113,114,116],[102,110,101,103]] (l2 f f)++ad [[102,60],[102,61],[102,97,104,101,97,100]] (l3 f f b) ++
 ad [[105,116,111,102]] (l2 n f)++ad [[102,116,111,105]] (l2 f n)++ad [[102,98,105,116,115]] (l2 f s)++ad [[110,97,110],[105,110,102]] f.one ++
 ad [[99,97,116]] (l3 s s s)++ad [[108,101,110],[111,114,100],[97,116,111,105]] (l2 s n)++ad [[115,117,98]] (s.cons (l3 n n s))++ad [[115,61],[115,60]] (l3 s s b) ++
 ad [[105,116,111,97],[99,104,114]] (l2 n s)++ad [[112,114,105,110,116]] (l2 s u)++ad [[114,101,97,100]] (l2 u s)++ad [[114,101,102]] (l2 a r)++ad [[103,101,116]] (l2 r a) ++
 ad [[115,101,116]] (l3 r a u)++ad [[110,101,119]] (l2 a p)++ad [[108,111,97,100]] (l2 p a)++ad [[115,116,111,114,101]] (l3 p a u)
def DA:AD:=(oT.map λp=>(⟨p.1,Gt p.2,[aI]⟩:Bd)).reverse
def iU:List (lU×Mk) :=
 [([70,97,105,108],⟨(c0 bS).one,c0 bX,[]⟩),([79,117,116],⟨.nil,c0 bX,[]⟩),([75,101,101,112],⟨.nil,c0 bX,[]⟩),([65,98,111,114,116],⟨.nil,c0 bX,[]⟩),([77,97,116,99,104],⟨.nil,c0 bX,[]⟩),([68,105,118],⟨.nil,c0 bX,[]⟩),
  ([84,114,117,101],⟨.nil,c0 bB,[]⟩),([70,97,108,115,101],⟨.nil,c0 bB,[]⟩)]
def Ll:CS:=⟨[],0,iU,[],[],-1⟩
def Ce(nds:Nd):RI (List (lU×lU)):=match BH Ll DA nds [] with
 |.error x=>.error x
 |.ok (out,s)=>EY s out
end Go.SP
namespace Go.SP
open Go.SW Go.RowKit
namespace T1
def op:T1→Int
 |.var _=>0
 |.con _ _=>1
def num:T1→Int
 |.var n=>n
 |.con _ _=>0
def tx:T1→lU
 |.var _=>[]
 |.con t _=>t
def kids:T1→Ty
 |.var _=>.nil
 |.con _ k=>k
end T1
def tC(t:T1)(a:Option Addr)(c:Nat):List Value:=[.int .i64 t.op,.int .i64 t.num,S t.tx,.slice a t.kids.len c]
abbrev tV(t:T1)(a:Option Addr)(c:Nat):Value:=.agg #[.int .i64 t.op,.int .i64 t.num,S t.tx,.slice a t.kids.len c]
def I3(w:World)(f:Fq):Ty→Nat→Nat→Prop
 |.nil,_,_=>True
 |.var n r,b,off=>(∃a c,Cs w f b off [.int .i64 0,.int .i64 n,S [],.slice a 0 c])∧I3 w f r b (off+4)
 |.con tx k r,b,off=>(∃a c,Cs w f b off [.int .i64 1,.int .i64 0,S tx,.slice a k.len c]∧k.len≤c∧(k=.nil∨∃b' off',a=some ⟨b',off',none⟩∧I3 w f k b' off'))∧I3 w f r b (off+4)
def Ai(w:World)(f:Fq)(k:Ty)(a:Option Addr)(c:Nat):Prop:=k.len≤c∧(k=.nil∨∃b off,a=some ⟨b,off,none⟩∧I3 w f k b off)
variable {f f':Fq}{co ln:Int}{l:List Value}{b i off:Nat}{U:Nat→Prop}{k r:Nd}{a:Option Addr}{T:TypeId}{w w':World}
theorem I3.mono(hF:I4 w f w' f'):∀(k:Ty)(b off:Nat),I3 w f k b off→I3 w' f' k b off
 |.nil,_,_,_=>trivial
 |.var _ r,b,off,⟨⟨a,c,h1⟩,h2⟩=>⟨⟨a,c,h1.mono hF⟩,I3.mono hF r b _ h2⟩
 |.con _ k r,b,off,⟨⟨a,c,h1,h2,h3⟩,h4⟩=>⟨⟨a,c,h1.mono hF,h2,h3.imp id λ⟨b',off',h5,h6⟩=>⟨b',off',h5,I3.mono hF k b' off' h6⟩⟩,I3.mono hF r b _ h4⟩
theorem Ai.mono{k:Ty}{c:Nat}:Gf (λw f=>Ai w f k a c):=λ_ _ _ _ h hF=>⟨h.1,h.2.imp id λ⟨b,off,h1,h2⟩=>⟨b,off,h1,I3.mono hF k b off h2⟩⟩
theorem Ai.nil(w:World)(f:Fq)(a:Option Addr)(c:Nat):Ai w f .nil a c:=⟨Nat.zero_le _,.inl rfl⟩
theorem I3.cons{t:T1}{r:Ty}:I3 w f (t.cons r) b off↔(∃a c,Cs w f b off (tC t a c)∧Ai w f t.kids a c)∧I3 w f r b (off+4):=by
 cases t with
 |var n=>exact⟨λ⟨⟨a,c,h1⟩,h2⟩=>⟨⟨a,c,h1,Ai.nil _ _ _ _⟩,h2⟩,λ⟨⟨a,c,h1,_⟩,h2⟩=>⟨⟨a,c,h1⟩,h2⟩⟩
 |con tx k=>exact⟨λ⟨⟨a,c,h1,h2,h3⟩,h4⟩=>⟨⟨a,c,h1,h2,h3⟩,h4⟩,λ⟨⟨a,c,h1,h2⟩,h4⟩=>⟨⟨a,c,h1,h2.1,h2.2⟩,h4⟩⟩
theorem I3.app:∀{x y:Ty}{b off:Nat},I3 w f x b off→I3 w f y b (off+x.len*4)→I3 w f (x.app y) b off
 |.nil,_,b,off,_,h=>by simpa[Ty.len,Ty.app] using h
 |.var _ r,y,b,off,h,hy=>⟨h.1,I3.app h.2 (by rw[show off+4+r.len*4=off+(r.len+1)*4 by omega];exact hy)⟩
 |.con _ _ r,y,b,off,h,hy=>⟨h.1,I3.app h.2 (by rw[show off+4+r.len*4=off+(r.len+1)*4 by omega];exact hy)⟩
def BN(w:World)(f:Fq)(a:Option Addr)(i:Nat)(r:Ty):Prop:=r=.nil∨∃b off,a=some ⟨b,off,none⟩∧I3 w f r b (off+i*4)
theorem BN.mono{r:Ty}:Gf (λw f=>BN w f a i r):=λ_ _ _ _ h hF=>h.imp id λ⟨b,off,h1,h2⟩=>⟨b,off,h1,I3.mono hF r b _ h2⟩
theorem Ai.at{k:Ty}{c:Nat}(h:Ai w f k a c):BN w f a 0 k:=h.2.imp id λ⟨b,off,h1,h2⟩=>⟨b,off,h1,by simpa using h2⟩
theorem BN.head{t:T1}{r:Ty}(h:BN w f a i (t.cons r)):∃b off ka kc,a=some ⟨b,off,none⟩∧Cs w f b (off+i*4) (tC t ka kc)∧Ai w f t.kids ka kc∧BN w f a (i+1) r:=by
 rcases h with h|⟨b,off,h1,h2⟩
 · cases t <;> cases h
 · obtain⟨⟨ka,kc,h3,h4⟩,h5⟩:=I3.cons.1 h2
   exact⟨b,off,ka,kc,h1,h3,h4,.inr ⟨b,off,h1,by rw[show off+(i+1)*4=off+i*4+4 by omega];exact h5⟩⟩
def WR(w:World)(f:Fq):Nd→Nat→Nat→Prop
 |.nil,_,_=>True
 |.cons op ln co tx nm k r,b,off=>(∃a c,Cs w f b off [.int .i64 op,.int .i64 ln,.int .i64 co,S tx,.int .i64 nm,.slice a k.len c]∧k.len≤c∧(k=.nil∨∃b' off',a=some ⟨b',off',none⟩∧WR w f k b' off'))∧WR w f r b (off+6)
def AU(w:World)(f:Fq)(k:Nd)(a:Option Addr)(c:Nat):Prop:=k.len≤c∧(k=.nil∨∃b off,a=some ⟨b,off,none⟩∧WR w f k b off)
theorem WR.mono(hF:I4 w f w' f'):∀(k:Nd)(b off:Nat),WR w f k b off→WR w' f' k b off
 |.nil,_,_,_=>trivial
 |.cons _ _ _ _ _ k r,b,off,⟨⟨a,c,h1,h2,h3⟩,h4⟩=>⟨⟨a,c,h1.mono hF,h2,h3.imp id λ⟨b',off',h5,h6⟩=>⟨b',off',h5,WR.mono hF k b' off' h6⟩⟩,WR.mono hF r b _ h4⟩
theorem AU.mono{c:Nat}:Gf (λw f=>AU w f k a c):=λ_ _ _ _ h hF=>⟨h.1,h.2.imp id λ⟨b,off,h1,h2⟩=>⟨b,off,h1,WR.mono hF k b off h2⟩⟩
def Bt(w:World)(f:Fq)(a:Option Addr)(i:Nat)(r:Nd):Prop:=r=.nil∨∃b off,a=some ⟨b,off,none⟩∧WR w f r b (off+i*6)
theorem Bt.mono:Gf (λw f=>Bt w f a i r):=λ_ _ _ _ h hF=>h.imp id λ⟨b,off,h1,h2⟩=>⟨b,off,h1,WR.mono hF r b _ h2⟩
theorem AU.at{c:Nat}(h:AU w f k a c):Bt w f a 0 k:=h.2.imp id λ⟨b,off,h1,h2⟩=>⟨b,off,h1,by simpa using h2⟩
def Mg(op ln co:Int)(tx:lU)(nm:Int)(a:Option Addr)(n c:Nat):List Value:=[.int .i64 op,.int .i64 ln,.int .i64 co,S tx,.int .i64 nm,.slice a n c]
theorem Bt.head{op nm:Int}{tx:lU}(h:Bt w f a i (.cons op ln co tx nm k r)):∃b off ka kc,a=some ⟨b,off,none⟩∧Cs w f b (off+i*6) (Mg op ln co tx nm ka k.len kc)∧AU w f k ka kc∧Bt w f a (i+1) r:=by
 rcases h with h|⟨b,off,h1,⟨ka,kc,h3,h4⟩,h5⟩
 · cases h
 · exact⟨b,off,ka,kc,h1,h3,h4,.inr ⟨b,off,h1,by rw[show off+(i+1)*6=off+i*6+6 by omega];exact h5⟩⟩
def RU(w:World):Fq:=λb=>match w.heap[b]? with
 |some (.cells cs _ (0,0))=>cs.size
 |_=>0
theorem Cs.all{m:List Value}(hb:AM w b l T)(h:l.drop off=m):Cs w (RU w) b off m:=λj v hj=>by
 have h1:l[off+j]?=some v:=by rw[← List.getElem?_drop,h,hj]
 obtain⟨hl,_⟩:=List.getElem?_eq_some_iff.1 h1;refine⟨?_,by rw[hb.cell,h1]⟩;unfold RU;unfold AM at hb;rw[hb];simpa using hl
theorem Cs.le{m:List Value}(h:Cs w f b off (l++m)):Cs w f b off l:=λj v hj=>h j v (by
 obtain⟨hl,_⟩:=List.getElem?_eq_some_iff.1 hj;rw[List.getElem?_append_left hl];exact hj)
theorem FH.toG(hb:AM w b l T):∀(k:Nd)(off:Nat),FH U w k (l.drop off)→(∀(k':Nd)(a:Option Addr)(n c:Nat),k'.size<k.size→Hh U w a n c k'→AU w (RU w) k' a c)→WR w (RU w) k b off
 |.nil,_,_,_=>trivial
 |.cons op ln co tx nm kids r,off,⟨a,n,c,l',h1,h2,h3⟩,ih=>by
   have hn:n=kids.len:=h2.1;have hk:=ih kids a n c (by simp only[Nd.size];omega) h2;refine⟨⟨a,c,?_,hk⟩,FH.toG hb r (off+6) ?_ (λk' a n c hs=>ih k' a n c (by simp only[Nd.size];omega))⟩
   · have:=Cs.all hb h1
     rw[hn] at this;exact Cs.le (m:=l') this
   · rw[← List.drop_drop,h1];exact h3
theorem Hh.toF:∀(m:Nat)(k:Nd)(a:Option Addr)(n c:Nat),k.size<m→Hh U w a n c k→AU w (RU w) k a c
 |0,_,_,_,_,h,_=>by omega
 |m+1,k,a,n,c,hm,⟨h1,h2,h3⟩=>by
   refine⟨oM,?_⟩;rcases h3 with h3|⟨b,off,l,T,_,ha,hb,hc⟩
   · left
     cases k with
     |nil=>rfl
     |cons _ _ _ _ _ _ _=>rw[h3] at h1;cases h1
   · exact .inr ⟨b,off,ha,FH.toG hb k off hc (λk' a n c hs=>Hh.toF m k' a n c oM)⟩
end Go.SP
namespace Go.SP
open Go.SW Go.RowKit
def BP(w:World)(f:Fq)(l:List Int)(a:Option Addr)(c:Nat):Prop:=l.length≤c∧(l=[]∨∃b off,a=some ⟨b,off,none⟩∧Cs w f b off (l.map λn=>Value.int .i64 n))
variable {f:Fq}{l:List Value}{b i off:Nat}{a:Option Addr}{w:World}
theorem BP.mono{l:List Int}{c:Nat}:Gf (λw f=>BP w f l a c):=λ_ _ _ _ h hF=>⟨h.1,h.2.imp id λ⟨b,off,h1,h2⟩=>⟨b,off,h1,h2.mono hF⟩⟩
theorem Cs.at{v:Value}(h:Cs w f b off l)(hi:l[i]?=some v):Cs w f b (off+i) [v]:=λj u hj=>by
 cases j with
 |zero=>simp at hj;subst hj;simpa using h i v hi
 |succ j=>simp at hj
theorem BP.get{l:List Int}{c:Nat}{n:Int}(h:BP w f l a c)(hi:l[i]?=some n):∃b off,a=some ⟨b,off,none⟩∧Cs w f b (off+i*1) [.int .i64 n]:=by
 rcases h.2 with h|⟨b,off,h1,h2⟩
 · subst h;simp at hi
 · exact⟨b,off,h1,by rw[Nat.mul_one];exact Cs.at h2 (by rw[List.getElem?_map,hi];rfl)⟩
theorem OI{n:Int}:∀{l:List Int},CR l n=none→l.contains n=false
 | [],_=>rfl
 |k::l,h=>by
   unfold CR at h
   split at h
   · cases h
   · rename_i hk
     have:CR l n=none:=by cases hx:CR l n with|none=>rfl|some i=>rw[hx] at h;cases h
     rw[List.contains_cons,OI this];have:¬n=k:=λe=>hk (by simp[e]);simp[this]
theorem Ln{n:Int}:∀{l:List Int}{i:Nat},CR l n=some i→l.contains n=true∧i<l.length∧l[i]?=some n
 | [],_,h=>by cases h
 |k::l,i,h=>by
   unfold CR at h
   split at h
   · rename_i hk
     have e:k=n:=by simpa using hk
     cases h
     subst e;simp
   · cases hx:CR l n with
     |none=>rw[hx] at h;cases h
     |some j =>
       rw[hx] at h
       cases h
       have:=Ln hx;exact⟨by rw[List.contains_cons,this.1,Bool.or_true],by simp;exact this.2.1,by simpa using this.2.2⟩
theorem VB{n:Int}:∀{l:List Int}{i:Nat},(l.take i).contains n=false→l[i]?=some n→CR l n=some i
 | [],i,_,h=>by simp at h
 |k::l,0,_,h=>by simp at h;subst h;simp[CR]
 |k::l,i+1,hn,h=>by
   simp only[List.take_succ_cons,List.contains_cons,Bool.or_eq_false_iff] at hn
   have hk:(k==n)=false:=by
     have:=hn.1
     cases hh:k==n with
     |false=>rfl
     |true =>
       have e:k=n:=by simpa using hh
       subst e;simp at this
   have:=VB hn.2 (by simpa using h);simp[CR,hk,this]
theorem MS{n:Int}{l:List Int}(h:l.contains n=false):CR l n=none:=by
 cases hx:CR l n with
 |none=>rfl
 |some i=>rw[(Ln hx).1] at h;cases h
def XK(l:List Int)(n:Int):Int:=match CR l n with
 |some i=>i
 |none => -1
theorem Dt{α:Type}{l:List α}{x:α}(h:l[i]?=some x):l.take (i+1)=l.take i++[x]:=by
 obtain⟨hl,he⟩:=List.getElem?_eq_some_iff.1 h;rw[List.take_succ_eq_append_getElem hl,he]
end Go.SP
namespace Go.SP
open Go.SW Go.RowKit
def Ty.size:Ty→Nat
 |.nil=>0
 |.var _ r=>r.size+1
 |.con _ k r=>k.size+r.size+1
def Ty.bnd:Ty→Prop
 |.nil=>True
 |.var _ r=>r.bnd
 |.con tx k r=>(k.len≤200000∧tx.length≤1000000)∧k.bnd∧r.bnd
def T1.bnd(t:T1):Prop:=(t.kids.len≤200000∧t.tx.length≤1000000)∧t.kids.bnd
theorem T1.bnd_cons{t:T1}{r:Ty}:(t.cons r).bnd↔t.bnd∧r.bnd:=by
 cases t with
 |var n=>exact⟨λh=>⟨⟨⟨Nat.zero_le _,Nat.zero_le _⟩,tQ⟩,h⟩,λh=>h.2⟩
 |con tx k=>exact⟨λh=>⟨⟨h.1,h.2.1⟩,h.2.2⟩,λh=>⟨h.1.1,h.1.2,h.2⟩⟩
theorem T1.len_cons(t:T1)(r:Ty):(t.cons r).len=r.len+1:=by cases t <;> rfl
theorem T1.size_cons(t:T1)(r:Ty):(t.cons r).size=t.kids.size+r.size+1:=by cases t <;> simp[T1.cons,Ty.size,T1.kids]
theorem Ty.len_app:∀x y:Ty,(x.app y).len=x.len+y.len
 |.nil,y=>by simp[Ty.app,Ty.len]
 |.var _ r,y=>by simp[Ty.app,Ty.len,Ty.len_app r y];omega
 |.con _ _ r,y=>by simp[Ty.app,Ty.len,Ty.len_app r y];omega
theorem Ty.app_assoc:∀x y z:Ty,(x.app y).app z=x.app (y.app z)
 |.nil,_,_=>rfl
 |.var _ r,y,z=>by simp[Ty.app,Ty.app_assoc r y z]
 |.con _ _ r,y,z=>by simp[Ty.app,Ty.app_assoc r y z]
theorem Ty.app_nil:∀x:Ty,x.app .nil=x
 |.nil=>rfl
 |.var _ r=>by simp[Ty.app,Ty.app_nil r]
 |.con _ _ r=>by simp[Ty.app,Ty.app_nil r]
theorem T1.one_app(t:T1)(r:Ty):t.one.app r=t.cons r:=by cases t <;> rfl
theorem Ty.len_snoc(x:Ty)(t:T1):(x.snoc t).len=x.len+1:=by unfold Ty.snoc T1.one;rw[Ty.len_app,T1.len_cons];rfl
theorem Ty.snoc_app(x:Ty)(t:T1)(r:Ty):(x.snoc t).app r=x.app (t.cons r):=by unfold Ty.snoc;rw[Ty.app_assoc,T1.one_app]
theorem Ty.cases1(k:Ty)(h:0<k.len):∃t r,k=T1.cons t r:=by
 cases k with
 |nil=>simp[Ty.len] at h
 |var n r=>exact⟨.var n,r,rfl⟩
 |con tx k r=>exact⟨.con tx k,r,rfl⟩
theorem Ty.len0{k:Ty}(h:k.len=0):k=.nil:=by cases k <;> simp_all [Ty.len]
def Bi(w:World)(f:Fq):Ty→List Value→Prop
 |.nil,xs=>xs=[]
 |.var n r,xs=>∃a c xs',xs=[.int .i64 0,.int .i64 n,S [],.slice a 0 c]++xs'∧Bi w f r xs'
 |.con tx k r,xs=>∃a c xs',xs=[.int .i64 1,.int .i64 0,S tx,.slice a k.len c]++xs'∧Ai w f k a c∧Bi w f r xs'
variable {f f':Fq}{l xs:List Value}{b off:Nat}{a:Option Addr}{w w':World}
theorem Bi.mono'(hF:I4 w f w' f'):∀(k:Ty)(xs:List Value),Bi w f k xs→Bi w' f' k xs
 |.nil,_,h=>h
 |.var _ r,_,⟨a,c,xs',h1,h2⟩=>⟨a,c,xs',h1,Bi.mono' hF r xs' h2⟩
 |.con _ k r,_,⟨a,c,xs',h1,h2,h3⟩=>⟨a,c,xs',h1,Ai.mono _ _ _ _ h2 hF,Bi.mono' hF r xs' h3⟩
theorem Bi.mono{k:Ty}:Gf (λw f=>Bi w f k xs):=λ_ _ _ _ h hF=>Bi.mono' hF k xs h
theorem Bi.snoc{t:T1}{c:Nat}(ht:Ai w f t.kids a c):∀{k:Ty}{xs:List Value},Bi w f k xs→Bi w f (k.snoc t) (xs++tC t a c)
 |.nil,xs,h=>by
   have h:xs=[]:=h;subst h
   cases t with
   |var n=>exact⟨a,c,[],rfl,rfl⟩
   |con tx k=>exact⟨a,c,[],rfl,ht,rfl⟩
 |.var _ r,_,⟨a',c',xs',h1,h2⟩=>⟨a',c',xs'++tC t a c,by rw[h1,List.append_assoc],Bi.snoc ht h2⟩
 |.con _ k r,_,⟨a',c',xs',h1,h2,h3⟩=>⟨a',c',xs'++tC t a c,by rw[h1,List.append_assoc],h2,Bi.snoc ht h3⟩
theorem Cs.drop{m:List Value}(h:Cs w f b off (l++m)):Cs w f b (off+l.length) m:=λj v hj=>by
 have:=h (l.length+j) v (by rw[List.getElem?_append_right (by omega)];simpa using hj);rwa[← Nat.add_assoc] at this
theorem Bi.toG:∀{k:Ty}{xs:List Value}{off:Nat},Bi w f k xs→Cs w f b off xs→I3 w f k b off
 |.nil,_,_,_,_=>trivial
 |.var _ r,_,off,⟨a,c,xs',h1,h2⟩,hC=>by
   subst h1;exact⟨⟨a,c,Cs.le hC⟩,Bi.toG h2 (Cs.drop hC)⟩
 |.con _ k r,_,off,⟨a,c,xs',h1,h2,h3⟩,hC=>by
   subst h1;exact⟨⟨a,c,Cs.le hC,h2⟩,Bi.toG h3 (Cs.drop hC)⟩
theorem Bi.toF{c:Nat}{k:Ty}(h:Bi w f k xs)(hC:Cs w f b 0 xs)(hc:k.len≤c):Ai w f k (some ⟨b,0,none⟩) c:=⟨hc,.inr ⟨b,0,rfl,Bi.toG h hC⟩⟩
theorem Bi.len:∀{k:Ty}{xs:List Value},Bi w f k xs→xs.length=k.len*4
 |.nil,xs,h=>by have h:xs=[]:=h;subst h;rfl
 |.var _ r,_,⟨a,c,xs',h1,h2⟩=>by subst h1;have:=Bi.len h2;simp[Ty.len,this];omega
 |.con _ k r,_,⟨a,c,xs',h1,h2,h3⟩=>by subst h1;have:=Bi.len h3;simp[Ty.len,this];omega
theorem Sx(a b c vs:List Value)(h:b.length=vs.length):Ej (a++(b++c)) a.length vs=(a++vs)++c:=by
 rw[My vs _ _ (by simp;omega)];have h1:(a++(b++c)).take a.length=a:=by simp
 have h2:(a++(b++c)).drop (a.length+vs.length)=c:=by
   rw[← List.drop_drop];simp[← h]
 rw[h1,h2]
def tN(P:Program)(fid:FuncId)(m:Nat):Prop:=∀(w:World)(f:Fq)(_:Vl w f)(t:T1)(a:Option Addr)(c:Nat),t.kids.size<m→t.bnd→Ai w f t.kids a c →
 B3 P fid #[tV t a c] w (BO (α:=Option Addr×Nat) (λx=>tV t x.1 x.2) (λ_=>True) (λx=>[λw f=>Ai w f t.kids x.1 x.2]) w f)
end Go.SP
namespace Go.SP
open Go.SW Go.RowKit
theorem Zh(t:T1)(a:Option Addr)(c:Nat):∀v∈tC t a c,v.oneCell'=true:=by
 intro v hv;unfold tC at hv;simp only[List.mem_cons,List.not_mem_nil,or_false] at hv;rcases hv with rfl|rfl|rfl|rfl <;> rfl
variable {f:Fq}{b:Nat}{w:World}
theorem I3.cells:∀{k:Ty}{off:Nat},I3 w f k b off→∃xs,Bi w f k xs∧Cs w f b off xs∧∀v∈xs,v.oneCell'=true
 |.nil,_,_=>⟨[],rfl,(λj v hj=>by simp at hj),λv hv=>by cases hv⟩
 |.var n r,off,⟨⟨a,c,h1⟩,h2⟩=>by
   obtain⟨xs,h3,h4,h5⟩:=I3.cells h2;refine⟨_++xs,⟨a,c,xs,rfl,h3⟩,?_,?_⟩
   · intro j v hj
     rcases Nat.lt_or_ge j 4 with hj4|hj4
     · exact h1 j v (by rwa[List.getElem?_append_left (by simpa using hj4)] at hj)
     · rw[List.getElem?_append_right (by simpa using hj4)] at hj
       have:=h4 (j-4) v (by simpa using hj);rwa[show off+4+(j-4)=off+j by omega] at this
   · intro v hv
     rcases List.mem_append.1 hv with hv|hv
     · exact Zh (.var n) a c v hv
     · exact h5 v hv
 |.con tx k r,off,⟨⟨a,c,h1,hk⟩,h2⟩=>by
   obtain⟨xs,h3,h4,h5⟩:=I3.cells h2;refine⟨_++xs,⟨a,c,xs,rfl,hk,h3⟩,?_,?_⟩
   · intro j v hj
     rcases Nat.lt_or_ge j 4 with hj4|hj4
     · exact h1 j v (by rwa[List.getElem?_append_left (by simpa using hj4)] at hj)
     · rw[List.getElem?_append_right (by simpa using hj4)] at hj
       have:=h4 (j-4) v (by simpa using hj);rwa[show off+4+(j-4)=off+j by omega] at this
   · intro v hv
     rcases List.mem_append.1 hv with hv|hv
     · exact Zh (.con tx k) a c v hv
     · exact h5 v hv
end Go.SP
namespace Go.SP
open Go.SW Go.RowKit
variable {X:Cx}{f:Fq}{Fs:List (World→Fq→Prop)}{B:List FB}{H:List HB}{xs:List Value}{m:Nat}{a:Option Addr}{e:TypeId}{w:World}
theorem Nl{R:List RB}{c:Nat}{k:Ty}(hM:AO X w f H (⟨e,4,a,c,m,xs⟩::R) B Fs)(hL:Bi w f k xs)(h0:0<k.len):∃f',AO X w f' H R B Fs∧Ai w f' k a c:=by
 have hr:=hM.row _ (.head _);have hlen:=Bi.len hL;have hm:m=k.len:=by have:=hr.1;simp only at this;omega
 rcases hr.2 with ⟨_,_,h⟩|⟨b,l,ha,_,hmc,_⟩
 · simp only at h;omega
 · simp only at ha hmc
   subst ha;obtain⟨f',hM'⟩:=(hM.more (B':=[]) (F':=[λw f=>Bi w f k xs]) (λ_ h=>by cases h) (AI.mem ⟨hL,tQ⟩) (Az.mem ⟨Bi.mono,tQ⟩)).done (i:=0) rfl rfl;exact⟨f',hM'.less (List.Sublist.refl _) (List.Sublist.refl _) (λe he=>.tail _ he) (λφ h=>.tail _ h),Bi.toF (hM'.fact (i:=0) rfl) (hM'.fro _ (.head _)) oM⟩
end Go.SP
namespace Go.SP
open Go.SW Go.RowKit
variable {f:Fq}{a:Option Addr}{w:World}
theorem Ai.cells{k:Ty}{c:Nat}(h:Ai w f k a c)(h0:0<k.len):∃x:Nat×Nat×List Value,(a=some ⟨x.1,x.2.1,none⟩∧(∀v∈x.2.2,v.oneCell'=true)∧x.2.2.length=k.len*4)∧Cs w f x.1 x.2.1 x.2.2∧Bi w f k x.2.2:=by
 rcases h.2 with h|⟨b,off,h1,h2⟩
 · subst h;cases h0
 · obtain⟨xs,h3,h4,h5⟩:=I3.cells h2
   exact⟨(b,off,xs),⟨h1,h5,Bi.len h3⟩,h4,h3⟩
def FN(w:World)(f:Fq):Bn→List (Int×Value)→Prop
 | [],es=>es=[]
 |(n,t)::s,es=>∃a c es',es=(n,tV t a c)::es'∧Ai w f t.kids a c∧FN w f s es'
variable {f':Fq}{fr pr:Int}{Fs:List (World→Fq→Prop)}{mb sb:Nat}{MI:Nat→Prop}{T:TypeId}{w':World}
theorem FN.mono(hF:I4 w f w' f'):∀(s:Bn)(es:List (Int×Value)),FN w f s es→FN w' f' s es
 | [],_,h=>h
 |(_,_)::s,_,⟨a,c,es',h1,h2,h3⟩=>⟨a,c,es',h1,Ai.mono _ _ _ _ h2 hF,FN.mono hF s es' h3⟩
def I7:Bn→Prop
 | []=>True
 |(n,t)::s=>AW s n=none∧(∀m,t=.var m→m≠n∧AW s m=none)∧t.bnd∧I7 s
def QR:Bn→Prop
 | []=>True
 |(n,t)::s=>AW s n=none∧(∀m,t=.var m→m≠n∧AW s m=none)∧QR s
theorem I7.v:∀{s:Bn},I7 s→QR s
 | [],_=>trivial
 |(_,_)::_,h=>⟨h.1,h.2.1,I7.v h.2.2.2⟩
theorem FN.look:∀{s:Bn}{es:List (Int×Value)},FN w f s es→∀n,(AW s n=none→Fp es n=none)∧∀t,AW s n=some t→∃a c,Fp es n=some (tV t a c)∧Ai w f t.kids a c
 | [],es,h,n=>by
   have h:es=[]:=h;subst h;exact⟨λ_=>rfl,λt h=>by cases h⟩
 |(k,t)::s,es,⟨a,c,es',h1,h2,h3⟩,n=>by
   subst h1;have ih:=FN.look h3 n;simp only[AW,Fp]
   by_cases hk:k=n
   · subst hk
     refine⟨λh=>by simp at h,λt' h=>?_⟩;simp at h;subst h;exact⟨a,c,by simp,h2⟩
   · have e1:(k==n)=false:=by simpa using hk
     have e2:(n==k)=false:=by simpa using λe=>hk e.symm
     rw[e1,e2];simpa using ih
theorem FN.dis:∀{s:Bn}{es:List (Int×Value)},FN w f s es→I7 s→Kw es
 | [],es,h,_=>by have h:es=[]:=h;subst h;trivial
 |(k,t)::s,es,⟨a,c,es',h1,h2,h3⟩,hw=>by
   subst h1;exact⟨(FN.look h3 k).1 hw.1,FN.dis h3 hw.2.2.2⟩
def BB(T:TypeId)(sb mb:Nat)(s:Bn)(fr pr:Int)(w:World)(f:Fq):Prop:=AM w sb [.map (some mb),.int .i64 fr,.int .i64 pr] T∧∃es,Ch EO w mb es∧FN w f s es
theorem BB.stab{s:Bn}(h1:MI sb)(h2:MI mb):Gg MI (BB T sb mb s fr pr):=λ_ _ _ _ ⟨hb,es,hm,hs⟩ hF h=>⟨(h sb h1).trans hb,es,hm.heap (h mb h2),FN.mono hF s es hs⟩
abbrev Me(sb mb:Nat):Nat→Prop:=λb=>b=sb∨b=mb
abbrev XS(T:TypeId)(sb mb:Nat)(s:Bn)(fr pr:Int)(w:World)(f:Fq):Cx:=⟨Me sb mb,Me sb mb,BB T sb mb s fr pr,w,f⟩
theorem gG{s:Bn}(hv:Vl w f)(hS:BB T sb mb s fr pr w f)(hf:f sb=0∧f mb=0)(hF:AI Fs w f)(hm:Az Fs):AO (XS T sb mb s fr pr w f) w f [] [] [] Fs where
 stp:=Mc.refl _ _
 old _ _:=rfl
 val:=hv
 ent:=I4.refl _ _
 res:=hS
 stab:=BB.stab (.inl rfl) (.inr rfl)
 mi b hb:=by
   rcases hb with rfl|rfl
   · exact⟨hS.1.lt,hf.1,.inr (.inl rfl)⟩
   · obtain⟨_,es,h,_⟩:=hS;exact⟨h.lt,hf.2,.inr (.inr rfl)⟩
 blk _ h:=by cases h
 row _ h:=by cases h
 nd:=List.nodup_nil
 own _ h:=by cases h
 hnw _ h:=by cases h
 rnw _ h:=by cases h
 fro _ h:=by cases h
 fac:=hF.mem
 mono:=hm.mem
def Jh:Bn→Int→Option Nat
 | [],_=>none
 |(k,_)::s,n=>if k==n then some 0 else (Jh s n).map (· + 1)
def Em(s:Bn):T1→Nat
 |.con _ _=>0
 |.var n=>match Jh s n with
   |none=>0
   |some p=>p+1
theorem S0{n:Int}:∀{s:Bn},AW s n=none↔Jh s n=none
 | []=>by simp[AW,Jh]
 |(k,t)::s=>by
   have:=S0 (n:=n) (s:=s);simp only[AW,Jh]
   split <;> simp[this]
theorem Ix{n:Int}{t:T1}:∀{s:Bn},QR s→AW s n=some t→∃p,Jh s n=some p∧Em s t≤p
 | [],_,h=>by cases h
 |(k,t0)::s,hw,h=>by
   simp only[AW] at h
   split at h
   · rename_i hk
     cases h
     have e:k=n:=by simpa using hk
     subst e;refine⟨0,by simp[Jh],?_⟩
     cases t with
     |con _ _=>simp[Em]
     |var m =>
       obtain⟨h1,h2⟩:=hw.2.1 m rfl;have e1:(k==m)=false:=by simpa using λe=>h1 e.symm
       simp[Em,Jh,e1,S0.1 h2]
   · rename_i hk
     obtain⟨p,h1,h2⟩:=Ix hw.2.2 h;have e1:(k==n)=false:=by simpa using hk
     refine⟨p+1,by simp[Jh,e1,h1],?_⟩
     cases t with
     |con _ _=>simp[Em]
     |var m =>
       have hv:∀s:Bn,Em s (.var m)=(match Jh s m with|none=>0|some p=>p+1):=λ_=>rfl;rw[hv] at h2 ⊢;simp only[Jh]
       cases hkm:(k==m) with
       |true=>simp
       |false =>
         simp only[Bool.false_eq_true,if_false]
         cases hp:Jh s m with
         |none=>simp
         |some q =>
           rw[hp] at h2;simp only[Option.map_some] at h2 ⊢;have h3:q+1≤p:=h2;show q+1+1≤p+1;exact Nat.succ_le_succ h3
theorem Ug{n:Int}:∀{s:Bn}{p:Nat},Jh s n=some p→p<s.length
 | [],_,h=>by cases h
 |(k,t)::s,p,h=>by
   simp only[Jh] at h
   split at h
   · cases h;simp
   · cases hp:Jh s n with
     |none=>rw[hp] at h;cases h
     |some q=>rw[hp] at h;cases h;have:=Ug hp;simp;exact this
theorem VV(s:Bn)(t:T1):Em s t≤s.length:=by
 cases t with
 |con _ _=>simp[Em]
 |var n =>
   have hv:Em s (.var n)=(match Jh s n with|none=>0|some p=>p+1):=rfl;rw[hv]
   cases hp:Jh s n with
   |none=>simp
   |some p=>exact Ug hp
theorem K3{s:Bn}(hw:QR s):∀(k j:Nat)(t:T1),Em s t≤k→Em s t≤j→Hw s k t=Hw s j t
 |k,j,.con tx ks,_,_=>by cases k <;> cases j <;> rfl
 |k,j,.var n,hk,hj=>by
   cases hl:AW s n with
   |none =>
     have:∀k,Hw s k (.var n)=.var n:=λk=>by cases k <;> simp[Hw,hl]
     rw[this,this]
   |some t =>
     obtain⟨p,h1,h2⟩:=Ix hw hl;have hr:Em s (.var n)=p+1:=by simp[Em,h1]
     rw[hr] at hk hj
     cases k with
     |zero=>omega
     |succ k =>
       cases j with
       |zero=>omega
       |succ j =>
         simp only[Hw,hl];exact K3 hw k j t oM oM
theorem Dg{s:Bn}{n:Int}(h:AW s n=none):Ah s (.var n)=.var n:=by simp[Ah,Hw,h]
theorem F2(s:Bn)(tx:lU)(k:Ty):Ah s (.con tx k)=.con tx k:=rfl
theorem Hq{s:Bn}{n:Int}{t:T1}(hw:QR s)(h:AW s n=some t):Ah s (.var n)=Ah s t:=by
 obtain⟨p,h1,h2⟩:=Ix hw h;have:=Ug h1;unfold Ah
 conv=>lhs;rw[Hw];simp only[h]
 exact K3 hw _ _ t oM (by have:=VV s t;omega)
theorem IK{s:Bn}{n:Int}{t:T1}(hw:QR s)(h:AW s n=some t):Em s t<Em s (.var n):=by
 obtain⟨p,h1,h2⟩:=Ix hw h;have hv:Em s (.var n)=p+1:=by simp[Em,h1]
 rw[hv];omega
theorem TC{s:Bn}{n:Int}{t:T1}(hw:I7 s)(h:AW s n=some t):Ah s (.var n)=Ah s t:=Hq hw.v h
theorem gJ{s:Bn}{n:Int}{t:T1}(hw:I7 s)(h:AW s n=some t):Em s t<Em s (.var n):=IK hw.v h
theorem MJ{n:Int}{t:T1}:∀{s:Bn},I7 s→AW s n=some t→t.bnd
 | [],_,h=>by cases h
 |(k,t0)::s,hw,h=>by
   simp only[AW] at h
   split at h
   · cases h;exact hw.2.2.1
   · exact MJ hw.2.2.2 h
theorem Eg{t:T1}(h:(t.op==0)=true):∃n,t=.var n:=by
 cases t with
 |var n=>exact⟨n,rfl⟩
 |con _ _=>cases h
theorem Fu{t:T1}(h:(t.op==0)=false):∃tx k,t=.con tx k:=by
 cases t with
 |var n=>cases h
 |con tx k=>exact⟨tx,k,rfl⟩
end Go.SP
namespace Go.SW
open Go.RowKit
section
variable{P:Program}{σ:Bj}{w:World}{ty:TypeId}
variable {caps:List Operand}{vs:List Value}
theorem UG{f:FuncId}{g:Operand}{args:List Operand}{caps:List Value}{ts:Array TypeId}(he:BJ P f)(hg:ev σ g=some (.func (.func f) #[] caps.toArray))(ha:Iz σ args=some vs) :
   Enters P σ (.call {callee:=.value g,args:=args.toArray,argTypes:=ts}) ty w f (vs++caps).toArray:=λρ _ _ _ _ hρ=>by
 have h:=EB hρ ha;have e:=he (vs++caps).toArray w;simp[execOp,resolve,hρ _ _ hg,Deferred.ofValue,invoke,h];simpa using e
theorem Qt{f:FuncId}(ha:Iz σ caps=some vs):AL P σ (.makeFunc (.func f) #[] caps.toArray) ty w (.func (.func f) #[] vs.toArray) w:=λρ _ _ _ _ hρ=>by
 have h:=EB hρ ha;simp[execOp,Instr.makeFunc,h]
end
end Go.SW
namespace Go.SP
open Go.SW Go.RowKit
def Bx(b:Bn):Nat→Ty→Option Nat
 |k,.nil=>some k
 |0,.var _ _=>none
 |0,.con _ _ _=>none
 |k+1,.var n r=>match Ah b (.var n) with
   |.var _=>Bx b k r
   |.con _ ks=>Bx b k (ks.app r)
 |k+1,.con _ ks r=>Bx b k (ks.app r)
theorem Dp(b:Bn):∀(k:Nat)(t:Ty),BG b k t=(Bx b k t).isSome
 |k,.nil=>by cases k <;> rfl
 |0,.var _ _=>rfl
 |0,.con _ _ _=>rfl
 |k+1,.var n r=>by
   simp only[BG,Bx]
   cases Ah b (.var n) with
   |var _=>exact Dp b k r
   |con _ ks=>exact Dp b k _
 |k+1,.con _ ks r=>by simp only[BG,Bx];exact Dp b k _
theorem Hp(b:Bn):∀(k:Nat)(x y:Ty),Bx b k (x.app y)=(Bx b k x).bind λj=>Bx b j y
 |k,.nil,y=>by cases k <;> rfl
 |0,.var _ _,y=>rfl
 |0,.con _ _ _,y=>rfl
 |k+1,.var n r,y=>by
   simp only[Ty.app,Bx]
   cases Ah b (.var n) with
   |var _=>exact Hp b k r y
   |con _ ks =>
     simp only;rw[← Ty.app_assoc];exact Hp b k _ y
 |k+1,.con _ ks r,y=>by
   simp only[Ty.app,Bx];rw[← Ty.app_assoc];exact Hp b k _ y
theorem Eh(b:Bn):∀(k:Nat)(x:Ty)(j:Nat),Bx b k x=some j→j≤k
 |k,.nil,j,h=>by cases k <;> (cases h;exact Nat.le_refl _)
 |0,.var _ _,_,h=>by cases h
 |0,.con _ _ _,_,h=>by cases h
 |k+1,.var n r,j,h=>by
   simp only[Bx] at h
   split at h
   · have:=Eh b k _ j h;omega
   · have:=Eh b k _ j h;omega
 |k+1,.con _ ks r,j,h=>by
   simp only[Bx] at h;have:=Eh b k _ j h;omega
theorem IM(b:Bn)(k:Nat)(t:T1)(r:Ty):Bx b k (t.cons r)=(Bx b k t.one).bind λj=>Bx b j r:=by rw[← T1.one_app,Hp]
theorem Js(b:Bn)(k:Nat)(t:T1):Bx b (k+1) t.one=Bx b k (Ah b t).kids:=by
 cases t with
 |var n =>
   simp only[T1.one,T1.cons,Bx]
   cases Ah b (.var n) with
   |var _=>cases k <;> rfl
   |con _ ks=>simp only[Ty.app_nil];rfl
 |con tx ks =>
   simp only[T1.one,T1.cons,Bx,F2,Ty.app_nil];rfl
theorem Kz(b:Bn)(t:T1):Bx b 0 t.one=none:=by cases t <;> rfl
theorem OU{s:Bn}(hw:I7 s):∀(k:Nat)(t:T1),t.bnd→(Hw s k t).bnd
 |0,t,h=>h
 |k+1,.con _ _,h=>h
 |k+1,.var n,h=>by
   simp only[Hw]
   split
   · exact h
   · rename_i t' hl;exact OU hw k t' (MJ hw hl)
theorem Cw{s:Bn}(hw:I7 s){t:T1}(h:t.bnd):(Ah s t).bnd:=OU hw _ t h
end Go.SP
namespace Go.SP
open Go.SW Go.RowKit
variable {f f':Fq}{fr pr:Int}{Fs:List (World→Fq→Prop)}{l:List Value}{mb nb sb:Nat}{M MI:Nat→Prop}{T:TypeId}{w':World}
theorem BB.keep{s:Bn}{w:World}(h:BB T sb mb s fr pr w f)(hE:CD M w f w' f')(hF:I4 w f w' f')(h1:¬M sb)(h2:¬M mb):BB T sb mb s fr pr w' f':=by
 obtain⟨hb,es,hm,hs⟩:=h;exact⟨(hE.stp.block sb hb.lt h1).trans hb,es,hm.heap (hE.stp.block mb hm.lt h2),FN.mono hF s es hs⟩
theorem sS{w:World}(hv:Vl w f)(hb:AM w nb l T)(hf:f nb=0)(hF:AI Fs w f)(hm:Az Fs):AO ⟨λb=>b=nb,λ_=>False,λ_ _=>True,w,f⟩ w f [⟨nb,l,T,false⟩] [] [] Fs where
 stp:=Mc.refl _ _
 old _ _:=rfl
 val:=hv
 ent:=I4.refl _ _
 res:=trivial
 stab _ _ _ _ _ _ _:=trivial
 mi _ h:=h.elim
 blk e h:=by
   rcases List.mem_cons.1 h with rfl|h
   · exact hb
   · cases h
 row _ h:=by cases h
 nd:=by simp[CM]
 own b h:=by
   have:b=nb:=by simpa[CM] using h
   subst this;exact⟨hf,.inr rfl,λh=>h⟩
 hnw e h hn:=by
   rcases List.mem_cons.1 h with rfl|h
   · cases hn
   · cases h
 rnw _ h:=by cases h
 fro _ h:=by cases h
 fac:=hF.mem
 mono:=hm.mem
theorem YX{I:World→Fq→Prop}{w:World}(hv:Vl w f)(hI:I w f)(hst:Gg M I)(hm:∀b,M b→b<w.heap.size∧f b=0)(hF:AI Fs w f)(hmo:Az Fs):AO ⟨M,M,I,w,f⟩ w f [] [] [] Fs where
 stp:=Mc.refl _ _
 old _ _:=rfl
 val:=hv
 ent:=I4.refl _ _
 res:=hI
 stab:=hst
 mi b h:=⟨(hm b h).1,(hm b h).2,.inr h⟩
 blk _ h:=by cases h
 row _ h:=by cases h
 nd:=List.nodup_nil
 own _ h:=by cases h
 hnw _ h:=by cases h
 rnw _ h:=by cases h
 fro _ h:=by cases h
 fac:=hF.mem
 mono:=hmo.mem
def JJ(nb:Nat)(n:Int)(w:World)(_:Fq):Prop:=AM w nb [.int .i64 n] 3
theorem JJ.stab{n:Int}(h:MI nb):Gg MI (JJ nb n):=λ_ _ _ _ hb _ hm=>(hm nb h).trans hb
def sV(P:Program)(fid:FuncId)(T:TypeId)(g:FuncId)(k:Nat):Prop:=∀(w:World)(f:Fq)(_:Vl w f)(sb mb:Nat)(s:Bn)(fr pr:Int)(nb:Nat),BB T sb mb s fr pr w f→I7 s→sb≠nb→mb≠nb→f nb=0→JJ nb (1000-(k:Int)) w f→k≤1000→∀(t:T1)(a:Option Addr)(c:Nat),t.bnd→Ai w f t.kids a c →
 B3 P fid #[.pointer (some ⟨sb,0,none⟩),tV t a c,.func (.func g) #[] #[.pointer (some ⟨nb,0,none⟩)]] w (EP (α:=Int) (λ_=>.bool (Bx s k t.one).isSome) (λx=>∀j,Bx s k t.one=some j→x=1000-(j:Int)) (λb=>b=nb) (λx=>JJ nb x) (λ_=>[]) w f)
end Go.SP
namespace Go.SW
open Go.RowKit
variable {Q:AY}{nw:Bool}{X:Cx}{f:Fq}{Fs:List (World→Fq→Prop)}{ds:List Deferred}{B:List FB}{fs:List Fr}{H H':List HB}{l:List Value}{b i n:Nat}{T:TypeId}
theorem AO.give{w:World}{R:List RB}(h:AO X w f H R B Fs)(hg:H3 H i=some ⟨b,l,T,nw⟩)(hs:K9 H i=some H') :
   AO {X with MI:=λk=>X.MI k∨k=b,I:=λw f=>X.I w f∧AM w b l T} w f H' R B Fs:=by
 have hblk:AM w b l T:=h.blk _ (BV hg);have hown:=h.own b (List.mem_append.2 (.inl (List.mem_map.2 ⟨_,BV hg,rfl⟩)));have hsub:=KU hs;have hnd:(H.map HB.b++IV R).Nodup:=h.nd;have hbR:b∉CM H' R:=KY (L:=IV R) hg hs hnd;have hso:(CM H' R).Sublist (CM H R):=List.Sublist.append (hsub.map _) (List.Sublist.refl _)
 exact {h with
         res:=⟨h.res,hblk⟩,
         stab:=λw1 f1 w2 f2 hI hF hb=>⟨h.stab w1 f1 w2 f2 hI.1 hF λk hm=>hb k (.inl hm),(hb b (.inr rfl)).trans hI.2⟩,
         mi:=λk hk=>by
           rcases hk with hk|rfl
           · exact h.mi k hk
           · exact⟨hblk.lt,hown.1,hown.2.1⟩,
         blk:=λe he=>h.blk e (hsub.subset he),nd:=hso.nodup h.nd,
         own:=λk hk=>⟨(h.own k (hso.subset hk)).1,(h.own k (hso.subset hk)).2.1,λhm=>by
           rcases hm with hm|rfl
           · exact (h.own k (hso.subset hk)).2.2 hm
           · exact hbR hk⟩,
         hnw:=λe he=>h.hnw e (hsub.subset he)}
theorem rC{P:Program}{R:List RB}{σ:Bj}{k:Li}(i:Nat)(hg:H3 H i=some ⟨b,l,T,nw⟩)(hs:K9 H i=some H')
   (h:A5 P n Q ds {X with MI:=λk=>X.MI k∨k=b,I:=λw f=>X.I w f∧AM w b l T} R B Fs k fs σ H'):A5 P n Q ds X R B Fs k fs σ H:=λw f hM=>h w f (hM.give hg hs)
end Go.SW
namespace Go.SW
open Go.RowKit
variable {Q:AY}{X:Cx}{f:Fq}{Fs:List (World→Fq→Prop)}{ds:List Deferred}{B:List FB}{fs:List Fr}{H:List HB}{b n:Nat}{w':World}
theorem G9.fle{w:World}(h:G9 b w w')(hf:f b=0):I4 w f w' f:=λk=>⟨Nat.le_refl _,λo ho=>DY (h.block k (λe=>by rw[e,hf] at ho;omega)) o⟩
theorem rQ{P:Program}{R:List RB}{σ:Bj}{k:Li}{α:Type}(I2:α→World→Fq→Prop)(h1:∀w f,X.I w f→∃x,I2 x w f)(hst:∀x,Gg X.MI (I2 x))
   (h:∀x,A5 P n Q ds {X with I:=I2 x} R B Fs k fs σ H):A5 P n Q ds X R B Fs k fs σ H:=λw f hM=>by
 obtain⟨x,hx⟩:=h1 w f hM.res;exact h x w f {hM with res:=hx,stab:=hst x}
end Go.SW
namespace Go.SP
open Go.SW Go.RowKit
theorem KM{s:Bn}{x:Int}:∀(k:Nat)(a b:Ty)(j:Nat),Bx s k a=some j→Cv s x k (a.app b)=(Cv s x k a&&Cv s x j b)
 |k,.nil,b,j,h=>by
   have e:j=k:=by cases k <;> (cases h;rfl)
   subst e
   cases j <;> simp[Ty.app,Cv]
 |0,.var _ _,_,_,h=>by cases h
 |0,.con _ _ _,_,_,h=>by cases h
 |k+1,.var n r,b,j,h=>by
   simp only[Ty.app,Bx,Cv] at h ⊢
   cases hh:Ah s (.var n) with
   |var m=>rw[hh] at h;simp only at h ⊢;rw[KM k r b j h,Bool.and_assoc]
   |con tx ks=>rw[hh] at h;simp only at h ⊢;rw[← Ty.app_assoc];exact KM k _ b j h
 |k+1,.con tx ks r,b,j,h=>by
   simp only[Ty.app,Bx,Cv] at h ⊢;rw[← Ty.app_assoc];exact KM k _ b j h
variable {j:Nat}
theorem Pt{s:Bn}{x:Int}{k:Nat}{t:T1}{r:Ty}(h:Bx s k t.one=some j):Cv s x k (t.cons r)=(Cv s x k t.one&&Cv s x j r):=by rw[← T1.one_app];exact KM k t.one r j h
def Tu(x:Int):T1→Bool
 |.var m=>!(m==x)
 |.con _ _=>true
theorem HQ(s:Bn)(x:Int)(k:Nat)(t:T1):Cv s x (k+1) t.one=(Tu x (Ah s t)&&Cv s x k (Ah s t).kids):=by
 cases t with
 |var n =>
   simp only[T1.one,T1.cons,Cv]
   cases Ah s (.var n) with
   |var m=>cases k <;> simp[Tu,T1.kids,Cv]
   |con tx ks=>simp[Tu,T1.kids,Ty.app_nil]
 |con tx ks=>simp[T1.one,T1.cons,Cv,F2,Tu,T1.kids,Ty.app_nil]
def rV(P:Program)(fid:FuncId)(T:TypeId)(g:FuncId)(k:Nat):Prop:=∀(w:World)(f:Fq)(_:Vl w f)(sb mb:Nat)(s:Bn)(fr pr:Int)(xb:Nat)(x:Int),BB T sb mb s fr pr w f→I7 s→AM w xb [.int .i64 x] 3→∀(t:T1)(a:Option Addr)(c j:Nat),t.bnd→Ai w f t.kids a c→Bx s k t.one=some j →
 B3 P fid #[.pointer (some ⟨sb,0,none⟩),tV t a c,.func (.func g) #[] #[.pointer (some ⟨xb,0,none⟩)]] w (BO (α:=Unit) (λ_=>.bool (Cv s x k t.one)) (λ_=>True) (λ_=>[]) w f)
def Jk(s:Bn)(n:Int)(t:T1):Int×Bn:=match Ca s n t with
 |.error e=>(e,s)
 |.ok s'=>(0,s')
end Go.SP
namespace Go.SP
open Go.SW Go.RowKit
def cO(T:TypeId)(sb mb:Nat)(s:Bn)(fr pr:Int)(es:List (Int×Value))(w:World)(f:Fq):Prop:=AM w sb [.map (some mb),.int .i64 fr,.int .i64 pr] T∧Ch EO w mb es∧FN w f s es
variable {fr pr:Int}{es:List (Int×Value)}{mb sb:Nat}{MI:Nat→Prop}{T:TypeId}
theorem cO.stab{s:Bn}(h1:MI sb)(h2:MI mb):Gg MI (cO T sb mb s fr pr es):=λ_ _ _ _ ⟨hb,hm,hs⟩ hF h=>⟨(h sb h1).trans hb,hm.heap (h mb h2),FN.mono hF s es hs⟩
theorem WY{s:Bn}{n:Int}{t:T1}(h:El s t=false):Jk s n t=(4,s):=by simp[Jk,Ca,h]
theorem Yf{s:Bn}{n:Int}{t:T1}(h:El s t=true)(h2:Cv s n 1000 t.one=false):Jk s n t=(11,s):=by simp[Jk,Ca,h,h2]
theorem ZV{s:Bn}{n:Int}{t:T1}(h:El s t=true)(h2:Cv s n 1000 t.one=true):Jk s n t=(0,(n,t)::s):=by simp[Jk,Ca,h,h2]
end Go.SP
namespace Go.SW
open Go.RowKit
variable {Q:AY}{af:Array Edge}{ag:Bool}{X:Cx}{Fs:List (World→Fq→Prop)}{ds:List Deferred}{B:List FB}{fs:List Fr}{H:List HB}{l l' vs:List Value}{b n off:Nat}{x:Operand}{g:Option (Nat×Bool)}{pos:String}{T:TypeId}{I':World→Fq→Prop}
theorem bZ{P:Program}{R:List RB}{σ:Bj}{all r:List Oper}{ty T':TypeId}{y:Operand}{k:Nat}{v:Value}
   (hg:gd all σ g=some true) (hx:ev σ x=some (.pointer (some ⟨b,off,none⟩))) (hy:ev σ y=some v) (hv:H0 v=some vs) (hT:AS P T=some (ag,k)) (hk:Nat.beq vs.length k=true) (h1:Md vs=true) (hp:O0 l off vs=some l') (hmi:X.MI b)
   (hb:∀w f,X.I w f→AM w b l T') (hI:∀w f w',X.I w f→AO X w f H R B Fs→G9 b w w'→AM w' b l' T'→I' w' f) (hst:Gg X.MI I')
   (h:A5 P n Q ds {X with I:=I' } R B Fs (.ops all r) fs σ H):A5 P n Q ds X R B Fs (.ops all (⟨none,.store T x y,ty,pos,af,g⟩::r)) fs σ H:=λw f hM =>
 B2 hg (A1 hx hy hv hT hk (hb w f hM.res) h1 hp λw' hb' hC=>h w' f (hM.chgI hmi hC (hI w f w' hM.res hM hC hb') hst))
def rD(P:Program)(n:Nat){α:Type}(p:α→Prop)(s:α→Bj)(X:α→Cx)(H:α→List HB)(R:α→List RB)(B:α→List FB)(Fs:α→List (World→Fq→Prop))(ds:List Deferred)(Q:AY):AY :=
 {q:=λe σ ds' w=>match e with
     |.normal=>∃x,p x∧ds'=ds∧Le (s x) σ∧∃f,AO (X x) w f (H x) (R x) (B x) (Fs x)
     |e=>Q.q e σ ds' w,
   p:=Q.p}
section
variable{P:Program}{n:Nat}{Q:AY}{ds:List Deferred}{X:Cx}{R:List RB}{B:List FB}{Fs:List (World→Fq→Prop)}{fs:List Fr}{σ:Bj}{H:List HB}
theorem X6{c:Code}{α:Type}(p:α→Prop)(s:α→Bj)(X':α→Cx)(H':α→List HB)(R':α→List RB)(B':α→List FB)(F':α→List (World→Fq→Prop))(h1:A5 P n (rD P n p s X' H' R' B' F' ds (LK P n Q fs)) ds X R B Fs (.code c) [] σ H)
   (h2:∀x,p x→A5 P n Q ds (X' x) (R' x) (B' x) (F' x) (.out .normal) fs (s x) (H' x)):A5 P n Q ds X R B Fs (.code c) fs σ H:=λw f hM a ha=>by
 refine wp_mono (h1 w f hM a ha) λe a' w' he=>?_
 cases e with
 |normal =>
   obtain⟨σ',ds',hs,x,hp,rfl,hl,f',hm⟩:=he;exact⟨s x,_,hs.le hl,h2 x hp w' f' hm⟩
 |panic c=>exact he
 |outgrown=>exact he
 |ret=>exact he
 |exit i=>exact he
 |goto i=>exact he
theorem Lk{α:Type}{p:α→Prop}{s:α→Bj}{X':α→Cx}{H':α→List HB}{R':α→List RB}{B':α→List FB}{F':α→List (World→Fq→Prop)}(x:α)(hp:p x)(hl:Le (s x) σ)(hM:∀w f,AO X w f H R B Fs→∃f,AO (X' x) w f (H' x) (R' x) (B' x) (F' x)):A5 P n (rD P n p s X' H' R' B' F' ds Q) ds X R B Fs (.out .normal) [] σ H :=
 λw f hm=>⟨x,hp,rfl,hl,hM w f hm⟩
end
end Go.SW
namespace Go.SP
open Go.SW Go.RowKit
def Kv(f:Bn→Ty→Ty→Except Int (Nat×Bn))(b:Bn)(x y:T1)(r q:Ty):Except Int (Nat×Bn) :=
 match x,y with
 |.var n,.var m=>if n==m then f b r q else (match Ca b n (.var m) with|.error e=>.error e|.ok b'=>f b' r q)
 |.var n,.con ty kb=>(match Ca b n (.con ty kb) with|.error e=>.error e|.ok b'=>f b' r q)
 |.con tx ka,.var m=>(match Ca b m (.con tx ka) with|.error e=>.error e|.ok b'=>f b' r q)
 |.con tx ka,.con ty kb=>if !(tx==ty)||(ka.len:Int) != kb.len then .error 11 else f b (ka.app r) (kb.app q)
def GA:Nat→Bn→Ty→Ty→Except Int (Nat×Bn)
 |k,b,.nil,_=>.ok (k,b)
 |0,_,.var _ _,_=>.error 4
 |0,_,.con _ _ _,_=>.error 4
 |k+1,b,.var n r,y=>Kv (GA k) b (Ah b (.var n)) (Ah b y.hd) r y.tl
 |k+1,b,.con tx ka r,y=>Kv (GA k) b (.con tx ka) (Ah b y.hd) r y.tl
def rA{α β:Type}(g:α→β):Except Int α→Except Int β
 |.error e=>.error e
 |.ok x=>.ok (g x)
def Th{α β:Type}(g:α→Except Int β):Except Int α→Except Int β
 |.error e=>.error e
 |.ok x=>g x
theorem QY:∀(k:Nat)(b:Bn)(x y:Ty),Gb k b x y=rA (·.2) (GA k b x y):=by
 intro k
 induction k with
 |zero=>intro b x y;cases x <;> rfl
 |succ k ih =>
   have h1:∀b x y r q,ED (Gb k) b x y r q=rA (·.2) (Kv (GA k) b x y r q):=by
     intro b x y r q
     cases x with
     |var n =>
       cases y with
       |var m =>
         simp only[ED,Kv]
         cases (n==m) with
         |true=>simp only[if_true];exact ih _ _ _
         |false =>
           simp only[Bool.false_eq_true,if_false]
           cases Ca b n (.var m) with
           |error e=>rfl
           |ok b'=>exact ih _ _ _
       |con ty kb =>
         simp only[ED,Kv]
         cases Ca b n (.con ty kb) with
         |error e=>rfl
         |ok b'=>exact ih _ _ _
     |con tx ka =>
       cases y with
       |var m =>
         simp only[ED,Kv]
         cases Ca b m (.con tx ka) with
         |error e=>rfl
         |ok b'=>exact ih _ _ _
       |con ty kb =>
         simp only[ED,Kv]
         split
         · rfl
         · exact ih _ _ _
   intro b x y
   cases x with
   |nil=>rfl
   |var n r=>exact h1 _ _ _ _ _
   |con tx ka r=>exact h1 _ _ _ _ _
theorem T1.hd_cons(t:T1)(r:Ty):(t.cons r).hd=t:=by cases t <;> rfl
theorem T1.tl_cons(t:T1)(r:Ty):(t.cons r).tl=r:=by cases t <;> rfl
theorem fK(k:Nat)(b:Bn)(x:T1)(r y:Ty):GA (k+1) b (x.cons r) y=Kv (GA k) b (Ah b x) (Ah b y.hd) r y.tl:=by cases x <;> rfl
theorem nP:∀(k:Nat)(b:Bn)(x y r q:Ty),x.len=y.len→GA k b (x.app r) (y.app q)=Th (λz=>GA z.1 z.2 r q) (GA k b x y):=by
 intro k
 induction k with
 |zero =>
   intro b x y r q h
   cases x with
   |nil =>
     have:y=.nil:=Ty.len0 (by simpa[Ty.len] using h.symm);subst this;rfl
   |var n x=>rfl
   |con tx ka x=>rfl
 |succ k ih =>
   have h1:∀b u v x y r q,x.len=y.len→Kv (GA k) b u v (x.app r) (y.app q)=Th (λz=>GA z.1 z.2 r q) (Kv (GA k) b u v x y):=by
     intro b u v x y r q h
     cases u with
     |var n =>
       cases v with
       |var m =>
         simp only[Kv]
         cases (n==m) with
         |true=>simp only[if_true];exact ih _ _ _ _ _ h
         |false =>
           simp only[Bool.false_eq_true,if_false]
           cases Ca b n (.var m) with
           |error e=>rfl
           |ok b'=>exact ih _ _ _ _ _ h
       |con ty kb =>
         simp only[Kv]
         cases Ca b n (.con ty kb) with
         |error e=>rfl
         |ok b'=>exact ih _ _ _ _ _ h
     |con tx ka =>
       cases v with
       |var m =>
         simp only[Kv]
         cases Ca b m (.con tx ka) with
         |error e=>rfl
         |ok b'=>exact ih _ _ _ _ _ h
       |con ty kb =>
         simp only[Kv]
         split
         · rfl
         · rename_i hc
           have hl:ka.len=kb.len:=by
             simp only[Bool.or_eq_true,not_or,bne_iff_ne,ne_eq,Decidable.not_not] at hc;omega
           rw[← Ty.app_assoc,← Ty.app_assoc];exact ih _ _ _ _ _ (by rw[Ty.len_app,Ty.len_app,hl,h])
   intro b x y r q h
   cases x with
   |nil =>
     have:y=.nil:=Ty.len0 (by simpa[Ty.len] using h.symm);subst this;rfl
   |var n x =>
     obtain⟨u,y,rfl⟩:=Ty.cases1 y (by rw[← h];simp[Ty.len]);have e1:(u.cons y).app q=u.cons (y.app q):=by cases u <;> rfl
     rw[e1];show Kv (GA k) b (Ah b (.var n)) (Ah b (u.cons (y.app q)).hd) (x.app r) (u.cons (y.app q)).tl=Th _ (Kv (GA k) b (Ah b (.var n)) (Ah b (u.cons y).hd) x (u.cons y).tl);rw[T1.hd_cons,T1.tl_cons,T1.hd_cons,T1.tl_cons];exact h1 _ _ _ _ _ _ _ (by rw[T1.len_cons] at h;simpa[Ty.len] using h)
   |con tx ka x =>
     obtain⟨u,y,rfl⟩:=Ty.cases1 y (by rw[← h];simp[Ty.len]);have e1:(u.cons y).app q=u.cons (y.app q):=by cases u <;> rfl
     rw[e1];show Kv (GA k) b (.con tx ka) (Ah b (u.cons (y.app q)).hd) (x.app r) (u.cons (y.app q)).tl=Th _ (Kv (GA k) b (.con tx ka) (Ah b (u.cons y).hd) x (u.cons y).tl);rw[T1.hd_cons,T1.tl_cons,T1.hd_cons,T1.tl_cons];exact h1 _ _ _ _ _ _ _ (by rw[T1.len_cons] at h;simpa[Ty.len] using h)
theorem SO(k:Nat)(b:Bn)(x y:T1)(r q:Ty)(h:r.len=q.len):GA k b (x.cons r) (y.cons q)=Th (λz=>GA z.1 z.2 r q) (GA k b x.one y.one):=by
 rw[← T1.one_app,← T1.one_app];exact nP k b x.one y.one r q (by unfold T1.one;rw[T1.len_cons,T1.len_cons])
theorem Ke(k:Nat)(b:Bn)(x y:T1):GA (k+1) b x.one y.one=Kv (GA k) b (Ah b x) (Ah b y) .nil .nil:=by
 unfold T1.one;rw[fK,T1.hd_cons,T1.tl_cons]
theorem dV(b:Bn)(x y:T1):GA 0 b x.one y.one=.error 4:=by cases x <;> rfl
theorem Ng{s:Bn}(hw:QR s):∀(k:Nat)(t:T1)(n:Int),Em s t≤k→Hw s k t=.var n→AW s n=none
 |0,.con _ _,_,_,h=>by cases h
 |0,.var m,n,hr,h=>by
   cases h
   cases hl:AW s m with
   |none=>rfl
   |some t=>have:=IK hw hl;omega
 |k+1,.con _ _,_,_,h=>by cases h
 |k+1,.var m,n,hr,h=>by
   simp only[Hw] at h
   cases hl:AW s m with
   |none=>rw[hl] at h;cases h;exact hl
   |some t =>
     rw[hl] at h;exact Ng hw k t n (by have:=IK hw hl;omega) h
theorem F3{s:Bn}(hw:QR s){t:T1}{n:Int}(h:Ah s t=.var n):AW s n=none:=Ng hw _ t n (by have:=VV s t;omega) h
theorem F6{s:Bn}(hw:I7 s){t:T1}{n:Int}(h:Ah s t=.var n):AW s n=none:=F3 hw.v h
theorem Im{s:Bn}(hw:QR s)(t:T1):Ah s (Ah s t)=Ah s t:=by
 cases h:Ah s t with
 |con tx k=>exact F2 s tx k
 |var n=>exact Dg (F3 hw h)
theorem Lm{s:Bn}(hw:I7 s)(t:T1):Ah s (Ah s t)=Ah s t:=Im hw.v t
theorem PB{s s':Bn}(hw:I7 s){n:Int}{t:T1}(hn:AW s n=none)(ht:Ah s t=t)(hb:t.bnd)(h:Ca s n t=.ok s'):I7 s':=by
 unfold Ca at h
 split at h
 · split at h
   · rename_i hs hf
     cases h
     refine⟨hn,λm hm=>?_,hb,hw⟩;subst hm;refine⟨λe=>?_,F6 hw ht⟩;have:=HQ s n 999 (.var m);rw[hf,ht,e] at this;simp[Tu] at this
   · cases h
 · cases h
def iS(P:Program)(fid:FuncId)(T:TypeId)(k:Nat):Prop:=∀(w:World)(f:Fq)(_:Vl w f)(sb mb:Nat)(s:Bn)(fr:Int),BB T sb mb s fr (10000-(k:Int)) w f→(f sb=0∧f mb=0)→sb≠mb→I7 s→k≤10000→∀(t u:T1)(a:Option Addr)(c:Nat)(a2:Option Addr)(c2:Nat),t.bnd→u.bnd→Ai w f t.kids a c→Ai w f u.kids a2 c2 →
 B3 P fid #[.pointer (some ⟨sb,0,none⟩),tV t a c,tV u a2 c2] w (EP (α:=Int×Bn×Int) (λx=>.int .i64 x.1) (λx=>(∀z,GA k s t.one u.one=.ok z→x.1=0∧x.2.1=z.2∧x.2.2=10000-(z.1:Int)∧I7 z.2)∧∀e,GA k s t.one u.one=.error e→x.1=e∧e≠0) (Me sb mb) (λx=>BB T sb mb x.2.1 fr x.2.2) (λ_=>[]) w f)
theorem sM:∀(k:Nat)(b:Bn)(x y:Ty)(z:Nat×Bn),GA k b x y=.ok z→z.1≤k:=by
 intro k
 induction k with
 |zero=>intro b x y z h;cases x <;> cases h;exact Nat.le_refl _
 |succ k ih =>
   have h1:∀b u v r q z,Kv (GA k) b u v r q=.ok z→z.1≤k:=by
     intro b u v r q z h;unfold Kv at h
     repeat' split at h
     all_goals first|exact ih _ _ _ _ h|cases h
   intro b x y z h
   cases x with
   |nil=>cases h;exact Nat.le_refl _
   |var n r=>have:=h1 _ _ _ _ _ _ h;omega
   |con tx ka r=>have:=h1 _ _ _ _ _ _ h;omega
end Go.SP
namespace Go.SP
theorem P9{s:Bn}{n:Int}{t:T1}{e:Int}(h:Ca s n t=.error e):e≠0:=by
 unfold Ca at h
 split at h
 · split at h
   · cases h
   · cases h;decide
 · cases h;decide
end Go.SP
namespace Go.SP
open Go.SW Go.RowKit
theorem GI(s:Bn)(k:Nat):AH s k .nil=.nil:=by cases k <;> rfl
theorem Py{s:Bn}:∀(k:Nat)(x:Ty)(j:Nat),Bx s k x=some j→∀m,k-j≤m→AH s m x=AH s k x:=by
 intro k
 induction k using Nat.strongRecOn with
 |_ k ih =>
   intro x j h m hm
   have key:∀(k' m':Nat)(ks r:Ty),k'<k→Bx s k' (ks.app r)=some j→k'-j≤m'→AH s m' ks=AH s k' ks∧AH s m' r=AH s k' r:=by
     intro k' m' ks r hk hr hm';rw[Hp] at hr
     cases hj:Bx s k' ks with
     |none=>rw[hj] at hr;cases hr
     |some j1 =>
       rw[hj] at hr;have hr:Bx s j1 r=some j:=hr;have h1:=Eh s _ _ _ hj;have h2:=Eh s _ _ _ hr;exact⟨ih k' hk ks j1 hj m' oM,(ih j1 oM r j hr m' oM).trans (ih j1 oM r j hr k' oM).symm⟩
   cases x with
   |nil=>rw[GI,GI]
   |var n r =>
     cases k with
     |zero=>cases h
     |succ k =>
       simp only[Bx] at h
       cases hh:Ah s (.var n) with
       |var q =>
         rw[hh] at h;have h3:=Eh s _ _ _ h;obtain⟨m,rfl⟩:∃m',m=m'+1:=⟨m-1,oM⟩;simp only[AH,hh];rw[(key k m .nil r (by omega) h (by omega)).2]
       |con tx ks =>
         rw[hh] at h;have h3:=Eh s _ _ _ h;obtain⟨m,rfl⟩:∃m',m=m'+1:=⟨m-1,oM⟩;simp only[AH,hh];have:=key k m ks r oM h oM;rw[this.1,this.2]
   |con tx ks r =>
     cases k with
     |zero=>cases h
     |succ k =>
       simp only[Bx] at h;have h3:=Eh s _ _ _ h;obtain⟨m,rfl⟩:∃m',m=m'+1:=⟨m-1,oM⟩;simp only[AH];have:=key k m ks r oM h oM;rw[this.1,this.2]
theorem NI{s:Bn}(k:Nat)(t:T1):(AH s (k+1) t.one).hd=(match Ah s t with|.var m=>.var m|.con tx ks=>.con tx (AH s k ks)):=by
 cases t with
 |var n =>
   simp only[T1.one,T1.cons,AH]
   cases Ah s (.var n) <;> rfl
 |con tx ks=>rw[F2];rfl
variable {j:Nat}
theorem Ls{s:Bn}{k:Nat}{t:T1}{r:Ty}{j2:Nat}(h:Bx s k t.one=some j)(h2:Bx s j r=some j2):AH s k (t.cons r)=(AH s k t.one).hd.cons (AH s j r):=by
 cases k with
 |zero=>rw[Kz] at h;cases h
 |succ k =>
   have h3:j≤k:=by rw[Js] at h;exact Eh s _ _ _ h
   have hf:=Py j r j2 h2 k oM;rw[NI]
   cases t with
   |var n =>
     simp only[T1.cons,AH]
     cases Ah s (.var n) with
     |var m=>simp only[T1.cons];rw[hf]
     |con tx ks=>simp only[T1.cons];rw[hf]
   |con tx ks=>rw[F2];simp only[T1.cons,AH];rw[hf]
theorem WT{s:Bn}(hw:I7 s):∀(k:Nat)(x:Ty),x.bnd→(AH s k x).bnd∧(AH s k x).len≤x.len:=by
 intro k
 induction k with
 |zero=>intro x _;cases x <;> exact⟨tQ,Nat.zero_le _⟩
 |succ k ih =>
   intro x hx
   cases x with
   |nil=>exact⟨tQ,Nat.le_refl _⟩
   |var n r =>
     have h1:=Cw hw (t:=.var n) ⟨⟨Nat.zero_le _,Nat.zero_le _⟩,tQ⟩;have h2:=ih r hx;simp only[AH]
     cases hh:Ah s (.var n) with
     |var m=>exact⟨h2.1,by simp only[Ty.len];omega⟩
     |con tx ks =>
       rw[hh] at h1;have h3:=ih ks h1.2;exact⟨⟨⟨Nat.le_trans h3.2 h1.1.1,h1.1.2⟩,h3.1,h2.1⟩,by simp only[Ty.len];omega⟩
   |con tx ks r =>
     have h2:=ih r hx.2.2;have h3:=ih ks hx.2.1;exact⟨⟨⟨Nat.le_trans h3.2 hx.1.1,hx.1.2⟩,h3.1,h2.1⟩,by simp only[AH,Ty.len];omega⟩
theorem Gr{t:T1}(h:t.bnd):t.one.bnd:=T1.bnd_cons.2 ⟨h,tQ⟩
theorem Yw{x:Ty}(h:x.bnd):x.hd.bnd:=by
 cases x with
 |nil=>exact⟨⟨Nat.zero_le _,Nat.zero_le _⟩,tQ⟩
 |var n r=>exact⟨⟨Nat.zero_le _,Nat.zero_le _⟩,tQ⟩
 |con tx k r=>exact⟨h.1,h.2.1⟩
theorem Zs{s:Bn}(hw:I7 s){t:T1}(h:t.bnd)(k:Nat):(AH s k t.one).hd.bnd:=Yw (WT hw k _ (Gr h)).1
def gN(P:Program)(fid:FuncId)(T:TypeId)(k:Nat):Prop:=∀(w:World)(f:Fq)(_:Vl w f)(sb mb:Nat)(s:Bn)(fr pr:Int),BB T sb mb s fr pr w f→I7 s→∀(t:T1)(a:Option Addr)(c j:Nat),t.bnd→Ai w f t.kids a c→Bx s k t.one=some j →
 B3 P fid #[.pointer (some ⟨sb,0,none⟩),tV t a c] w (BO (α:=Option Addr×Nat) (λx=>tV (AH s k t.one).hd x.1 x.2) (λ_=>True) (λx=>[λw f=>Ai w f (AH s k t.one).hd.kids x.1 x.2]) w f)
end Go.SP
namespace Go.SP
open Go.SW Go.RowKit
variable {f:Fq}{i:Nat}{a:Option Addr}{w:World}
theorem Ai.get{t:T1}:∀{k:Ty}{b off i:Nat},I3 w f k b off→k.get i=some t→∃ka kc,Cs w f b (off+i*4) (tC t ka kc)∧Ai w f t.kids ka kc
 |k,b,off,0,h,hi=>by
   obtain⟨t2,r,rfl⟩:∃t r,k=T1.cons t r:=by
     cases k with
     |nil=>cases hi
     |var n r=>exact⟨.var n,r,rfl⟩
     |con tx q r=>exact⟨.con tx q,r,rfl⟩
   have e:t2=t:=by cases t2 <;> (cases hi;rfl)
   subst e;obtain⟨b2,off2,ka,kc,h1,h2,h3,_⟩:=BN.head (a:=some ⟨b,off,none⟩) (i:=0) (.inr ⟨b,off,rfl,by simpa using h⟩)
   cases h1
   exact⟨ka,kc,by simpa using h2,h3⟩
 |k,b,off,i+1,h,hi=>by
   obtain⟨t2,r,rfl⟩:∃t r,k=T1.cons t r:=by
     cases k with
     |nil=>cases hi
     |var n r=>exact⟨.var n,r,rfl⟩
     |con tx q r=>exact⟨.con tx q,r,rfl⟩
   have e:r.get i=some t:=by cases t2 <;> exact hi
   obtain⟨b2,off2,ka,kc,h1,_,_,h4⟩:=BN.head (a:=some ⟨b,off,none⟩) (i:=0) (.inr ⟨b,off,rfl,by simpa using h⟩);rcases h4 with rfl|⟨b3,off3,h5,h6⟩
   · cases e
   · cases h5
     obtain⟨ka,kc,h7,h8⟩:=Ai.get h6 e;exact⟨ka,kc,by rw[show off+(i+1)*4=off+(0+1)*4+i*4 by omega];exact h7,h8⟩
theorem Ai.nth{t:T1}{k:Ty}{c:Nat}(h:Ai w f k a c)(hi:k.get i=some t):∃b off ka kc,a=some ⟨b,off,none⟩∧Cs w f b (off+i*4) (tC t ka kc)∧Ai w f t.kids ka kc:=by
 rcases h.2 with rfl|⟨b,off,h1,h2⟩
 · cases hi
 · obtain⟨ka,kc,h3,h4⟩:=Ai.get h2 hi
   exact⟨b,off,ka,kc,h1,h3,h4⟩
theorem Ht{t:T1}:∀{k:Ty}{i:Nat},k.bnd→k.get i=some t→t.bnd
 |.nil,_,_,h=>by cases h
 |.var n r,0,_,h=>by cases h;exact⟨⟨Nat.zero_le _,Nat.zero_le _⟩,tQ⟩
 |.con tx q r,0,hb,h=>by cases h;exact⟨hb.1,hb.2.1⟩
 |.var n r,i+1,hb,h=>Ht (k:=r) hb h
 |.con tx q r,i+1,hb,h=>Ht (k:=r) hb.2.2 h
theorem TI{k:Ty}(h:i<k.len):∃t,k.get i=some t:=by
 induction k generalizing i with
 |nil=>simp[Ty.len] at h
 |var n r ih=>cases i with
   |zero=>exact⟨_,rfl⟩
   |succ i=>exact ih (by simp only[Ty.len] at h;omega)
 |con tx q r _ ih=>cases i with
   |zero=>exact⟨_,rfl⟩
   |succ i=>exact ih (by simp only[Ty.len] at h;omega)
theorem aR{k:Ty}(h:k.len≤i):k.get i=none:=by
 induction k generalizing i with
 |nil=>rfl
 |var n r ih=>cases i with
   |zero=>simp[Ty.len] at h
   |succ i=>exact ih (by simp only[Ty.len] at h;omega)
 |con tx q r _ ih=>cases i with
   |zero=>simp[Ty.len] at h
   |succ i=>exact ih (by simp only[Ty.len] at h;omega)
theorem Pl(l:List Int)(y:Ty)(t:T1)(r:Ty):De l y (t.cons r)=(Cg t l y).cons (De l y r):=by
 cases t with
 |var n =>
   simp only[T1.cons,De,Cg,T1.one]
   cases (CR l n).bind y.get with
   |none=>rfl
   |some t=>cases t <;> rfl
 |con tx k=>rfl
theorem HA{l:List Int}{y:Ty}(hy:y.bnd):∀x:Ty,x.bnd→(De l y x).bnd∧(De l y x).len=x.len
 |.nil,_=>⟨tQ,rfl⟩
 |.var n r,hx=>by
   have h2:=HA (l:=l) hy r hx;simp only[De]
   cases hg:(CR l n).bind y.get with
   |none=>exact⟨h2.1,by simp only[Ty.len];omega⟩
   |some t =>
     obtain⟨i,_,hi⟩:=Option.bind_eq_some_iff.1 hg;exact⟨T1.bnd_cons.2 ⟨Ht hy hi,h2.1⟩,by rw[T1.len_cons];simp only[Ty.len];omega⟩
 |.con tx k r,hx=>by
   have h2:=HA (l:=l) hy r hx.2.2;have h3:=HA (l:=l) hy k hx.2.1;exact⟨⟨⟨by rw[h3.2];exact hx.1.1,hx.1.2⟩,h3.1,h2.1⟩,by simp only[De,Ty.len];omega⟩
theorem IB{l:List Int}{y:Ty}(hy:y.bnd){t:T1}(h:t.bnd):(Cg t l y).bnd:=Yw (HA hy _ (Gr h)).1
theorem MN{l:List Int}{y:Ty}{n:Int}:Cg (.var n) l y=((CR l n).bind y.get).getD (.var n):=by
 simp only[Cg,T1.one,T1.cons,De]
 cases (CR l n).bind y.get with
 |none=>rfl
 |some t=>cases t <;> rfl
theorem aN{l:List Int}{y:Ty}{tx:lU}{k:Ty}:Cg (.con tx k) l y=.con tx (De l y k):=rfl
def jJ(P:Program)(fid:FuncId)(m:Nat):Prop:=∀(w:World)(f:Fq)(_:Vl w f)(l:List Int)(la:Option Addr)(lc:Nat)(y:Ty)(ya:Option Addr)(yc:Nat),l.length≤1000000→y.len≤200000→y.bnd→BP w f l la lc→Ai w f y ya yc→∀(t:T1)(a:Option Addr)(c:Nat),t.kids.size<m→t.bnd→Ai w f t.kids a c →
 B3 P fid #[tV t a c,.slice la l.length lc,.slice ya y.len yc] w (BO (α:=Option Addr×Nat) (λx=>tV (Cg t l y) x.1 x.2) (λ_=>True) (λx=>[λw f=>Ai w f (Cg t l y).kids x.1 x.2]) w f)
end Go.SP
namespace Go.SW
open Go.RowKit
section
variable{X:Cx}{w w':World}{f f':Fq}{H:List HB}{R:List RB}{B:List FB}{Fs:List (World→Fq→Prop)}
variable {I':World→Fq→Prop}
theorem AO.callJ{MI':Nat→Prop}(h:AO X w f H R B Fs)(he:CD X.MI w f w' f')(hI:I' w' f')(hst:Gg MI' I')(hmi:∀b,MI' b→X.MI b∨(w.heap.size≤b∧b<w'.heap.size∧f' b=0)):AO {X with MI:=MI',I:=I' } w' f' H R B Fs :=
 have h1:AO {X with I:=λ_ _=>True} w' f' H R B Fs:=h.callI he tQ (λ_ _ _ _ _ _ _=>trivial)
 {h1 with
   res:=hI,stab:=hst,
   mi:=λb hb=>by
     rcases hmi b hb with hb|⟨h2,h3,h4⟩
     · exact h1.mi b hb
     · exact⟨h3,h4,.inl (Nat.le_trans h.stp.size h2)⟩,
   own:=λb hb=>⟨(h1.own b hb).1,(h1.own b hb).2.1,λhm=>by
     rcases hmi b hm with hm|⟨h2,_,_⟩
     · exact (h1.own b hb).2.2 hm
     · exact Nat.lt_irrefl _ (Nat.lt_of_lt_of_le (h.lt hb) h2)⟩}
end
def O1{α:Type}(val:α→Value)(q:α→Prop)(M:Nat→Prop)(MI':α→Nat→Prop)(I':α→World→Fq→Prop)(F':α→List (World→Fq→Prop))(w:World)(f:Fq)(v:Value)(w':World):Prop:=∃x f',v=val x∧q x∧CD M w f w' f'∧(∀b,MI' x b→M b∨(w.heap.size≤b∧b<w'.heap.size∧f' b=0))∧I' x w' f'∧AI (F' x) w' f'
section
variable{P:Program}{n:Nat}{Q:AY}{ds:List Deferred}{X:Cx}{R:List RB}{B:List FB}{Fs:List (World→Fq→Prop)}{fs:List Fr}{σ:Bj}{H:List HB}
variable{all r:List Oper}{ty T:TypeId}{pos:String}{af:Array Edge}{g:Option (Nat×Bool)}{d:Nat}{x y:Operand}
variable {args:Array Value}{nw:Bool}{fid:FuncId}{XX:List PanicEntry→World→Prop}{news xs zl:List Value}{bytes cs:Nat}{Ts e:TypeId}
theorem cY{op:Op}{α:Type}{val:α→Value}{q:α→Prop}{MI':α→Nat→Prop}{I':α→World→Fq→Prop}{F':α→List (World→Fq→Prop)}
   (hg:gd all σ g=some true) (hd:Nat.blt d n=true) (he:∀w,Enters P σ op ty w fid args)
   (hc:∀w f,AO X w f H R B Fs→BD P fid args w (O1 val q X.MI MI' I' F' w f) XX) (hst:∀x,Gg (MI' x) (I' x)) (hm:∀x,Az (F' x))
   (hp:∀w f c w',AO X w f H R B Fs→XX c w'→Q.p c σ ds w')
   (h:∀x,q x→A5 P n Q ds {X with MI:=MI' x,I:=I' x} R B (F' x++Fs) (.ops all r) fs (AF σ d (val x)) H):A5 P n Q ds X R B Fs (.ops all (⟨some d,op,ty,pos,af,g⟩::r)) fs σ H:=λw f hM=>by
 refine B2 hg (Cf hd (he w) (hc w f hM) ?_ ?_)
 · rintro v w' ⟨x,f',rfl,hq,hE,hmi,hI,hF⟩
   exact h x hq w' f' ((hM.callJ hE hI (hst x) hmi).more (B':=[]) (λ_ h=>by cases h) hF.mem (hm x).mem)
 · intro c w' hX
   rw[LZ];exact hp w f c w' hM hX
theorem R9{size:Nat}{a:Option Addr}{c k src:Nat}{MI':Option Addr→Nat→Prop}{I':Option Addr→Nat→World→Fq→Prop}(j:Nat)(hg:gd all σ g=some true)(hd:Nat.blt d n=true)(hT:Oo P T=some (e,size,bytes,zl))(hzl:Nat.beq zl.length size=true)(hsz:Nat.blt 0 size=true)
   (hs:ev σ x=some (.slice a k c)) (hx:ev σ y=some (.slice (some ⟨src,0,none⟩) 1 cs)) (hH:H3 H j=some ⟨src,news,Ts,nw⟩) (hl:Nat.beq news.length size=true) (h1:Md news=true) (h47:(k+1)*bytes≤140737488355328) (h63:k+1≤9223372036854775807)
   (hrow:∀w f,X.I w f→Ci w e size a c k xs) (hmi:∀b,rb a=some b→X.MI b) (hMI:∀a' b,MI' a' b→X.MI b∨rb a'=some b) (hI:∀w f w' a' c',X.I w f→AO X w f H R B Fs→Ci w' e size a' c' (k+1) (xs++news)→Gm a w a' w'→I' a' c' w' f) (hst:∀a' c',Gg (MI' a') (I' a' c'))
   (h:∀a' c',A5 P n Q ds {X with MI:=MI' a',I:=I' a' c' } R B Fs (.ops all r) fs (AF σ d (.slice a' (k+1) c')) H) :
   A5 P n Q ds X R B Fs (.ops all (⟨some d,.call {callee:=.builtin .append,args:=#[x,y],argTypes:=#[T,T]},ty,pos,af,g⟩::r)) fs σ H:=λw f hM =>
 B2 hg (Ba hd hT hzl hsz hs hx (hrow w f hM.res) (hM.blk _ (BV hH)) hl h1 h47 h63 λa' c' w' hr hG=>h a' c' w' f (hM.callJ ⟨⟨hG.os,hG.tape,hG.output,hG.size,λb hb hm=>hG.block b hb λe=>hm (hmi b e.symm)⟩,λ_ _=>rfl,λb hb=>hM.val b (Nat.le_trans hG.size hb)⟩ (hI w f w' a' c' hM.res hM hr hG) (hst a' c') λb hb=>by
   rcases hMI a' b hb with hb|hb
   · exact .inl hb
   · rcases hG.own with ho|ho
     · exact .inl (hmi b (ho.symm.trans hb))
     · have e:b=w.heap.size:=Option.some.inj (hb.symm.trans ho)
       subst e;exact .inr ⟨Nat.le_refl _,hr.lt hb,hM.val _ (Nat.le_refl _)⟩))
end
variable {b:Nat}{M:Nat→Prop}
theorem CD.done{w w':World}{f f':Fq}(h:CD M w f w' f')(hb:w.heap.size≤b)(hl:b<w'.heap.size)(n:Nat):CD M w f w' (λk=>if k=b then n else f' k) :=
 ⟨h.stp,λk hk=>by show (if k=b then n else f' k)=f k;rw[if_neg (by omega)];exact h.old k hk,λk hk=>by show (if k=b then n else f' k)=0;rw[if_neg (by omega)];exact h.val k hk⟩
end Go.SW
namespace Go.SP
open Go.SW Go.RowKit
def Hr(l:List Int):List (Int×Value):=l.reverse.map λn=>(n,.bool true)
theorem Qv(n:Int):∀l:List Int,Fp (l.map λn=>(n,Value.bool true)) n=if l.contains n then some (.bool true) else none
 | []=>rfl
 |k::l=>by
   have:=Qv n l;simp only[List.map,Fp,List.contains_cons]
   by_cases hk:n=k
   · subst hk;simp
   · have e:(n==k)=false:=by simpa using hk
     rw[e,this];simp
theorem UB(n:Int)(l:List Int):Fp (Hr l) n=if l.contains n then some (.bool true) else none:=by
 unfold Hr;rw[Qv];simp
theorem RR:∀l:List Int,l.Nodup→Kw (l.map λn=>(n,Value.bool true))
 | [],_=>trivial
 |k::l,h=>by
   have h':=List.nodup_cons.1 h;refine⟨?_,RR l h'.2⟩;rw[Qv,if_neg];simpa using h'.1
theorem K1{l:List Int}(h:l.Nodup):Kw (Hr l):=RR _ ((List.reverse_perm l).nodup_iff.2 h)
def Mz(ob mb:Nat)(a:Option Addr)(b:Nat):Prop:=b=ob∨b=mb∨rb a=some b
structure DM(T:TypeId)(ob mb:Nat)(sl:Value)(lm:List Int)(a:Option Addr)(c:Nat)(l:List Int)(w:World)(f:Fq):Prop where
 blk:AM w ob [sl] T
 map:Ch EO w mb (Hr lm)
 row:Ci w 3 1 a c l.length (l.map λn=>.int .i64 n)
 ne:ob≠mb∧rb a≠some ob∧rb a≠some mb
 nd:lm.Nodup
theorem DM.stab{T:TypeId}{ob mb:Nat}{sl:Value}{lm:List Int}{a:Option Addr}{c:Nat}{l:List Int}:Gg (Mz ob mb a) (DM T ob mb sl lm a c l):=λ_ _ _ _ h hF hb =>
 ⟨(hb ob (.inl rfl)).trans h.blk,h.map.heap (hb mb (.inr (.inl rfl))),⟨h.row.1,h.row.2.imp id λ⟨b,q,h1,h2,h3⟩=>⟨b,q,h1,(hb b (.inr (.inr (by rw[h1];rfl)))).trans h2,h3⟩⟩,h.ne,h.nd⟩
abbrev Qx(T:TypeId)(ob mb:Nat)(a:Option Addr)(c:Nat)(l:List Int):World→Fq→Prop:=DM T ob mb (.slice a l.length c) l a c l
variable {b:Nat}{M:Nat→Prop}{w0:World}
theorem DM.lt{T:TypeId}{ob mb:Nat}{sl:Value}{lm:List Int}{a:Option Addr}{c:Nat}{l:List Int}{w:World}{f:Fq}(h:DM T ob mb sl lm a c l w f)(hb:Mz ob mb a b):b<w.heap.size:=by
 rcases hb with rfl|rfl|hb
 · exact h.blk.lt
 · exact h.map.lt
 · exact h.row.lt hb
theorem Xj(t:T1)(r:Ty)(l:List Int):Cu (t.cons r) l=Cu r (Cu t.one l):=by cases t <;> rfl
theorem Jm:∀(x:Ty)(l:List Int),(Cu x l).length≤x.size+l.length
 |.nil,l=>by simp[Cu]
 |.var n r,l=>by
   have:=Jm r (if l.contains n then l else l++[n]);simp only[Cu,Ty.size]
   split at this <;> simp_all <;> omega
 |.con tx k r,l=>by
   have h1:=Jm k l;have h2:=Jm r (Cu k l);simp only[Cu,Ty.size];omega
def jG(P:Program)(fid:FuncId)(T:TypeId)(m:Nat):Prop:=∀(w:World)(f:Fq)(_:Vl w f)(ob mb:Nat)(a:Option Addr)(c:Nat)(l:List Int),Qx T ob mb a c l w f→(∀b,Mz ob mb a b→f b=0)→∀(t:T1)(ta:Option Addr)(tc:Nat),t.kids.size<m→t.kids.size+1+l.length≤1000000→t.bnd→Ai w f t.kids ta tc →
 B3 P fid #[tV t ta tc,.map (some mb),.pointer (some ⟨ob,0,none⟩)] w (O1 (α:=Option Addr×Nat) (λ_=>.tuple #[]) (λ_=>True) (Mz ob mb a) (λx=>Mz ob mb x.1) (λx=>Qx T ob mb x.1 x.2 (Cu t.one l)) (λ_=>[]) w f)
theorem DM.int{T:TypeId}{ob mb:Nat}{sl:Value}{lm:List Int}{a:Option Addr}{c:Nat}{l:List Int}{w:World}{f0 f:Fq}(h:DM T ob mb sl lm a c l w f)(hE:CD M w0 f0 w f)(hn:∀b,rb a=some b→w0.heap.size≤b):∃f',CD M w0 f0 w f'∧BP w f' l a c:=by
 obtain⟨hl,⟨ha,hc,hz⟩|⟨b,q,ha,hb,hmc,_,hq,ht⟩⟩:=h.row
 · exact⟨f,hE,oM,.inl (by cases l with|nil=>rfl|cons _ _=>simp at hz)⟩
 · refine⟨λk=>if k=b then l.length else f k,hE.done (hn b (by rw[ha];rfl)) hb.lt _,hmc,.inr ⟨b,0,ha,λj v hj=>?_⟩⟩
   have hj2:j<l.length:=by have:=(List.getElem?_eq_some_iff.1 hj).1;simpa using this
   refine⟨?_,?_⟩
   · show 0+j<(if b=b then l.length else f b)
     rw[if_pos rfl];omega
   · rw[Nat.zero_add,hb.cell]
     rw[← ht,List.getElem?_take] at hj
     split at hj
     · exact hj
     · cases hj
end Go.SP
namespace Go.SP
open Go.SW Go.RowKit
theorem Vv(n:Int)(l:List Int):(Fp (Hr l) n).getD (.bool false)=.bool (l.contains n):=by
 rw[UB];cases l.contains n <;> rfl
theorem V1{n:Int}{l:List Int}(h:l.contains n=false):Fp (Hr l) n=none:=by rw[UB,h];rfl
theorem OW(n:Int)(l:List Int):Hr (l++[n])=(n,.bool true)::Hr l:=by simp[Hr]
section
variable{T:TypeId}{ob mb:Nat}{sl sl':Value}{lm l:List Int}{a a':Option Addr}{c c':Nat}{w w':World}{f f':Fq}{n:Int}
theorem DM.app(h:DM T ob mb sl lm a c l w f)(hr:Ci w' 3 1 a' c' (l.length+1) (l.map (λn=>Value.int .i64 n)++[.int .i64 n]))(hG:Gm a w a' w'):DM T ob mb sl lm a' c' (l++[n]) w' f' where
 blk:=h.blk.grow hG (λe=>h.ne.2.1 e.symm)
 map:=h.map.heap (hG.block mb h.map.lt (λe=>h.ne.2.2 e.symm))
 row:=by simpa using hr
 ne:=⟨h.ne.1,λe=>hG.own.elim (λo=>h.ne.2.1 (o.symm.trans e)) (λo=>absurd h.blk.lt (by rw[← Option.some.inj (o.symm.trans e)];exact Nat.lt_irrefl _)),λe=>hG.own.elim (λo=>h.ne.2.2 (o.symm.trans e)) (λo=>absurd h.map.lt (by rw[← Option.some.inj (o.symm.trans e)];exact Nat.lt_irrefl _))⟩
 nd:=h.nd
variable {xs:List Value}{b:Nat}{e:TypeId}
theorem Ci.chgB{size:Nat}{a:Option Addr}{c n:Nat}(h:Ci w e size a c n xs)(hC:G9 b w w')(hne:rb a≠some b):Ci w' e size a c n xs :=
 ⟨h.1,h.2.imp id λ⟨g,q,h1,h2,h3⟩=>⟨g,q,h1,(hC.block g (λe=>hne (by rw[h1,← e];rfl))).trans h2,h3⟩⟩
theorem DM.mapped{q:List Int}(h:DM T ob mb sl l a c q w f)(hC:G9 mb w w')(hm:Ch EO w' mb ((n,.bool true)::Hr l))(hn:l.contains n=false):DM T ob mb sl (l++[n]) a c q w' f' where
 blk:=(hC.block ob h.ne.1).trans h.blk
 map:=by rw[OW];exact hm
 row:=Ci.chgB h.row hC h.ne.2.2
 ne:=h.ne
 nd:=by
   have h9:n∉l:=by simpa using hn
   exact List.nodup_append.2 ⟨h.nd,List.nodup_cons.2 ⟨by simp,List.nodup_nil⟩,λx hx y hy e=>by simp at hy;subst hy;subst e;exact h9 hx⟩
theorem DM.store(h:DM T ob mb sl lm a c l w f)(hC:G9 ob w w')(hb:AM w' ob [sl'] T):DM T ob mb sl' lm a c l w' f' where
 blk:=hb
 map:=h.map.heap (hC.block mb (λe=>h.ne.1 e.symm))
 row:=Ci.chgB h.row hC h.ne.2.1
 ne:=h.ne
 nd:=h.nd
end
variable {b:Nat}
theorem Mz.or{ob mb:Nat}{a a':Option Addr}(h:Mz ob mb a' b):Mz ob mb a b∨rb a'=some b:=h.elim (λh=>.inl (.inl h)) λh=>h.elim (λh=>.inl (.inr (.inl h))) .inr
theorem Ol(n:Int)(l:List Int):Cu (T1.var n).one l=if l.contains n then l else l++[n]:=rfl
theorem bM(tx:lU)(k:Ty)(l:List Int):Cu (T1.con tx k).one l=Cu k l:=rfl
end Go.SP
namespace Go.SW
open Go.RowKit
section
variable{P:Program}{σ:Bj}{w:World}{ty T T':TypeId}{x y:Operand}
variable {t':TypeId}
theorem fX{t:TypeId}{k:IntKind}{a b:Int}(m:Int)(hx:ev σ x=some (.int k a))(hy:ev σ y=some (.int k b))(hb:b≠0)(h:k.wrap (a.tdiv b)=m):AL P σ (.binOp .quo t x y t') ty w (.int k m) w :=
 λρ _ _ _ _ hρ=>by simp[execOp,hρ _ _ hx,hρ _ _ hy,eqGuard,binOp,Op.intDiv,hb,h]
theorem cI{t:TypeId}{k:IntKind}{a b:Int}(m:Int)(hx:ev σ x=some (.int k a))(hy:ev σ y=some (.int k b))(hb:b≠0)(h:a.tmod b=m):AL P σ (.binOp .rem t x y t') ty w (.int k m) w :=
 λρ _ _ _ _ hρ=>by simp[execOp,hρ _ _ hx,hρ _ _ hy,eqGuard,binOp,Op.intDiv,hb,h]
theorem nH{k:IntKind}{n:Int}{l:lU}(hx:ev σ x=some (.int k n))(hc:nG P T T'=true)(h:Utf8.encode n=⟨l.toArray⟩):AL P σ (.convert T T' x) ty w (S l) w:=by
 unfold nG at hc
 cases hs:P.underlying T with
 |none=>rw[hs] at hc;cases hc
 |some s =>
   cases hd:P.underlying T' with
   |none=>rw[hs,hd] at hc;cases hc
   |some d =>
     rw[hs,hd] at hc
     cases d <;> simp at hc
     exact λρ _ _ _ _ hρ=>by
       simp[execOp,hρ _ _ hx,convert,run_underlying hs,run_underlying hd,Conv.intToString,h,S]
end
variable {Q:AY}{X:Cx}{f:Fq}{Fs:List (World→Fq→Prop)}{ds:List Deferred}{B:List FB}{fs:List Fr}{H H':List HB}{l:List Value}{b i n:Nat}{w':World}
theorem AO.toRow{w:World}{R:List RB}{T:TypeId}(h:AO X w f H R B Fs)(hg:H3 H i=some ⟨b,l,T,true⟩)(hs:K9 H i=some H')(size c:Nat)(hl:l.length=c*size)(hc:c≤maxLen):AO X w f H' (⟨T,size,some ⟨b,0,none⟩,c,c,l⟩::R) B Fs:=by
 have hblk:AM w b l T:=h.blk _ (BV hg);have hmem:b∈CM H R:=List.mem_append.2 (.inl (List.mem_map.2 ⟨_,BV hg,rfl⟩));have hown:=h.own b hmem;have hsub:=KU hs;have hnd:(H.map HB.b++IV R).Nodup:=h.nd;have hbR:b∉CM H' R:=KY (L:=IV R) hg hs hnd;have hso:(CM H' R).Sublist (CM H R):=List.Sublist.append (hsub.map _) (List.Sublist.refl _)
 have hp:∀k,k∈CM H' (⟨T,size,some ⟨b,0,none⟩,c,c,l⟩::R)→k=b∨k∈CM H' R:=λk hk=>by
   have hk':k∈H'.map HB.b++b::R.filterMap (λr=>rb r.a):=hk;rcases List.mem_append.1 hk' with hk' | hk'
   · exact .inr (List.mem_append.2 (.inl hk'))
   · rcases List.mem_cons.1 hk' with rfl|hk'
     · exact .inl rfl
     · exact .inr (List.mem_append.2 (.inr hk'))
 exact {h with
         blk:=λe he=>h.blk e (hsub.subset he),
         row:=λr hr=>by
           rcases List.mem_cons.1 hr with rfl|hr
           · exact⟨hl,.inr ⟨b,l,rfl,hblk,Nat.le_refl _,hc,hl,by rw[← hl];exact List.take_length⟩⟩
           · exact h.row r hr,
         nd:=by
           show (H'.map HB.b++b::R.filterMap (λr=>rb r.a)).Nodup;exact List.perm_middle.nodup_iff.2 (List.nodup_cons.2 ⟨hbR,hso.nodup h.nd⟩),
         own:=λk hk=>by
           rcases hp k hk with rfl|hk
           · exact hown
           · exact h.own k (hso.subset hk),
         hnw:=λe he=>h.hnw e (hsub.subset he),
         rnw:=λr hr k hk=>by
           rcases List.mem_cons.1 hr with rfl|hr
           · cases hk;exact h.hnw _ (BV hg) rfl
           · exact h.rnw r hr k hk}
theorem rT{P:Program}{R:List RB}{σ:Bj}{k:Li}{T:TypeId}(i size c:Nat)(hg:H3 H i=some ⟨b,l,T,true⟩)(hs:K9 H i=some H')(hl:Nat.beq l.length (c*size)=true)(hc:c≤maxLen)
   (h:A5 P n Q ds X (⟨T,size,some ⟨b,0,none⟩,c,c,l⟩::R) B Fs k fs σ H'):A5 P n Q ds X R B Fs k fs σ H:=λw f hM=>h w f (hM.toRow hg hs size c (Nat.eq_of_beq_eq_true hl) hc)
theorem Below.exm{w:World}(h:Below w.heap.size w w')(hv:∀b,w.heap.size≤b→f b=0)(M:Nat→Prop):CD M w f w' f:=⟨⟨h.os,h.tape,h.output,h.size,λk hk _=>h.block k hk⟩,λ_ _=>rfl,λb hb=>hv b (Nat.le_trans h.size hb)⟩
end Go.SW
namespace Go.SP
open Go.SW Go.RowKit
def Ou(vs:List Int)(t:T1):lU:=(CJ vs t.one).drop 1
theorem LH(vs:List Int)(t:T1)(r:Ty):CJ vs (t.cons r)=32::(Ou vs t++CJ vs r):=by
 cases t with
 |var n=>simp[Ou,T1.one,T1.cons,CJ]
 |con tx k=>cases k <;> simp[Ou,T1.one,T1.cons,CJ]
theorem ZL(vs:List Int)(n:Int):Ou vs (.var n)=(match CR vs n with|some i=>DH i|none=>[]):=by
 simp[Ou,T1.one,T1.cons,CJ] <;> cases CR vs n <;> rfl
theorem VD(vs:List Int)(tx:lU):Ou vs (.con tx .nil)=tx:=by simp[Ou,T1.one,T1.cons,CJ]
theorem bE(vs:List Int)(tx:lU)(k:Ty)(h:k.len≠0):Ou vs (.con tx k)=[40]++(tx++CJ vs k)++[41]:=by
 cases k with
 |nil=>exact absurd rfl h
 |var n r=>simp[Ou,T1.one,T1.cons,CJ]
 |con tx k r=>simp[Ou,T1.one,T1.cons,CJ]
theorem TP(s:lU)(l:List lU)(x:lU):Lib.joinTail s (l++[x])=Lib.joinTail s l++(s++x):=by simp[Lib.joinTail]
theorem Oa:∀k n,(UO k n).length≤k
 |0,_=>Nat.le_refl _
 |k+1,n=>by
   unfold UO
   split
   · simp
   · have:=Oa k (n / 10);simp;omega
theorem UP(i:Nat):(DH i).length≤22:=by
 unfold DH
 split
 · simp
 · have:=Oa 20 (i / 26);simp;omega
theorem Lf(vs:List Int):∀x:Ty,x.bnd→(CJ vs x).length≤x.size*1000100
 |.nil,_=>by simp[CJ]
 |.var n r,h=>by
   have h2:=Lf vs r h;rw[show Ty.var n r=(T1.var n).cons r from rfl,LH,T1.size_cons,ZL]
   have h3:(match CR vs n with|some i=>DH i|none=>[]).length≤22:=by
     cases CR vs n with
     |none=>simp
     |some i=>exact UP i
   simp only[List.length_cons,List.length_append,T1.kids,Ty.size] at h3 ⊢;omega
 |.con tx k r,h=>by
   have h2:=Lf vs r h.2.2;have h3:=Lf vs k h.2.1;have h4:=h.1.2;rw[show Ty.con tx k r=(T1.con tx k).cons r from rfl,LH,T1.size_cons]
   have h5:(Ou vs (.con tx k)).length≤tx.length+k.size*1000100+2:=by
     by_cases hk:k.len=0
     · obtain rfl:=Ty.len0 hk
       rw[VD];exact Nat.le_trans (Nat.le_add_right _ _) (Nat.le_add_right _ _)
     · rw[bE vs tx k hk];simp;omega
   simp only[List.length_cons,List.length_append,T1.kids] at h5 ⊢;omega
theorem T8(i:Nat):Utf8.encode (97+((i % 26:Nat):Int))=⟨[UInt8.ofNat (97+i % 26)].toArray⟩:=by
 have h:∀j,j<26→Utf8.encode (97+((j:Nat):Int))=⟨[UInt8.ofNat (97+j)].toArray⟩:=dC;exact h _ (Nat.mod_lt _ oM)
theorem PC:∀(k n:Nat),n<10 ^ (k+1)→UO (k+1) n=Lib.decDigits n
 |0,n,h=>by
   have:n<10:=by simpa using h
   rw[Lib.decDigits,UO,if_pos this,dif_pos this]
 |k+1,n,h=>by
   rw[Lib.decDigits,UO]
   by_cases h1:n<10
   · rw[if_pos h1,dif_pos h1]
   · rw[if_neg h1,dif_neg h1,PC k (n / 10) (by rw[Nat.pow_succ] at h;omega)]
def Lt(vs:List Int)(es:List (Int×Value)):Prop:=Kw es∧∀n,Fp es n=(CR vs n).map λi=>S (DH i)
variable {es:List (Int×Value)}
theorem Lt.get{vs:List Int}(h:Lt vs es)(n:Int):(Fp es n).getD (S [])=S (Ou vs (.var n)):=by
 rw[h.2,ZL]
 cases CR vs n <;> rfl
def jI(P:Program)(fid:FuncId)(m:Nat):Prop:=∀(w:World)(f:Fq)(_:Vl w f)(mb:Nat)(vs:List Int)(es:List (Int×Value)),Ch EO w mb es→Lt vs es→∀(t:T1)(a:Option Addr)(c:Nat),t.kids.size<m→t.kids.size≤1000000→t.bnd→Ai w f t.kids a c →
 B3 P fid #[tV t a c,.map (some mb)] w (BO (α:=Unit) (λ_=>S (Ou vs t)) (λ_=>True) (λ_=>[]) w f)
end Go.SP
namespace Go.SP
open Go.SW Go.RowKit
theorem Rn(x n:Int):∀l:List Int,CR (l++[n]) x=(match CR l x with|some j=>some j|none=>if n==x then some l.length else none)
 | []=>by simp[CR]
 |k::l=>by
   have ih:=Rn x n l;simp only[List.cons_append,CR]
   by_cases hk:(k==x)=true
   · rw[if_pos hk,if_pos hk]
   · rw[if_neg hk,if_neg hk,ih]
     cases CR l x with
     |some j=>rfl
     |none=>by_cases hn:(n==x)=true <;> simp[hn]
theorem Lt.nil:Lt [] []:=⟨tQ,λ_=>rfl⟩
variable {f:Fq}{es:List (Int×Value)}{l:List Value}{b i m mb sb:Nat}
theorem Lt.snoc{l:List Int}(h:Lt l es){n:Int}(hn:l.contains n=false):Fp es n=none∧Lt (l++[n]) ((n,S (DH l.length))::es):=by
 have h0:Fp es n=none:=by rw[h.2,MS hn];rfl
 refine⟨h0,⟨h0,h.1⟩,λx=>?_⟩;rw[Rn];simp only[Fp]
 by_cases hx:x=n
 · subst hx;rw[MS hn];simp
 · have e1:(x==n)=false:=by simpa using hx
   have e2:(n==x)=false:=by simpa using λe:n=x=>hx e.symm
   rw[e1,e2,h.2]
   cases CR l x <;> simp
theorem Iu:∀(x:Ty)(l:List Int),l.Nodup→(Cu x l).Nodup
 |.nil,_,h=>h
 |.var n r,l,h=>by
   simp only[Cu];apply Iu r
   split
   · exact h
   · rename_i hn
     have h9:n∉l:=by simpa using hn
     exact List.nodup_append.2 ⟨h,List.nodup_cons.2 ⟨by simp,List.nodup_nil⟩,λx hx y hy e=>by simp at hy;subst hy;subst e;exact h9 hx⟩
 |.con tx k r,l,h=>Iu r _ (Iu k l h)
theorem U8{l:List Int}(h:l.Nodup){n:Int}(hi:l[i]?=some n):(l.take i).contains n=false:=by
 have hlt:=(List.getElem?_eq_some_iff.1 hi).1;have e:l=l.take i++l.drop i:=(List.take_append_drop i l).symm
 have hd:n∈l.drop i:=by
   rw[List.drop_eq_getElem_cons hlt,(List.getElem?_eq_some_iff.1 hi).2];exact .head _
 rw[e] at h;have:=(List.nodup_append.1 h).2.2;have hn:n∉l.take i:=λhm=>this n hm n hd rfl;simpa using hn
theorem G1(t:T1):(An t).length≤t.kids.size+1:=by
 have:=Jm t.one [];have e:t.one.size=t.kids.size+0+1:=T1.size_cons t .nil;rw[e] at this;simpa[An] using this
theorem BB.new{T:TypeId}{w:World}(h1:AM w sb [.map (some mb),.int .i64 0,.int .i64 0] T)(h2:Ch EO w mb []):BB T sb mb [] 0 0 w f:=⟨h1,[],h2,rfl⟩
theorem lY{w:World}{T:TypeId}(h:AM w b l T)(hm:Ch EO w m es):b≠m:=λe=>by
 subst e;obtain⟨es,c,h3,_⟩:=hm;have h4:=h.symm.trans h3
 cases h4
structure Ad where
 cb:Nat
 sb:Nat
 mb:Nat
 km:Nat
 dm:Nat
 rm:Nat
def Bz(A:Ad)(b:Nat):Prop:=b=A.cb∨b=A.sb∨b=A.mb∨b=A.km∨b=A.dm∨b=A.rm
structure Ad.ok(A:Ad):Prop where
 cs:A.cb≠A.sb
 cm:A.cb≠A.mb∧A.cb≠A.km∧A.cb≠A.dm∧A.cb≠A.rm
 sm:A.sb≠A.mb∧A.sb≠A.km∧A.sb≠A.dm∧A.sb≠A.rm
 mm:A.mb≠A.km∧A.mb≠A.dm∧A.mb≠A.rm∧A.km≠A.dm∧A.km≠A.rm∧A.dm≠A.rm
def bV(m:Mk)(aa:Option Addr)(ac:Nat)(oa:Option Addr)(oc:Nat)(va:Option Addr)(vc:Nat):List Value:=.slice aa m.args.len ac::(tC m.out oa oc++[.slice va m.vars.length vc])
def BY(w:World)(f:Fq):List (lU×Mk)→List (lU×Value)→Prop
 | [],es=>es=[]
 |(k,m)::l,es=>∃aa ac oa oc va vc es',es=(k,.agg (bV m aa ac oa oc va vc).toArray)::es'∧Ai w f m.args aa ac∧Ai w f m.out.kids oa oc∧BP w f m.vars va vc∧BY w f l es'
variable {A:Ad}{s:CS}{f f':Fq}{b:Nat}{a:Option Addr}{TS:TypeId}{w w':World}
theorem BY.mono(hF:I4 w f w' f'):∀(l:List (lU×Mk))(es:List (lU×Value)),BY w f l es→BY w' f' l es
 | [],_,h=>h
 |(_,_)::l,_,⟨aa,ac,oa,oc,va,vc,es',h1,h2,h3,h4,h5⟩=>⟨aa,ac,oa,oc,va,vc,es',h1,Ai.mono _ _ _ _ h2 hF,Ai.mono _ _ _ _ h3 hF,BP.mono _ _ _ _ h4 hF,BY.mono hF l es' h5⟩
theorem BY.look{n:lU}:∀{l:List (lU×Mk)}{es:List (lU×Value)},BY w f l es→(BM l n=none→Fp es n=none)∧∀m,BM l n=some m→∃aa ac oa oc va vc,Fp es n=some (.agg (bV m aa ac oa oc va vc).toArray)∧Ai w f m.args aa ac∧Ai w f m.out.kids oa oc∧BP w f m.vars va vc
 | [],es,h=>by
   have h:es=[]:=h;subst h;exact⟨λ_=>rfl,λt h=>by cases h⟩
 |(k,m)::l,es,⟨aa,ac,oa,oc,va,vc,es',h1,h2,h3,h4,h5⟩=>by
   subst h1;have ih:=BY.look (n:=n) h5;simp only[BM,Fp]
   by_cases hk:k=n
   · subst hk
     refine⟨λh=>by simp at h,λt' h=>?_⟩;simp at h;subst h;exact⟨aa,ac,oa,oc,va,vc,by simp,h2,h3,h4⟩
   · have e1:(k==n)=false:=by simpa using hk
     have e2:(n==k)=false:=by simpa using λe:n=k=>hk e.symm
     rw[e1,e2];simpa using ih
structure As(T TS:TypeId)(A:Ad)(s:CS)(w:World)(f:Fq):Prop where
 blk:AM w A.cb [.pointer (some ⟨A.sb,0,none⟩),.map (some A.km),.map (some A.dm),.map (some A.rm),.int .i64 s.vars] T
 sol:∃pr,BB TS A.sb A.mb s.sol s.fresh pr w f
 cons:∃es,Ch C4 w A.km es∧BY w f s.cons es
 datas:Ch C4 w A.dm (s.datas.map λp=>(p.1,.int .i64 p.2))
 roots:Ch C4 w A.rm (s.roots.map λk=>(k,.bool true))
theorem As.stab{T:TypeId}:Gg (Bz A) (As T TS A s):=λw f w' f' h hF hb =>
 ⟨(
   hb _ (.inl rfl)).trans h.blk,let ⟨pr,hs⟩:=h.sol;⟨pr,BB.stab (MI:=Me A.sb A.mb) (.inl rfl) (.inr rfl) _ _ _ _ hs hF λb hm=>hb b (hm.elim (λe=>.inr (.inl e)) λe=>.inr (.inr (.inl e)))⟩,
   let ⟨es,h1,h2⟩:=h.cons;⟨es,h1.heap (hb _ (.inr (.inr (.inr (.inl rfl))))),BY.mono hF _ _ h2⟩,h.datas.heap (hb _ (.inr (.inr (.inr (.inr (.inl rfl)))))),h.roots.heap (hb _ (.inr (.inr (.inr (.inr (.inr rfl))))))⟩
theorem As.lt{T:TypeId}(h:As T TS A s w f)(hb:Bz A b):b<w.heap.size:=by
 rcases hb with rfl|rfl|rfl|rfl|rfl|rfl
 · exact h.blk.lt
 · obtain⟨_,hs⟩:=h.sol;exact hs.1.lt
 · obtain⟨_,_,_,hm,_⟩:=h.sol;exact hm.lt
 · obtain⟨_,hm,_⟩:=h.cons;exact hm.lt
 · exact h.datas.lt
 · exact h.roots.lt
structure DD(s:CS):Prop where
 sol:I7 s.sol
 cons:∀k m,BM s.cons k=some m→m.args.len≤200000∧m.args.bnd∧m.out.bnd∧m.vars.length≤200000
 dc:Kw (s.cons.map λp=>(p.1,Value.bool true))
 dd:Kw (s.datas.map λp=>(p.1,Value.int .i64 p.2))
 dr:Kw (s.roots.map λk=>(k,Value.bool true))
 fr:0≤s.fresh
def AJ(w:World)(f:Fq):AD→Option Addr→Prop
 | [],a=>a=none
 |b::e,a=>∃k ta tc va vc ra,a=some ⟨k,0,none⟩∧Cs w f k 0 (S b.name::(tC b.t ta tc++[.slice va b.all.length vc,.pointer ra]))∧Ai w f b.t.kids ta tc∧BP w f b.all va vc∧AJ w f e ra
theorem AJ.mono'(hF:I4 w f w' f'):∀(e:AD)(a:Option Addr),AJ w f e a→AJ w' f' e a
 | [],_,h=>h
 |_::e,_,⟨k,ta,tc,va,vc,ra,h1,h2,h3,h4,h5⟩=>⟨k,ta,tc,va,vc,ra,h1,h2.mono hF,Ai.mono _ _ _ _ h3 hF,BP.mono _ _ _ _ h4 hF,AJ.mono' hF e ra h5⟩
theorem AJ.mono{e:AD}:Gf (λw f=>AJ w f e a):=λ_ _ _ _ h hF=>AJ.mono' hF e a h
def FM(e:AD):Prop:=∀b,b∈e→b.t.bnd∧b.all.length≤1000000
def trI(T:TypeId)(e:Er):List PanicEntry:=[{v:=.iface T (.agg #[.int .i64 e.1,.int .i64 e.2.1,.int .i64 e.2.2]),recovered:=false}]
def PanE(T:TypeId)(M:Nat→Prop)(q:Er→Prop)(w:World)(f:Fq)(c:List PanicEntry)(w':World):Prop:=∃er f',c=trI T er∧q er∧CD M w f w' f'
abbrev XC(T TS:TypeId)(A:Ad)(s:CS)(w:World)(f:Fq):Cx:=⟨Bz A,Bz A,As T TS A s,w,f⟩
theorem La{T:TypeId}{Fs:List (World→Fq→Prop)}(hv:Vl w f)(hC:As T TS A s w f)(hf:∀b,Bz A b→f b=0)(hF:AI Fs w f)(hm:Az Fs):AO (XC T TS A s w f) w f [] [] [] Fs :=
 YX (M:=Bz A) hv hC As.stab (λb hb=>⟨hC.lt hb,hf b hb⟩) hF hm
theorem Wv{s:Bn}:∀(k:Nat)(x:Ty)(j:Nat),Bx s k x=some j→(AH s k x).size+j≤k:=by
 intro k
 induction k using Nat.strongRecOn with
 |_ k ih =>
   intro x j h
   have key:∀(k':Nat)(ks r:Ty),k'<k→Bx s k' (ks.app r)=some j→(AH s k' ks).size+(AH s k' r).size+j≤k':=by
     intro k' ks r hk hr;rw[Hp] at hr
     cases hj:Bx s k' ks with
     |none=>rw[hj] at hr;cases hr
     |some j1 =>
       rw[hj] at hr;have hr:Bx s j1 r=some j:=hr;have h1:=Eh s _ _ _ hj;have h2:=ih k' hk ks j1 hj;have h3:=ih j1 oM r j hr;rw[Py j1 r j hr k' (by omega)];omega
   cases x with
   |nil=>rw[GI];cases k <;> (cases h;simp[Ty.size])
   |var n r =>
     cases k with
     |zero=>cases h
     |succ k =>
       simp only[Bx] at h
       cases hh:Ah s (.var n) with
       |var q =>
         rw[hh] at h;have:=key k .nil r oM h;simp only[AH,hh,Ty.size];rw[GI] at this;simp only[Ty.size] at this;omega
       |con tx ks =>
         rw[hh] at h;have:=key k ks r oM h;simp only[AH,hh,Ty.size];omega
   |con tx ks r =>
     cases k with
     |zero=>cases h
     |succ k =>
       simp only[Bx] at h;have:=key k ks r oM h;simp only[AH,Ty.size];omega
theorem Yp(s:Bn)(k:Nat)(t:T1):AH s (k+1) t.one=(AH s (k+1) t.one).hd.one:=by
 cases t with
 |var n =>
   simp only[T1.one,T1.cons,AH]
   cases Ah s (.var n) <;> (simp only[GI];rfl)
 |con tx ks=>simp only[T1.one,T1.cons,AH,GI];rfl
theorem Iw{s:Bn}{t u:T1}(h:fullS s t=some u):u.kids.size+1≤1000:=by
 unfold fullS at h
 split at h
 · rename_i hs
   rw[El,Dp] at hs;obtain⟨j,hj⟩:=Option.isSome_iff_exists.1 hs;have h1:=Wv 1000 t.one j hj;have h2:=Yp s 999 t
   cases h
   have h3:(AH s 1000 t.one).size=(AH s 1000 t.one).hd.kids.size+0+1:=(congrArg Ty.size h2).trans (T1.size_cons _ .nil);omega
 · cases h
theorem Ju{s:Bn}(hw:I7 s){t u:T1}(hb:t.bnd)(h:fullS s t=some u):u.bnd:=by
 unfold fullS at h
 split at h
 · cases h;exact Zs hw hb 1000
 · cases h
end Go.SP
namespace Go.SW
open Go.RowKit Go.SP
variable {args:Array Value}{f f':Fq}{fid:FuncId}{M:Nat→Prop}{w w':World}
theorem AO.exmI{X:Cx}{H:List HB}{R:List RB}{B:List FB}{Fs:List (World→Fq→Prop)}(h:AO X w f H R B Fs)(hs:∀b,M b→X.MI b)(he:CD M w f w' f'):CD X.M X.w0 X.f0 w' f' :=
 (h.callI (I':=λ_ _=>True) (he.mono hs) tQ (λ_ _ _ _ _ _ _=>trivial)).exm
section
variable{P:Program}{n:Nat}{Q:AY}{ds:List Deferred}{X:Cx}{R:List RB}{B:List FB}{Fs:List (World→Fq→Prop)}{fs:List Fr}{σ:Bj}{H:List HB}
variable{all r:List Oper}{ty T:TypeId}{pos:String}{af:Array Edge}{g:Option (Nat×Bool)}{d:Nat}
theorem DK{op:Op}{α:Type}{val:α→Value}{q:α→Prop}{I':α→World→Fq→Prop}{F':α→List (World→Fq→Prop)}{pe:Er→Prop}
   (hg:gd all σ g=some true) (hd:Nat.blt d n=true) (he:∀w,Enters P σ op ty w fid args) (hs:∀b,M b→X.MI b)
   (hc:∀w f,AO X w f H R B Fs→BD P fid args w (EP val q X.MI I' F' w f) (PanE T M pe w f)) (hst:∀x,Gg X.MI (I' x)) (hm:∀x,Az (F' x))
   (hp:∀er w' f',pe er→CD X.M X.w0 X.f0 w' f'→Q.p (trI T er) σ ds w')
   (h:∀x,q x→A5 P n Q ds {X with I:=I' x} R B (F' x++Fs) (.ops all r) fs (AF σ d (val x)) H):A5 P n Q ds X R B Fs (.ops all (⟨some d,op,ty,pos,af,g⟩::r)) fs σ H :=
 Ow (XX:=λc w'=>∃er f',c=trI T er∧pe er∧CD X.M X.w0 X.f0 w' f') hg hd he (λw f hM=>(hc w f hM).mono (λ_ _ h=>h) λ_ _ ⟨er,f',h1,h2,h3⟩=>⟨er,f',h1,h2,hM.exmI hs h3⟩) hst hm (λ_ _ _ _ _ ⟨er,f',h1,h2,h3⟩=>h1▸hp er _ f' h2 h3) h
theorem MZ{op:Op}{pe:Er→Prop}
   (hg:gd all σ g=some true) (hd:Nat.blt d n=true) (he:∀w,Enters P σ op ty w fid args) (hs:∀b,M b→X.MI b)
   (hc:∀w f,AO X w f H R B Fs→BD P fid args w (λ_ _=>False) (PanE T M pe w f))
   (hp:∀er w' f',pe er→CD X.M X.w0 X.f0 w' f'→Q.p (trI T er) σ ds w'):A5 P n Q ds X R B Fs (.ops all (⟨some d,op,ty,pos,af,g⟩::r)) fs σ H :=
 DK (α:=Unit) (val:=λ_=>.tuple #[]) (q:=λ_=>False) (I':=λ_ _ _=>True) (F':=λ_=>[]) hg hd he hs (λw f hM=>(hc w f hM).mono (λ_ _ h=>h.elim) λ_ _ h=>h) (λ_ _ _ _ _ _ _ _=>trivial) (λ_=>trivial) hp (λ_ h=>h.elim)
end
end Go.SW
namespace Go.SP
open Go.SW Go.RowKit
variable {A:Ad}{s:CS}{f f':Fq}{fr pr:Int}{M:Nat→Prop}{TS:TypeId}{w w' w0:World}
theorem Me.c:∀b,Me A.sb A.mb b→Bz A b:=λ_ h=>h.elim (λe=>.inr (.inl e)) λe=>.inr (.inr (.inl e))
theorem As.solved{T:TypeId}(h:As T TS A s w f)(hA:A.ok)(hv:Vl w f)(hz:∀b,Me A.sb A.mb b→f b=0)(hE:CD (Me A.sb A.mb) w f w' f'){s':Bn}(hS:BB TS A.sb A.mb s' fr pr w' f'):As T TS A {s with sol:=s',fresh:=fr} w' f' where
 blk:=(hE.stp.block _ (h.lt (.inl rfl)) (λe=>e.elim hA.cs hA.cm.1)).trans h.blk
 sol:=⟨pr,hS⟩
 cons:=let ⟨es,h1,h2⟩:=h.cons;⟨es,h1.heap (hE.stp.block _ h1.lt (λe=>e.elim (λe=>hA.sm.2.1 e.symm) (λe=>hA.mm.1 e.symm))),BY.mono (hE.fle hv hz) _ _ h2⟩
 datas:=h.datas.heap (hE.stp.block _ h.datas.lt (λe=>e.elim (λe=>hA.sm.2.2.1 e.symm) (λe=>hA.mm.2.1 e.symm)))
 roots:=h.roots.heap (hE.stp.block _ h.roots.lt (λe=>e.elim (λe=>hA.sm.2.2.2 e.symm) (λe=>hA.mm.2.2.1 e.symm)))
theorem bY{P:Program}{n:Nat}{Q:AY}{ds:List Deferred}{f0:Fq}{T:TypeId}{R:List RB}{B:List FB}{Fs:List (World→Fq→Prop)}{fs:List Fr}{σ:Bj}{H:List HB}{k:Li}
   (h:∀pr,A5 P n Q ds ⟨M,Bz A,λw f=>As T TS A s w f∧BB TS A.sb A.mb s.sol s.fresh pr w f,w0,f0⟩ R B Fs k fs σ H):A5 P n Q ds ⟨M,Bz A,As T TS A s,w0,f0⟩ R B Fs k fs σ H :=
 rQ (X:=⟨M,Bz A,As T TS A s,w0,f0⟩) (λpr w f=>As T TS A s w f∧BB TS A.sb A.mb s.sol s.fresh pr w f) (λw f h=>let ⟨pr,hp⟩:=h.sol;⟨pr,h,hp⟩) (λpr w f w' f' h hF hb=>⟨As.stab w f w' f' h.1 hF hb,BB.stab (MI:=Me A.sb A.mb) (.inl rfl) (.inr rfl) _ _ _ _ h.2 hF λb hm=>hb b (Me.c b hm)⟩) h
end Go.SP
namespace Go.SP
open Go.SW Go.RowKit
def Ef(fr:Int):Nat→Ty
 |0=>.nil
 |n+1=>.var (fr+1) (Ef (fr+1) n)
theorem Fy:∀(n:Nat)(fr:Int),(Ef fr n).len=n
 |0,_=>rfl
 |n+1,fr=>by simp only[Ef,Ty.len];rw[Fy n]
theorem Is:∀(n:Nat)(fr:Int),(Ef fr n).bnd
 |0,_=>trivial
 |n+1,fr=>Is n (fr+1)
theorem LW:∀(n:Nat)(fr:Int),Ef fr (n+1)=(Ef fr n).snoc (.var (fr+n+1))
 |0,fr=>by simp[Ef,Ty.snoc,Ty.app,T1.one,T1.cons]
 |n+1,fr=>by
   have:=LW n (fr+1);rw[Ef,this];show _=Ty.var _ _
   congr 2
   simp;omega
theorem BI:∀(l:List Int)(s:CS),Bf l s=(Ef s.fresh l.length,{s with fresh:=s.fresh+l.length})
 | [],s=>by simp[Bf,Ef]
 |_::l,s=>by
   have h:=BI l (A2 s).2;simp only[Bf,T1.cons,Ef,List.length_cons];rw[h];simp only[A2,T1.cons];have e:s.fresh+1+(l.length:Int)=s.fresh+((l.length+1:Nat):Int):=oM;rw[e]
variable {s:CS}
theorem DD.fresh(h:DD s){n:Int}(hn:0≤n):DD {s with fresh:=n}:={h with fr:=hn}
end Go.SP
namespace Go.SP
open Go.SW Go.RowKit
variable {Q:AY}{A:Ad}{σ:Bj}{s:CS}{f:Fq}{Fs:List (World→Fq→Prop)}{ds:List Deferred}{B:List FB}{fs:List Fr}{H:List HB}{n:Nat}{M:Nat→Prop}{P:Program}{T TS:TypeId}{w w0:World}
theorem BY.keys{n:lU}:∀{l:List (lU×Mk)}{es:List (lU×Value)},BY w f l es→(Fp (l.map λp=>(p.1,Value.bool true)) n=none→Fp es n=none)
 | [],es,h,_=>by have h:es=[]:=h;subst h;rfl
 |(k,m)::l,es,⟨_,_,_,_,_,_,es',h1,_,_,_,h5⟩,hn=>by
   subst h1;simp only[List.map,Fp] at hn ⊢
   split at hn
   · cases hn
   · rename_i hk;rw[if_neg hk];exact BY.keys h5 hn
theorem BY.dis:∀{l:List (lU×Mk)}{es:List (lU×Value)},BY w f l es→Kw (l.map λp=>(p.1,Value.bool true))→Kw es
 | [],es,h,_=>by have h:es=[]:=h;subst h;trivial
 |(k,m)::l,es,⟨_,_,_,_,_,_,es',h1,_,_,_,h5⟩,hd=>by
   subst h1;exact⟨BY.keys h5 hd.1,BY.dis h5 hd.2⟩
theorem yB{f0:Fq}{R:List RB}{k:Li}
   (h:∀es,A5 P n Q ds ⟨M,Bz A,λw f=>As T TS A s w f∧Ch C4 w A.km es∧BY w f s.cons es,w0,f0⟩ R B Fs k fs σ H):A5 P n Q ds ⟨M,Bz A,As T TS A s,w0,f0⟩ R B Fs k fs σ H :=
 rQ (X:=⟨M,Bz A,As T TS A s,w0,f0⟩) (λes w f=>As T TS A s w f∧Ch C4 w A.km es∧BY w f s.cons es) (λw f h=>let ⟨es,h1,h2⟩:=h.cons;⟨es,h,h1,h2⟩) (λes w f w' f' h hF hb=>⟨As.stab w f w' f' h.1 hF hb,h.2.1.heap (hb _ (.inr (.inr (.inr (.inl rfl))))),BY.mono hF _ _ h.2.2⟩) h
end Go.SP
namespace Go.SW
open Go.RowKit Go.SP
variable {Q:AY}{σ:Bj}{X:Cx}{Fs:List (World→Fq→Prop)}{ds:List Deferred}{B:List FB}{fs:List Fr}{H:List HB}{n:Nat}{P:Program}
theorem QU{R:List RB}{k:Li}{r:RB}(φ:World→Fq→Prop)(hm:Gf φ)(hr:∀w f,AO X w f H (r::R) B Fs→∃f',AO X w f' H R B Fs∧φ w f')
   (h:A5 P n Q ds X R B (φ::Fs) k fs σ H):A5 P n Q ds X (r::R) B Fs k fs σ H:=λw f hM=>by
 obtain⟨f',hM',hφ⟩:=hr w f hM;exact h w f' (hM'.more (B':=[]) (F':=[φ]) (λ_ h=>by cases h) (AI.mem ⟨hφ,tQ⟩) (Az.mem ⟨hm,tQ⟩))
end Go.SW
namespace Go.SP
open Go.SW Go.RowKit
variable {X:Cx}{f:Fq}{Fs:List (World→Fq→Prop)}{B:List FB}{H:List HB}{xs:List Value}{m:Nat}{a:Option Addr}{e:TypeId}{w:World}
theorem Hs{R:List RB}{c:Nat}{k:Ty}(hM:AO X w f H (⟨e,4,a,c,m,xs⟩::R) B Fs)(hL:Bi w f k xs):∃f',AO X w f' H R B Fs∧Ai w f' k a c:=by
 rcases Nat.eq_zero_or_pos k.len with h0|h0
 · obtain rfl:=Ty.len0 h0
   exact⟨f,hM.less (List.Sublist.refl _) (List.sublist_cons_self _ _) (λ_ h=>h) (λ_ h=>h),Ai.nil _ _ _ _⟩
 · exact Nl hM hL h0
theorem Mr{R:List RB}{c:Nat}{l:List Int}(hM:AO X w f H (⟨3,1,a,c,l.length,l.map λn=>.int .i64 n⟩::R) B Fs):∃f',AO X w f' H R B Fs∧BP w f' l a c:=by
 have hr:=hM.row _ (.head _);rcases hr.2 with ⟨_,_,hz⟩|⟨b,q,ha,hb,hmc,_,hq,ht⟩
 · simp only at hz
   exact⟨f,hM.less (List.Sublist.refl _) (List.sublist_cons_self _ _) (λ_ h=>h) (λ_ h=>h),oM,.inl (by cases l with|nil=>rfl|cons _ _=>simp at hz)⟩
 · simp only at ha
   subst ha;obtain⟨f',hM'⟩:=hM.done (i:=0) rfl rfl;refine⟨f',hM'.less (List.Sublist.refl _) (List.Sublist.refl _) (λ_ h=>.tail _ h) (λ_ h=>h),hmc,.inr ⟨b,0,rfl,hM'.fro _ (.head _)⟩⟩
end Go.SP
namespace Go.SW
open Go.RowKit Go.SP
section
variable{κ:Type}[BEq κ]{K:uV κ}[LawfulBEq κ]
theorem OK(x:κ):∀(es:List MapEntry)(l:List (κ×Value))(i:Nat)(v:Value),es.map (λe=>(e.key,e.val))=l.map (λp=>(K.enc p.1,p.2))→LI x l=some v →
   ∃j e,Instr.findNow K.desc (K.enc x) es i=some (some (i+j,v))∧es[j]?=some e∧e.key=K.enc x∧e.val=v
 | [],[],i,v,_,h=>by cases h
 | [],_::_,_,_,h,_=>by simp at h
 |_::_,[],_,_,h,_=>by simp at h
 |e::es,p::l,i,v,h,hl=>by
   simp only[List.map_cons,List.cons.injEq,Prod.mk.injEq] at h;obtain⟨⟨hk,hv⟩,hr⟩:=h;have hs:Instr.sameNow K.desc (K.enc x) e.key=some (x==p.1):=by rw[hk];exact K.same x p.1
   obtain⟨pk,pv⟩:=p;unfold Instr.findNow;unfold LI at hl;rw[hs]
   cases hc:x==pk with
   |true =>
     rw[hc] at hl;have hl:pv=v:=by simpa using hl
     have he:x=pk:=by simpa using hc
     subst he;exact⟨0,e,by simp[hv,hl],rfl,hk,hv.trans hl⟩
   |false =>
     rw[hc] at hl;obtain⟨j,e',h1,h2,h3⟩:=OK x es l (i+1) v hr (by simpa using hl);exact⟨j+1,e',by simp only[h1];congr 3;omega,h2,h3⟩
variable{P:Program}{n:Nat}{Q:AY}{ds:List Deferred}{X:Cx}{R:List RB}{B:List FB}{Fs:List (World→Fq→Prop)}{fs:List Fr}{σ:Bj}{H:List HB}{w:World}
variable{all r:List Oper}{ty T k e:TypeId}{pos:String}{af:Array Edge}{g:Option (Nat×Bool)}{d m:Nat}{x y z:Operand}{a:κ}{l:List (κ×Value)}
theorem TZ{v:Value}(hT:Gj P T=some (k,e))(hk:P.underlying k=some K.desc)(hsb:Instr.sameBits 10000 (K.enc a) (K.enc a)=true)(hm:Ch K w m l)(hd:Kw l)(hn:Fp l a=some v):∃w',(Instr.mapUpdate T (.map (some m)) (K.enc a) v).run P w=.ok () w'∧Ch K w' m l∧G9 m w w':=by
 have hu:=Jz hT;obtain⟨es,c,h1,h2⟩:=id hm;obtain⟨j,e',hj,he,hek,hev⟩:=OK (K:=K) a es l.reverse 0 v h2 (by rw[Pz a l hd];exact hn);have hget:(getObj m).run P w=.ok (.map es.toArray c) w:=by simp[getObj,Sem.run,h1]
 have hlt:=hm.lt;have hck:=λb=>K.chk P k w a b hk
 have hset:∀o,(setObj m o).run P w=.ok () {w with heap:=w.heap.setIfInBounds m o}:=λo=>by
   simp[setObj,Sem.run,h1]
 rw[Nat.zero_add] at hj;refine⟨{w with heap:=w.heap.setIfInBounds m (.map (es.toArray.modify j λe=>{e with key:=K.enc a,val:=v}) c)},?_,?_,?_⟩
 · simp only[Instr.mapUpdate,Sem.run_bind,run_underlying hu,Result.andThen_ok,hget]
   simp only[hck,Result.andThen_ok,Instr.findKey,Sem.run_bind,run_underlying hk,hj];simp only[Sem.run_pure,Result.andThen_ok,List.getElem?_toArray,he,Option.map_some,Option.getD_some,hek,Instr.keyThatStays,hsb,if_true];exact hset _
 · refine⟨es.modify j λe=>{e with key:=K.enc a,val:=v},c,?_,?_⟩
   · rw[show (es.modify j λe=>{e with key:=K.enc a,val:=v}).toArray=es.toArray.modify j λe=>{e with key:=K.enc a,val:=v} from Array.ext' (by simp)]
     simp[hlt]
   · rw[← h2]
     apply List.ext_getElem?;intro i;rw[List.getElem?_map,List.getElem?_map,List.getElem?_modify]
     by_cases hij:j=i
     · subst hij
       rw[he];simp[hek,hev]
     · simp[hij]
 · refine⟨rfl,rfl,rfl,by simp,λi him=>?_⟩
   show (w.heap.setIfInBounds m _)[i]?=_;rw[Array.getElem?_setIfInBounds_ne (λe=>him e.symm)]
variable {I':World→Fq→Prop}
theorem vR{v:Value}(hg:gd all σ g=some true)(hx:ev σ x=some (.map (some m)))(hy:ev σ y=some (K.enc a))(hz:ev σ z=some v)(hT:Gj P T=some (k,e))(hk:P.underlying k=some K.desc)(hsb:Instr.sameBits 10000 (K.enc a) (K.enc a)=true)(hmi:X.MI m)(hd:Kw l)(hn:Fp l a=some v)
   (hm:∀w f,X.I w f→Ch K w m l) (hI:∀w f w',X.I w f→AO X w f H R B Fs→G9 m w w'→Ch K w' m l→I' w' f) (hst:Gg X.MI I')
   (h:A5 P n Q ds {X with I:=I' } R B Fs (.ops all r) fs σ H):A5 P n Q ds X R B Fs (.ops all (⟨none,.mapUpdate T x y z,ty,pos,af,g⟩::r)) fs σ H:=λw f hM=>by
 obtain⟨w',h1,h2,h3⟩:=TZ (v:=v) hT hk hsb (hm w f hM.res) hd hn;refine B2 hg (Ja (w':=w') (λρ _ _ _ _ hρ=>?_) (h w' f (hM.chgI hmi h3 (hI w f w' hM.res hM h3 h2) hst)));simp only[execOp,hρ _ _ hx,hρ _ _ hy,hρ _ _ hz];rw[Sem.run_bind,h1];rfl
omit [LawfulBEq κ] in
theorem Z0(hg:gd all σ g=some true)(hd:Nat.blt d n=true)
   (h:∀m,¬X.MI m→A5 P n Q ds {X with MI:=λb=>X.MI b∨b=m,I:=λw f=>X.I w f∧Ch K w m []} R B Fs (.ops all r) fs (AF σ d (.map (some m))) H):A5 P n Q ds X R B Fs (.ops all (⟨some d,.makeMap T none,ty,pos,af,g⟩::r)) fs σ H:=λw f hM=>by
 refine B2 hg (Ab (v:=.map (some w.heap.size)) (w':=w.alloc (.map #[] 0)) hd (λρ _ _ _ _ hρ=>by simp[execOp,Instr.makeMap]) (h w.heap.size (λhm=>Nat.lt_irrefl _ (hM.mi _ hm).1) _ f ?_));have h1:AO X (w.alloc (.map #[] 0)) f H R B Fs:=hM.call0 (CD.of_ext (JE w _) hM.val);have hnew:∀b,b∈CM H R→b≠w.heap.size:=λb hb e=>Nat.lt_irrefl _ (e▸hM.lt hb)
 exact {h1 with
         res:=⟨h1.res,[],0,heap_alloc_new w _,rfl⟩,
         stab:=λw1 f1 w2 f2 hI hF hb=>⟨h1.stab w1 f1 w2 f2 hI.1 hF λb hm=>hb b (.inl hm),hI.2.heap (hb _ (.inr rfl))⟩,
         mi:=λb hb=>by
           rcases hb with hb|rfl
           · exact h1.mi b hb
           · exact⟨by rw[GL];omega,hM.val _ (Nat.le_refl _),.inl hM.stp.size⟩,
         own:=λb hb=>⟨(h1.own b hb).1,(h1.own b hb).2.1,λhm=>by
           rcases hm with hm|rfl
           · exact (h1.own b hb).2.2 hm
           · exact hnew _ hb rfl⟩}
end
end Go.SW
namespace Go.SP
open Go.SW Go.RowKit
def KS(T TS:TypeId)(A:Ad)(s:CS)(m:Nat)(l:List Int)(w:World)(f:Fq):Prop:=As T TS A s w f∧Ch EO w m (Hr l)
variable {A:Ad}{s:CS}{f:Fq}{mb:Nat}{M:Nat→Prop}{TS:TypeId}{w' w0:World}
theorem KS.stab{T:TypeId}{m:Nat}{l:List Int}:Gg (λb=>Bz A b∨b=m) (KS T TS A s m l):=λw f w' f' h hF hb =>
 ⟨As.stab w f w' f' h.1 hF λb hm=>hb b (.inl hm),h.2.heap (hb _ (.inr rfl))⟩
theorem As.chg{T:TypeId}{m:Nat}{w:World}(h:As T TS A s w f)(hC:G9 m w w')(hm:¬Bz A m)(hf:f m=0):As T TS A s w' f :=
 As.stab w f w' f h (G9.fle hC hf) λb hb=>hC.block b λe=>hm (e▸hb)
theorem Oz(l:List Int)(v n:Int):(l++[v]).contains n=(l.contains n||v==n):=by
 cases h:(v==n) with
 |true =>
   have:v=n:=by simpa using h
   subst this;simp
 |false =>
   have:¬v=n:=by simpa using h
   simp;intro h2;exact absurd h2.symm this
theorem zF(n:Int):Instr.sameBits 10000 (EO.enc n) (EO.enc n)=true:=by
 show Instr.sameBits 10000 (.int .i64 n) (.int .i64 n)=true;simp[Instr.sameBits]
theorem KL(l:List Int)(v n:Int)(q:List Int)(b:Bool):(((if l.contains v then l else l++[v]).contains n||q.contains n)||b)=((l.contains n||(v::q).contains n)||b):=by
 have h1:(v::q).contains n=((v==n)||q.contains n):=by
   rw[List.contains_cons];congr 1
   cases h:(v==n) with
   |true =>
     have:v=n:=by simpa using h
     subst this;simp
   |false =>
     have:¬v=n:=by simpa using h
     simpa using λe:n=v=>this e.symm
 rw[h1]
 split
 · rename_i hc
   cases hv:(v==n) with
   |true =>
     have:v=n:=by simpa using hv
     subst this;rw[hc];simp
   |false=>simp
 · rw[Oz,Bool.or_assoc (l.contains n)]
theorem OB{l:List Int}{v:Int}(h:l.Nodup):(if l.contains v then l else l++[v]).Nodup:=by
 split
 · exact h
 · rename_i hc
   refine List.nodup_append.2 ⟨h,List.pairwise_singleton _ _,λa ha b hb e=>?_⟩;obtain rfl:b=v:=by simpa using hb
   subst e;exact hc (by simpa using ha)
theorem rF{P:Program}{n:Nat}{Q:AY}{ds:List Deferred}{f0:Fq}{T:TypeId}{R:List RB}{B:List FB}{Fs:List (World→Fq→Prop)}{fs:List Fr}{σ:Bj}{H:List HB}
   {all r:List Oper} {ty TM k e:TypeId} {pos:String} {af:Array Edge} {g:Option (Nat×Bool)} {x y z:Operand} {l:List Int} {v:Int} (hg:gd all σ g=some true) (hx:ev σ x=some (.map (some mb))) (hy:ev σ y=some (.int .i64 v)) (hz:ev σ z=some (.bool true))
   (hT:Gj P TM=some (k,e)) (hk:P.underlying k=some (.int .i64)) (hmn:¬Bz A mb) (hnd:l.Nodup)
   (h:A5 P n Q ds ⟨M,λb=>Bz A b∨b=mb,KS T TS A s mb (if l.contains v then l else l++[v]),w0,f0⟩ R B Fs (.ops all r) fs σ H) :
   A5 P n Q ds ⟨M,λb=>Bz A b∨b=mb,KS T TS A s mb l,w0,f0⟩ R B Fs (.ops all (⟨none,.mapUpdate TM x y z,ty,pos,af,g⟩::r)) fs σ H:=by
 cases hc:l.contains v with
 |true =>
   rw[hc] at h;exact vR (K:=EO) (a:=v) (l:=Hr l) (I':=KS T TS A s mb l) hg hx hy hz hT hk (zF v) (.inr rfl) (K1 hnd) (by rw[UB,hc];rfl) (λw f h=>h.2) (λw f w2 h hM hC hm=>⟨h.1.chg hC hmn (hM.mi mb (.inr rfl)).2.1,hm⟩) KS.stab h
 |false =>
   rw[hc] at h;exact bT (K:=EO) (a:=v) (l:=Hr l) (I':=KS T TS A s mb (l++[v])) hg hx hy hz hT hk (.inr rfl) (K1 hnd) (V1 hc) (λw f h=>h.2) (λw f w2 h hM hC hm=>⟨h.1.chg hC hmn (hM.mi mb (.inr rfl)).2.1,by rw[OW];exact hm⟩) KS.stab h
theorem FM.cons{e:AD}(h:FM e){b:Bd}(h1:b.t.bnd)(h2:b.all.length≤1000000):FM (b::e):=λb2 hb=>by
 rcases List.mem_cons.1 hb with rfl|hb
 · exact⟨h1,h2⟩
 · exact h b2 hb
theorem Nd.len_le:∀x:Nd,x.len≤x.size
 |.nil=>Nat.le_refl _
 |.cons _ _ _ _ _ k r=>by have:=Nd.len_le r;simp only[Nd.len,Nd.size];omega
theorem Nd.cases1(x:Nd)(h:0<x.len):∃op ln co tx nm k r,x=.cons op ln co tx nm k r:=by
 cases x with
 |nil=>simp[Nd.len] at h
 |cons op ln co tx nm k r=>exact⟨op,ln,co,tx,nm,k,r,rfl⟩
theorem Nd.len0{x:Nd}(h:x.len=0):x=.nil:=by
 cases x with
 |nil=>rfl
 |cons=>simp[Nd.len] at h
def Nd.wfm:Nd→Nat→Prop
 |.nil,m=>m=0∨m=1
 |.cons op _ _ _ _ k r,m =>
   let X:Prop:=(1≤op∧op≤5)∨(op=6∧k.wfm 0)∨(op=7∧k.wfm 4)∨((op=8∨op=12)∧0<k.len∧k.wfm 0)∨((op=9∨op=10)∧k.wfm 6)∨(op=11∧k.wfm 7)∨(op=13∧k.wfm 0)∨((op=14∨op=15)∧k.wfm 5)∨((op=16∨op=17)∧k.wfm 3)
   match m with
   |0=>X∧r.wfm 0
   |1=>k.wfm 2∧r.wfm 1
   |2=>r.wfm 3
   |3=>X
   |4=>(r=.nil∧X)∨(r≠.nil∧r.wfm 4)
   |5=>X∧r.wfm 1
   |6=>X∧r.wfm 3
   |7=>X∧r.wfm 6
   |_=>False
def G4(op:Int)(k:Nd):Prop:=(1≤op∧op≤5)∨(op=6∧k.wfm 0)∨(op=7∧k.wfm 4)∨((op=8∨op=12)∧0<k.len∧k.wfm 0)∨((op=9∨op=10)∧k.wfm 6)∨(op=11∧k.wfm 7)∨(op=13∧k.wfm 0)∨((op=14∨op=15)∧k.wfm 5)∨((op=16∨op=17)∧k.wfm 3)
section
variable{op ln co nm:Int}{tx:lU}{k r:Nd}
theorem lT:(Nd.cons op ln co tx nm k r).wfm 0↔G4 op k∧r.wfm 0:=Iff.rfl
theorem xL:(Nd.cons op ln co tx nm k r).wfm 1↔k.wfm 2∧r.wfm 1:=Iff.rfl
theorem wG:(Nd.cons op ln co tx nm k r).wfm 2↔r.wfm 3:=Iff.rfl
theorem WL:(Nd.cons op ln co tx nm k r).wfm 3↔G4 op k:=Iff.rfl
theorem tM:(Nd.cons op ln co tx nm k r).wfm 4↔(r=.nil∧G4 op k)∨(r≠.nil∧r.wfm 4):=Iff.rfl
theorem xH:(Nd.cons op ln co tx nm k r).wfm 6↔G4 op k∧r.wfm 3:=Iff.rfl
end
abbrev nV(op ln co:Int)(tx:lU)(nm:Int)(k:Nd)(na:Option Addr)(nc:Nat):Value:=.agg #[.int .i64 op,.int .i64 ln,.int .i64 co,S tx,.int .i64 nm,.slice na k.len nc]
def bD(P:Program)(fid:FuncId)(n:Nat):Prop:=∀(w:World)(f:Fq)(_:Vl w f)(op ln co nm:Int)(tx:lU)(kids:Nd)(na:Option Addr)(nc:Nat),kids.size<n→kids.size≤1000000→AU w f kids na nc →
 B3 P fid #[nV op ln co tx nm kids na nc] w (BO (α:=Unit) (λ_=>.bool (BL n op kids)) (λ_=>True) (λ_=>[]) w f)
end Go.SP
namespace Go.SW
open Go.RowKit
variable {σ':Bj}{vs:List Value}{d:Nat}{x0 x1 x10 x2 x3 x4 x5 x6 x7 x8 x9:Value}{a0 a1 a10 a11 a12 a13 a2 a3 a4 a5 a6 a7 a8 a9:World→Fq→Prop}
theorem lE{σ:Bj}(h:Le σ' σ:=by (repeat (first|exact JT _|refine A7 ?_ rfl))):Le σ' σ:=h
theorem zD{σ:Bj}{a0:Nat}(h0:σ a0=some x0):Le (AF e0 a0 x0) σ:=A7 (JT _) h0
@[reducible] def E2(a0:Nat)(x0:Value)(a1:Nat)(x1:Value):Bj:=AF (AF e0 a0 x0) a1 x1
theorem yZ{σ:Bj}{a0 a1 a2:Nat}(h0:σ a0=some x0)(h1:σ a1=some x1)(h2:σ a2=some x2):Le (AF (AF (AF e0 a0 x0) a1 x1) a2 x2) σ:=A7 (A7 (A7 (JT _) h0) h1) h2
@[reducible] def E3(a0:Nat)(x0:Value)(a1:Nat)(x1:Value)(a2:Nat)(x2:Value):Bj:=AF (AF (AF e0 a0 x0) a1 x1) a2 x2
theorem yD{σ:Bj}{a0 a1 a2 a3:Nat}(h0:σ a0=some x0)(h1:σ a1=some x1)(h2:σ a2=some x2)(h3:σ a3=some x3):Le (AF (AF (AF (AF e0 a0 x0) a1 x1) a2 x2) a3 x3) σ:=A7 (A7 (A7 (A7 (JT _) h0) h1) h2) h3
@[reducible] def E4(a0:Nat)(x0:Value)(a1:Nat)(x1:Value)(a2:Nat)(x2:Value)(a3:Nat)(x3:Value):Bj:=AF (AF (AF (AF e0 a0 x0) a1 x1) a2 x2) a3 x3
theorem xW{σ:Bj}{a0 a1 a2 a3 a4:Nat}(h0:σ a0=some x0)(h1:σ a1=some x1)(h2:σ a2=some x2)(h3:σ a3=some x3)(h4:σ a4=some x4):Le (AF (AF (AF (AF (AF e0 a0 x0) a1 x1) a2 x2) a3 x3) a4 x4) σ:=A7 (A7 (A7 (A7 (A7 (JT _) h0) h1) h2) h3) h4
@[reducible] def E5(a0:Nat)(x0:Value)(a1:Nat)(x1:Value)(a2:Nat)(x2:Value)(a3:Nat)(x3:Value)(a4:Nat)(x4:Value):Bj:=AF (AF (AF (AF (AF e0 a0 x0) a1 x1) a2 x2) a3 x3) a4 x4
@[reducible] def E6(a0:Nat)(x0:Value)(a1:Nat)(x1:Value)(a2:Nat)(x2:Value)(a3:Nat)(x3:Value)(a4:Nat)(x4:Value)(a5:Nat)(x5:Value):Bj:=AF (AF (AF (AF (AF (AF e0 a0 x0) a1 x1) a2 x2) a3 x3) a4 x4) a5 x5
theorem yO{σ:Bj}{a0 a1 a2 a3 a4 a5 a6:Nat}(h0:σ a0=some x0)(h1:σ a1=some x1)(h2:σ a2=some x2)(h3:σ a3=some x3)(h4:σ a4=some x4)(h5:σ a5=some x5)(h6:σ a6=some x6):Le (AF (AF (AF (AF (AF (AF (AF e0 a0 x0) a1 x1) a2 x2) a3 x3) a4 x4) a5 x5) a6 x6) σ:=A7 (A7 (A7 (A7 (A7 (A7 (A7 (JT _) h0) h1) h2) h3) h4) h5) h6
@[reducible] def E7(a0:Nat)(x0:Value)(a1:Nat)(x1:Value)(a2:Nat)(x2:Value)(a3:Nat)(x3:Value)(a4:Nat)(x4:Value)(a5:Nat)(x5:Value)(a6:Nat)(x6:Value):Bj:=AF (AF (AF (AF (AF (AF (AF e0 a0 x0) a1 x1) a2 x2) a3 x3) a4 x4) a5 x5) a6 x6
theorem xI{σ:Bj}{a0 a1 a2 a3 a4 a5 a6 a7:Nat}(h0:σ a0=some x0)(h1:σ a1=some x1)(h2:σ a2=some x2)(h3:σ a3=some x3)(h4:σ a4=some x4)(h5:σ a5=some x5)(h6:σ a6=some x6)(h7:σ a7=some x7):Le (AF (AF (AF (AF (AF (AF (AF (AF e0 a0 x0) a1 x1) a2 x2) a3 x3) a4 x4) a5 x5) a6 x6) a7 x7) σ:=A7 (A7 (A7 (A7 (A7 (A7 (A7 (A7 (JT _) h0) h1) h2) h3) h4) h5) h6) h7
@[reducible] def E8(a0:Nat)(x0:Value)(a1:Nat)(x1:Value)(a2:Nat)(x2:Value)(a3:Nat)(x3:Value)(a4:Nat)(x4:Value)(a5:Nat)(x5:Value)(a6:Nat)(x6:Value)(a7:Nat)(x7:Value):Bj:=AF (AF (AF (AF (AF (AF (AF (AF e0 a0 x0) a1 x1) a2 x2) a3 x3) a4 x4) a5 x5) a6 x6) a7 x7
theorem jH{σ:Bj}{a0 a1 a2 a3 a4 a5 a6 a7 a8:Nat}(h0:σ a0=some x0)(h1:σ a1=some x1)(h2:σ a2=some x2)(h3:σ a3=some x3)(h4:σ a4=some x4)(h5:σ a5=some x5)(h6:σ a6=some x6)(h7:σ a7=some x7)(h8:σ a8=some x8):Le (AF (AF (AF (AF (AF (AF (AF (AF (AF e0 a0 x0) a1 x1) a2 x2) a3 x3) a4 x4) a5 x5) a6 x6) a7 x7) a8 x8) σ:=A7 (A7 (A7 (A7 (A7 (A7 (A7 (A7 (A7 (JT _) h0) h1) h2) h3) h4) h5) h6) h7) h8
@[reducible] def E9(a0:Nat)(x0:Value)(a1:Nat)(x1:Value)(a2:Nat)(x2:Value)(a3:Nat)(x3:Value)(a4:Nat)(x4:Value)(a5:Nat)(x5:Value)(a6:Nat)(x6:Value)(a7:Nat)(x7:Value)(a8:Nat)(x8:Value):Bj:=AF (AF (AF (AF (AF (AF (AF (AF (AF e0 a0 x0) a1 x1) a2 x2) a3 x3) a4 x4) a5 x5) a6 x6) a7 x7) a8 x8
@[reducible] def yY(a0:Nat)(x0:Value)(a1:Nat)(x1:Value)(a2:Nat)(x2:Value)(a3:Nat)(x3:Value)(a4:Nat)(x4:Value)(a5:Nat)(x5:Value)(a6:Nat)(x6:Value)(a7:Nat)(x7:Value)(a8:Nat)(x8:Value)(a9:Nat)(x9:Value):Bj:=AF (AF (AF (AF (AF (AF (AF (AF (AF (AF e0 a0 x0) a1 x1) a2 x2) a3 x3) a4 x4) a5 x5) a6 x6) a7 x7) a8 x8) a9 x9
theorem wD{σ:Bj}{a0 a1 a2 a3 a4 a5 a6 a7 a8 a9 a10:Nat}(h0:σ a0=some x0)(h1:σ a1=some x1)(h2:σ a2=some x2)(h3:σ a3=some x3)(h4:σ a4=some x4)(h5:σ a5=some x5)(h6:σ a6=some x6)(h7:σ a7=some x7)(h8:σ a8=some x8)(h9:σ a9=some x9)(h10:σ a10=some x10):Le (AF (AF (AF (AF (AF (AF (AF (AF (AF (AF (AF e0 a0 x0) a1 x1) a2 x2) a3 x3) a4 x4) a5 x5) a6 x6) a7 x7) a8 x8) a9 x9) a10 x10) σ:=A7 (A7 (A7 (A7 (A7 (A7 (A7 (A7 (A7 (A7 (A7 (JT _) h0) h1) h2) h3) h4) h5) h6) h7) h8) h9) h10
@[reducible] def rB(a0:Nat)(x0:Value)(a1:Nat)(x1:Value)(a2:Nat)(x2:Value)(a3:Nat)(x3:Value)(a4:Nat)(x4:Value)(a5:Nat)(x5:Value)(a6:Nat)(x6:Value)(a7:Nat)(x7:Value)(a8:Nat)(x8:Value)(a9:Nat)(x9:Value)(a10:Nat)(x10:Value):Bj:=AF (AF (AF (AF (AF (AF (AF (AF (AF (AF (AF e0 a0 x0) a1 x1) a2 x2) a3 x3) a4 x4) a5 x5) a6 x6) a7 x7) a8 x8) a9 x9) a10 x10
@[reducible] def zC(a0:Nat)(x0:Value)(a1:Nat)(x1:Value)(a2:Nat)(x2:Value)(a3:Nat)(x3:Value)(a4:Nat)(x4:Value)(a5:Nat)(x5:Value)(a6:Nat)(x6:Value)(a7:Nat)(x7:Value)(a8:Nat)(x8:Value)(a9:Nat)(x9:Value)(a10:Nat)(x10:Value)(a11:Nat)(x11:Value):Bj:=AF (AF (AF (AF (AF (AF (AF (AF (AF (AF (AF (AF e0 a0 x0) a1 x1) a2 x2) a3 x3) a4 x4) a5 x5) a6 x6) a7 x7) a8 x8) a9 x9) a10 x10) a11 x11
theorem uO{σ:Bj}{a0 a1 a2 a3 a4 a5 a6 a7 a8 a9 a10 a11 a12 a13 a14 a15:Nat}{x11 x12 x13 x14 x15:Value}(h0:σ a0=some x0)(h1:σ a1=some x1)(h2:σ a2=some x2)(h3:σ a3=some x3)(h4:σ a4=some x4)(h5:σ a5=some x5)(h6:σ a6=some x6)(h7:σ a7=some x7)(h8:σ a8=some x8)(h9:σ a9=some x9)(h10:σ a10=some x10)(h11:σ a11=some x11)(h12:σ a12=some x12)(h13:σ a13=some x13)(h14:σ a14=some x14)(h15:σ a15=some x15):Le (AF (AF (AF (AF (AF (AF (AF (AF (AF (AF (AF (AF (AF (AF (AF (AF e0 a0 x0) a1 x1) a2 x2) a3 x3) a4 x4) a5 x5) a6 x6) a7 x7) a8 x8) a9 x9) a10 x10) a11 x11) a12 x12) a13 x13) a14 x14) a15 x15) σ:=A7 (A7 (A7 (A7 (A7 (A7 (A7 (A7 (A7 (A7 (A7 (A7 (A7 (A7 (A7 (A7 (JT _) h0) h1) h2) h3) h4) h5) h6) h7) h8) h9) h10) h11) h12) h13) h14) h15
@[reducible] def pP(a0:Nat)(x0:Value)(a1:Nat)(x1:Value)(a2:Nat)(x2:Value)(a3:Nat)(x3:Value)(a4:Nat)(x4:Value)(a5:Nat)(x5:Value)(a6:Nat)(x6:Value)(a7:Nat)(x7:Value)(a8:Nat)(x8:Value)(a9:Nat)(x9:Value)(a10:Nat)(x10:Value)(a11:Nat)(x11:Value)(a12:Nat)(x12:Value)(a13:Nat)(x13:Value)(a14:Nat)(x14:Value)(a15:Nat)(x15:Value):Bj:=AF (AF (AF (AF (AF (AF (AF (AF (AF (AF (AF (AF (AF (AF (AF (AF e0 a0 x0) a1 x1) a2 x2) a3 x3) a4 x4) a5 x5) a6 x6) a7 x7) a8 x8) a9 x9) a10 x10) a11 x11) a12 x12) a13 x13) a14 x14) a15 x15
theorem mR{α:Type}{F' Fs:List α}(ix:List Nat)(h:ix.map (nth Fs)=F'.map some:=by rfl):∀φ,φ∈F'→φ∈Fs:=λφ hφ=>by
 have h1:some φ∈ix.map (nth Fs):=by rw[h];exact List.mem_map.2 ⟨φ,hφ,rfl⟩
 obtain⟨i,_,hi⟩:=List.mem_map.1 h1;rw[Ez] at hi;exact List.mem_of_getElem? hi
theorem sK{α:Type}{a:α}{l l':List α}(h:l.Sublist l'):(a::l).Sublist (a::l'):=.cons_cons _ h
theorem sD{α:Type}{a:α}{l l':List α}(h:l.Sublist l'):l.Sublist (a::l'):=.cons _ h
theorem sZ{α:Type}:([]:List α).Sublist []:=.slnil
theorem sR{α:Type}{l:List α}:l.Sublist l:=List.Sublist.refl _
theorem nE{α:Type _}{p:α→Prop}:∀e,e∈([]:List α)→p e:=λ_ h=>by cases h
theorem ER{α:Sort _}{β:α→Sort _}{γ:(a:α)→β a→Sort _}{δ:(a:α)→(b:β a)→γ a b→Sort _}:∀(a:α)(b:β a)(c:γ a b)(_:δ a b c),True:=λ_ _ _ _=>trivial
@[reducible] def rd:List Nat→OT→OT
 | [],t=>t
 |i::l,t=>.rd i (rd l t)
section
variable{X:Cx}{w:World}{f:Fq}{H:List HB}{R:List RB}{B:List FB}{Fs:List (World→Fq→Prop)}
theorem AO.mz(h:AO X w f H R B Fs):∀b,X.MI b→f b=0:=λb hb=>(h.mi b hb).2.1
theorem AO.f0(h:AO X w f H R B (a0::Fs)):a0 w f:=h.fac _ (List.mem_of_getElem? (i:=0) rfl)
theorem AO.f1(h:AO X w f H R B (a0::a1::Fs)):a1 w f:=h.fac _ (List.mem_of_getElem? (i:=1) rfl)
theorem AO.f2(h:AO X w f H R B (a0::a1::a2::Fs)):a2 w f:=h.fac _ (List.mem_of_getElem? (i:=2) rfl)
theorem AO.f3(h:AO X w f H R B (a0::a1::a2::a3::Fs)):a3 w f:=h.fac _ (List.mem_of_getElem? (i:=3) rfl)
theorem AO.f4(h:AO X w f H R B (a0::a1::a2::a3::a4::Fs)):a4 w f:=h.fac _ (List.mem_of_getElem? (i:=4) rfl)
theorem AO.f5(h:AO X w f H R B (a0::a1::a2::a3::a4::a5::Fs)):a5 w f:=h.fac _ (List.mem_of_getElem? (i:=5) rfl)
theorem AO.f6(h:AO X w f H R B (a0::a1::a2::a3::a4::a5::a6::Fs)):a6 w f:=h.fac _ (List.mem_of_getElem? (i:=6) rfl)
theorem AO.f7(h:AO X w f H R B (a0::a1::a2::a3::a4::a5::a6::a7::Fs)):a7 w f:=h.fac _ (List.mem_of_getElem? (i:=7) rfl)
theorem AO.f8(h:AO X w f H R B (a0::a1::a2::a3::a4::a5::a6::a7::a8::Fs)):a8 w f:=h.fac _ (List.mem_of_getElem? (i:=8) rfl)
theorem AO.f9(h:AO X w f H R B (a0::a1::a2::a3::a4::a5::a6::a7::a8::a9::Fs)):a9 w f:=h.fac _ (List.mem_of_getElem? (i:=9) rfl)
theorem AO.f10(h:AO X w f H R B (a0::a1::a2::a3::a4::a5::a6::a7::a8::a9::a10::Fs)):a10 w f:=h.fac _ (List.mem_of_getElem? (i:=10) rfl)
theorem AO.f12(h:AO X w f H R B (a0::a1::a2::a3::a4::a5::a6::a7::a8::a9::a10::a11::a12::Fs)):a12 w f:=h.fac _ (List.mem_of_getElem? (i:=12) rfl)
theorem AO.f13(h:AO X w f H R B (a0::a1::a2::a3::a4::a5::a6::a7::a8::a9::a10::a11::a12::a13::Fs)):a13 w f:=h.fac _ (List.mem_of_getElem? (i:=13) rfl)
theorem AO.f16{a14 a15 a16:World→Fq→Prop}(h:AO X w f H R B (a0::a1::a2::a3::a4::a5::a6::a7::a8::a9::a10::a11::a12::a13::a14::a15::a16::Fs)):a16 w f:=h.fac _ (List.mem_of_getElem? (i:=16) rfl)
theorem AO.b0{a0:FB}(h:AO X w f H R (a0::B) Fs):Cs w f a0.b a0.off a0.l:=h.fro _ (List.mem_of_getElem? (i:=0) rfl)
theorem AO.b1{a0 a1:FB}(h:AO X w f H R (a0::a1::B) Fs):Cs w f a1.b a1.off a1.l:=h.fro _ (List.mem_of_getElem? (i:=1) rfl)
theorem AO.b2{a0 a1 a2:FB}(h:AO X w f H R (a0::a1::a2::B) Fs):Cs w f a2.b a2.off a2.l:=h.fro _ (List.mem_of_getElem? (i:=2) rfl)
theorem AO.b3{a0 a1 a2 a3:FB}(h:AO X w f H R (a0::a1::a2::a3::B) Fs):Cs w f a3.b a3.off a3.l:=h.fro _ (List.mem_of_getElem? (i:=3) rfl)
theorem AO.b4{a0 a1 a2 a3 a4:FB}(h:AO X w f H R (a0::a1::a2::a3::a4::B) Fs):Cs w f a4.b a4.off a4.l:=h.fro _ (List.mem_of_getElem? (i:=4) rfl)
theorem AO.b5{a0 a1 a2 a3 a4 a5:FB}(h:AO X w f H R (a0::a1::a2::a3::a4::a5::B) Fs):Cs w f a5.b a5.off a5.l:=h.fro _ (List.mem_of_getElem? (i:=5) rfl)
theorem AO.b6{a0 a1 a2 a3 a4 a5 a6:FB}(h:AO X w f H R (a0::a1::a2::a3::a4::a5::a6::B) Fs):Cs w f a6.b a6.off a6.l:=h.fro _ (List.mem_of_getElem? (i:=6) rfl)
theorem AO.b7{a0 a1 a2 a3 a4 a5 a6 a7:FB}(h:AO X w f H R (a0::a1::a2::a3::a4::a5::a6::a7::B) Fs):Cs w f a7.b a7.off a7.l:=h.fro _ (List.mem_of_getElem? (i:=7) rfl)
theorem AO.k0{a0:HB}(h:AO X w f (a0::H) R B Fs):AM w a0.b a0.l a0.T:=h.blk _ (List.mem_of_getElem? (i:=0) rfl)
theorem xC{a0:HB}{H:List HB}:a0∈a0::H:=List.mem_of_getElem? (i:=0) rfl
theorem AO.k1{a0 a1:HB}(h:AO X w f (a0::a1::H) R B Fs):AM w a1.b a1.l a1.T:=h.blk _ (List.mem_of_getElem? (i:=1) rfl)
theorem oW{a0 a1:HB}{H:List HB}:a1∈a0::a1::H:=List.mem_of_getElem? (i:=1) rfl
theorem AO.k2{a0 a1 a2:HB}(h:AO X w f (a0::a1::a2::H) R B Fs):AM w a2.b a2.l a2.T:=h.blk _ (List.mem_of_getElem? (i:=2) rfl)
theorem Wj{a0 a1 a2:HB}{H:List HB}:a2∈a0::a1::a2::H:=List.mem_of_getElem? (i:=2) rfl
theorem AO.k3{a0 a1 a2 a3:HB}(h:AO X w f (a0::a1::a2::a3::H) R B Fs):AM w a3.b a3.l a3.T:=h.blk _ (List.mem_of_getElem? (i:=3) rfl)
theorem Vj{a0 a1 a2 a3:HB}{H:List HB}:a3∈a0::a1::a2::a3::H:=List.mem_of_getElem? (i:=3) rfl
theorem AO.k4{a0 a1 a2 a3 a4:HB}(h:AO X w f (a0::a1::a2::a3::a4::H) R B Fs):AM w a4.b a4.l a4.T:=h.blk _ (List.mem_of_getElem? (i:=4) rfl)
theorem Y3{a0 a1 a2 a3 a4:HB}{H:List HB}:a4∈a0::a1::a2::a3::a4::H:=List.mem_of_getElem? (i:=4) rfl
theorem AO.k5{a0 a1 a2 a3 a4 a5:HB}(h:AO X w f (a0::a1::a2::a3::a4::a5::H) R B Fs):AM w a5.b a5.l a5.T:=h.blk _ (List.mem_of_getElem? (i:=5) rfl)
theorem wE{a0 a1 a2 a3 a4 a5:HB}{H:List HB}:a5∈a0::a1::a2::a3::a4::a5::H:=List.mem_of_getElem? (i:=5) rfl
end
section
variable{P:Program}{σ:Bj}{ty:TypeId}
theorem eC{f:FuncId}{g:Operand}{args:List Operand}{ts:Array TypeId}(he:BJ P f)(hg:ev σ g=some (.func (.func f) #[] #[]))(ha:Iz σ args=some vs) :
   ∀w,Enters P σ (.call {callee:=.value g,args:=args.toArray,argTypes:=ts}) ty w f vs.toArray:=λ_=>Aw he hg ha
theorem Dx{fn:Func}{v:Value}{X:Cx}{H:List HB}{R:List RB}{B:List FB}{Fs:List (World→Fq→Prop)}(hr:fn.results=#[.tmp d])(h:σ d=some v):∀w f,AO X w f H R B Fs→Vz P fn σ w v:=λ_ _ _=>AB hr (Ak h)
end
section
variable{P:Program}{n:Nat}{Q:AY}{ds:List Deferred}{X:Cx}{R:List RB}{B:List FB}{Fs:List (World→Fq→Prop)}{fs:List Fr}{σ:Bj}{H Hk:List HB}{l:List Oper}
variable {id:Nat}
theorem CU(ix:List Nat)(hm:P.follows .mixedOrders=true)(t:OT)(hk:LY H ix=some Hk)(hok:(t.ok l.toArray true (Array.replicate l.length false)&&(t.even true l.length&&Region.noSelect l.toArray))=true) 
   (h:Dc P n (LK P n Q fs) ds X R B Fs l Hk B (λ_=>True) true t σ H) (hpi:PI Q:=by exact λ_ _ _ _ _ h=>h):A5 P n Q ds X R B Fs (.code (.region id l.toArray true)) fs σ H:=by
 simp only[Bool.and_eq_true] at hok;exact LV (λ_=>True) (λ_ _ _ _=>trivial) ix hm t hk hok.1 hok.2.1 hok.2.2 hpi h
theorem Ax{B0:List FB}{k:OT}(ix:List Nat)(hk:LY H ix=some Hk)(h:Dc P n Q ds X R B0 Fs l Hk B0 (λ_=>True) true k σ H):A5 P n (Xy P n l Q (Kp Hk B0 (λ_=>True)) k) ds X R B0 Fs (.out .normal) [] σ H :=
 Be ix (λ_ _ _ _=>trivial) hk (λ_ h=>h) h
theorem D9{k:Li}(φ:World→Fq→Prop)(h1:∀w f,AO X w f H R B Fs→φ w f)(hm:Gf φ)(h:A5 P n Q ds X R B (φ::Fs) k fs σ H):A5 P n Q ds X R B Fs k fs σ H:=λw f hM =>
 h w f (hM.more (B':=[]) (F':=[φ]) (λ_ h=>by cases h) (AI.mem ⟨h1 w f hM,tQ⟩) (Az.mem ⟨hm,tQ⟩))
variable{all r:List Oper}{ty T:TypeId}{pos:String}{af:Array Edge}{g:Option (Nat×Bool)}{d:Nat}{op:Op}{fid:FuncId}{args:Array Value}
theorem Dj{c:Value}(hg:gd all σ g=some true)(hd:Nat.blt d n=true)(he:∀w,Enters P σ op ty w fid args)(hc:∀w f,AO X w f H R B Fs→B3 P fid args w λv w'=>v=c∧AR w w')
   (h:A5 P n Q ds X R B Fs (.ops all r) fs (AF σ d c) H):A5 P n Q ds X R B Fs (.ops all (⟨some d,op,ty,pos,af,g⟩::r)) fs σ H :=
 By (α:=Unit) (val:=λ_=>c) (q:=λ_=>True) (F':=λ_=>[]) hg hd he (λw f hM=>(hc w f hM).mono λ_ _ ⟨h1,h2⟩=>⟨(),f,h1,tQ,CD.of_ext h2 hM.val,tQ⟩) (λ_=>trivial) (λ_ _=>h)
end
theorem oE{α:Type}{p:α→Prop}{a:α}(h:p a):∀e,e∈[a]→p e:=λe he=>by
 cases he with
 |head=>exact h
 |tail _ h=>cases h
end Go.SW
namespace Go.SW
open Go.RowKit Go.SP
variable {f:Fq}{co ln:Int}{j:Nat}{r:Nd}{w:World}{φ:World→Fq→Prop}
theorem AO.fn{X:Cx}{H:List HB}{R:List RB}{B:List FB}{Fs:List (World→Fq→Prop)}(h:AO X w f H R B Fs)(hj:nth Fs j=some φ):φ w f:=h.fac _ (by rw[Ez] at hj;exact List.mem_of_getElem? hj)
section
variable{P:Program}{n:Nat}{Q:AY}{ds:List Deferred}{X:Cx}{R:List RB}{B:List FB}{Fs:List (World→Fq→Prop)}{fs:List Fr}{σ:Bj}{H:List HB}{k:Li}{na:Option Addr}{i c:Nat}
theorem Jp{op nm:Int}{tx:lU}{q:Nd}(j:Nat)(hj:nth Fs j=some (λw f=>Bt w f na i (.cons op ln co tx nm q r)))
   (h:∀x:Nat×Nat×Option Addr×Nat,na=some ⟨x.1,x.2.1,none⟩→A5 P n Q ds X R (⟨x.1,x.2.1+i*6,Mg op ln co tx nm x.2.2.1 q.len x.2.2.2⟩::B) ((λw f=>AU w f q x.2.2.1 x.2.2.2)::(λw f=>Bt w f na (i+1) r)::Fs) k fs σ H):A5 P n Q ds X R B Fs k fs σ H :=
 LQ (α:=Nat×Nat×Option Addr×Nat) (λx=>na=some ⟨x.1,x.2.1,none⟩) (λ_=>[_]) (λ_=>[_,_]) (λ_ _ hM=>let ⟨b,off,ka,kc,h1,h2,h3,h4⟩:=Bt.head (hM.fn hj);⟨(b,off,ka,kc),h1,oE h2,AI.mem ⟨h3,h4,tQ⟩⟩) (λ_=>Az.mem ⟨AU.mono,Bt.mono,tQ⟩) h
theorem yE{x:Nd}(j:Nat)(hj:nth Fs j=some (λw f=>AU w f x na c))(h:A5 P n Q ds X R B ((λw f=>Bt w f na 0 x)::Fs) k fs σ H):A5 P n Q ds X R B Fs k fs σ H:=D9 _ (λ_ _ hM=>AU.at (hM.fn hj)) Bt.mono h
theorem ZQ{x y:Nd}(j:Nat)(hj:nth Fs j=some (λw f=>AU w f x na c))(e:x=y)(h:A5 P n Q ds X R B ((λw f=>Bt w f na 0 y)::Fs) k fs σ H):A5 P n Q ds X R B Fs k fs σ H:=D9 _ (λ_ _ hM=>by rw[← e];exact AU.at (hM.fn hj)) Bt.mono h
theorem XN{t:T1}{r:Ty}(j:Nat)(hj:nth Fs j=some (λw f=>BN w f na i (t.cons r)))
   (h:∀x:Nat×Nat×Option Addr×Nat,na=some ⟨x.1,x.2.1,none⟩→A5 P n Q ds X R (⟨x.1,x.2.1+i*4,tC t x.2.2.1 x.2.2.2⟩::B) ((λw f=>Ai w f t.kids x.2.2.1 x.2.2.2)::(λw f=>BN w f na (i+1) r)::Fs) k fs σ H):A5 P n Q ds X R B Fs k fs σ H :=
 LQ (α:=Nat×Nat×Option Addr×Nat) (λx=>na=some ⟨x.1,x.2.1,none⟩) (λ_=>[_]) (λ_=>[_,_]) (λ_ _ hM=>let ⟨b,off,ka,kc,h1,h2,h3,h4⟩:=BN.head (hM.fn hj);⟨(b,off,ka,kc),h1,oE h2,AI.mem ⟨h3,h4,tQ⟩⟩) (λ_=>Az.mem ⟨Ai.mono,BN.mono,tQ⟩) h
theorem jY{l:List Int}{v:Int}(j:Nat)(hj:nth Fs j=some (λw f=>BP w f l na c))(hx:l[i]?=some v)
   (h:∀x:Nat×Nat,na=some ⟨x.1,x.2,none⟩→A5 P n Q ds X R (⟨x.1,x.2+i*1,[.int .i64 v]⟩::B) Fs k fs σ H):A5 P n Q ds X R B Fs k fs σ H :=
 LQ (α:=Nat×Nat) (λx=>na=some ⟨x.1,x.2,none⟩) (λ_=>[_]) (λ_=>[]) (λ_ _ hM=>let ⟨b,off,h1,h2⟩:=BP.get (hM.fn hj) hx;⟨(b,off),h1,oE h2,nE⟩) (λ_=>Az.mem tQ) h
end
end Go.SW
namespace Go.SW
open Go.RowKit
open Go.SP (QS)
def Sj(T:TypeId)(q:Int×Int→Prop)(w:World)(f:Fq)(c:List PanicEntry)(w':World):Prop:=∃e f',c=QS T e∧q e∧CD (λ_=>False) w f w' f'
def bJ{α:Type}(e:TypeId)(size:Nat)(n:α→Nat)(xs:α→List Value)(q:α→Prop)(F':α→List (World→Fq→Prop))(w:World)(f:Fq)(v:Value)(w':World):Prop :=
 ∃x a c f',v=.slice a (n x) c∧q x∧CD (λ_=>False) w f w' f'∧Ci w' e size a c (n x) (xs x)∧(∀b,rb a=some b→w.heap.size≤b∧f' b=0)∧AI (F' x) w' f'
variable {f f':Fq}{pe:Int×Int→Prop}{xs:List Value}{w w':World}
theorem AO.addRow{X:Cx}{H:List HB}{R:List RB}{B:List FB}{Fs:List (World→Fq→Prop)}(h:AO X w f H R B Fs)(hE:CD (λ_=>False) w f w' f'){e:TypeId}{size c n:Nat}{a:Option Addr}
   (hr:Ci w' e size a c n xs) (hb:∀b,rb a=some b→w.heap.size≤b∧f' b=0):AO X w' f' H (⟨e,size,a,c,n,xs⟩::R) B Fs:=by
 have h1:=h.call0 hE
 cases ha:rb a with
 |none =>
   have ho:CM H (⟨e,size,a,c,n,xs⟩::R)=CM H R:=by simp only[CM,List.filterMap_cons,ha]
   exact {h1 with
     row:=λr hm=>by rcases List.mem_cons.1 hm with rfl|hm;exact hr;exact h1.row r hm,
     nd:=by rw[ho];exact h1.nd,
     own:=by rw[ho];exact h1.own,
     rnw:=λr hm b hb=>by rcases List.mem_cons.1 hm with rfl|hm;(rw[ha] at hb;cases hb);exact h1.rnw r hm b hb}
 |some b =>
   obtain⟨hn,hz⟩:=hb b ha;have ho:CM H (⟨e,size,a,c,n,xs⟩::R)=H.map (·.b)++b::(R.filterMap λr=>rb r.a):=by simp only[CM,List.filterMap_cons,ha]
   have hp:(H.map (·.b)++b::(R.filterMap λr=>rb r.a)).Perm (b::CM H R):=List.perm_middle;have hw0:X.w0.heap.size≤b:=Nat.le_trans h.stp.size hn
   exact {h1 with
     row:=λr hm=>by rcases List.mem_cons.1 hm with rfl|hm;exact hr;exact h1.row r hm,
     nd:=by rw[ho];exact hp.nodup_iff.2 (List.nodup_cons.2 ⟨λhm=>by have:=h.lt hm;omega,h1.nd⟩),
     own:=λk hk=>by
       rw[ho] at hk;rcases List.mem_cons.1 (hp.mem_iff.1 hk) with rfl|hk
       · exact⟨hz,.inl hw0,λhm=>by have:=(h.mi _ hm).1;omega⟩
       · exact h1.own k hk,
     rnw:=λr hm b' hb'=>by
       rcases List.mem_cons.1 hm with rfl|hm
       · rw[ha] at hb';cases hb';exact hw0
       · exact h1.rnw r hm b' hb' }
section
variable{P:Program}{n:Nat}{Q:AY}{ds:List Deferred}{X:Cx}{R:List RB}{B:List FB}{Fs:List (World→Fq→Prop)}{fs:List Fr}{σ:Bj}{H:List HB}
variable{all r:List Oper}{ty T:TypeId}{pos:String}{af:Array Edge}{g:Option (Nat×Bool)}{d:Nat}{op:Op}{fid:FuncId}{args:Array Value}{α:Type}
theorem J6{val:α→Value}{q:α→Prop}{F':α→List (World→Fq→Prop)}
   (hg:gd all σ g=some true) (hd:Nat.blt d n=true) (he:∀w,Enters P σ op ty w fid args)
   (hc:∀w f,AO X w f H R B Fs→BD P fid args w (BO val q F' w f) (Sj T pe w f)) (hm:∀x,Az (F' x))
   (hp:∀e w' f',pe e→CD X.M X.w0 X.f0 w' f'→Q.p (QS T e) σ ds w')
   (h:∀x,q x→A5 P n Q ds X R B (F' x++Fs) (.ops all r) fs (AF σ d (val x)) H):A5 P n Q ds X R B Fs (.ops all (⟨some d,op,ty,pos,af,g⟩::r)) fs σ H:=λw f hM=>by
 refine B2 hg (Cf hd (he w) (hc w f hM) ?_ ?_)
 · rintro v w' ⟨x,f',rfl,hq,hE,hF⟩
   exact h x hq w' f' ((hM.call0 hE).more (B':=[]) (λ_ h=>by cases h) hF.mem (hm x).mem)
 · rintro c w' ⟨e,f',rfl,hq,hE⟩
   rw[LZ];exact hp e w' f' hq (hM.call0 hE).exm
theorem mD(hg:gd all σ g=some true)(hd:Nat.blt d n=true)(he:∀w,Enters P σ op ty w fid args)
   (hc:∀w f,AO X w f H R B Fs→BD P fid args w (λ_ _=>False) (Sj T pe w f))
   (hp:∀e w' f',pe e→CD X.M X.w0 X.f0 w' f'→Q.p (QS T e) σ ds w'):A5 P n Q ds X R B Fs (.ops all (⟨some d,op,ty,pos,af,g⟩::r)) fs σ H :=
 J6 (α:=Unit) (val:=λ_=>.tuple #[]) (q:=λ_=>False) (F':=λ_=>[]) hg hd he (λw f hM=>(hc w f hM).mono (λ_ _ h=>h.elim) λ_ _ h=>h) (λ_=>trivial) hp (λ_ h=>h.elim)
theorem Xo{e:TypeId}{size:Nat}{m:α→Nat}{xs:α→List Value}{q:α→Prop}{F':α→List (World→Fq→Prop)}
   (hg:gd all σ g=some true) (hd:Nat.blt d n=true) (he:∀w,Enters P σ op ty w fid args)
   (hc:∀w f,AO X w f H R B Fs→BD P fid args w (bJ e size m xs q F' w f) (Sj T pe w f)) (hm:∀x,Az (F' x))
   (hp:∀e w' f',pe e→CD X.M X.w0 X.f0 w' f'→Q.p (QS T e) σ ds w')
   (h:∀x a c,q x→A5 P n Q ds X (⟨e,size,a,c,m x,xs x⟩::R) B (F' x++Fs) (.ops all r) fs (AF σ d (.slice a (m x) c)) H):A5 P n Q ds X R B Fs (.ops all (⟨some d,op,ty,pos,af,g⟩::r)) fs σ H:=λw f hM=>by
 refine B2 hg (Cf hd (he w) (hc w f hM) ?_ ?_)
 · rintro v w' ⟨x,a,c,f',rfl,hq,hE,hr,hb,hF⟩
   exact h x a c hq w' f' ((hM.addRow hE hr hb).more (B':=[]) (λ_ h=>by cases h) hF.mem (hm x).mem)
 · rintro c w' ⟨e,f',rfl,hq,hE⟩
   rw[LZ];exact hp e w' f' hq (hM.call0 hE).exm
end
end Go.SW
namespace Go.SP
open Go.SW Go.RowKit
def XM(w:World)(f:Fq):Fo→Nat→Nat→Prop
 |.nil,_,_=>True
 |.cons t k r,b,off=>(∃a c,Cs w f b off [.int .i64 t.k,.int .i64 t.ln,.int .i64 t.co,.int .i64 t.nm,S t.tx,.slice a k.len c]∧k.len≤c∧(k=.nil∨∃b' off',a=some ⟨b',off',none⟩∧XM w f k b' off'))∧XM w f r b (off+6)
def DS(w:World)(f:Fq)(k:Fo)(a:Option Addr)(c:Nat):Prop:=k.len≤c∧(k=.nil∨∃b off,a=some ⟨b,off,none⟩∧XM w f k b off)
variable {f f':Fq}{co ln:Int}{xs ys:List Value}{b:Nat}{w w':World}
theorem XM.mono(hF:I4 w f w' f'):∀(k:Fo)(b off:Nat),XM w f k b off→XM w' f' k b off
 |.nil,_,_,_=>trivial
 |.cons _ k r,b,off,⟨⟨a,c,h1,h2,h3⟩,h4⟩=>⟨⟨a,c,h1.mono hF,h2,h3.imp id λ⟨b',off',h5,h6⟩=>⟨b',off',h5,XM.mono hF k b' off' h6⟩⟩,XM.mono hF r b _ h4⟩
theorem DS.mono{k:Fo}{a:Option Addr}{c:Nat}:Gf (λw f=>DS w f k a c):=λ_ _ _ _ h hF=>⟨h.1,h.2.imp id λ⟨b,off,h1,h2⟩=>⟨b,off,h1,XM.mono hF k b off h2⟩⟩
theorem DS.nil(w:World)(f:Fq)(a:Option Addr)(c:Nat):DS w f .nil a c:=⟨Nat.zero_le _,.inl rfl⟩
def Fc(w:World)(f:Fq)(a:Option Addr)(i:Nat)(r:Fo):Prop:=r=.nil∨∃b off,a=some ⟨b,off,none⟩∧XM w f r b (off+i*6)
theorem Fc.mono{a:Option Addr}{i:Nat}{r:Fo}:Gf (λw f=>Fc w f a i r):=λ_ _ _ _ h hF=>h.imp id λ⟨b,off,h1,h2⟩=>⟨b,off,h1,XM.mono hF r b _ h2⟩
theorem DS.at{k:Fo}{a:Option Addr}{c:Nat}(h:DS w f k a c):Fc w f a 0 k:=h.2.imp id λ⟨b,off,h1,h2⟩=>⟨b,off,h1,by simpa using h2⟩
def wA(t:AA)(a:Option Addr)(n c:Nat):List Value:=[.int .i64 t.k,.int .i64 t.ln,.int .i64 t.co,.int .i64 t.nm,S t.tx,.slice a n c]
abbrev fV(t:AA)(a:Option Addr)(n c:Nat):Value:=.agg #[.int .i64 t.k,.int .i64 t.ln,.int .i64 t.co,.int .i64 t.nm,S t.tx,.slice a n c]
theorem Fc.head{a:Option Addr}{i:Nat}{t:AA}{k r:Fo}(h:Fc w f a i (.cons t k r)):∃b off ka kc,a=some ⟨b,off,none⟩∧Cs w f b (off+i*6) (wA t ka k.len kc)∧DS w f k ka kc∧Fc w f a (i+1) r:=by
 rcases h with h|⟨b,off,h1,⟨ka,kc,h3,h4⟩,h5⟩
 · cases h
 · exact⟨b,off,ka,kc,h1,h3,h4,.inr ⟨b,off,h1,by rw[show off+(i+1)*6=off+i*6+6 by omega];exact h5⟩⟩
theorem Fc.rest{a:Option Addr}{t:AA}{k r:Fo}{c:Nat}(h:DS w f (.cons t k r) a c):DS w f r (Fe a c 6) (c-1):=by
 obtain⟨h1,h2⟩:=h;simp only[Fo.len] at h1;refine⟨oM,?_⟩;rcases h2 with h2|⟨b,off,rfl,h3,h4⟩
 · cases h2
 · by_cases hc:c=1
   · left
     cases r with
     |nil=>rfl
     |cons _ _ _=>simp only[Fo.len] at h1;omega
   · exact .inr ⟨b,off+1*6,by unfold Fe;rw[if_neg hc];rfl,h4⟩
def Cb(w:World)(f:Fq):Nd→List Value→Prop
 |.nil,xs=>xs=[]
 |.cons op ln co tx nm k r,xs=>∃a c xs',xs=Mg op ln co tx nm a k.len c++xs'∧AU w f k a c∧Cb w f r xs'
theorem Cb.mono'(hF:I4 w f w' f'):∀(k:Nd)(xs:List Value),Cb w f k xs→Cb w' f' k xs
 |.nil,_,h=>h
 |.cons _ _ _ _ _ _ r,_,⟨a,c,xs',h1,h2,h3⟩=>⟨a,c,xs',h1,AU.mono _ _ _ _ h2 hF,Cb.mono' hF r xs' h3⟩
theorem Cb.mono{k:Nd}:Gf (λw f=>Cb w f k xs):=λ_ _ _ _ h hF=>Cb.mono' hF k xs h
theorem Cb.app{y:Nd}(hy:Cb w f y ys):∀{x:Nd}{xs:List Value},Cb w f x xs→Cb w f (x.app y) (xs++ys)
 |.nil,xs,h=>by have h:xs=[]:=h;subst h;exact hy
 |.cons _ _ _ _ _ _ r,_,⟨a,c,xs',h1,h2,h3⟩=>⟨a,c,xs'++ys,by rw[h1,List.append_assoc],h2,Cb.app hy h3⟩
theorem Cb.one{op nm:Int}{tx:lU}{k:Nd}{a:Option Addr}{c:Nat}(h:AU w f k a c):Cb w f (.cons op ln co tx nm k .nil) (Mg op ln co tx nm a k.len c):=⟨a,c,[],by simp,h,rfl⟩
theorem Cb.len:∀{k:Nd}{xs:List Value},Cb w f k xs→xs.length=k.len*6
 |.nil,xs,h=>by have h:xs=[]:=h;subst h;rfl
 |.cons _ _ _ _ _ _ r,_,⟨a,c,xs',h1,h2,h3⟩=>by subst h1;have:=Cb.len h3;simp[Nd.len,Mg,this];omega
theorem Cb.toG:∀{k:Nd}{xs:List Value}{off:Nat},Cb w f k xs→Cs w f b off xs→WR w f k b off
 |.nil,_,_,_,_=>trivial
 |.cons _ _ _ _ _ k r,_,off,⟨a,c,xs',h1,h2,h3⟩,hC=>by
   subst h1;exact⟨⟨a,c,Cs.le hC,h2⟩,Cb.toG h3 (Cs.drop hC)⟩
theorem Cb.toF{c:Nat}{k:Nd}(h:Cb w f k xs)(hC:Cs w f b 0 xs)(hc:k.len≤c):AU w f k (some ⟨b,0,none⟩) c:=⟨hc,.inr ⟨b,0,rfl,Cb.toG h hC⟩⟩
theorem JW{X:Cx}{H:List HB}{R:List RB}{B:List FB}{Fs:List (World→Fq→Prop)}{e:TypeId}{a:Option Addr}{c m:Nat}{k:Nd}(hM:AO X w f H (⟨e,6,a,c,m,xs⟩::R) B Fs)(hL:Cb w f k xs):∃f',AO X w f' H R B Fs∧AU w f' k a c:=by
 have hr:=hM.row _ (.head _);have hlen:=Cb.len hL;have hm:m=k.len:=by have:=hr.1;simp only at this;omega
 rcases hr.2 with ⟨_,_,h⟩|⟨b,l,ha,_,hmc,_⟩
 · simp only at h
   have h0:k=.nil:=by
     cases k with
     |nil=>rfl
     |cons _ _ _ _ _ _ _=>simp only[Nd.len] at hm;omega
   exact⟨f,hM.less (List.Sublist.refl _) (List.sublist_cons_self _ _) (λ_ h=>h) (λ_ h=>h),by rw[h0];exact⟨Nat.zero_le _,.inl rfl⟩⟩
 · simp only at ha hmc
   subst ha;obtain⟨f',hM'⟩:=(hM.more (B':=[]) (F':=[λw f=>Cb w f k xs]) (λ_ h=>by cases h) (AI.mem ⟨hL,tQ⟩) (Az.mem ⟨Cb.mono,tQ⟩)).done (i:=0) rfl rfl;exact⟨f',hM'.less (List.Sublist.refl _) (List.Sublist.refl _) (λe he=>.tail _ he) (λφ h=>.tail _ h),Cb.toF (hM'.fact (i:=0) rfl) (hM'.fro _ (.head _)) oM⟩
end Go.SP
namespace Go.SP
open Go.SW Go.RowKit
theorem Nd.app_len:∀x y:Nd,(x.app y).len=x.len+y.len
 |.nil,y=>by simp[Nd.app,Nd.len]
 |.cons _ _ _ _ _ _ r,y=>by simp only[Nd.app,Nd.len,Nd.app_len r y];omega
section
variable{m:AA→Fo→R N}{t:AA}{k r:Fo}{a:N}{dn:Nd}{e:Int×Int}
theorem Up(h:m t k=.ok a):(match AE m (.cons t k r) with|.error e=>.error e|.ok b=>.ok (dn.app b):R Nd)=(match AE m r with|.error e=>.error e|.ok b=>.ok ((dn.app a.one).app b)):=by
 simp only[AE,h]
 cases AE m r with
 |error e=>rfl
 |ok b=>simp only[Nd.app_assoc];rfl
theorem WB(h:m t k=.error e):(match AE m (.cons t k r) with|.error e=>.error e|.ok b=>.ok (dn.app b):R Nd)=.error e:=by simp only[AE,h]
theorem SX{l:Fo}:AE m l=(match AE m l with|.error e=>.error e|.ok b=>.ok (Nd.nil.app b)):=by cases AE m l <;> rfl
end
theorem Fo.cases1:∀r:Fo,0<r.len→∃t k q,r=.cons t k q
 |.nil,h=>by cases h
 |.cons t k q,_=>⟨t,k,q,rfl⟩
theorem Fo.len0:∀{r:Fo},r.len=0→r=.nil
 |.nil,_=>rfl
 |.cons _ _ _,h=>by simp[Fo.len] at h
abbrev HR(x:R N)(w:World)(f:Fq):Value→World→Prop:=BO (α:=N×Option Addr×Nat) (λy=>nV y.1.op y.1.ln y.1.co y.1.tx y.1.nm y.1.kids y.2.1 y.2.2) (λy=>x=.ok y.1) (λy=>[λw f=>AU w f y.1.kids y.2.1 y.2.2]) w f
abbrev Iy(T:TypeId)(x:R N)(w:World)(f:Fq):List PanicEntry→World→Prop:=Sj T (λe=>x=.error e) w f
end Go.SP
namespace Go.SP
open Go.SW Go.RowKit
variable {f:Fq}{w w':World}
theorem bJ.fro{T:TypeId}{q:Nd×List Value→Prop}{v:Value}(hv:Vl w f)(h:bJ T 6 (λx:Nd×List Value=>x.1.len) (λx=>x.2) q (λx=>[λw f=>Cb w f x.1 x.2]) w f v w') :
   BO (α:=(Nd×List Value)×Option Addr×Nat) (λy=>.slice y.2.1 y.1.1.len y.2.2) (λy=>q y.1) (λy=>[λw f=>AU w f y.1.1 y.2.1 y.2.2]) w f v w':=by
 obtain⟨x,a,c,f',h1,h2,h3,h4,h5,h6,-⟩:=h;have hM:=(Cz hv (Fs:=[]) tQ tQ).addRow h3 h4 h5;obtain⟨f2,hM2,h7⟩:=JW hM h6;exact⟨(x,a,c),f2,h1,h2,hM2.exm,h7,tQ⟩
end Go.SP
namespace Go.SP
open Go.SW Go.RowKit
variable {x:Operand}{w:World}
theorem GV{P:Program}{σ:Bj}{ty T e:TypeId}{lo:Operand}{k len m c:Nat}{a:Option Addr}(hl:len=m+1)(hx:ev σ x=some (.slice a len c))(hlo:ev σ lo=some (.int .i64 1))(hs:J5 P T=some (e,k)):AL P σ (.slice T x (some lo) none none) ty w (.slice (Fe a c k) m (c-1)) w:=by
 subst hl;exact Vx hx hlo hs
end Go.SP
namespace Go.SP
open Go.SW Go.RowKit
variable {f:Fq}{xs:List Value}{w:World}
theorem Cb.one':∀{k:Nd}{xs:List Value},Cb w f k xs→∀v∈xs,v.oneCell'=true
 |.nil,xs,h,v,hv=>by have h:xs=[]:=h;subst h;cases hv
 |.cons _ _ _ _ _ _ r,_,⟨a,c,xs',h1,h2,h3⟩,v,hv=>by
   subst h1;rcases List.mem_append.1 hv with hv|hv
   · simp only[Mg,List.mem_cons,List.not_mem_nil,or_false] at hv
     rcases hv with rfl|rfl|rfl|rfl|rfl|rfl <;> rfl
   · exact Cb.one' h3 v hv
theorem Cb.cons'{nd:N}{r:Nd}{a:Option Addr}{c:Nat}(h:AU w f nd.kids a c)(hr:Cb w f r xs):Cb w f (nd.cons r) (Mg nd.op nd.ln nd.co nd.tx nd.nm a nd.kids.len c++xs):=⟨a,c,xs,rfl,h,hr⟩
theorem Fo.two:∀l:Fo,(∃p pk b bk,l=.cons p pk (.cons b bk .nil))∨l.len≠2
 |.nil=>.inr (by simp[Fo.len])
 |.cons _ _ .nil=>.inr (by simp[Fo.len])
 |.cons p pk (.cons b bk .nil)=>.inl ⟨p,pk,b,bk,rfl⟩
 |.cons _ _ (.cons _ _ (.cons _ _ r))=>.inr (by simp only[Fo.len];omega)
theorem Fo.three:∀l:Fo,(∃p pk b bk c ck,l=.cons p pk (.cons b bk (.cons c ck .nil)))∨l.len≠3
 |.nil=>.inr (by simp[Fo.len])
 |.cons _ _ .nil=>.inr (by simp[Fo.len])
 |.cons _ _ (.cons _ _ .nil)=>.inr (by simp[Fo.len])
 |.cons p pk (.cons b bk (.cons c ck .nil))=>.inl ⟨p,pk,b,bk,c,ck,rfl⟩
 |.cons _ _ (.cons _ _ (.cons _ _ (.cons _ _ r)))=>.inr (by simp only[Fo.len];omega)
theorem Fo.single:∀l:Fo,(∃p pk,l=.cons p pk .nil)∨l.len≠1
 |.nil=>.inr (by simp[Fo.len])
 |.cons p pk .nil=>.inl ⟨p,pk,rfl⟩
 |.cons _ _ (.cons _ _ r)=>.inr (by simp only[Fo.len];omega)
section
variable{n:Nat}{ex:AA→Fo→R N}{t:AA}{l:Fo}
theorem rG(h:l.len≠2):Bb n ex t [102,110] l=.error (t.ln,t.co):=by
 unfold Bb;rw[if_pos (by decide)]
 split
 · simp[Fo.len] at h
 · rfl
theorem oH(h:l.len≠3):Bb n ex t [108,101,116] l=.error (t.ln,t.co):=by
 unfold Bb;rw[if_neg (by decide),if_pos (by decide)]
 split
 · simp[Fo.len] at h
 · rfl
theorem oU(h:l.len≠3):Bb n ex t [114,101,99] l=.error (t.ln,t.co):=by
 unfold Bb;rw[if_neg (by decide),if_neg (by decide),if_pos (by decide)]
 split
 · simp[Fo.len] at h
 · rfl
theorem Zg{w:lU}(hw:w=[114,97,105,115,101]∨w=[116,114,97,110,115,97,99,116])(h:l.len≠1):Bb n ex t w l=.error (t.ln,t.co):=by
 unfold Bb;rw[if_neg (by rcases hw with rfl|rfl <;> decide),if_neg (by rcases hw with rfl|rfl <;> decide),if_neg (by rcases hw with rfl|rfl <;> decide),if_neg (by rcases hw with rfl|rfl <;> decide),if_neg (by rcases hw with rfl|rfl <;> decide),if_neg (by rcases hw with rfl|rfl <;> decide),if_neg (by rcases hw with rfl|rfl <;> decide),if_pos (by rcases hw with rfl|rfl <;> decide)]
 split
 · simp[Fo.len] at h
 · rfl
end
end Go.SP
namespace Go.SW
open Go.RowKit Go.SP
section
variable{P:Program}{n:Nat}{Q:AY}{ds:List Deferred}{X:Cx}{R:List RB}{B:List FB}{Fs:List (World→Fq→Prop)}{fs:List Fr}{σ:Bj}{H:List HB}{k:Li}{na:Option Addr}{i c:Nat}{t:AA}{q r:Fo}
theorem Od(j:Nat)(hj:nth Fs j=some (λw f=>Fc w f na i (.cons t q r)))
   (h:∀x:Nat×Nat×Option Addr×Nat,na=some ⟨x.1,x.2.1,none⟩→A5 P n Q ds X R (⟨x.1,x.2.1+i*6,wA t x.2.2.1 q.len x.2.2.2⟩::B) ((λw f=>DS w f q x.2.2.1 x.2.2.2)::(λw f=>Fc w f na (i+1) r)::Fs) k fs σ H):A5 P n Q ds X R B Fs k fs σ H :=
 LQ (α:=Nat×Nat×Option Addr×Nat) (λx=>na=some ⟨x.1,x.2.1,none⟩) (λ_=>[_]) (λ_=>[_,_]) (λ_ _ hM=>let ⟨b,off,ka,kc,h1,h2,h3,h4⟩:=Fc.head (hM.fn hj);⟨(b,off,ka,kc),h1,oE h2,AI.mem ⟨h3,h4,tQ⟩⟩) (λ_=>Az.mem ⟨DS.mono,Fc.mono,tQ⟩) h
variable {b o:Nat}
theorem XQ(j:Nat)(hj:nth Fs j=some (λw f=>Fc w f (some ⟨b,o,none⟩) i (.cons t q r)))
   (h:∀x:Option Addr×Nat,A5 P n Q ds X R (⟨b,o+i*6,wA t x.1 q.len x.2⟩::B) ((λw f=>DS w f q x.1 x.2)::(λw f=>Fc w f (some ⟨b,o,none⟩) (i+1) r)::Fs) k fs σ H):A5 P n Q ds X R B Fs k fs σ H :=
 Od j hj λx e=>by
   obtain⟨b',o',ka,kc⟩:=x
   cases e
   exact h (ka,kc)
theorem Qp{x:Fo}(j:Nat)(hj:nth Fs j=some (λw f=>DS w f x na c))(h:A5 P n Q ds X R B ((λw f=>Fc w f na 0 x)::Fs) k fs σ H):A5 P n Q ds X R B Fs k fs σ H:=D9 _ (λ_ _ hM=>DS.at (hM.fn hj)) Fc.mono h
theorem pE(j:Nat)(hj:nth Fs j=some (λw f=>DS w f (.cons t q r) na c))(h:A5 P n Q ds X R B ((λw f=>DS w f r (Fe na c 6) (c-1))::Fs) k fs σ H):A5 P n Q ds X R B Fs k fs σ H:=D9 _ (λ_ _ hM=>Fc.rest (hM.fn hj)) DS.mono h
end
end Go.SW
namespace Go.SW
open Go.RowKit
def yL(w:World)(e:FB):Prop:=∀j v,e.l[j]?=some v→w.cell? ⟨e.b,e.off+j,none⟩=some v
def BK(w:World):List FB→Prop
 | []=>True
 |e::l=>yL w e∧BK w l
theorem Ar(w:World):BK w []:=trivial
variable {σ:Bj}{l:List Value}{b:Nat}{T:TypeId}
theorem kB{w:World}{B:List FB}(h:AM w b l T)(hB:BK w B):BK w (⟨b,0,l⟩::B) :=
 ⟨λj v hj=>by rw[h.cell,Nat.zero_add];exact hj,hB⟩
theorem BK.get{w:World}:∀{B:List FB}{i:Nat}{e:FB},BK w B→nth B i=some e→yL w e
 |_::_,0,_,h,hg=>by cases hg;exact h.1
 |_::B,i+1,e,h,hg=>BK.get (B:=B) h.2 hg
section
variable(P:Program)(n:Nat)(Q:AY)(ds:List Deferred)(w:World)(B:List FB)(tb:Xx)
def uH(k:Li)(fs:List Fr)(σ:Bj):Prop:=match k with
 |.code c=>Hn P n c (LK P n Q fs) σ ds w
 |.ops all l=>GR P n all.toArray (LK P n Q fs) l σ ds w
 |.out e=>(LK P n Q fs).q e σ ds w
def Jj:Nat→List Nat→Li→List Fr→Bj→Prop
 |0,_,k,fs,σ=>True→uH P n Q ds w k fs σ
 |m+1,hs,.code c,fs,σ=>(match c with
   |.skip=>Jj m hs (.out .normal) fs σ
   |.ret=>Jj m hs (.out .ret) fs σ
   |.exit i=>Jj m hs (.out (.exit i)) fs σ
   |.seq a b=>Jj m hs (.code a) (.sq b::fs) σ
   |.block i a=>Jj m hs (.code a) (.bk i::fs) σ
   |.region _ ⟨l⟩ false=>Jj m hs (.ops l l) fs σ
   |.cond x a b=>(match ev σ x with
     |some (.bool true)=>Jj m hs (.code a) fs σ
     |some (.bool false)=>Jj m hs (.code b) fs σ
     |_=>False)
   |_=>False)
 |m+1,hs,.out e,fs,σ=>(match fs with
   | []=>False
   |.sq y::fs=>(match e with
     |.normal=>Jj m hs (.code y) fs σ
     |.ret=>Jj m hs (.out .ret) fs σ
     |.exit i=>Jj m hs (.out (.exit i)) fs σ
     |_=>False)
   |.bk i::fs=>(match e with
     |.normal=>Jj m hs (.out .normal) fs σ
     |.ret=>Jj m hs (.out .ret) fs σ
     |.exit j=>(match Nat.beq j i with
       |true=>Jj m hs (.out .normal) fs σ
       |false=>Jj m hs (.out (.exit j)) fs σ)
     |_=>False))
 |m+1,hs,.ops all [],fs,σ=>Jj m hs (.out .normal) fs σ
 |m+1,hs,.ops all (⟨dst,op,ty,pos,af,g⟩::r),fs,σ=>(match gd all σ g with
   |none=>False
   |some false=>(match dst with
     |some d=>(match Nat.blt d n with
       |true=>Jj m hs (.ops all r) fs (AF σ d undef)
       |false=>False)
     |none=>False)
   |some true=>(match dst with
     |none=>False
     |some d=>(match Nat.blt d n with|false=>False|true=>(match op with
       |.load T x=>(match hs with
         |h::q::hs=>(match ev σ x,mT tb.ti T with
           |some (.pointer (some ⟨b,o,none⟩)),some (a,k)=>(match nth B h with
             |some ⟨b',off,l⟩=>(match a with
               |false=>(match nth l q with
                 |some v=>(b'=b∧off+q=o)∧Jj m hs (.ops all r) fs (AF σ d v)
                 |none=>False)
               |true=>(match Ur l q k with
                 |some vs=>(b'=b∧off+q=o)∧Jj m hs (.ops all r) fs (AF σ d (.agg ⟨vs⟩))
                 |none=>False))
             |none=>False)
           |_,_=>False)
         |_=>False)
       |.indexAddr T x y=>(match ev σ x,ev σ y,Wh tb.sl T with
         |some (.slice (some ⟨b,o,none⟩) len _),some (.int _ i),some (_,k)=>(0≤i∧i<len)∧Jj m hs (.ops all r) fs (AF σ d (.pointer (some ⟨b,o+i.toNat*k,none⟩)))
         |_,_,_=>False)
       |.index T x y=>(match ev σ x,ev σ y,pR tb.st T with
         |some (.string ⟨⟨s⟩⟩),some (.int _ i),true=>(0≤i∧i<s.length)∧∀c,s[i.toNat]?=some c→Jj m hs (.ops all r) fs (AF σ d (.int .u8 c.toNat))
         |_,_,_=>False)
       |.binOp .add T x y T'=>(match ev σ x,ev σ y with
         |some (.int .i64 a),some (.int .i64 b)=>PH (a+b)∧Jj m hs (.ops all r) fs (AF σ d (.int .i64 (a+b)))
         |_,_=>False)
       |.binOp .sub T x y T'=>(match ev σ x,ev σ y with
         |some (.int .i64 a),some (.int .i64 b)=>PH (a-b)∧Jj m hs (.ops all r) fs (AF σ d (.int .i64 (a-b)))
         |_,_=>False)
       |op=>(match pv tb σ op with
         |some v=>Jj m hs (.ops all r) fs (AF σ d v)
         |none=>False)))))
end
section
variable{P:Program}{n:Nat}{Q:AY}{ds:List Deferred}{w:World}{B:List FB}{tb:Xx}
theorem FA(ht:tb.Ok P)(hB:BK w B):∀(m:Nat)(hs:List Nat)(k:Li)(fs:List Fr)(σ:Bj),Jj P n Q ds w B tb m hs k fs σ→uH P n Q ds w k fs σ
 |0,_,_,_,_,h=>h tQ
 |m+1,hs,.code c,fs,σ,h=>by
   have ih:=FA ht hB m;unfold Jj at h
   split at h
   · exact HO (ih _ _ _ _ h)
   · exact Jw (ih _ _ _ _ h)
   · exact K6 (ih _ _ _ _ h)
   · exact BX (ih _ _ _ _ h)
   · exact DX (ih _ _ _ _ h)
   · exact C7 (ih _ _ _ _ h)
   · split at h
     · rename_i hx;exact FJ hx rfl (ih _ _ _ _ h)
     · rename_i hx;exact JB hx rfl (ih _ _ _ _ h)
     · exact h.elim
   · exact h.elim
 |m+1,hs,.out e,fs,σ,h=>by
   have ih:=FA ht hB m;unfold Jj at h
   split at h
   · exact h.elim
   · split at h
     · exact Dv (ih _ _ _ _ h)
     · exact V9 (ih _ _ _ _ h)
     · exact VW (ih _ _ _ _ h)
     · exact h.elim
   · split at h
     · exact DI (ih _ _ _ _ h)
     · exact Wi (ih _ _ _ _ h)
     · split at h
       · rename_i hb
         have e:=Nat.eq_of_beq_eq_true hb;subst e;exact O9 (ih _ _ _ _ h)
       · rename_i hb;exact gK hb (ih _ _ _ _ h)
     · exact h.elim
 |m+1,hs,.ops all [],fs,σ,h=>by
   unfold Jj at h;exact Ac (FA ht hB m _ _ _ _ h)
 |m+1,hs,.ops all (⟨dst,op,ty,pos,af,g⟩::r),fs,σ,h=>by
   have ih:=FA ht hB m;unfold Jj at h
   split at h
   · exact h.elim
   · rename_i hg
     split at h
     · split at h
       · rename_i hd;exact MK hg hd (ih _ _ _ _ h)
       · exact h.elim
     · exact h.elim
   · rename_i hg
     refine B2 hg ?_
     split at h
     · exact h.elim
     · split at h
       · exact h.elim
       rename_i hd
       split at h
       · split at h
         · split at h
           · rename_i hx hT
             split at h
             · rename_i hB'
               have hc:=hB.get hB'
               split at h
               · split at h
                 · rename_i v hv
                   obtain⟨⟨rfl,rfl⟩,h⟩:=h;rw[Ez] at hv;exact Ab hd (I9 hx (Gd ht.ti hT) (hc _ v hv)) (ih _ _ _ _ h)
                 · exact h.elim
               · split at h
                 · rename_i vs hv
                   obtain⟨⟨rfl,rfl⟩,h⟩:=h;obtain⟨hk,hg2⟩:=P7 hv;exact Ab hd (K7 hx (Gd ht.ti hT) hk (λj v hj=>by have:=hc _ v (hg2 j v hj);rwa[← Nat.add_assoc] at this)) (ih _ _ _ _ h)
                 · exact h.elim
             · exact h.elim
           · exact h.elim
         · exact h.elim
       · split at h
         · rename_i hx hy hT
           exact Ab hd (MF hx hy (JV ht.sl hT) h.1) (ih _ _ _ _ h.2)
         · exact h.elim
       · split at h
         · rename_i s _ i hx hy hT
           obtain⟨h1,h⟩:=h;have hlt:i.toNat<s.length:=oM;exact Ab hd (Dw hx hy (Qy ht.st hT) h1.1 (List.getElem?_eq_getElem hlt)) (ih _ _ _ _ (h _ (List.getElem?_eq_getElem hlt)))
         · exact h.elim
       · split at h
         · rename_i hx hy
           exact Ab hd (Nf hx hy h.1) (ih _ _ _ _ h.2)
         · exact h.elim
       · split at h
         · rename_i hx hy
           exact Ab hd (Hf hx hy h.1) (ih _ _ _ _ h.2)
         · exact h.elim
       · split at h
         · rename_i v hv
           exact Ab hd (Qh ht hv) (ih _ _ _ _ h)
         · exact h.elim
theorem gL{all r:List Oper}(fs:List Fr)(ht:tb.Ok P)(m:Nat)(hs:List Nat)(hB:BK w B)(h:Jj P n Q ds w B tb m hs (.ops all r) fs σ):GR P n all.toArray (LK P n Q fs) r σ ds w:=FA ht hB m hs _ fs σ h
theorem gP{c:Code}(fs:List Fr)(ht:tb.Ok P)(m:Nat)(hs:List Nat)(hB:BK w B)(h:Jj P n Q ds w B tb m hs (.code c) fs σ):Hn P n c (LK P n Q fs) σ ds w:=FA ht hB m hs _ fs σ h
theorem gQ{e:Exit}(fs:List Fr)(ht:tb.Ok P)(m:Nat)(hs:List Nat)(hB:BK w B)(h:Jj P n Q ds w B tb m hs (.out e) fs σ):(LK P n Q fs).q e σ ds w:=FA ht hB m hs _ fs σ h
theorem sL{all:Array Oper}{r:List Oper}{Q:AY}{b:Bool}(t:Nat)(hx:σ t=some (.bool b))(h1:b=true→GR P n all Q r (AF σ t (.bool true)) ds w)(h2:b=false→GR P n all Q r (AF σ t (.bool false)) ds w):GR P n all Q r σ ds w:=by
 cases b with
 |true=>exact λa ha=>h1 rfl a (ha.le (A7 (le_refl _) hx))
 |false=>exact λa ha=>h2 rfl a (ha.le (A7 (le_refl _) hx))
theorem sP{c:Code}{Q:AY}{b:Bool}(t:Nat)(hx:σ t=some (.bool b))(h1:b=true→Hn P n c Q (AF σ t (.bool true)) ds w)(h2:b=false→Hn P n c Q (AF σ t (.bool false)) ds w):Hn P n c Q σ ds w:=by
 cases b with
 |true=>exact Of (A7 (le_refl _) hx) (h1 rfl)
 |false=>exact Of (A7 (le_refl _) hx) (h2 rfl)
theorem kP{c:Code}{Q:AY}{b:Bool}(t:Nat)(c':Bool)(hx:σ t=some (.bool b))(hb:b=c')(h:Hn P n c Q (AF σ t (.bool c')) ds w):Hn P n c Q σ ds w:=by
 subst hb;exact Of (A7 (le_refl _) hx) h
end
def rE(σ0:Bj)(I:World→Prop)(ds0:List Deferred)(Q:AY):AY :=
 {q:=λe σ ds w=>match e with|.normal=>Le σ0 σ∧ds=ds0∧I w|e=>Q.q e σ ds w,p:=Q.p}
theorem P6{P:Program}{n:Nat}{Q:AY}{ds:List Deferred}{w:World}{x y:Code}(σ0:Bj)(I:World→Prop)(h1:Hn P n x (rE σ0 I ds Q) σ ds w)(h2:∀w',I w'→Hn P n y Q σ0 ds w'):Hn P n (.seq x y) Q σ ds w :=
 BX λa ha=>wp_mono (h1 a ha) λe a' w' he=>by
   cases e with
   |normal=>obtain⟨σ',ds',hs,hl,rfl,hI⟩:=he;exact⟨σ',_,hs,Of hl (h2 w' hI)⟩
   |panic c=>exact he
   |outgrown=>exact he
   |ret=>exact he
   |exit i=>exact he
   |goto i=>exact he
theorem Pg{σ0:Bj}{I:World→Prop}{ds:List Deferred}{Q:AY}{w:World}(hl:Le σ0 σ)(h:I w):(rE σ0 I ds Q).q .normal σ ds w:=⟨hl,rfl,h⟩
end Go.SW
namespace Go.Proofs.YtkahkniflkadoaaGreatDoor
open Go.SW Go.RowKit Go.Proofs.Tryz
theorem Df:Oo prog 51=some (55,4,56,[.int .i64 0,.int .i64 0,.string ⟨#[]⟩,.slice none 0 0]):=kR
theorem LN:Oo prog 89=some (3,1,8,[.int .i64 0]):=kR
theorem jU:Oo prog 129=some (9,1,16,[.string ⟨#[]⟩]):=kR
theorem dP:dY prog 3 21=some .i32:=kR
theorem Br:BJ prog 20:=Ap func20 kR kR
theorem Dr:BJ prog 44:=Ap func44 kR kR
theorem Hb:BJ prog 45:=Ap func45 kR kR
theorem YK:BJ prog 50:=Ap func50 kR kR
theorem LC:BJ prog 52:=Ap func52 kR kR
theorem jN:BJ prog 56:=Ap func56 kR kR
theorem aY:BJ prog 57:=Ap func57 kR kR
theorem Yc:BJ prog 69:=Ap func69 kR kR
theorem QF:BJ prog 70:=Ap func70 kR kR
theorem aV:BJ prog 72:=Ap func72 kR kR
theorem ZC:BJ prog 78:=Ap func78 kR kR
theorem kD:BJ prog 80:=Ap func80 kR kR
theorem kL:BJ prog 81:=Ap func81 kR kR
theorem Yl:BJ prog 82:=Ap func82 kR kR
theorem U5:BJ prog 83:=Ap func83 kR kR
theorem Ii:BJ prog 99:=Ap func99 kR kR
theorem P2:BJ prog 100:=Ap func100 kR kR
theorem Mq:BJ prog 107:=Ap func107 kR kR
theorem dJ:BJ prog 108:=Ap func108 kR kR
theorem cF:BJ prog 124:=Ap func124 kR kR
theorem fG:FY prog 55 0=some 0:=kR
theorem dF:FY prog 55 1=some 1:=kR
theorem gE:FY prog 55 2=some 2:=kR
theorem fJ:FY prog 55 3=some 3:=kR
theorem YT:FY prog 128 0=some 0:=kR
theorem YO:FY prog 128 1=some 1:=kR
theorem Yr:FY prog 128 2=some 2:=kR
theorem eL:nG prog 21 9=true:=kR
theorem MY:Gj prog 110=some (3,4):=kR
theorem aL:Gj prog 115=some (3,9):=kR
theorem UR:Gj prog 126=some (3,55):=kR
theorem Aq:prog.follows .mixedOrders=true:=kR
theorem sA:On prog 55=some [(0,1),(1,1),(2,1),(3,1)]:=kR
theorem nB:On prog 128=some [(0,1),(1,1),(2,1)]:=kR
theorem Rk:J5 prog 51=some (55,4):=kR
theorem pW:J5 prog 89=some (3,1):=kR
theorem oV:J5 prog 129=some (9,1):=kR
theorem HP:AS prog 3=some (false,1):=kR
theorem qK:AS prog 9=some (false,1):=kR
theorem Yq:AS prog 51=some (false,1):=kR
theorem AT:AS prog 55=some (true,4):=kR
theorem Pe:AS prog 89=some (false,1):=kR
theorem Ve:AS prog 126=some (false,1):=kR
theorem O2:prog.underlying 3=some (.int .i64):=kR
theorem rW:prog.underlying 58=some (.pointer 128):=kR
theorem fB:zO prog 4=some (.bool false):=kR
theorem xD:zO prog 9=some (.string ⟨#[]⟩):=kR
theorem M6:zO prog 55=some (.agg #[.int .i64 0,.int .i64 0,.string ⟨#[]⟩,.slice none 0 0]):=kR
theorem xA:H4 prog 3=some [.int .i64 0]:=kR
theorem wC:H4 prog 9=some [.string ⟨#[]⟩]:=kR
theorem vE:H4 prog 55=some [.int .i64 0,.int .i64 0,.string ⟨#[]⟩,.slice none 0 0]:=kR
theorem pZ:H4 prog 89=some [.slice none 0 0]:=kR
theorem mC:H4 prog 128=some [.map none,.int .i64 0,.int .i64 0]:=kR
theorem E0:BJ prog 16:=Ap func16 kR kR
theorem Gc:BJ prog 18:=Ap func18 kR kR
theorem CI:BJ prog 19:=Ap func19 kR kR
theorem HY:BJ prog 21:=Ap func21 kR kR
theorem T9:BJ prog 22:=Ap func22 kR kR
theorem F5:BJ prog 25:=Ap func25 kR kR
theorem QM:BJ prog 47:=Ap func47 kR kR
theorem kZ:BJ prog 48:=Ap func48 kR kR
theorem oL:BJ prog 49:=Ap func49 kR kR
theorem jO:BJ prog 51:=Ap func51 kR kR
theorem Yz:BJ prog 53:=Ap func53 kR kR
theorem oK:BJ prog 54:=Ap func54 kR kR
theorem Kc:BJ prog 55:=Ap func55 kR kR
theorem Qg:BJ prog 58:=Ap func58 kR kR
theorem ZE:BJ prog 74:=Ap func74 kR kR
theorem P3:BJ prog 77:=Ap func77 kR kR
theorem oX:BJ prog 79:=Ap func79 kR kR
theorem lV:BJ prog 97:=Ap func97 kR kR
theorem QL:BJ prog 101:=Ap func101 kR kR
theorem Qm:BJ prog 102:=Ap func102 kR kR
theorem dL:BJ prog 120:=Ap func120 kR kR
theorem dQ:FY prog 53 0=some 0:=kR
theorem cP:FY prog 53 1=some 1:=kR
theorem cS:FY prog 53 2=some 3:=kR
theorem fT:FY prog 53 4=some 5:=kR
theorem fH:FY prog 63 0=some 0:=kR
theorem eH:FY prog 63 1=some 1:=kR
theorem cR:FY prog 91 0=some 0:=kR
theorem fM:FY prog 91 1=some 1:=kR
theorem eO:FY prog 91 2=some 5:=kR
theorem cE:FY prog 99 0=some 0:=kR
theorem eN:FY prog 99 1=some 4:=kR
theorem Z4:FY prog 101 0=some 0:=kR
theorem Zy:FY prog 101 1=some 1:=kR
theorem Yg:FY prog 101 2=some 6:=kR
theorem O5:Gj prog 59=some (9,91):=kR
theorem tX:pV prog 46=true:=kR
theorem sY:On prog 46=some [(0,2),(2,1)]:=kR
theorem qA:On prog 99=some [(0,4),(4,1)]:=kR
theorem jZ:On prog 101=some [(0,1),(1,5),(6,1)]:=kR
theorem Rf:J5 prog 32=some (53,6):=kR
theorem GH:AS prog 25=some (true,2):=kR
theorem IU:AS prog 32=some (false,1):=kR
theorem vA:AS prog 48=some (false,1):=kR
theorem B4:AS prog 53=some (true,6):=kR
theorem IX:AS prog 58=some (false,1):=kR
theorem OQ:AS prog 59=some (false,1):=kR
theorem tE:AS prog 91=some (true,6):=kR
theorem tU:AS prog 99=some (true,5):=kR
theorem Ha:prog.underlying 9=some .string:=kR
theorem uA:prog.underlying 48=some (.pointer 101):=kR
theorem VM:zO prog 91=some (.agg #[.slice none 0 0,.int .i64 0,.int .i64 0,.string ⟨#[]⟩,.slice none 0 0,.slice none 0 0]):=kR
theorem tA:H4 prog 46=some [.int .i64 0,.int .i64 0,.int .i64 0]:=kR
theorem sN:H4 prog 53=some [.int .i64 0,.int .i64 0,.int .i64 0,.string ⟨#[]⟩,.int .i64 0,.slice none 0 0]:=kR
theorem uT:H4 prog 91=some [.slice none 0 0,.int .i64 0,.int .i64 0,.string ⟨#[]⟩,.slice none 0 0,.slice none 0 0]:=kR
theorem tY:H4 prog 99=some [.int .i64 0,.int .i64 0,.string ⟨#[]⟩,.slice none 0 0,.slice none 0 0]:=kR
theorem nK:H4 prog 101=some [.string ⟨#[]⟩,.int .i64 0,.int .i64 0,.string ⟨#[]⟩,.slice none 0 0,.slice none 0 0,.pointer none]:=kR
theorem VO:Oo prog 23=some (30,2,32,[.string ⟨#[]⟩,.string ⟨#[]⟩]):=kR
theorem ZW:Oo prog 92=some (95,6,80,[.string ⟨#[]⟩,.int .i64 0,.int .i64 0,.int .i64 0,.string ⟨#[]⟩,.slice none 0 0]):=kR
theorem bH:BJ prog 13:=Ap func13 kR kR
theorem nI:BJ prog 14:=Ap func14 kR kR
theorem jS:BJ prog 15:=Ap func15 kR kR
theorem NO:BJ prog 17:=Ap func17 kR kR
theorem Ya:BJ prog 23:=Ap func23 kR kR
theorem oS:BJ prog 24:=Ap func24 kR kR
theorem mF:BJ prog 41:=Ap func41 kR kR
theorem nT:BJ prog 42:=Ap func42 kR kR
theorem pG:BJ prog 43:=Ap func43 kR kR
theorem Qz:BJ prog 46:=Ap func46 kR kR
theorem kW:BJ prog 66:=Ap func66 kR kR
theorem mE:BJ prog 67:=Ap func67 kR kR
theorem PA:BJ prog 68:=Ap func68 kR kR
theorem pK:BJ prog 73:=Ap func73 kR kR
theorem Y5:BJ prog 75:=Ap func75 kR kR
theorem aB:BJ prog 76:=Ap func76 kR kR
theorem cX:FY prog 30 1=some 1:=kR
theorem cW:FY prog 46 0=some 0:=kR
theorem cG:FY prog 46 1=some 2:=kR
theorem cB:FY prog 63 2=some 2:=kR
theorem dW:FY prog 63 3=some 3:=kR
theorem eG:FY prog 63 4=some 4:=kR
theorem fC:FY prog 88 0=some 0:=kR
theorem cQ:FY prog 88 1=some 1:=kR
theorem gC:FY prog 88 3=some 3:=kR
theorem dT:FY prog 95 0=some 0:=kR
theorem fA:FY prog 95 2=some 2:=kR
theorem QH:aK prog 20=true:=kR
theorem So:Gj prog 60=some (9,3):=kR
theorem Vo:Gj prog 61=some (9,4):=kR
theorem Ly:Gj prog 104=some (9,55):=kR
theorem uQ:On prog 25=some [(0,1),(1,1)]:=kR
theorem tH:On prog 30=some [(0,1),(1,1)]:=kR
theorem uX:On prog 63=some [(0,1),(1,1),(2,1),(3,1),(4,1)]:=kR
theorem rN:On prog 88=some [(0,1),(1,1),(2,1),(3,1)]:=kR
theorem sJ:On prog 91=some [(0,1),(1,4),(5,1)]:=kR
theorem uK:On prog 95=some [(0,1),(1,1),(2,4)]:=kR
theorem sI:J5 prog 23=some (30,2):=kR
theorem tZ:J5 prog 85=some (88,4):=kR
theorem tG:J5 prog 92=some (95,6):=kR
theorem mP:qG prog 46=true:=kR
theorem XY:AS prog 23=some (false,1):=kR
theorem HT:AS prog 26=some (false,1):=kR
theorem tI:AS prog 46=some (true,3):=kR
theorem Tf:AS prog 60=some (false,1):=kR
theorem iG:AS prog 61=some (false,1):=kR
theorem uI:AS prog 88=some (true,4):=kR
theorem Nt:AS prog 92=some (false,1):=kR
theorem qX:AS prog 95=some (true,6):=kR
theorem cN:zO prog 3=some (.int .i64 0):=kR
theorem qT:H4 prog 23=some [.slice none 0 0]:=kR
theorem sW:H4 prog 25=some [.int .i64 0,.int .i64 0]:=kR
theorem tO:H4 prog 26=some [.int .i64 0]:=kR
theorem rU:H4 prog 30=some [.string ⟨#[]⟩,.string ⟨#[]⟩]:=kR
theorem sC:H4 prog 63=some [.pointer none,.map none,.map none,.map none,.int .i64 0]:=kR
theorem sG:H4 prog 88=some [.string ⟨#[]⟩,.string ⟨#[]⟩,.int .i64 0,.int .i64 0]:=kR
theorem rX:H4 prog 92=some [.slice none 0 0]:=kR
theorem uU:H4 prog 95=some [.string ⟨#[]⟩,.int .i64 0,.int .i64 0,.int .i64 0,.string ⟨#[]⟩,.slice none 0 0]:=kR
theorem LL:Oo prog 32=some (53,6,72,[.int .i64 0,.int .i64 0,.int .i64 0,.string ⟨#[]⟩,.int .i64 0,.slice none 0 0]):=kR
theorem gM:BJ prog 8:=Ap func8 kR kR
theorem jA:BJ prog 9:=Ap func9 kR kR
theorem Di:BJ prog 10:=Ap func10 kR kR
theorem nC:BJ prog 11:=Ap func11 kR kR
theorem lD:BJ prog 12:=Ap func12 kR kR
theorem AG:BJ prog 29:=Ap func29 kR kR
theorem GQ:BJ prog 30:=Ap func30 kR kR
theorem Z3:BJ prog 31:=Ap func31 kR kR
theorem T0:BJ prog 32:=Ap func32 kR kR
theorem YW:BJ prog 33:=Ap func33 kR kR
theorem Bk:BJ prog 34:=Ap func34 kR kR
theorem lS:BJ prog 35:=Ap func35 kR kR
theorem NU:BJ prog 36:=Ap func36 kR kR
theorem Km:BJ prog 37:=Ap func37 kR kR
theorem Dq:BJ prog 38:=Ap func38 kR kR
theorem YQ:BJ prog 39:=Ap func39 kR kR
theorem TO:BJ prog 40:=Ap func40 kR kR
theorem Kb:BJ prog 63:=Ap func63 kR kR
theorem Iv:BJ prog 64:=Ap func64 kR kR
theorem nN:BJ prog 65:=Ap func65 kR kR
theorem oD:BJ prog 91:=Ap func91 kR kR
theorem Ys:BJ prog 92:=Ap func92 kR kR
theorem Tx:BJ prog 93:=Ap func93 kR kR
theorem Qn:BJ prog 94:=Ap func94 kR kR
theorem P8:BJ prog 117:=Ap func117 kR kR
theorem Qq:BJ prog 118:=Ap func118 kR kR
theorem fL:FY prog 40 0=some 0:=kR
theorem fQ:FY prog 78 0=some 0:=kR
theorem dS:FY prog 78 1=some 1:=kR
theorem fY:FY prog 78 2=some 3:=kR
theorem dM:FY prog 78 3=some 4:=kR
theorem eZ:FY prog 80 0=some 0:=kR
theorem dR:FY prog 80 1=some 5:=kR
theorem qY:On prog 53=some [(0,1),(1,2),(3,1),(4,1),(5,1)]:=kR
theorem Ky:J5 prog 42=some (80,6):=kR
theorem oN:qG prog 40=true:=kR
theorem uJ:AS prog 40=some (true,2):=kR
theorem qM:AS prog 42=some (false,1):=kR
theorem qW:AS prog 80=some (true,6):=kR
theorem tT:H4 prog 32=some [.slice none 0 0]:=kR
theorem uL:H4 prog 40=some [.int .i64 0,.int .i64 0]:=kR
theorem qZ:H4 prog 80=some [.int .i64 0,.int .i64 0,.int .i64 0,.int .i64 0,.string ⟨#[]⟩,.slice none 0 0]:=kR
theorem YE:BJ prog 4:=Ap func4 kR kR
theorem R6:BJ prog 5:=Ap func5 kR kR
theorem vF:BJ prog 6:=Ap func6 kR kR
theorem uF:BJ prog 7:=Ap func7 kR kR
theorem nZ:Y9 prog 25=true:=kR
theorem vG:AS prog 30=some (true,2):=kR
end Go.Proofs.YtkahkniflkadoaaGreatDoor
