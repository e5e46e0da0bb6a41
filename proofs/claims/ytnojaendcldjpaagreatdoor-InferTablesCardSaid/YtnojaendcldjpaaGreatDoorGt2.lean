/- What it rests on, part 2. -/
import Derived.Test.YtnojaendcldjpaaGreatDoorGt1
import Derived.Laws.MakeOwn
import Derived.Lib.Join
import Derived.Lib.ItoaNum
set_option linter.unusedVariables false
set_option linter.unusedSimpArgs false
namespace Go.SW
open Go.RowKit
def N0:List RB→Nat→Option RB
 | [],_=>none
 |x::_,0=>some x
 |_::l,i+1=>N0 l i
def QV:List RB→Nat→RB→Option (List RB)
 | [],_,_=>none
 |_::H,0,e=>some (e::H)
 |x::H,i+1,e=>match QV H i e with
   |some r=>some (x::r)
   |none=>none
def Qq:List RB→Nat→Option (List RB)
 | [],_=>none
 |_::H,0=>some H
 |x::H,i+1=>match Qq H i with
   |some r=>some (x::r)
   |none=>none
theorem Da:∀{R:List RB}{i:Nat}{r:RB},N0 R i=some r→r∈R
 | [],_,_,h=>by cases h
 |_::_,0,_,h=>by cases h;exact .head _
 |_::R,i+1,r,h=>.tail _ (Da (R:=R) h)
theorem Te:∀{R R':List RB}{i:Nat},Qq R i=some R'→R'.Sublist R
 | [],_,_,h=>by cases h
 |_::_,_,0,h=>by cases h;exact List.sublist_cons_self _ _
 |x::R,R',i+1,h=>by
   unfold Qq at h
   cases d:Qq R i with
   |none=>rw[d] at h;cases h
   |some r=>rw[d] at h;cases h;exact (Te d).cons_cons x
def I6(R:List RB):List Nat:=R.filterMap λr=>rb r.a
theorem TC:∀{R R':List RB}{i:Nat}{r K:RB},N0 R i=some r→QV R i K=some R'→(∀x,x∈R'→x=K∨x∈R)∧∀N,(rb K.a=rb r.a∨∃k,rb K.a=some k∧k∉N∧k∉I6 R)→(N++I6 R).Nodup→(N++I6 R').Nodup∧(∀b,b∈I6 R'→some b=rb K.a∨b∈I6 R)∧∀x,x∈R'→x=K∨(x∈R∧(rb x.a=none∨rb x.a≠rb r.a))
 | [],_,_,_,_,h,_=>by cases h
 |x::R,R',0,r,K,hg,W=>by
   cases hg;cases W
   refine⟨λy D=>by rcases List.mem_cons.1 D with h|h;exact .inl h;exact .inr (.tail _ h),λN G J=>?_⟩
   have Z:I6 (x::R)=(match rb x.a with|some b=>b::I6 R|none=>I6 R):=by
     unfold I6;rw[List.filterMap_cons];cases rb x.a <;> rfl
   have e2:I6 (K::R)=(match rb K.a with|some b=>b::I6 R|none=>I6 R):=by
     unfold I6;rw[List.filterMap_cons];cases rb K.a <;> rfl
   have O:(N++I6 R).Nodup:=by
     rw[Z] at J
     cases F:rb x.a with
     |none=>rw[F] at J;exact J
     |some b=>rw[F] at J;exact (List.Sublist.append (List.Sublist.refl N) (List.sublist_cons_self b _)).nodup J
   have Q:∀y,y∈R→rb y.a=none∨rb y.a≠rb x.a:=λy D=>by
     cases d:rb y.a with
     |none=>exact .inl C
     |some b =>
       refine .inr λe=>?_;rw[Z,← e] at J;have h2:=(List.nodup_append.1 J).2.1;exact (List.nodup_cons.1 h2).1 (List.mem_filterMap.2 ⟨y,D,d⟩)
   refine⟨?_,?_,?_⟩
   · rcases G with G|⟨k,G,Y,U⟩
     · rw[e2,G,← Z];exact J
     · rw[e2,G]
       have hkR':k∉I6 R:=λh=>U (by rw[Z];cases rb x.a with|none=>exact h|some b=>exact .tail _ h)
       exact List.nodup_append.2 ⟨(List.nodup_append.1 O).1,List.nodup_cons.2 ⟨hkR',(List.nodup_append.1 O).2.1⟩,λa ha b d e=>by
         rcases List.mem_cons.1 d with rfl|d
         · exact Y (e▸ha)
         · exact (List.nodup_append.1 O).2.2 a ha b d e⟩
   · intro b d
     rw[e2] at d
     cases hr:rb K.a with
     |none=>rw[hr] at d;right;rw[Z];cases rb x.a with|none=>exact d|some c=>exact .tail _ d
     |some c =>
       rw[hr] at d;rcases List.mem_cons.1 d with rfl|d
       · exact .inl C
       · right;rw[Z];cases rb x.a with|none=>exact d|some c=>exact .tail _ d
   · intro y D
     rcases List.mem_cons.1 D with h|h
     · exact .inl h
     · exact .inr ⟨.tail _ h,Q y h⟩
 |x::R,R',i+1,r,K,hg,W=>by
   unfold QV at W
   cases hr:QV R i K with
   |none=>rw[hr] at W;cases W
   |some R1 =>
     rw[hr] at W;cases W;obtain⟨h1,h2⟩:=TC (R:=R) hg hr
     refine⟨λy D=>by
       rcases List.mem_cons.1 D with rfl|D
       · exact .inr (.head _)
       · rcases h1 y D with h|h
         · exact .inl h
         · exact .inr (.tail _ h),λN G J=>?_⟩
     have ex:∀L:List RB,I6 (x::L)=(match rb x.a with|some b=>b::I6 L|none=>I6 L):=λL=>by
       unfold I6;rw[List.filterMap_cons];cases rb x.a <;> rfl
     cases F:rb x.a with
     |none =>
       rw[ex,F] at J;obtain⟨a1,a2,a3⟩:=h2 N (by rw[ex,F] at G;exact G) J;refine⟨by rw[ex,F];exact a1,λb d=>by rw[ex,F] at d;rw[ex,F];exact a2 b d,λy D=>?_⟩;rcases List.mem_cons.1 D with rfl|D
       · exact .inr ⟨.head _,.inl F⟩
       · rcases a3 y D with h|h
         · exact .inl h
         · exact .inr ⟨.tail _ h.1,h.2⟩
     |some c =>
       rw[ex,F] at J;simp only at J;have hn':((N++[c])++I6 R).Nodup:=by simpa using J
       obtain⟨a1,a2,a3⟩:=h2 (N++[c]) (by
         rw[ex,F] at G;rcases G with G|⟨k,G,Y,U⟩
         · exact .inl G
         · exact .inr ⟨k,G,λh=>by
             rcases List.mem_append.1 h with h|h
             · exact Y h
             · exact U (by rw[List.mem_singleton] at h;subst h;exact .head _),λh=>U (.tail _ h)⟩) hn'
       have hrc:rb r.a≠some c:=λe=>by
         have:c∈I6 R:=List.mem_filterMap.2 ⟨r,Da hg,e⟩;exact (List.nodup_append.1 hn').2.2 c (List.mem_append.2 (.inr (.head _))) c this C
       refine⟨by rw[ex,F];simpa using a1,λb d=>?_,λy D=>?_⟩
       · rw[ex,F] at d
         rcases List.mem_cons.1 d with rfl|d
         · right;rw[ex,F];exact .head _
         · rcases a2 b d with h|h
           · exact .inl h
           · right;rw[ex,F];exact .tail _ h
       · rcases List.mem_cons.1 D with rfl|D
         · exact .inr ⟨.head _,.inr (by rw[F];exact λe=>hrc e.symm)⟩
         · rcases a3 y D with h|h
           · exact .inl h
           · exact .inr ⟨.tail _ h.1,h.2⟩
section
variable{X:Cx}{w w':wO}{f:Fq}{H:List HB}{R R':List RB}{B:List FB}{Fs:List (wO→Fq→Prop)}
variable {xs:lV}{b c' i n n':Nat}{a':oA}{e:tI}
theorem AO.grow{r:RB}{xs':lV}(h:AO X w f H R B Fs)(Q:N0 R i=some r)(hs:QV R i ⟨r.e,r.size,a',c',n',xs'⟩=some R')(hr:BQ w' r.e r.size a' c' n' xs')(F:FE r.a w a' w'):AO X w' f H R' B Fs:=by
 have D:∀b,rb r.a=some b→b∈Cf H R:=λb d=>List.mem_append.2 (.inr (List.mem_filterMap.2 ⟨r,Da Q,d⟩))
 have Y:HF w f w' f:=λk=>⟨Nat.le_refl _,λo G=>by
   have J:k<w.heap.size:=by
     rcases Nat.lt_or_ge k w.heap.size with K|K
     · exact K
     · have:=h.val k K;omega
   exact DW (F.block k J λe=>by have:=(h.own k (D k e.symm)).1;omega) o⟩
 have Z:∀k,X.MI k→w'.heap[k]?=w.heap[k]?:=λk J=>F.block k (h.mi k J).1 λe=>(h.own k (D k e.symm)).2.2 J;have O:w.heap.size∉Cf H R:=λK=>Nat.lt_irrefl _ (h.lt K);obtain⟨h1,h2⟩:=TC Q hs
 obtain⟨a1,a2,a3⟩:=h2 (H.map HB.b) (by
   rcases F.own with G|G
   · exact .inl G
   · exact .inr ⟨_,G,λK=>O (List.mem_append.2 (.inl K)),λK=>O (List.mem_append.2 (.inr K))⟩) h.nd
 have U:∀e,e∈H→w'.heap[e.b]?=w.heap[e.b]?:=λe he=>F.block e.b (h.blk e he).lt λK=>by
   exact (List.nodup_append.1 h.nd).2.2 e.b (List.mem_map.2 ⟨e,he,C⟩) e.b (List.mem_filterMap.2 ⟨r,Da Q,K.symm⟩) C
 exact {stp:=⟨F.os.trans h.stp.os,F.tape.trans h.stp.tape,F.output.trans h.stp.output,Nat.le_trans h.stp.size F.size,λk J hm=>(F.block k (Nat.lt_of_lt_of_le J h.stp.size) λe=>by have:=h.rnw r (Da Q) k e.symm;omega).trans (h.stp.block k J hm)⟩,
         old:=h.old,val:=λk J=>h.val k (Nat.le_trans F.size J),ent:=h.ent.trans Y,res:=h.stab _ _ _ _ h.res Y Z,stab:=h.stab,
         mi:=λk J=>⟨Nat.lt_of_lt_of_le (h.mi k J).1 F.size,(h.mi k J).2⟩,
         blk:=λe he=>(U e he).trans (h.blk e he),
         row:=λx L=>by
           rcases a3 x L with rfl|⟨L,hne⟩
           · exact hr
           · exact (h.row x L).grow F hne,
         nd:=a1,
         own:=λb d=>by
           rcases List.mem_append.1 d with d|d
           · exact h.own b (List.mem_append.2 (.inl d))
           · rcases a2 b d with d|d
             · rcases F.own with G|G
               · exact h.own b (D b (by rw[← G];exact d.symm))
               · have:b=w.heap.size:=Option.some.inj (d.trans G)
                 subst this;exact⟨h.val _ (Nat.le_refl _),.inl h.stp.size,λhm=>Nat.lt_irrefl _ (h.mi _ hm).1⟩
             · exact h.own b (List.mem_append.2 (.inr d)),
         hnw:=h.hnw,
         rnw:=λx L b d=>by
           rcases a3 x L with rfl|⟨L,_⟩
           · rcases F.own with G|G
             · exact h.rnw r (Da Q) b (by rw[← G];exact d)
             · have:b=w.heap.size:=Option.some.inj (d.symm.trans G)
               subst this;exact h.stp.size
           · exact h.rnw x L b d,
         fro:=λx L=>(h.fro x L).mono Y,fac:=λφ W=>h.mono φ W _ _ _ _ (h.fac φ W) Y,mono:=h.mono}
theorem AO.rowNil(h:AO X w f H R B Fs)(e:tI)(size:Nat):AO X w f H (⟨e,size,none,0,0,[]⟩::R) B Fs :=
 {h with
   row:=λr d=>by
     rcases List.mem_cons.1 d with rfl|d
     · exact Fx _ _ _
     · exact h.row r d,
   rnw:=λr d b D=>by
     rcases List.mem_cons.1 d with rfl|d
     · cases D
     · exact h.rnw r d b D}
theorem AO.done{size c:Nat}(h:AO X w f H R B Fs)(G:N0 R i=some ⟨e,size,some ⟨b,0,none⟩,c,n,xs⟩)(J:Qq R i=some R'):∃f',AO X w f' H R' (⟨b,0,xs⟩::B) Fs:=by
 have F:=h.row _ (Da G);have O:=h.own b (List.mem_append.2 (.inr (List.mem_filterMap.2 ⟨_,Da G,C⟩)));have hnw:=h.rnw _ (Da G) b C;have hlt:b<w.heap.size:=F.lt C
 let f':Fq:=λk=>if k=b then n*size else f k
 have hF:HF w f w f':=λk=>by
   show f k≤(if k=b then n*size else f k)∧_
   split
   · rename_i d;subst d;rw[O.1];exact⟨Nat.zero_le _,λo ho=>by omega⟩
   · exact⟨Nat.le_refl _,λ_ _=>C⟩
 have K:∀k,k≠b→f' k=f k:=λk d=>if_neg d;have D:=Te J
 have hbR:b∉Cf H R':=by
   have:∀(R R':List RB)(i:Nat)(N:List Nat),N0 R i=some ⟨e,size,some ⟨b,0,none⟩,c,n,xs⟩→Qq R i=some R'→(N++I6 R).Nodup→b∉N++I6 R':=by
     intro R
     induction R with
     |nil=>intro R' i N G;cases G
     |cons x R ih =>
       intro R' i N G J Q
       cases i with
       |zero =>
         cases G;cases J
         have e1:I6 (⟨e,size,some ⟨b,0,none⟩,c,n,xs⟩::R)=b::I6 R:=rfl;rw[e1] at Q;intro U;rcases List.mem_append.1 U with U|U
         · exact (List.nodup_append.1 Q).2.2 b U b (.head _) C
         · exact (List.nodup_cons.1 (List.nodup_append.1 Q).2.1).1 U
       |succ i =>
         unfold Qq at J
         cases F:Qq R i with
         |none=>rw[F] at J;cases J
         |some R1 =>
           rw[F] at J;cases J
           have ex:∀L:List RB,I6 (x::L)=(match rb x.a with|some b=>b::I6 L|none=>I6 L):=λL=>by
             unfold I6;rw[List.filterMap_cons];cases rb x.a <;> rfl
           rw[ex] at Q ⊢
           cases Y:rb x.a with
           |none=>rw[Y] at Q;exact ih R1 i N G F Q
           |some k =>
             rw[Y] at Q;have:=ih R1 i (N++[k]) G F (by simpa using Q);simpa using this
   exact this R R' i (H.map HB.b) G J h.nd
 refine⟨f',{stp:=h.stp,old:=λk d=>(K k oM).trans (h.old k d),val:=λk d=>(K k oM).trans (h.val k d),ent:=h.ent.trans hF,res:=h.stab _ _ _ _ h.res hF (λ_ _=>C),stab:=h.stab,
               mi:=λk d=>⟨(h.mi k d).1,(K k (λe=>O.2.2 (e▸d))).trans (h.mi k d).2.1,(h.mi k d).2.2⟩,
               blk:=h.blk,row:=λr F=>h.row r (D.subset F),nd:=(List.Sublist.append (List.Sublist.refl _) (D.filterMap _)).nodup h.nd,
               own:=λk d=>by
                 have Z:k∈Cf H R:=(List.Sublist.append (List.Sublist.refl (H.map (·.b))) (D.filterMap _)).subset d;exact⟨(K k (λe=>hbR (e▸d))).trans (h.own k Z).1,(h.own k Z).2⟩,
               hnw:=h.hnw,rnw:=λr F=>h.rnw r (D.subset F),
               fro:=λx Y=>by
                 rcases List.mem_cons.1 Y with rfl|Y
                 · intro j v W
                   have W:xs[j]?=some v:=W;obtain⟨hl,_⟩:=List.getElem?_eq_some_iff.1 W;rcases F.2 with ⟨h0,_⟩|⟨b',l,ha,U,hnc,_,hll,ht⟩
                   · cases h0
                   · cases ha
                     have hxl:xs.length=n*size:=F.1;have ht:l.take (n*size)=xs:=ht;refine⟨?_,?_⟩
                     · show 0+j<(if b=b then n*size else f b)
                       rw[if_pos C];omega
                     · show w.cell? ⟨b,0+j,none⟩=some v
                       rw[U.cell,Nat.zero_add];rw[← ht,List.getElem?_take] at W
                       split at W
                       · exact W
                       · cases W
                 · exact (h.fro x Y).mono hF,
               fac:=λφ hφ=>h.mono φ hφ _ _ _ _ (h.fac φ hφ) hF,mono:=h.mono}⟩
end
def AR:List (wO→Fq→Prop)→wO→Fq→Prop
 | [],_,_=>True
 |φ::l,w,f=>φ w f∧AR l w f
def Au:List (wO→Fq→Prop)→Prop
 | []=>True
 |φ::l=>EI φ∧Au l
theorem AR.mem:∀{l:List (wO→Fq→Prop)}{w:wO}{f:Fq},AR l w f→∀φ,φ∈l→φ w f
 | [],_,_,_,_,h=>by cases h
 |_::_,_,_,h,φ,D=>by
   rcases List.mem_cons.1 D with rfl|D
   · exact h.1
   · exact AR.mem h.2 φ D
theorem Au.mem:∀{l:List (wO→Fq→Prop)},Au l→∀φ,φ∈l→EI φ
 | [],_,_,h=>by cases h
 |_::_,h,φ,D=>by
   rcases List.mem_cons.1 D with rfl|D
   · exact h.1
   · exact Au.mem h.2 φ D
def AU{α:Type}(val:α→Value)(q:α→Prop)(F':α→List (wO→Fq→Prop))(w:wO)(f:Fq)(v:Value)(w':wO):Prop:=∃x f',v=val x∧q x∧C9 (λ_=>False) w f w' f'∧AR (F' x) w' f'
def EF{α:Type}(val:α→Value)(q:α→Prop)(MI:Nat→Prop)(I':α→wO→Fq→Prop)(F':α→List (wO→Fq→Prop))(w:wO)(f:Fq)(v:Value)(w':wO):Prop:=∃x f',v=val x∧q x∧C9 MI w f w' f'∧I' x w' f'∧AR (F' x) w' f'
def Vl(w:wO)(f:Fq):Prop:=∀b,w.heap.size≤b→f b=0
abbrev X0(w:wO)(f:Fq):Cx:=⟨λ_=>False,λ_=>False,λ_ _=>True,w,f⟩
theorem Be{w:wO}{f:Fq}{Fs:List (wO→Fq→Prop)}(D:Vl w f)(F:AR Fs w f)(hm:Au Fs):AO (X0 w f) w f [] [] [] Fs where
 stp:=MC.refl _ _
 old _ _:=rfl
 val:=D
 ent:=HF.refl _ _
 res:=trivial
 stab _ _ _ _ _ _ _:=trivial
 mi _ h:=h.elim
 blk _ h:=by cases h
 row _ h:=by cases h
 nd:=List.nodup_nil
 own _ h:=by cases h
 hnw _ h:=by cases h
 rnw _ h:=by cases h
 fro _ h:=by cases h
 fac:=F.mem
 mono:=hm.mem
theorem AO.vl{X:Cx}{w:wO}{f:Fq}{H:List HB}{R:List RB}{B:List FB}{Fs:List (wO→Fq→Prop)}(h:AO X w f H R B Fs):Vl w f:=h.val
def JD:List HB→Nat→Option (List HB)
 | [],_=>none
 |_::H,0=>some H
 |x::H,i+1=>match JD H i with
   |some r=>some (x::r)
   |none=>none
theorem La:∀{H H':List HB}{i:Nat},JD H i=some H'→H'.Sublist H
 | [],_,_,h=>by cases h
 |_::_,_,0,h=>by cases h;exact List.sublist_cons_self _ _
 |x::H,H',i+1,h=>by
   unfold JD at h
   cases D:JD H i with
   |none=>rw[D] at h;cases h
   |some r=>rw[D] at h;cases h;exact (La D).cons_cons x
theorem Lz:∀{H H':List HB}{i:Nat}{e:HB}{L:List Nat},G9 H i=some e→JD H i=some H'→(H.map HB.b++L).Nodup→e.b∉H'.map HB.b++L
 | [],_,_,_,_,h,_,_=>by cases h
 |x::H,H',0,e,L,G,D,J=>by
   cases G;cases D
   exact (List.nodup_cons.1 J).1
 |x::H,H',i+1,e,L,G,D,J=>by
   unfold JD at D
   cases K:JD H i with
   |none=>rw[K] at D;cases D
   |some r =>
     rw[K] at D;cases D;have F:(x.b::(H.map HB.b++L)).Nodup:=J;have U:=Lz (H:=H) (L:=L) G K (List.nodup_cons.1 F).2;intro W;have O:e.b∈x.b::(r.map HB.b++L):=W;rcases List.mem_cons.1 O with h|h
     · exact (List.nodup_cons.1 F).1 (by rw[← h];exact List.mem_append.2 (.inl (List.mem_map.2 ⟨e,BD G,C⟩)))
     · exact U h
section
variable{X:Cx}{w w':wO}{f:Fq}{H H':List HB}{R R':List RB}{B:List FB}{Fs:List (wO→Fq→Prop)}
variable {l:lV}{b i:Nat}
theorem AO.doneH{T:tI}(h:AO X w f H R B Fs)(W:G9 H i=some ⟨b,l,T,true⟩)(hs:JD H i=some H'):∃f',AO X w f' H' R (⟨b,0,l⟩::B) Fs:=by
 have F:=h.blk _ (BD W);have K:=h.own b (List.mem_append.2 (.inl (List.mem_map.2 ⟨_,BD W,C⟩)));have hnw:=h.hnw _ (BD W) C;have hlt:b<w.heap.size:=F.lt
 let f':Fq:=λk=>if k=b then l.length else f k
 have Y:HF w f w f':=λk=>by
   show f k≤(if k=b then l.length else f k)∧_
   split
   · rename_i D;subst D;rw[K.1];exact⟨Nat.zero_le _,λo ho=>by omega⟩
   · exact⟨Nat.le_refl _,λ_ _=>C⟩
 have J:∀k,k≠b→f' k=f k:=λk D=>if_neg D;have G:=La hs;have hnd:(H.map HB.b++I6 R).Nodup:=h.nd;have hbR:b∉Cf H' R:=Lz (L:=I6 R) W hs hnd;have O:(Cf H' R).Sublist (Cf H R):=List.Sublist.append (G.map _) (List.Sublist.refl _);have hnw':X.w0.heap.size≤b:=hnw
 refine⟨f',{stp:=h.stp,old:=λk D=>(J k oM).trans (h.old k D),val:=λk D=>(J k oM).trans (h.val k D),ent:=h.ent.trans Y,res:=h.stab _ _ _ _ h.res Y (λ_ _=>C),stab:=h.stab,
               mi:=λk D=>⟨(h.mi k D).1,(J k (λe=>K.2.2 (e▸D))).trans (h.mi k D).2.1,(h.mi k D).2.2⟩,
               blk:=λe he=>h.blk e (G.subset he),row:=h.row,nd:=O.nodup h.nd,
               own:=λk D=>⟨(J k (λe=>hbR (e▸D))).trans (h.own k (O.subset D)).1,(h.own k (O.subset D)).2⟩,
               hnw:=λe he=>h.hnw e (G.subset he),rnw:=h.rnw,
               fro:=λx hx=>by
                 rcases List.mem_cons.1 hx with rfl|hx
                 · intro j v Z
                   have Z:l[j]?=some v:=Z;obtain⟨hl,_⟩:=List.getElem?_eq_some_iff.1 Z;refine⟨?_,?_⟩
                   · show 0+j<(if b=b then l.length else f b)
                     rw[if_pos C];omega
                   · show w.cell? ⟨b,0+j,none⟩=some v
                     have F:AS w b l T:=F;rw[F.cell,Nat.zero_add,Z]
                 · exact (h.fro x hx).mono Y,
               fac:=λφ U=>h.mono φ U _ _ _ _ (h.fac φ U) Y,mono:=h.mono}⟩
end
section
variable{P:Program}{n:Nat}{Q:AV}{ds:List Deferred}{X:Cx}{R R':List RB}{B:List FB}{Fs:List (wO→Fq→Prop)}{tb:Ym}{fs:List Fr}{σ:Ba}{H:List HB}
variable{all r:List Oper}{ty T:tI}{pos:String}{af:Array Edge}{g:Option (Nat×Bool)}{d:Nat}{x y:Operand}
theorem LY{k:K3}(e:tI)(size:Nat)(h:A1 P n Q ds X (⟨e,size,none,0,0,[]⟩::R) B Fs k fs σ H):A1 P n Q ds X R B Fs k fs σ H:=λw f D=>h w f (D.rowNil e size)
variable {ag nw:Bool}{l news vs xs z zl:lV}{b bytes cs k m o off:Nat}{a:oA}{Ts e:tI}
theorem bE{k:K3}{size c:Nat}(i:Nat)(F:N0 R i=some ⟨e,size,some ⟨b,0,none⟩,c,m,xs⟩)(G:Qq R i=some R')(h:A1 P n Q ds X R' (⟨b,0,xs⟩::B) Fs k fs σ H):A1 P n Q ds X R B Fs k fs σ H:=λw f J=>by
 obtain⟨f',D⟩:=J.done F G;exact h w f' D
theorem Di{k:K3}{H':List HB}{T:tI}(i:Nat)(F:G9 H i=some ⟨b,l,T,true⟩)(G:JD H i=some H')(h:A1 P n Q ds X R (⟨b,0,l⟩::B) Fs k fs σ H'):A1 P n Q ds X R B Fs k fs σ H:=λw f J=>by
 obtain⟨f',D⟩:=J.doneH F G;exact h w f' D
theorem Dd{size:Nat}{c src:Nat}{R':oA→Nat→List RB}(i j:Nat)(O:gd all σ g=some true)(hd:Nat.blt d n=true)(U:Jy P T=some (e,size,bytes,zl))(D:Nat.beq zl.length size=true)(F:Nat.blt 0 size=true)
   (W:ev σ x=some (.slice a k c)) (Y:ev σ y=some (.slice (some ⟨src,0,none⟩) 1 cs)) (L:N0 R i=some ⟨e,size,a,c,k,xs⟩) (Z:G9 H j=some ⟨src,news,Ts,nw⟩) (hl:Nat.beq news.length size=true) (h1:MB news=true)
   (hS:∀a' c',QV R i ⟨e,size,a',c',k+1,xs++news⟩=some (R' a' c')) (G:(k+1)*bytes≤140737488355328) (J:k+1≤9223372036854775807)
   (h:∀a' c',A1 P n Q ds X (R' a' c') B Fs (.ops all r) fs (AI σ d (.slice a' (k+1) c')) H) :
   A1 P n Q ds X R B Fs (.ops all (⟨some d,.call {callee:=.builtin .append,args:=#[x,y],argTypes:=#[T,T]},ty,pos,af,g⟩::r)) fs σ H:=λw f K =>
 Bh O (Cm hd U D F W Y (K.row _ (Da L)) (K.blk _ (BD Z)) hl h1 G J λa' c' w' hr hG=>h a' c' w' f (K.grow L (hS a' c') hr hG))
theorem nK{size:Nat}{c src:Nat}{R':oA→Nat→List RB}(i j:Nat)(U:gd all σ g=some true)(hd:Nat.blt d n=true)(W:Jy P T=some (e,size,bytes,zl))(D:Nat.beq zl.length size=true)(F:Nat.blt 0 size=true)
   (Y:ev σ x=some (.slice a k c)) (Z:ev σ y=some (.slice (some ⟨src,off,none⟩) m cs)) (O:N0 R i=some ⟨e,size,a,c,k,xs⟩) (hB:nth B j=some ⟨src,off,news⟩) (hl:news.length=m*size) (h1:∀v∈news,v.oneCell'=true) (hm:0<m)
   (hS:∀a' c',QV R i ⟨e,size,a',c',k+m,xs++news⟩=some (R' a' c')) (G:(k+m)*bytes≤140737488355328) (J:k+m≤9223372036854775807)
   (h:∀a' c',A1 P n Q ds X (R' a' c') B Fs (.ops all r) fs (AI σ d (.slice a' (k+m) c')) H) :
   A1 P n Q ds X R B Fs (.ops all (⟨some d,.call {callee:=.builtin .append,args:=#[x,y],argTypes:=#[T,T]},ty,pos,af,g⟩::r)) fs σ H:=λw f K=>by
 obtain⟨a',c',w',hr,L,hG⟩:=R5 (ty:=ty) W D F Y Z (K.row _ (Da O)) (λj u hj=>by rw[Ea];exact (K.getB hB j u hj).2) hl h1 hm G J;exact Bh U (Ac hd hr (h a' c' w' f (K.grow O (hS a' c') L hG)))
theorem mb0(F:gd all σ g=some true)(hd:Nat.blt d n=true)(G:Hj P T=some (e,k))
   (h:∀b,A1 P n Q ds X (⟨e,k,some ⟨b,0,none⟩,0,0,[]⟩::R) B Fs (.ops all r) fs (AI σ d (.slice (some ⟨b,0,none⟩) 0 0)) H) :
   A1 P n Q ds X R B Fs (.ops all (⟨some d,.buildSlice T 0 #[],ty,pos,af,g⟩::r)) fs σ H:=λw f J=>by
 obtain⟨i,hu,K,rfl⟩:=FH G
 have L:(Instr.buildSlice T 0 #[]).run P w=.ok (.slice (some ⟨w.heap.size,0,none⟩) 0 0) (w.alloc (.cells #[] e)):=by
   simp[Instr.buildSlice,run_underlying hu,sizeOf,typeInfo,K,Instr.fill,newRow,show Array.range 0=#[] from C]
 refine Bh F (Ac hd (v:=.slice (some ⟨w.heap.size,0,none⟩) 0 0) (w':=w.alloc (.cells #[] e)) (λW _ _ _ _ O=>by simp[execOp,L]) ?_)
 have D:=(J.rowNil e i.size).grow (i:=0) (a':=some ⟨w.heap.size,0,none⟩) (c':=0) (n':=0) (xs':=[]) (w':=w.alloc (.cells #[] e)) C C
   ⟨by simp,.inr ⟨w.heap.size,[],C,Nb w [] _,Nat.le_refl _,Nat.zero_le _,by simp,by simp⟩⟩ ⟨C,C,C,by rw[GH];omega,λk U _=>Jf w _ k U,.inr C⟩
 exact h w.heap.size _ f D
theorem RT{size:Nat}(hz:z.length=size)(h:0<size)(m:Nat):madeCells z.toArray (m*size)=(EV m z).toArray:=by
 rw[← Qv size z hz h m,← O8 m size z hz h];rfl
theorem KM{size:Nat}(hz:z.length=size):∀m,(EV m z).length=m*size
 |0=>by simp[EV]
 |m+1=>by rw[EV,List.length_append,KM hz m,hz,Nat.add_mul];omega
theorem mmk{size:Nat}{x y:Operand}(hg:gd all σ g=some true)(hd:Nat.blt d n=true)(F:Jy P T=some (e,size,bytes,zl))(U:Nat.beq zl.length size=true)(W:Nat.blt 0 size=true)
   (hx:ev σ x=some (.int .i64 (m:Int))) (hy:ev σ y=some (.int .i64 (m:Int))) (hb:bytes*m≤281474976710656) (G:m≤maxLen)
   (h:∀b,A1 P n Q ds X (⟨e,size,some ⟨b,0,none⟩,m,m,EV m zl⟩::R) B Fs (.ops all r) fs (AI σ d (.slice (some ⟨b,0,none⟩) m m)) H) :
   A1 P n Q ds X R B Fs (.ops all (⟨some d,.makeSlice T x y,ty,pos,af,g⟩::r)) fs σ H:=λw f hM=>by
 unfold Jy at F
 split at F
 · rename_i O hu
   split at F
   · rename_i i hi
     split at F
     · rename_i z hz
       injection F with F
       obtain⟨rfl,rfl,rfl,rfl⟩:=by simpa using F
       have D:z.cells.toList.length=i.size:=Nat.eq_of_beq_eq_true U;have J:0<i.size:=Nat.le_of_ble_eq_true W;have K:(m:Int)≤9223372036854775807:=by have:=G;unfold maxLen at this;omega
       have Y:(i.bytes:Int)*(m:Int)≤281474976710656:=by
         have:((i.bytes*m:Nat):Int)≤281474976710656:=oM;rwa[Int.natCast_mul] at this
       have Z:=run_make (P:=P) w T O i z hu hi hz .i64 .i64 (m:Int) (m:Int) oM oM Y K;simp only[Int.toNat_natCast] at Z
       have hc:madeCells z.cells (m*i.size)=(EV m z.cells.toList).toArray:=by
         have:=RT (z:=z.cells.toList) D J m;simpa using this
       rw[hc] at Z;refine Bh hg (Ac hd (v:=.slice (some ⟨w.heap.size,0,none⟩) m m) (w':=w.alloc (.cells (EV m z.cells.toList).toArray O)) ?_ ?_)
       · intro ρ _ _ _ _ L
         simp[execOp,L _ _ hx,L _ _ hy,Z]
       · have hM1:=(hM.rowNil O i.size).grow (i:=0) (a':=some ⟨w.heap.size,0,none⟩) (c':=m) (n':=m) (xs':=EV m z.cells.toList) (w':=w.alloc (.cells (EV m z.cells.toList).toArray O)) C C
           ⟨KM D m,.inr ⟨w.heap.size,_,C,Nb w _ _,Nat.le_refl _,G,KM D m,by rw[List.take_of_length_le (by rw[KM D m];exact Nat.le_refl _)]⟩⟩
           ⟨C,C,C,by rw[GH];omega,λk hk _=>Jf w _ k hk,.inr C⟩
         exact h w.heap.size _ f hM1
     · cases F
   · cases F
 · cases F
theorem PN:∀(vs cs:lV)(o k:Nat),(DT cs o vs).take k=DT (cs.take k) o vs
 | [],_,_,_=>rfl
 |v::vs,cs,o,k=>by rw[DT,DT,PN vs (cs.set o v) (o+1) k,List.take_set]
theorem mrs{size c:Nat}{v:Value}(i:Nat)(xs':lV)(hg:gd all σ g=some true)(hx:ev σ x=some (.pointer (some ⟨b,o,none⟩)))(hy:ev σ y=some v)(hv:Hm v=some vs)(hT:AT P T=some (ag,k))(U:Nat.beq vs.length k=true)(h1:MB vs=true)
   (W:N0 R i=some ⟨e,size,some ⟨b,0,none⟩,c,m,xs⟩) (hf:o+vs.length≤m*size) (he:DT xs o vs=xs') (hS:QV R i ⟨e,size,some ⟨b,0,none⟩,c,m,xs'⟩=some R')
   (h:A1 P n Q ds X R' B Fs (.ops all r) fs σ H):A1 P n Q ds X R B Fs (.ops all (⟨none,.store T x y,ty,pos,af,g⟩::r)) fs σ H:=λw f Y=>by
 subst he;have Z:=Y.row _ (Da W);rcases Z.2 with ⟨h0,_⟩|⟨b',l,ha,G,F,J,D,K⟩
 · cases h0
 · cases ha
   have L:xs.length=m*size:=Z.1;have D:l.length=c*size:=D;have K:l.take (m*size)=xs:=K;have hms:m*size≤c*size:=Nat.mul_le_mul_right _ F;have G:AS w b l e:=G;refine Bh hg (IP (O6 hx hy (Gk hv) hT U G h1 oM) (h _ f (Y.grow W hS ?_ ?_)))
   · refine⟨by rw[FF];exact L,.inr ⟨b,DT l o vs,C,setRow_heap w b _ _ e _ G,F,J,by rw[FF];exact D,?_⟩⟩
     rw[PN,K]
   · exact⟨C,C,C,by simp[World.setRow],λk U O=>setRow_other w b k _ (λe=>O (by rw[e];rfl)),.inl C⟩
end
def Kp(Hk:List HB)(B:List FB)(J:wO→Prop)(w:wO):Prop:=(∀e,e∈Hk→AS w e.b e.l e.T)∧(∀e,e∈B→∀(j:Nat)(v:Value),e.l[j]?=some v→w.cell? ⟨e.b,e.off+j,none⟩=some v)∧J w
def M1(H:List HB):List Nat→Option (List HB)
 | []=>some []
 |i::l=>match G9 H i,M1 H l with
   |some e,some r=>some (e::r)
   |_,_=>none
theorem J1{H:List HB}:∀{D:List Nat}{Hk:List HB},M1 H D=some Hk→∀e,e∈Hk→e∈H
 | [],_,h,e,he=>by cases h;cases he
 |i::D,Hk,h,e,he=>by
   unfold M1 at h
   split at h
   · rename_i e0 r F G
     cases h
     rcases List.mem_cons.1 he with rfl|he
     · exact BD F
     · exact J1 G e he
   · cases h
variable {af:Array Edge}{args:Array Value}{σ':Ba}{nw top:Bool}{f:Fq}{fid:FuncId}{r:List Oper}{XX:List PanicEntry→wO→Prop}{b d i id off:Nat}{g:Option (Nat×Bool)}{T ty:tI}{w:wO}
theorem AO.kp{X:Cx}{H Hk:List HB}{R:List RB}{B:List FB}{Fs:List (wO→Fq→Prop)}{J:wO→Prop}(h:AO X w f H R B Fs)(D:∀e,e∈Hk→e∈H)(F:∀w f,X.I w f→C9 X.M X.w0 X.f0 w f→J w):Kp Hk B J w :=
 ⟨λe he=>h.blk e (D e he),λe he j v G=>(h.fro e he j v G).2,F w f h.res h.exm⟩
section
variable(P:Program)(n:Nat)(Q:AV)(ds:List Deferred)(X:Cx)(R:List RB)(B:List FB)(Fs:List (wO→Fq→Prop))(tb:Ym)(l:List Oper)(Hk:List HB)(B0:List FB)(J:wO→Prop)
def CK(top:Bool)(t:OT)(σ:Ba)(H:List HB):Prop:=∀w f,AO X w f H R B Fs→Ut P n l Q (Kp Hk B0 J) top t σ ds w
def UM:Nat→List Nat→OT→Ba→List HB→Prop
 |0,_,t,σ,H=>True→CK P n Q ds X R B Fs l Hk B0 J true t σ H
 |m+1,D,.rd i k,σ,H=>(match nth l i with
   |some ⟨some d,op,_,_,_,g⟩=>(match Nat.blt d n with
     |false=>False
     |true=>(match gd l σ g with
       |none=>False
       |some false=>UM m D k (AI σ d undef) H
       |some true=>(match op with
         |.load T x=>(match D with
           | []=>False
           |h::D=>(match ev σ x,qM tb.ti T with
             |some (.pointer (some ⟨b,o,none⟩)),some (a,q)=>(match Nat.blt h 100 with
               |true=>(match G9 Hk h with
                 |some ⟨F,c,_,_⟩=>(match a with
                   |false=>(match nth c o with
                     |some v=>F=b∧UM m D k (AI σ d v) H
                     |none=>False)
                   |true=>(match UH c o q with
                     |some vs=>F=b∧UM m D k (AI σ d (.agg ⟨vs⟩)) H
                     |none=>False))
                 |none=>False)
               |false=>(match D with
                 | []=>False
                 |j::D=>(match nth B0 (h-100) with
                   |some ⟨F,off,c⟩=>(match a with
                     |false=>(match nth c j with
                       |some v=>(F=b∧off+j=o)∧UM m D k (AI σ d v) H
                       |none=>False)
                     |true=>(match UH c j q with
                       |some vs=>(F=b∧off+j=o)∧UM m D k (AI σ d (.agg ⟨vs⟩)) H
                       |none=>False))
                   |none=>False)))
             |_,_=>False))
         |.indexAddr T x y=>(match ev σ x,ev σ y,WO tb.sl T with
           |some (.slice (some ⟨b,o,none⟩) len _),some (.int _ i),some (_,q)=>(0≤i∧i<len)∧UM m D k (AI σ d (.pointer (some ⟨b,o+i.toNat*q,none⟩))) H
           |_,_,_=>False)
         |.binOp .add T x y G=>(match ev σ x,ev σ y with
           |some (.int .i64 a),some (.int .i64 b)=>Qj (a+b)∧UM m D k (AI σ d (.int .i64 (a+b))) H
           |some (.string ⟨⟨a⟩⟩),some (.string ⟨⟨b⟩⟩)=>a.length+b.length≤9223372036854775807∧UM m D k (AI σ d (S (a++b))) H
           |_,_=>False)
         |.binOp .sub T x y G=>(match ev σ x,ev σ y with
           |some (.int .i64 a),some (.int .i64 b)=>Qj (a-b)∧UM m D k (AI σ d (.int .i64 (a-b))) H
           |_,_=>False)
         |op=>(match pv tb σ op with
           |some v=>UM m D k (AI σ d v) H
           |none=>False))))
   |_=>False)
 |_+1,_,_,_,_=>False
end
section
variable{P:Program}{n:Nat}{Q:AV}{ds:List Deferred}{X:Cx}{R:List RB}{B:List FB}{Fs:List (wO→Fq→Prop)}{tb:Ym}{l:List Oper}{Hk:List HB}{B0:List FB}{J:wO→Prop}{σ:Ba}{H:List HB}{fs:List Fr}
theorem Fw{S:wO→Prop}{op:Op}{pos:String}{k:OT}{v:Value}(F:nth l i=some ⟨some d,op,ty,pos,af,g⟩)(hd:Nat.blt d n=true)(G:gd l σ g=some true)(K:∀w,S w→AK P σ op ty w v w)
   (h:Ut P n l Q S true k (AI σ d v) ds w):Ut P n l Q S top (.rd i k) σ ds w:=λa D =>
 ⟨_,v,(Es l i).symm.trans F,.inl ⟨Jm D G,λw L=>K w L a.eval _ _ _ _ D.ev⟩,h _ (D.put hd v)⟩
theorem iS{S:wO→Prop}{op:Op}{pos:String}{k:OT}(F:nth l i=some ⟨some d,op,ty,pos,af,g⟩)(hd:Nat.blt d n=true)(G:gd l σ g=some false)
   (h:Ut P n l Q S true k (AI σ d undef) ds w):Ut P n l Q S top (.rd i k) σ ds w:=λa D =>
 ⟨_,undef,(Es l i).symm.trans F,.inr ⟨Jm D G,C⟩,h _ (D.put hd undef)⟩
theorem Kp.blk{c:lV}(h:Kp Hk B0 J w)(D:G9 Hk i=some ⟨b,c,T,nw⟩):AS w b c T:=h.1 _ (BD D)
theorem Kp.cel{c:lV}(h:Kp Hk B0 J w)(D:nth B0 i=some ⟨b,off,c⟩):∀(j:Nat)(v:Value),c[j]?=some v→w.cell? ⟨b,off+j,none⟩=some v:=by
 rw[Es] at D;exact h.2.1 _ (List.mem_of_getElem? D)
theorem PY(U:tb.Ok P):∀(m:Nat)(hs:List Nat)(t:OT)(σ:Ba)(H:List HB),UM P n Q ds X R B Fs tb l Hk B0 J m hs t σ H→CK P n Q ds X R B Fs l Hk B0 J true t σ H
 |0,_,_,_,_,h=>h tQ
 |m+1,hs,.fin,σ,H,h=>h.elim
 |m+1,hs,.br _ _ _,σ,H,h=>h.elim
 |m+1,hs,.rd i k,σ,H,h=>by
   have K:=PY U m;intro w f L;unfold UM at h
   split at h
   · rename_i O
     split at h
     · exact h.elim
     rename_i hd
     split at h
     · exact h.elim
     · rename_i F
       exact iS O hd F (K _ _ _ _ h w f L)
     · rename_i F
       split at h
       · split at h
         · exact h.elim
         · split at h
           · rename_i D Z
             split at h
             · split at h
               · rename_i hH
                 split at h
                 · split at h
                   · rename_i v G
                     obtain⟨rfl,h⟩:=h;rw[Es] at G;exact Fw O hd F (λw W=>Ai D (FR U.ti Z) (W.blk hH) G) (K _ _ _ _ h w f L)
                   · exact h.elim
                 · split at h
                   · rename_i vs G
                     obtain⟨rfl,h⟩:=h;exact Fw O hd F (λw W=>C4 D (FR U.ti Z) (W.blk hH) G) (K _ _ _ _ h w f L)
                   · exact h.elim
               · exact h.elim
             · split at h
               · exact h.elim
               · split at h
                 · rename_i hB
                   split at h
                   · split at h
                     · rename_i v G
                       obtain⟨⟨rfl,rfl⟩,h⟩:=h;rw[Es] at G;exact Fw O hd F (λw W=>IW D (FR U.ti Z) (W.cel hB _ v G)) (K _ _ _ _ h w f L)
                     · exact h.elim
                   · split at h
                     · rename_i vs G
                       obtain⟨⟨rfl,rfl⟩,h⟩:=h;obtain⟨hk,hg2⟩:=QX G;exact Fw O hd F (λw W=>K9 D (FR U.ti Z) hk (λj v hj=>by have:=W.cel hB _ v (hg2 j v hj);rwa[← Nat.add_assoc] at this)) (K _ _ _ _ h w f L)
                     · exact h.elim
                 · exact h.elim
           · exact h.elim
       · split at h
         · rename_i D Y Z
           exact Fw O hd F (λw _=>Oo D Y (JT U.sl Z) h.1) (K _ _ _ _ h.2 w f L)
         · exact h.elim
       · split at h
         · rename_i D Y;exact Fw O hd F (λw _=>NQ D Y h.1) (K _ _ _ _ h.2 w f L)
         · rename_i D Y;exact Fw O hd F (λw _=>Jk D Y h.1) (K _ _ _ _ h.2 w f L)
         · exact h.elim
       · split at h
         · rename_i D Y;exact Fw O hd F (λw _=>G0 D Y h.1) (K _ _ _ _ h.2 w f L)
         · exact h.elim
       · split at h
         · rename_i v G;exact Fw O hd F (λw _=>QE U G) (K _ _ _ _ h w f L)
         · exact h.elim
   · exact h.elim
theorem goT{t:OT}(F:tb.Ok P)(m:Nat)(D:List Nat)(h:UM P n Q ds X R B Fs tb l Hk B0 J m D t σ H):CK P n Q ds X R B Fs l Hk B0 J true t σ H:=PY F m D t σ H h
theorem Vd(h:PI Q):∀fs:List Fr,PI (Lo P n Q fs)
 | []=>h
 |.sq _::fs=>Vd h fs
 |.bk _::fs=>Vd h fs
theorem RL(J:wO→Prop)(U:∀w f,X.I w f→C9 X.M X.w0 X.f0 w f→J w)(W:List Nat)(hm:P.follows .mixedOrders=true)(t:OT)(Y:M1 H W=some Hk)(G:t.ok l.toArray true (Array.replicate l.length false)=true)(K:t.even true l.length=true)(D:Region.noSelect l.toArray=true)(L:PI Q)
   (h:CK P n (Lo P n Q fs) ds X R B Fs l Hk B J true t σ H):A1 P n Q ds X R B Fs (.code (.region id l.toArray true)) fs σ H:=λw f O=>by
 refine DZ hm (Kp Hk B J) t G K D (λw' Z hz=>?_) (Vd L fs);have F:AO X w' f H R B Fs:=O.call0 (C9.of_ext Z O.val);exact⟨F.kp (J1 Y) U,h w' f F⟩
theorem BG(h:A1 P n Q ds X R B Fs (.out .normal) fs σ H):CK P n (Lo P n Q fs) ds X R B Fs l Hk B0 J true .fin σ H:=λw f D=>D1 (h w f D)
theorem Cl{k o:OT}{x:Oper}(F:nth l i=some x)(h:A1 P n (TI P n l Q (Kp Hk B0 J) k) ds X R B Fs (.ops l [x]) [] σ H)(G:CK P n Q ds X R B Fs l Hk B0 J false o σ H):CK P n Q ds X R B Fs l Hk B0 J top (.br i k o) σ H :=
 λw f D=>Bn ((Es l i).symm.trans F) (h w f D) (G w f D)
theorem mtn:CK P n Q ds X R B Fs l Hk B0 J false .fin σ H:=λ_ _ _=>BE
theorem Bv{k:OT}(F:List Nat)(G:∀w f,X.I w f→C9 X.M X.w0 X.f0 w f→J w)(K:M1 H F=some Hk)(L:∀e,e∈B0→e∈B)(h:CK P n Q ds X R B Fs l Hk B0 J true k σ H):A1 P n (TI P n l Q (Kp Hk B0 J) k) ds X R B Fs (.out .normal) [] σ H:=λw f D =>
 ⟨⟨λe he=>D.blk e (J1 K e he),λe he j v O=>(D.fro e (L e he) j v O).2,G w f D.res D.exm⟩,h w f D⟩
theorem CK.le{t:OT}(D:Le σ' σ)(h:CK P n Q ds X R B Fs l Hk B0 J top t σ' H):CK P n Q ds X R B Fs l Hk B0 J top t σ H:=λw f F a G=>h w f F a (G.le D)
theorem Iy{t:OT}{b:Bool}(s:Nat)(h:σ s=some (.bool b))(D:b=true→CK P n Q ds X R B Fs l Hk B0 J top t (AI σ s (.bool true)) H)(F:b=false→CK P n Q ds X R B Fs l Hk B0 J top t (AI σ s (.bool false)) H):CK P n Q ds X R B Fs l Hk B0 J top t σ H:=by
 cases b with
 |true=>exact CK.le (Av (le_refl _) h) (D C)
 |false=>exact CK.le (Av (le_refl _) h) (F C)
theorem Iz{k:OT}{op:Op}{pos:String}{v:Value}(D:nth l i=some ⟨some d,op,ty,pos,af,g⟩)(hd:Nat.blt d n=true)(F:gd l σ g=some true)(G:∀w,Kp Hk B0 J w→AK P σ op ty w v w)
   (h:CK P n Q ds X R B Fs l Hk B0 J true k (AI σ d v) H):CK P n Q ds X R B Fs l Hk B0 J true (.rd i k) σ H:=λw f K=>Fw D hd F G (h w f K)
theorem CR{all:List Oper}{op:Op}{pos:String}{α:Type}{val:α→Value}{q:α→Prop}{F':α→List (wO→Fq→Prop)}(D:gd all σ g=some true)(hd:Nat.blt d n=true)(he:∀w,Enters P σ op ty w fid args)
   (F:∀w f,AO X w f H R B Fs→AX P fid args w (AU val q F' w f)) (hm:∀x,Au (F' x))
   (h:∀x,q x→A1 P n Q ds X R B (F' x++Fs) (.ops all r) fs (AI σ d (val x)) H):A1 P n Q ds X R B Fs (.ops all (⟨some d,op,ty,pos,af,g⟩::r)) fs σ H :=
 mc0 D hd he (λw f G=>(F w f G).mono λv w' ⟨x,f',K,L,O,U⟩=>⟨x,f',K,L,O,U.mem⟩) (λx=>(hm x).mem) h
theorem CI{all:List Oper}{op:Op}{pos:String}{α:Type}{val:α→Value}{q:α→Prop}{I':α→wO→Fq→Prop}{F':α→List (wO→Fq→Prop)}
   (F:gd all σ g=some true) (hd:Nat.blt d n=true) (he:∀w,Enters P σ op ty w fid args)
   (G:∀w f,AO X w f H R B Fs→BV P fid args w (EF val q X.MI I' F' w f) XX) (D:∀x,ED X.MI (I' x)) (hm:∀x,Au (F' x))
   (K:∀w f c w',AO X w f H R B Fs→XX c w'→Q.p c σ ds w')
   (h:∀x,q x→A1 P n Q ds {X with I:=I' x} R B (F' x++Fs) (.ops all r) fs (AI σ d (val x)) H):A1 P n Q ds X R B Fs (.ops all (⟨some d,op,ty,pos,af,g⟩::r)) fs σ H :=
 mcI F hd he (λw f L=>(G w f L).mono (λv w' ⟨x,f',O,U,W,Y,Z⟩=>⟨x,f',O,U,W,Y,Z.mem⟩) λ_ _ h=>h) D (λx=>(hm x).mem) K h
end
end Go.SW
namespace Go.SW
open Go.RowKit Go.SP
structure Key(κ:Type)[BEq κ] where
 enc:κ→Value
 desc:TypeDesc
 same:∀a b,Instr.sameNow desc (enc a) (enc b)=some (a==b)
 chk:∀(P:Program)(k:tI)(w:wO)(a:κ)(b:Bool),P.underlying k=some desc→(Instr.checkKey b 10000 k (enc a)).run P w=.ok () w
def JB:Key lU where
 enc:=S
 desc:=.string
 same a b:=by
   have:Instr.sameNow .string (S a) (S b)=some ((⟨a.toArray⟩:ByteArray)==⟨b.toArray⟩):=rfl;rw[this,beq_toListBytes,Ph,Ph]
 chk P k w a b h:=JJ h
def Ez:Key Int where
 enc n:=.int .i64 n
 desc:=.int .i64
 same a b:=by simp[Instr.sameNow]
 chk P k w a b h:=by rw[Instr.checkKey];simp[run_underlying h]
section
variable{κ:Type}[BEq κ](K:Key κ)
def CW(w:wO)(m:Nat)(l:List (κ×Value)):Prop:=∃(es:List MapEntry)(c:Nat),w.heap[m]?=some (.map es.toArray c)∧es.map (λe=>(e.key,e.val))=l.reverse.map λp=>(K.enc p.1,p.2)
def Gu:List (κ×Value)→κ→Option Value
 | [],_=>none
 |(k,v)::l,x=>if x==k then some v else Gu l x
def Iq(P:Program)(T:tI):Option (tI×tI):=match P.underlying T with
 |some (.map k e)=>some (k,e)
 |_=>none
end
section
variable{κ:Type}[BEq κ]{K:Key κ}
theorem CW.lt{w:wO}{m:Nat}{l:List (κ×Value)}(h:CW K w m l):m<w.heap.size:=by
 obtain⟨es,c,F,_⟩:=h;rcases Nat.lt_or_ge m w.heap.size with D | D
 · exact D
 · rw[Array.getElem?_eq_none D] at F;cases F
variable {f:Fq}{b:Nat}{w':wO}{I':wO→Fq→Prop}
theorem CW.heap{w:wO}{m:Nat}{l:List (κ×Value)}(h:CW K w m l)(he:w'.heap[m]?=w.heap[m]?):CW K w' m l:=let ⟨es,c,D,F⟩:=h;⟨es,c,he.trans D,F⟩
def Mm(x:κ):List (κ×Value)→Option Value
 | []=>none
 |(k,v)::l=>if x==k then some v else Mm x l
theorem OI(x:κ):∀(es:List MapEntry)(l:List (κ×Value))(i:Nat),es.map (λe=>(e.key,e.val))=l.map (λp=>(K.enc p.1,p.2)) →
   (∀v,Mm x l=some v→∃j,Instr.findNow K.desc (K.enc x) es i=some (some (j,v)))∧(Mm x l=none→Instr.findNow K.desc (K.enc x) es i=some none)
 | [],[],i,_=>⟨λv h=>(by cases h),λ_=>C⟩
 | [],_::_,_,h=>by simp at h
 |_::_,[],_,h=>by simp at h
 |e::es,p::l,i,h=>by
   simp only[List.map_cons,List.cons.injEq,Prod.mk.injEq] at h;obtain⟨⟨F,G⟩,J⟩:=h;have D:=OI x es l (i+1) J;have L:Instr.sameNow K.desc (K.enc x) e.key=some (x==p.1):=by rw[F];exact K.same x p.1
   obtain⟨O,pv⟩:=p;unfold Instr.findNow Mm;rw[L]
   cases U:x==O with
   |true=>exact⟨λv h=>⟨i,by simp at h;simp[G,h]⟩,λh=>by simp at h⟩
   |false=>exact⟨λv h=>D.1 v (by simpa using h),λh=>D.2 (by simpa using h)⟩
theorem VU(x:κ):∀(a b:List (κ×Value)),Mm x (a++b)=(Mm x a).or (Mm x b)
 | [],b=>by simp[Mm]
 |(k,v)::a,b=>by
   simp only[List.cons_append,Mm,VU x a b]
   split <;> rfl
def M5[BEq κ]:List (κ×Value)→Prop
 | []=>True
 |(k,_)::l=>Gu l k=none∧M5 l
variable[LawfulBEq κ]
theorem Rz(x:κ):∀l:List (κ×Value),M5 l→Mm x l.reverse=Gu l x
 | [],_=>rfl
 |(k,v)::l,h=>by
   rw[List.reverse_cons,VU,Rz x l h.2];simp only[Mm,Gu]
   cases D:x==k with
   |true =>
     have:x=k:=by simpa using D
     subst this;rw[h.1];rfl
   |false=>cases Gu l x <;> simp
section
variable{P:Program}{n:Nat}{Q:AV}{ds:List Deferred}{X:Cx}{R:List RB}{B:List FB}{Fs:List (wO→Fq→Prop)}{fs:List Fr}{σ:Ba}{H:List HB}{w:wO}
variable{all r:List Oper}{ty T k e:tI}{pos:String}{af:Array Edge}{g:Option (Nat×Bool)}{d m:Nat}{x y z:Operand}{a:κ}{l:List (κ×Value)}
theorem Ma(h:Iq P T=some (k,e)):P.underlying T=some (.map k e):=by
 unfold Iq at h
 split at h
 · rename_i hu;cases h;exact hu
 · cases h
def zO(P:Program)(e:tI):Option Value:=match P.info? e with|some i=>i.zero|none=>none
def xM(P:Program)(e:tI)(z:Value):Prop:=zO P e=some z
theorem YA{z:Value}(h:xM P e z):∃i,P.info? e=some i∧i.zero=some z:=by
 unfold xM zO at h
 split at h
 · rename_i i D;exact⟨i,D,h⟩
 · cases h
theorem V0{z:Value}{ok:Bool}(L:Iq P T=some (k,e))(F:P.underlying k=some K.desc)(hz:xM P e z)(hm:CW K w m l)(hd:M5 l) :
   (Instr.lookup T (.map (some m)) (K.enc a) ok).run P w=.ok (if ok then .tuple #[(Gu l a).getD z,.bool (Gu l a).isSome] else (Gu l a).getD z) w:=by
 have hu:=Ma L;obtain⟨es,c,O,U⟩:=hm;obtain⟨i,W,hz⟩:=YA hz;have h:(getObj m).run P w=.ok (.map es.toArray c) w:=by simp[getObj,Sem.run,O]
 obtain⟨f1,f2⟩:=OI (K:=K) a es l.reverse 0 U;rw[Rz a l hd] at f1 f2;have D:=λb=>K.chk P k w a b F
 cases J:Gu l a with
 |some v =>
   obtain⟨j,G⟩:=f1 v J;simp only[Instr.lookup,Sem.run_bind,run_underlying hu,Result.andThen_ok,h]
   cases ok <;> simp[D,Instr.findKey,run_underlying F,G]
 |none =>
   have G:=f2 J;simp only[Instr.lookup,Sem.run_bind,run_underlying hu,Result.andThen_ok,h]
   cases ok <;> simp[D,Instr.findKey,run_underlying F,G,zeroValue,typeInfo,W,hz]
theorem Zi{z:Value}{ok:Bool}(D:ev σ x=some (.map (some m)))(F:ev σ y=some (K.enc a))(G:Iq P T=some (k,e))(J:P.underlying k=some K.desc)(hz:xM P e z)(hm:CW K w m l)(hd:M5 l) :
   AK P σ (.lookup T x y ok) ty w (if ok then .tuple #[(Gu l a).getD z,.bool (Gu l a).isSome] else (Gu l a).getD z) w:=λL _ _ _ _ h=>by
 simp only[execOp,h _ _ D,h _ _ F];rw[Sem.run_bind,V0 G J hz hm hd];rfl
theorem uG{z v:Value}(h:ev σ x=some (.map (some m)))(D:ev σ y=some (K.enc a))(F:Iq P T=some (k,e))(G:P.underlying k=some K.desc)(hz:xM P e z)(hm:CW K w m l)(hd:M5 l)(J:Gu l a=some v):AK P σ (.lookup T x y true) ty w (.tuple #[v,.bool true]) w:=by
 have:=Zi (ty:=ty) (ok:=true) h D F G hz hm hd;rw[J] at this;exact this
theorem tT{z:Value}(h:ev σ x=some (.map (some m)))(D:ev σ y=some (K.enc a))(F:Iq P T=some (k,e))(G:P.underlying k=some K.desc)(hz:xM P e z)(hm:CW K w m l)(hd:M5 l)(J:Gu l a=none):AK P σ (.lookup T x y true) ty w (.tuple #[z,.bool false]) w:=by
 have:=Zi (ty:=ty) (ok:=true) h D F G hz hm hd;rw[J] at this;exact this
theorem RE{z v:Value}(h:ev σ x=some (.map (some m)))(D:ev σ y=some (K.enc a))(F:Iq P T=some (k,e))(G:P.underlying k=some K.desc)(hz:xM P e z)(hm:CW K w m l)(hd:M5 l)(J:(Gu l a).getD z=v):AK P σ (.lookup T x y false) ty w v w:=by
 have:=Zi (ty:=ty) (ok:=false) h D F G hz hm hd;rw[← J];exact this
theorem Xj{v:Value}(W:Iq P T=some (k,e))(L:P.underlying k=some K.desc)(hm:CW K w m l)(hd:M5 l)(Y:Gu l a=none):∃w',(Instr.mapUpdate T (.map (some m)) (K.enc a) v).run P w=.ok () w'∧CW K w' m ((a,v)::l)∧Hc m w w':=by
 have hu:=Ma W;obtain⟨es,c,O,U⟩:=id hm;have Z:=(OI (K:=K) a es l.reverse 0 U).2 (by rw[Rz a l hd];exact Y);have h:(getObj m).run P w=.ok (.map es.toArray c) w:=by simp[getObj,Sem.run,O]
 have F:=hm.lt;have G:=λb=>K.chk P k w a b L
 have D:(setObj m (.map (es.toArray.push {key:=K.enc a,val:=v,born:=c}) (c+1))).run P w=.ok () {w with heap:=w.heap.setIfInBounds m (.map (es.toArray.push {key:=K.enc a,val:=v,born:=c}) (c+1))}:=by
   simp[setObj,Sem.run,O]
 refine⟨{w with heap:=w.heap.setIfInBounds m (.map (es.toArray.push {key:=K.enc a,val:=v,born:=c}) (c+1))},?_,?_,?_⟩
 · simp only[Instr.mapUpdate,Sem.run_bind,run_underlying hu,Result.andThen_ok,h]
   simp only[G,Result.andThen_ok,Instr.findKey,Sem.run_bind,run_underlying L,Z];simp only[Sem.run_pure,Result.andThen_ok];exact D
 · refine⟨es++[{key:=K.enc a,val:=v,born:=c}],c+1,?_,?_⟩
   · simp[F]
   · simp[U]
 · refine⟨C,C,C,by simp,λj J=>?_⟩
   show (w.heap.setIfInBounds m _)[j]?=_;rw[Array.getElem?_setIfInBounds_ne (λe=>J e.symm)]
theorem AO.chgI{w:wO}(h:AO X w f H R B Fs)(J:X.MI b)(D:Hc b w w')(L:I' w' f)(F:ED X.MI I'):AO {X with I:=I' } w' f H R B Fs :=
 h.callI ⟨⟨D.os,D.tape,D.output,by rw[D.size];exact Nat.le_refl _,λk _ hm=>D.block k (λe=>hm (e▸J))⟩,λ_ _=>C,λk G=>h.val k (by rw[D.size] at G;exact G)⟩ L F
theorem yJ{v:Value}(O:gd all σ g=some true)(U:ev σ x=some (.map (some m)))(W:ev σ y=some (K.enc a))(hz:ev σ z=some v)(Y:Iq P T=some (k,e))(Z:P.underlying k=some K.desc)(G:X.MI m)(hd:M5 l)(hn:Gu l a=none)
   (hm:∀w f,X.I w f→CW K w m l) (hI:∀w f w',X.I w f→AO X w f H R B Fs→Hc m w w'→CW K w' m ((a,v)::l)→I' w' f) (J:ED X.MI I')
   (h:A1 P n Q ds {X with I:=I' } R B Fs (.ops all r) fs σ H):A1 P n Q ds X R B Fs (.ops all (⟨none,.mapUpdate T x y z,ty,pos,af,g⟩::r)) fs σ H:=λw f F=>by
 obtain⟨w',h1,h2,L⟩:=Xj (v:=v) Y Z (hm w f F.res) hd hn;refine Bh O (IP (w':=w') (λρ _ _ _ _ D=>?_) (h w' f (F.chgI G L (hI w f w' F.res F L h2) J)));simp only[execOp,D _ _ U,D _ _ W,D _ _ hz];rw[Sem.run_bind,h1];rfl
omit [LawfulBEq κ] in
theorem mmp(O:gd all σ g=some true)(hd:Nat.blt d n=true)
   (h:∀m,A1 P n Q ds {X with MI:=λb=>X.MI b∨b=m,I:=λw f=>X.I w f∧CW K w m []} R B Fs (.ops all r) fs (AI σ d (.map (some m))) H):A1 P n Q ds X R B Fs (.ops all (⟨some d,.makeMap T none,ty,pos,af,g⟩::r)) fs σ H:=λw f G=>by
 refine Bh O (Ac (v:=.map (some w.heap.size)) (w':=w.alloc (.map #[] 0)) hd (λρ _ _ _ _ U=>by simp[execOp,Instr.makeMap]) (h w.heap.size _ f ?_));have F:AO X (w.alloc (.map #[] 0)) f H R B Fs:=G.call0 (C9.of_ext (J5 w _) G.val);have J:∀b,b∈Cf H R→b≠w.heap.size:=λb D e=>Nat.lt_irrefl _ (e▸G.lt D)
 exact {F with
         res:=⟨F.res,[],0,heap_alloc_new w _,C⟩,
         stab:=λW f1 Y f2 L Z D=>⟨F.stab W f1 Y f2 L.1 Z λb hm=>D b (.inl hm),L.2.heap (D _ (.inr C))⟩,
         mi:=λb D=>by
           rcases D with D|rfl
           · exact F.mi b D
           · exact⟨by rw[GH];omega,G.val _ (Nat.le_refl _),.inl G.stp.size⟩,
         own:=λb D=>⟨(F.own b D).1,(F.own b D).2.1,λhm=>by
           rcases hm with hm|rfl
           · exact (F.own b D).2.2 hm
           · exact J _ D C⟩}
end
end
end Go.SW
namespace Go.SW
def vZ(P:Program)(T h:tI):Bool:=match P.underlying T,P.underlying h with
 |some _,some .string=>true
 |_,_=>false
end Go.SW
namespace Go.SP
inductive Ty where
 |nil
 |var (n:Int) (r:Ty)
 |con (tx:lU) (k r:Ty)
inductive T1 where
 |var (n:Int)
 |con (tx:lU) (k:Ty)
def T1.cons:T1→Ty→Ty
 |.var n,r=>.var n r
 |.con tx k,r=>.con tx k r
def T1.one(t:T1):Ty:=t.cons .nil
def Ty.app:Ty→Ty→Ty
 |.nil,y=>y
 |.var n r,y=>.var n (r.app y)
 |.con tx k r,y=>.con tx k (r.app y)
def Ty.len:Ty→Nat
 |.nil=>0
 |.var _ r=>r.len+1
 |.con _ _ r=>r.len+1
def Ty.get:Ty→Nat→Option T1
 |.nil,_=>none
 |.var n _,0=>some (.var n)
 |.con tx k _,0=>some (.con tx k)
 |.var _ r,i+1=>r.get i
 |.con _ _ r,i+1=>r.get i
def Ty.snoc(a:Ty)(t:T1):Ty:=a.app t.one
def Ty.hd:Ty→T1
 |.nil=>.var 0
 |.var n _=>.var n
 |.con tx k _=>.con tx k
abbrev BP:=List (Int×T1)
def CP:BP→Int→Option T1
 | [],_=>none
 |(k,t)::s,n=>if k==n then some t else CP s n
def Hv(b:BP):Nat→T1→T1
 |0,t=>t
 |k+1,t=>match t with
   |.con tx d=>.con tx d
   |.var n=>match CP b n with
     |none=>.var n
     |some t'=>Hv b k t'
def Am(b:BP)(t:T1):T1:=Hv b (b.length+1) t
def Kx(b:BP):Nat→Ty→Bool
 |_,.nil=>true
 |0,_=>false
 |k+1,.var n r=>match Am b (.var n) with
   |.var _=>Kx b k r
   |.con _ d=>Kx b k (d.app r)
 |k+1,.con _ d r=>Kx b k (d.app r)
def Hl(b:BP)(t:T1):Bool:=Kx b 1000 t.one
def CQ(b:BP)(x:Int):Nat→Ty→Bool
 |_,.nil=>true
 |0,_=>true
 |k+1,.var n r=>match Am b (.var n) with
   |.var m=>!(m==x)&&CQ b x k r
   |.con _ d=>CQ b x k (d.app r)
 |k+1,.con _ d r=>CQ b x k (d.app r)
def CC(b:BP)(n:Int)(t:T1):Except Int BP :=
 if Hl b t then (if CQ b n 1000 t.one then .ok ((n,t)::b) else .error 11) else .error 4
def Ks(f:BP→Ty→Ty→Except Int BP)(b:BP)(x y:T1)(r q:Ty):Except Int BP :=
 match x,y with
 |.var n,.var m=>if n==m then f b r q else (match CC b n (.var m) with|.error e=>.error e|.ok d=>f d r q)
 |.var n,.con ty h=>(match CC b n (.con ty h) with|.error e=>.error e|.ok d=>f d r q)
 |.con tx ka,.var m=>(match CC b m (.con tx ka) with|.error e=>.error e|.ok d=>f d r q)
 |.con tx ka,.con ty h=>if !(tx==ty)||(ka.len:Int) != h.len then .error 11 else f b (ka.app r) (h.app q)
def Ty.tl:Ty→Ty
 |.nil=>.nil
 |.var _ r=>r
 |.con _ _ r=>r
def N4:Nat→BP→Ty→Ty→Except Int BP
 |_,b,.nil,_=>.ok b
 |0,_,_,_=>.error 4
 |k+1,b,.var n r,y=>Ks (N4 k) b (Am b (.var n)) (Am b y.hd) r y.tl
 |k+1,b,.con tx ka r,y=>Ks (N4 k) b (.con tx ka) (Am b y.hd) r y.tl
def FL(b:BP)(x y:T1):Except Int BP:=N4 10000 b x.one y.one
def Bg(b:BP):Nat→Ty→Ty
 |_,.nil=>.nil
 |0,_=>.nil
 |k+1,.var n r=>match Am b (.var n) with
   |.var m=>.var m (Bg b k r)
   |.con tx d=>.con tx (Bg b k d) (Bg b k r)
 |k+1,.con tx d r=>.con tx (Bg b k d) (Bg b k r)
def DC(b:BP)(t:T1):Option T1:=if Hl b t then some (Bg b 1000 t.one).hd else none
def CO:Ty→List Int→List Int
 |.nil,s=>s
 |.var n r,s=>CO r (if s.contains n then s else s++[n])
 |.con _ k r,s=>CO r (CO k s)
def An(t:T1):List Int:=CO t.one []
def D6:List Int→Int→Option Nat
 | [],_=>none
 |k::l,n=>if k==n then some 0 else (D6 l n).map (· + 1)
def Ev(l:List Int)(d:Ty):Ty→Ty
 |.nil=>.nil
 |.var n r=>match (D6 l n).bind d.get with
   |some t=>t.cons (Ev l d r)
   |none=>.var n (Ev l d r)
 |.con tx k r=>.con tx (Ev l d k) (Ev l d r)
def Dj(t:T1)(l:List Int)(d:Ty):T1:=(Ev l d t.one).hd
def bI:lU:=[105,110,116]
def bF:lU:=[102,108,111,97,116]
def bS:lU:=[115,116,114,105,110,103]
def bU:lU:=[117,110,105,116]
def bB:lU:=[98,111,111,108]
def bX:lU:=[101,120,110]
def Ga:lU:=[45,62]
def bTup:lU:=[116,117,112,108,101]
def GA:lU:=[114,101,102]
def F8:lU:=[112,114,101,102]
def c0(tx:lU):T1:=.con tx .nil
def GC:Ty→T1
 |.nil=>.var 0
 |.var n .nil=>.var n
 |.con tx k .nil=>.con tx k
 |.var n r=>.con Ga (.var n (GC r).one)
 |.con tx k r=>.con Ga (.con tx k (GC r).one)
structure Mk where
 args:Ty
 out:T1
 vars:List Int
structure CS where
 sol:BP
 fresh:Int
 cons:List (lU×Mk)
 datas:List (lU×Int)
 roots:List lU
 vars:Int
structure Bd where
 name:lU
 t:T1
 all:List Int
abbrev BJ:=List Bd
abbrev Er:=Int×Int×Int
abbrev RI(α:Type):=Except Er α
def Eu{α:Type}:List (lU×α)→lU→Option α
 | [],_=>none
 |(k,v)::l,n=>if k==n then some v else Eu l n
def AM(s:CS):T1×CS:=(.var (s.fresh+1),{s with fresh:=s.fresh+1})
def H3(s:CS)(a b:T1)(ln co:Int):RI CS:=match FL s.sol a b with
 |.error e=>.error (ln,co,e)
 |.ok m=>.ok {s with sol:=m}
def IK(s:CS)(t:T1)(ln co:Int):RI T1:=match DC s.sol t with
 |none=>.error (ln,co,4)
 |some f=>.ok f
def Br(s:CS):BJ→List Int
 | []=>[]
 |b::e=>(match DC s.sol b.t with
   |none=>[]
   |some f=>(An f).filter λv=>!b.all.contains v)++Br s e
def IY(s:CS)(e:BJ)(name:lU)(t:T1)(value:Bool)(ln co:Int):RI BJ :=
 if value then (match IK s t ln co with
   |.error x=>.error x
   |.ok f=>.ok (⟨name,f,(An f).filter λv=>!(Br s e).contains v⟩::e))
 else .ok (⟨name,t,[]⟩::e)
def CX:List Int→CS→Ty×CS
 | [],s=>(.nil,s)
 |_::l,s=>((AM s).1.cons (CX l (AM s).2).1,(CX l (AM s).2).2)
def VZ(s:CS)(tx:lU)(k:Nat)(ln co:Int):RI (Ty×T1×CS):=match Eu s.cons tx with
 |none=>.error (ln,co,11)
 |some m=>if (m.args.len:Int)==k then .ok (Ev m.vars (CX m.vars s).1 m.args,Dj m.out m.vars (CX m.vars s).1,(CX m.vars s).2) else .error (ln,co,11)
def Ou:BJ→lU→Option Bd
 | [],_=>none
 |b::e,n=>if b.name==n then some b else Ou e n
def Ik(s:CS)(e:BJ)(tx:lU)(ln co:Int):RI (T1×CS):=match Ou e tx with
 |none=>.error (ln,co,11)
 |some b=>match IK s b.t ln co with
   |.error x=>.error x
   |.ok f =>
     let vs:=(An f).filter λv=>b.all.contains v
     .ok (Dj f vs (CX vs s).1,(CX vs s).2)
def Vw(f:Int→Nd→Bool):Nd→Bool
 |.nil=>true
 |.cons op _ _ _ _ k r=>f op k&&Vw f r
def C7:Nat→Int→Nd→Bool
 |0,_,_=>false
 |n+1,op,kids =>
   if op==1||op==2||op==3||op==4||op==5||op==7 then true
   else if op==6||op==13 then Vw (C7 n) kids else false
abbrev M8:=CS→BJ→Int→Int→Int→lU→Int→Nd→RI (T1×CS)
def So(f:M8)(e:BJ):CS→Nd→RI (Ty×CS)
 |s,.nil=>.ok (.nil,s)
 |s,.cons op ln co tx nm k r=>match f s e op ln co tx nm k with
   |.error x=>.error x
   |.ok (t,s1)=>match So f e s1 r with
     |.error x=>.error x
     |.ok (l,s2)=>.ok (t.cons l,s2)
def WR(f:M8)(e:BJ):CS→Ty→Nd→RI CS
 |s,a,.cons op ln co tx nm k r=>match f s e op ln co tx nm k with
   |.error x=>.error x
   |.ok (t,s1)=>match H3 s1 a.hd t ln co with
     |.error x=>.error x
     |.ok s2=>WR f e s2 a.tl r
 |s,_,.nil=>.ok s
def K5(f:M8)(e:BJ):CS→T1→Nd→RI (T1×CS)
 |s,t,.nil=>.ok (t,s)
 |s,t,.cons op ln co tx nm k r=>match f s e op ln co tx nm k with
   |.error x=>.error x
   |.ok (a,s1)=>match H3 (AM s1).2 t (.con Ga (a.cons (AM s1).1.one)) ln co with
     |.error x=>.error x
     |.ok s2=>K5 f e s2 (AM s1).1 r
def EZ:CS→BJ→Nd→Ty×BJ×CS
 |s,e,.nil=>(.nil,e,s)
 |s,e,.cons _ _ _ _ _ _ .nil=>(.nil,e,s)
 |s,e,.cons op _ _ tx _ _ r =>
   let d:=if op==22 then ⟨tx,(AM s).1,[]⟩::e else e
   let (l,h,s2):=EZ (AM s).2 d r
   ((AM s).1.cons l,h,s2)
def Nd.last:Nd→Option N
 |.nil=>none
 |.cons op ln co tx nm k .nil=>some ⟨op,ln,co,tx,nm,k⟩
 |.cons _ _ _ _ _ _ r=>r.last
def Ty.last:Ty→T1
 |.nil=>.var 0
 |.var n .nil=>.var n
 |.con tx k .nil=>.con tx k
 |.var _ r=>r.last
 |.con _ _ r=>r.last
abbrev Tz:=CS→BJ→Int→Int→Int→lU→Int→Nd→RI (T1×BJ×CS)
def VG(f:Tz):CS→BJ→Ty→Nd→RI (BJ×CS)
 |s,e,_,.nil=>.ok (e,s)
 |s,e,a,.cons op ln co tx nm k r=>match f s e op ln co tx nm k with
   |.error x=>.error x
   |.ok (q,d,s1)=>match H3 s1 a.hd q ln co with
     |.error x=>.error x
     |.ok s2=>VG f s2 d a.tl r
def Wl(f:Tz):CS→BJ→Nd→RI (Ty×BJ×CS)
 |s,e,.nil=>.ok (.nil,e,s)
 |s,e,.cons op ln co tx nm k r=>match f s e op ln co tx nm k with
   |.error x=>.error x
   |.ok (q,d,s1)=>match Wl f s1 d r with
     |.error x=>.error x
     |.ok (l,h,s2)=>.ok (q.cons l,h,s2)
def ZO(f:Tz)(s:CS)(e:BJ)(op ln co:Int)(tx:lU)(kids:Nd):RI (T1×BJ×CS) :=
 if op==21 then .ok ((AM s).1,e,(AM s).2)
 else if op==22 then .ok ((AM s).1,⟨tx,(AM s).1,[]⟩::e,(AM s).2)
 else if op==23 then .ok (c0 bI,e,s)
 else if op==24 then .ok (c0 bS,e,s)
 else if op==25 then .ok (c0 bU,e,s)
 else if op==26 then (match VZ s tx kids.len ln co with
   |.error x=>.error x
   |.ok (args,out,s1)=>match VG f s1 e args kids with
     |.error x=>.error x
     |.ok (d,s2)=>.ok (out,d,s2))
 else if op==27 then (match Wl f s e kids with
   |.error x=>.error x
   |.ok (l,d,s2)=>.ok (.con bTup l,d,s2))
 else .ok (.var 0,e,s)
def mN:Nat→Tz
 |0,_,_,_,ln,co,_,_,_=>.error (ln,co,11)
 |n+1,s,e,op,ln,co,tx,_,kids=>match ZO (mN n) s e op ln co tx kids with
   |.error x=>.error x
   |.ok (t,d,s1)=>match IK s1 t ln co with
     |.error x=>.error x
     |.ok _=>.ok (t,d,s1)
def O4(n:Nat)(f:M8)(e:BJ)(pt:T1):CS→Option T1→Nd→RI (T1×CS)
 |s,t,.nil=>.ok (t.getD (.var 0),s)
 |s,t,.cons _ _ _ _ _ K r=>match K with
   |.cons op ln co tx nm L (.cons D d h F G bk _)=>(match mN n s e op ln co tx nm L with
     |.error x=>.error x
     |.ok (q,inner,s1)=>match H3 s1 pt q ln co with
       |.error x=>.error x
       |.ok s2=>match f s2 inner D d h F G bk with
         |.error x=>.error x
         |.ok (rt,J)=>match t with
           |some t0=>(match H3 J t0 rt d h with
             |.error x=>.error x
             |.ok O=>O4 n f e pt O (some t0) r)
           |none=>O4 n f e pt J (some rt) r)
   |_=>.ok (t.getD (.var 0),s)
def mY(f:M8)(s:CS)(e:BJ)(ln co:Int)(tx:lU)(d h D:Int)(F:lU)(G:Int)(k0:Nd):RI (T1×CS) :=
 match f (AM s).2 (⟨tx,(AM s).1,[]⟩::e) d h D F G k0 with
 |.error x=>.error x
 |.ok (t,s1)=>match H3 s1 (AM s).1 t ln co with
   |.error x=>.error x
   |.ok s2=>.ok (t,s2)
def FC(n:Nat)(f:M8)(s:CS)(e:BJ)(op ln co:Int)(tx:lU)(kids:Nd):RI (T1×CS) :=
 if op==1 then .ok (c0 bI,s)
 else if op==2 then .ok (c0 bF,s)
 else if op==3 then .ok (c0 bS,s)
 else if op==4 then .ok (c0 bU,s)
 else if op==5 then Ik s e tx ln co
 else if op==6 then (match VZ s tx kids.len ln co with
   |.error x=>.error x
   |.ok (args,out,s1)=>match WR f e s1 args kids with
     |.error x=>.error x
     |.ok s2=>.ok (out,s2))
 else if op==7 then (match kids.last with
   |none=>.ok (.var 0,s)
   |some b =>
     let p:=EZ s e kids
     match f p.2.2 p.2.1 b.op b.ln b.co b.tx b.nm b.kids with
     |.error x=>.error x
     |.ok (t,s1)=>.ok (GC (p.1.snoc t),s1))
 else if op==8 then (match kids with
   |.nil=>.ok (.var 0,s)
   |.cons o l c x m k r=>match f s e o l c x m k with
     |.error x=>.error x
     |.ok (t,s1)=>K5 f e s1 t r)
 else if op==9 then (match kids with
   |.cons o l c x m k (.cons d h c2 D m2 k2 _)=>(match f s e o l c x m k with
     |.error x=>.error x
     |.ok (t,s1)=>match (if tx==[95] then .ok e else IY s1 e tx t (C7 (n+1) o k) ln co) with
       |.error x=>.error x
       |.ok F=>f s1 F d h c2 D m2 k2)
   |_=>.ok (.var 0,s))
 else if op==10 then (match kids with
   |.cons o l c x m k (.cons d h c2 D m2 k2 _)=>(match mY f s e ln co tx o l c x m k with
     |.error x=>.error x
     |.ok (t,s1)=>match IY s1 e tx t true ln co with
       |.error x=>.error x
       |.ok F=>f s1 F d h c2 D m2 k2)
   |_=>.ok (.var 0,s))
 else if op==11 then (match kids with
   |.cons o l c x m k (.cons d h c2 D m2 k2 (.cons J G c3 K m3 k3 _))=>(match f s e o l c x m k with
     |.error x=>.error x
     |.ok (t,s1)=>match H3 s1 (c0 bB) t l c with
       |.error x=>.error x
       |.ok s2=>match f s2 e d h c2 D m2 k2 with
         |.error x=>.error x
         |.ok (t2,L)=>match f L e J G c3 K m3 k3 with
           |.error x=>.error x
           |.ok (t3,O)=>match H3 O t2 t3 G c3 with
             |.error x=>.error x
             |.ok Q=>.ok (t2,Q))
   |_=>.ok (.var 0,s))
 else if op==12 then (match So f e s kids with
   |.error x=>.error x
   |.ok (l,s1)=>.ok (l.last,s1))
 else if op==13 then (match So f e s kids with
   |.error x=>.error x
   |.ok (l,s1)=>.ok (.con bTup l,s1))
 else if op==14 then (match kids with
   |.nil=>.ok (.var 0,s)
   |.cons o l c x m k r=>match f s e o l c x m k with
     |.error x=>.error x
     |.ok (t,s1)=>O4 n f e t s1 none r)
 else if op==15 then (match kids with
   |.nil=>.ok (.var 0,s)
   |.cons o l c x m k r=>match f s e o l c x m k with
     |.error x=>.error x
     |.ok (t,s1)=>O4 n f e (c0 bX) s1 (some t) r)
 else if op==16 then (match kids with
   |.nil=>.ok (.var 0,s)
   |.cons o l c x m k _=>match f s e o l c x m k with
     |.error x=>.error x
     |.ok (t,s1)=>match H3 s1 (c0 bX) t l c with
       |.error x=>.error x
       |.ok s2=>.ok (AM s2))
 else (match kids with
   |.nil=>.ok (.var 0,s)
   |.cons o l c x m k _=>f s e o l c x m k)
def EH:Nat→M8
 |0,_,_,_,ln,co,_,_,_=>.error (ln,co,11)
 |n+1,s,e,op,ln,co,tx,_,kids=>match FC n (EH n) s e op ln co tx kids with
   |.error x=>.error x
   |.ok (t,s1)=>match IK s1 t ln co with
     |.error x=>.error x
     |.ok _=>.ok (t,s1)
def bO:lU:=[32,105,110,116,32,102,108,111,97,116,32,115,116,114,105,110,103,32,117,110,105,116,32,98,111,111,108,32,101,120,110,32]
def kO:lU:=[32,116,117,112,108,101,32,114,101,102,32,112,114,101,102,32]
def iJ(datas:List (lU×Int))(vars:List (lU×T1)):Nd→RI Ty
 |.nil=>.ok .nil
 |.cons op ln co tx _ kids r =>
   let one:RI T1:=if op==31 then (match Eu vars tx with
       |some t=>.ok t
       |none=>.error (ln,co,11))
     else if (if DE bO ([32]++tx++[32]) then (kids.len:Int)==0
         else if tx==Ga then (kids.len:Int)==2
         else if DE kO ([32]++tx++[32]) then true
         else match Eu datas tx with|some c=>c==(kids.len:Int)|none=>false)
       then (match iJ datas vars kids with|.error x=>.error x|.ok k=>.ok (.con tx k))
       else .error (ln,co,11)
   match one with
   |.error x=>.error x
   |.ok t=>match iJ datas vars r with
     |.error x=>.error x
     |.ok l=>.ok (t.cons l)
def UW(ln co:Int):Nd→Int→List (lU×T1)→Ty→List Int→RI (Int×List (lU×T1)×Ty×List Int)
 |.nil,v,m,self,d=>.ok (v,m,self,d)
 |.cons op _ _ tx _ _ r,v,m,self,d =>
   if op==31 then (if (Eu m tx).isSome then .error (ln,co,11) else UW ln co r (v-1) ((tx,.var (v-1))::m) (self.snoc (.var (v-1))) (d++[v-1]))
   else UW ln co r v m self d
def UZ(datas:List (lU×Int))(m:List (lU×T1))(out:T1)(d:List Int):Nd→List (lU×Mk)→RI (List (lU×Mk))
 |.nil,c=>.ok c
 |.cons op ln co tx _ kids r,c =>
   if op==42 then (if (Eu c tx).isSome then .error (ln,co,11) else match iJ datas m kids with
     |.error x=>.error x
     |.ok args=>UZ datas m out d r ((tx,⟨args,out,d⟩)::c))
   else UZ datas m out d r c
def dataI(s:CS)(ln co:Int)(tx:lU)(kids:Nd):RI CS :=
 if (Eu s.datas tx).isSome||DE bO ([32]++tx++[32]) then .error (ln,co,11)
 else match UW ln co kids s.vars [] .nil [] with
   |.error x=>.error x
   |.ok (v,m,self,d) =>
     let datas:=(tx,(d.length:Int))::s.datas
     match UZ datas m (.con tx self) d kids s.cons with
     |.error x=>.error x
     |.ok cons=>.ok {s with datas:=datas,cons:=cons,vars:=v}
def LJ(s:CS)(e:BJ)(op ln co:Int)(tx:lU)(kids:Nd):RI (Option (lU×T1)×BJ×CS) :=
 if op==41 then (match dataI s ln co tx kids with
   |.error x=>.error x
   |.ok s1=>.ok (none,e,s1))
 else match kids with
   |.nil=>.ok (some (tx,.var 0),e,s)
   |.cons o l c x m k r =>
     if op==43 then (if s.roots.contains tx then .error (ln,co,11) else match iJ s.datas [] (.cons o l c x m k .nil) with
         |.error x=>.error x
         |.ok w=>match r with
           |.nil=>.ok (some (tx,.var 0),e,s)
           |.cons h D c2 F m2 k2 _=>match EH (k2.size+1) {s with roots:=tx::s.roots} e h D c2 F m2 k2 with
             |.error x=>.error x
             |.ok (t2,s1)=>match H3 s1 w.hd t2 ln co with
               |.error x=>.error x
               |.ok s2=>.ok (some (tx,.con F8 w),⟨tx,.con F8 w,[]⟩::e,s2))
     else if op==44 then (match EH (k.size+1) s e o l c x m k with
       |.error x=>.error x
       |.ok (t,s1)=>match IY s1 e tx t (C7 (k.size+1) o k) ln co with
         |.error x=>.error x
         |.ok d=>.ok (some (tx,t),d,s1))
     else if op==45 then (match mY (EH (k.size+1)) s e ln co tx o l c x m k with
       |.error x=>.error x
       |.ok (t,s1)=>match IY s1 e tx t true ln co with
         |.error x=>.error x
         |.ok d=>.ok (some (tx,t),d,s1))
     else (match EH (k.size+1) s e o l c x m k with
       |.error x=>.error x
       |.ok (t,s1)=>.ok (some ([],t),e,s1))
def HC:CS→BJ→Nd→List (lU×T1)→RI (List (lU×T1)×CS)
 |s,_,.nil,out=>.ok (out,s)
 |s,e,.cons op ln co tx _ k r,out=>match LJ s e op ln co tx k with
   |.error x=>.error x
   |.ok (none,d,s1)=>HC s1 d r out
   |.ok (some b,d,s1)=>HC s1 d r (out++[b])
def Vu:Nat→Nat→lU
 |0,_=>[]
 |k+1,n=>if n<10 then [UInt8.ofNat (48+n)] else Vu k (n / 10)++[UInt8.ofNat (48+n % 10)]
def DH(i:Nat):lU:=[39,UInt8.ofNat (97+i % 26)]++(if i<26 then [] else Vu 20 (i / 26))
def D8(vs:List Int):Ty→lU
 |.nil=>[]
 |.var n r=>32::((match D6 vs n with|some i=>DH i|none=>[])++D8 vs r)
 |.con tx .nil r=>32::(tx++D8 vs r)
 |.con tx k r=>32::([40]++tx++D8 vs k++[41]++D8 vs r)
def Pl(t:T1):lU:=(D8 (An t) t.one).drop 1
def LW(s:CS):List (lU×T1)→RI (List (lU×lU))
 | []=>.ok []
 |(n,t)::l=>match IK s t 0 0 with
   |.error x=>.error x
   |.ok f=>match LW s l with
     |.error x=>.error x
     |.ok r=>.ok ((n,Pl f)::r)
def aI:Int := -1
def qO:List (lU×Ty) :=
 let n:=c0 bI;let f:=c0 bF;let s:=c0 bS;let b:=c0 bB;let u:=c0 bU
 let a:=T1.var aI;let r:=T1.con GA a.one;let p:=T1.con F8 a.one
 let h (x y:T1):Ty:=x.cons y.one
 let D (x y z:T1):Ty:=x.cons (y.cons z.one)
 let d (names:List lU) (t:Ty):List (lU×Ty):=names.map λx=>(x,t)
 d [[43],[45],[42],[100,105,118],[109,111,100]] (D n n n)++d [[110,101,103]] (h n n)++d [[60],[60,61],[61]] (D n n b) ++
 d [[102,43],[102,45],[102,42],[102,47]] (D f f f)++d [[102,115,113,114,116],[102,110,101,103]] (h f f)++d [[102,60],[102,61],[102,97,104,101,97,100]] (D f f b) ++
 d [[105,116,111,102]] (h n f)++d [[102,116,111,105]] (h f n)++d [[102,98,105,116,115]] (h f s)++d [[110,97,110],[105,110,102]] f.one ++
 d [[99,97,116]] (D s s s)++d [[108,101,110],[111,114,100],[97,116,111,105]] (h s n)++d [[115,117,98]] (s.cons (D n n s))++d [[115,61],[115,60]] (D s s b) ++
 d [[105,116,111,97],[99,104,114]] (h n s)++d [[112,114,105,110,116]] (h s u)++d [[114,101,97,100]] (h u s)++d [[114,101,102]] (h a r)++d [[103,101,116]] (h r a) ++
 d [[115,101,116]] (D r a u)++d [[110,101,119]] (h a p)++d [[108,111,97,100]] (h p a)++d [[115,116,111,114,101]] (D p a u)
def Ro:BJ:=(qO.map λp=>(⟨p.1,GC p.2,[aI]⟩:Bd)).reverse
def cons0:List (lU×Mk) :=
 [([70,97,105,108],⟨(c0 bS).one,c0 bX,[]⟩),([79,117,116],⟨.nil,c0 bX,[]⟩),([75,101,101,112],⟨.nil,c0 bX,[]⟩),([65,98,111,114,116],⟨.nil,c0 bX,[]⟩),([77,97,116,99,104],⟨.nil,c0 bX,[]⟩),([68,105,118],⟨.nil,c0 bX,[]⟩),
  ([84,114,117,101],⟨.nil,c0 bB,[]⟩),([70,97,108,115,101],⟨.nil,c0 bB,[]⟩)]
def fO:CS:=⟨[],0,cons0,[],[],-1⟩
def EO(nds:Nd):RI (List (lU×lU)):=match HC fO Ro nds [] with
 |.error x=>.error x
 |.ok (out,s)=>LW s out
end Go.SP
namespace Go.SP
open Go.SW Go.RowKit
namespace T1
def op:T1→Int
 |.var _=>0
 |.con _ _=>1
def num:T1→Int
 |.var n=>n
 |.con _ _=>0
def tx:T1→lU
 |.var _=>[]
 |.con t _=>t
def kids:T1→Ty
 |.var _=>.nil
 |.con _ k=>k
end T1
def tC(t:T1)(a:oA)(c:Nat):lV:=[.int .i64 t.op,.int .i64 t.num,S t.tx,.slice a t.kids.len c]
abbrev tV(t:T1)(a:oA)(c:Nat):Value:=.agg #[.int .i64 t.op,.int .i64 t.num,S t.tx,.slice a t.kids.len c]
def Ix(w:wO)(f:Fq):Ty→Nat→Nat→Prop
 |.nil,_,_=>True
 |.var n r,b,off=>(∃a c,Cs w f b off [.int .i64 0,.int .i64 n,S [],.slice a 0 c])∧Ix w f r b (off+4)
 |.con tx k r,b,off=>(∃a c,Cs w f b off [.int .i64 1,.int .i64 0,S tx,.slice a k.len c]∧k.len≤c∧(k=.nil∨∃h d,a=some ⟨h,d,none⟩∧Ix w f k h d))∧Ix w f r b (off+4)
def Al(w:wO)(f:Fq)(k:Ty)(a:oA)(c:Nat):Prop:=k.len≤c∧(k=.nil∨∃b off,a=some ⟨b,off,none⟩∧Ix w f k b off)
variable {f f':Fq}{co ln nm:Int}{l:lV}{b i off:Nat}{U:Nat→Prop}{a:oA}{T:tI}{w w':wO}
theorem Ix.mono(h:HF w f w' f'):∀(k:Ty)(b off:Nat),Ix w f k b off→Ix w' f' k b off
 |.nil,_,_,_=>trivial
 |.var _ r,b,off,⟨⟨a,c,D⟩,F⟩=>⟨⟨a,c,D.mono h⟩,Ix.mono h r b _ F⟩
 |.con _ k r,b,off,⟨⟨a,c,D,F,J⟩,K⟩=>⟨⟨a,c,D.mono h,F,J.imp id λ⟨G,d,L,O⟩=>⟨G,d,L,Ix.mono h k G d O⟩⟩,Ix.mono h r b _ K⟩
theorem Al.mono{k:Ty}{c:Nat}:EI (λw f=>Al w f k a c):=λ_ _ _ _ h d=>⟨h.1,h.2.imp id λ⟨b,off,D,F⟩=>⟨b,off,D,Ix.mono d k b off F⟩⟩
theorem Al.nil(w:wO)(f:Fq)(a:oA)(c:Nat):Al w f .nil a c:=⟨Nat.zero_le _,.inl C⟩
theorem Ix.cons{t:T1}{r:Ty}:Ix w f (t.cons r) b off↔(∃a c,Cs w f b off (tC t a c)∧Al w f t.kids a c)∧Ix w f r b (off+4):=by
 cases t with
 |var n=>exact⟨λ⟨⟨a,c,h⟩,d⟩=>⟨⟨a,c,h,Al.nil _ _ _ _⟩,d⟩,λ⟨⟨a,c,h,_⟩,d⟩=>⟨⟨a,c,h⟩,d⟩⟩
 |con tx k=>exact⟨λ⟨⟨a,c,h,d,F⟩,D⟩=>⟨⟨a,c,h,d,F⟩,D⟩,λ⟨⟨a,c,h,d⟩,D⟩=>⟨⟨a,c,h,d.1,d.2⟩,D⟩⟩
theorem Ix.app:∀{x y:Ty}{b off:Nat},Ix w f x b off→Ix w f y b (off+x.len*4)→Ix w f (x.app y) b off
 |.nil,_,b,off,_,h=>by simpa[Ty.len,Ty.app] using h
 |.var _ r,y,b,off,h,d=>⟨h.1,Ix.app h.2 (by rw[show off+4+r.len*4=off+(r.len+1)*4 by omega];exact d)⟩
 |.con _ _ r,y,b,off,h,d=>⟨h.1,Ix.app h.2 (by rw[show off+4+r.len*4=off+(r.len+1)*4 by omega];exact d)⟩
def BY(w:wO)(f:Fq)(a:oA)(i:Nat)(r:Ty):Prop:=r=.nil∨∃b off,a=some ⟨b,off,none⟩∧Ix w f r b (off+i*4)
theorem BY.mono{r:Ty}:EI (λw f=>BY w f a i r):=λ_ _ _ _ h d=>h.imp id λ⟨b,off,D,F⟩=>⟨b,off,D,Ix.mono d r b _ F⟩
theorem Al.at{k:Ty}{c:Nat}(h:Al w f k a c):BY w f a 0 k:=h.2.imp id λ⟨b,off,d,D⟩=>⟨b,off,d,by simpa using D⟩
theorem BY.head{t:T1}{r:Ty}(h:BY w f a i (t.cons r)):∃b off ka kc,a=some ⟨b,off,none⟩∧Cs w f b (off+i*4) (tC t ka kc)∧Al w f t.kids ka kc∧BY w f a (i+1) r:=by
 rcases h with h|⟨b,off,d,D⟩
 · cases t <;> cases h
 · obtain⟨⟨ka,kc,F,G⟩,J⟩:=Ix.cons.1 D
   exact⟨b,off,ka,kc,d,F,G,.inr ⟨b,off,d,by rw[show off+(i+1)*4=off+i*4+4 by omega];exact J⟩⟩
def Xr(w:wO)(f:Fq):Nd→Nat→Nat→Prop
 |.nil,_,_=>True
 |.cons op ln co tx nm k r,b,off=>(∃a c,Cs w f b off [.int .i64 op,.int .i64 ln,.int .i64 co,S tx,.int .i64 nm,.slice a k.len c]∧k.len≤c∧(k=.nil∨∃h d,a=some ⟨h,d,none⟩∧Xr w f k h d))∧Xr w f r b (off+6)
def Bc(w:wO)(f:Fq)(k:Nd)(a:oA)(c:Nat):Prop:=k.len≤c∧(k=.nil∨∃b off,a=some ⟨b,off,none⟩∧Xr w f k b off)
theorem Xr.mono(h:HF w f w' f'):∀(k:Nd)(b off:Nat),Xr w f k b off→Xr w' f' k b off
 |.nil,_,_,_=>trivial
 |.cons _ _ _ _ _ k r,b,off,⟨⟨a,c,F,G,J⟩,K⟩=>⟨⟨a,c,F.mono h,G,J.imp id λ⟨D,d,L,O⟩=>⟨D,d,L,Xr.mono h k D d O⟩⟩,Xr.mono h r b _ K⟩
theorem Bc.mono{k:Nd}{c:Nat}:EI (λw f=>Bc w f k a c):=λ_ _ _ _ h d=>⟨h.1,h.2.imp id λ⟨b,off,D,F⟩=>⟨b,off,D,Xr.mono d k b off F⟩⟩
def Ct(w:wO)(f:Fq)(a:oA)(i:Nat)(r:Nd):Prop:=r=.nil∨∃b off,a=some ⟨b,off,none⟩∧Xr w f r b (off+i*6)
theorem Ct.mono{r:Nd}:EI (λw f=>Ct w f a i r):=λ_ _ _ _ h d=>h.imp id λ⟨b,off,D,F⟩=>⟨b,off,D,Xr.mono d r b _ F⟩
theorem Bc.at{k:Nd}{c:Nat}(h:Bc w f k a c):Ct w f a 0 k:=h.2.imp id λ⟨b,off,d,D⟩=>⟨b,off,d,by simpa using D⟩
def GQ(op ln co:Int)(tx:lU)(nm:Int)(a:oA)(n c:Nat):lV:=[.int .i64 op,.int .i64 ln,.int .i64 co,S tx,.int .i64 nm,.slice a n c]
theorem Ct.head{op:Int}{tx:lU}{k r:Nd}(h:Ct w f a i (.cons op ln co tx nm k r)):∃b off ka kc,a=some ⟨b,off,none⟩∧Cs w f b (off+i*6) (GQ op ln co tx nm ka k.len kc)∧Bc w f k ka kc∧Ct w f a (i+1) r:=by
 rcases h with h|⟨b,off,d,⟨ka,kc,D,F⟩,G⟩
 · cases h
 · exact⟨b,off,ka,kc,d,D,F,.inr ⟨b,off,d,by rw[show off+(i+1)*6=off+i*6+6 by omega];exact G⟩⟩
def RP(w:wO):Fq:=λb=>match w.heap[b]? with
 |some (.cells cs _ (0,0))=>cs.size
 |_=>0
theorem Cs.all{m:lV}(d:AS w b l T)(h:l.drop off=m):Cs w (RP w) b off m:=λj v F=>by
 have D:l[off+j]?=some v:=by rw[← List.getElem?_drop,h,F]
 obtain⟨G,_⟩:=List.getElem?_eq_some_iff.1 D;refine⟨?_,by rw[d.cell,D]⟩;unfold RP;unfold AS at d;rw[d];simpa using G
theorem Cs.le{m:lV}(h:Cs w f b off (l++m)):Cs w f b off l:=λj v d=>h j v (by
 obtain⟨D,_⟩:=List.getElem?_eq_some_iff.1 d;rw[List.getElem?_append_left D];exact d)
theorem Fy.toG(h:AS w b l T):∀(k:Nd)(off:Nat),Fy U w k (l.drop off)→(∀(d:Nd)(a:oA)(n c:Nat),d.size<k.size→GO U w a n c d→Bc w (RP w) d a c)→Xr w (RP w) k b off
 |.nil,_,_,_=>trivial
 |.cons op ln co tx nm kids r,off,⟨a,n,c,J,D,F,K⟩,G=>by
   have L:n=kids.len:=F.1;have O:=G kids a n c (by simp only[Nd.size];omega) F;refine⟨⟨a,c,?_,O⟩,Fy.toG h r (off+6) ?_ (λd a n c Q=>G d a n c (by simp only[Nd.size];omega))⟩
   · have:=Cs.all h D
     rw[L] at this;exact Cs.le (m:=J) this
   · rw[← List.drop_drop,D];exact K
theorem GO.toF:∀(m:Nat)(k:Nd)(a:oA)(n c:Nat),k.size<m→GO U w a n c k→Bc w (RP w) k a c
 |0,_,_,_,_,h,_=>by omega
 |m+1,k,a,n,c,hm,⟨D,L,d⟩=>by
   refine⟨oM,?_⟩;rcases d with d|⟨b,off,l,T,_,F,G,J⟩
   · left
     cases k with
     |nil=>rfl
     |cons _ _ _ _ _ _ _=>rw[d] at D;cases D
   · exact .inr ⟨b,off,F,Fy.toG G k off J (λK a n c O=>GO.toF m K a n c oM)⟩
end Go.SP
namespace Go.SP
open Go.SW Go.RowKit
def Cg(w:wO)(f:Fq)(l:List Int)(a:oA)(c:Nat):Prop:=l.length≤c∧(l=[]∨∃b off,a=some ⟨b,off,none⟩∧Cs w f b off (l.map λn=>Value.int .i64 n))
variable {f:Fq}{l:lV}{b i off:Nat}{a:oA}{w:wO}
theorem Cg.mono{l:List Int}{c:Nat}:EI (λw f=>Cg w f l a c):=λ_ _ _ _ h d=>⟨h.1,h.2.imp id λ⟨b,off,D,F⟩=>⟨b,off,D,F.mono d⟩⟩
theorem Cs.at{v:Value}(h:Cs w f b off l)(D:l[i]?=some v):Cs w f b (off+i) [v]:=λj u d=>by
 cases j with
 |zero=>simp at d;subst d;simpa using h i v D
 |succ j=>simp at d
theorem Cg.get{l:List Int}{c:Nat}{n:Int}(h:Cg w f l a c)(d:l[i]?=some n):∃b off,a=some ⟨b,off,none⟩∧Cs w f b (off+i*1) [.int .i64 n]:=by
 rcases h.2 with h|⟨b,off,D,F⟩
 · subst h;simp at d
 · exact⟨b,off,D,by rw[Nat.mul_one];exact Cs.at F (by rw[List.getElem?_map,d];rfl)⟩
theorem Pv{n:Int}:∀{l:List Int},D6 l n=none→l.contains n=false
 | [],_=>rfl
 |k::l,h=>by
   unfold D6 at h
   split at h
   · cases h
   · rename_i d
     have:D6 l n=none:=by cases D:D6 l n with|none=>rfl|some i=>rw[D] at h;cases h
     rw[List.contains_cons,Pv this];have:¬n=k:=λe=>d (by simp[e]);simp[this]
theorem LG{n:Int}:∀{l:List Int}{i:Nat},D6 l n=some i→l.contains n=true∧i<l.length∧l[i]?=some n
 | [],_,h=>by cases h
 |k::l,i,h=>by
   unfold D6 at h
   split at h
   · rename_i D
     have e:k=n:=by simpa using D
     cases h
     subst e;simp
   · cases d:D6 l n with
     |none=>rw[d] at h;cases h
     |some j =>
       rw[d] at h
       cases h
       have:=LG d;exact⟨by rw[List.contains_cons,this.1,Bool.or_true],by simp;exact this.2.1,by simpa using this.2.2⟩
theorem Wt{n:Int}:∀{l:List Int}{i:Nat},(l.take i).contains n=false→l[i]?=some n→D6 l n=some i
 | [],i,_,h=>by simp at h
 |k::l,0,_,h=>by simp at h;subst h;simp[D6]
 |k::l,i+1,d,h=>by
   simp only[List.take_succ_cons,List.contains_cons,Bool.or_eq_false_iff] at d
   have D:(k==n)=false:=by
     have:=d.1
     cases F:k==n with
     |false=>rfl
     |true =>
       have e:k=n:=by simpa using F
       subst e;simp at this
   have:=Wt d.2 (by simpa using h);simp[D6,D,this]
theorem NN{n:Int}{l:List Int}(h:l.contains n=false):D6 l n=none:=by
 cases d:D6 l n with
 |none=>rfl
 |some i=>rw[(LG d).1] at h;cases h
def Yt(l:List Int)(n:Int):Int:=match D6 l n with
 |some i=>i
 |none => -1
theorem CZ{α:Type}{l:List α}{x:α}(h:l[i]?=some x):l.take (i+1)=l.take i++[x]:=by
 obtain⟨d,he⟩:=List.getElem?_eq_some_iff.1 h;rw[List.take_succ_eq_append_getElem d,he]
end Go.SP
namespace Go.SP
open Go.SW Go.RowKit
def Ty.size:Ty→Nat
 |.nil=>0
 |.var _ r=>r.size+1
 |.con _ k r=>k.size+r.size+1
def Ty.bnd:Ty→Prop
 |.nil=>True
 |.var _ r=>r.bnd
 |.con tx k r=>(k.len≤200000∧tx.length≤1000000)∧k.bnd∧r.bnd
def T1.bnd(t:T1):Prop:=(t.kids.len≤200000∧t.tx.length≤1000000)∧t.kids.bnd
theorem T1.bnd_cons{t:T1}{r:Ty}:(t.cons r).bnd↔t.bnd∧r.bnd:=by
 cases t with
 |var n=>exact⟨λh=>⟨⟨⟨Nat.zero_le _,Nat.zero_le _⟩,tQ⟩,h⟩,λh=>h.2⟩
 |con tx k=>exact⟨λh=>⟨⟨h.1,h.2.1⟩,h.2.2⟩,λh=>⟨h.1.1,h.1.2,h.2⟩⟩
theorem T1.len_cons(t:T1)(r:Ty):(t.cons r).len=r.len+1:=by cases t <;> rfl
theorem T1.size_cons(t:T1)(r:Ty):(t.cons r).size=t.kids.size+r.size+1:=by cases t <;> simp[T1.cons,Ty.size,T1.kids]
theorem Ty.len_app:∀x y:Ty,(x.app y).len=x.len+y.len
 |.nil,y=>by simp[Ty.app,Ty.len]
 |.var _ r,y=>by simp[Ty.app,Ty.len,Ty.len_app r y];omega
 |.con _ _ r,y=>by simp[Ty.app,Ty.len,Ty.len_app r y];omega
theorem Ty.app_assoc:∀x y z:Ty,(x.app y).app z=x.app (y.app z)
 |.nil,_,_=>rfl
 |.var _ r,y,z=>by simp[Ty.app,Ty.app_assoc r y z]
 |.con _ _ r,y,z=>by simp[Ty.app,Ty.app_assoc r y z]
theorem Ty.app_nil:∀x:Ty,x.app .nil=x
 |.nil=>rfl
 |.var _ r=>by simp[Ty.app,Ty.app_nil r]
 |.con _ _ r=>by simp[Ty.app,Ty.app_nil r]
theorem T1.one_app(t:T1)(r:Ty):t.one.app r=t.cons r:=by cases t <;> rfl
theorem Ty.len_snoc(x:Ty)(t:T1):(x.snoc t).len=x.len+1:=by unfold Ty.snoc T1.one;rw[Ty.len_app,T1.len_cons];rfl
theorem Ty.snoc_app(x:Ty)(t:T1)(r:Ty):(x.snoc t).app r=x.app (t.cons r):=by unfold Ty.snoc;rw[Ty.app_assoc,T1.one_app]
theorem Ty.cases1(k:Ty)(h:0<k.len):∃t r,k=T1.cons t r:=by
 cases k with
 |nil=>simp[Ty.len] at h
 |var n r=>exact⟨.var n,r,C⟩
 |con tx k r=>exact⟨.con tx k,r,C⟩
theorem Ty.len0{k:Ty}(h:k.len=0):k=.nil:=by cases k <;> simp_all [Ty.len]
def Cr(w:wO)(f:Fq):Ty→lV→Prop
 |.nil,xs=>xs=[]
 |.var n r,xs=>∃a c xs',xs=[.int .i64 0,.int .i64 n,S [],.slice a 0 c]++xs'∧Cr w f r xs'
 |.con tx k r,xs=>∃a c xs',xs=[.int .i64 1,.int .i64 0,S tx,.slice a k.len c]++xs'∧Al w f k a c∧Cr w f r xs'
variable {f f':Fq}{l xs:lV}{b off:Nat}{a:oA}{w w':wO}
theorem Cr.mono'(d:HF w f w' f'):∀(k:Ty)(xs:lV),Cr w f k xs→Cr w' f' k xs
 |.nil,_,h=>h
 |.var _ r,_,⟨a,c,xs',D,F⟩=>⟨a,c,xs',D,Cr.mono' d r xs' F⟩
 |.con _ k r,_,⟨a,c,xs',D,F,G⟩=>⟨a,c,xs',D,Al.mono _ _ _ _ F d,Cr.mono' d r xs' G⟩
theorem Cr.mono{k:Ty}:EI (λw f=>Cr w f k xs):=λ_ _ _ _ h d=>Cr.mono' d k xs h
theorem Cr.snoc{t:T1}{c:Nat}(d:Al w f t.kids a c):∀{k:Ty}{xs:lV},Cr w f k xs→Cr w f (k.snoc t) (xs++tC t a c)
 |.nil,xs,h=>by
   have h:xs=[]:=h;subst h
   cases t with
   |var n=>exact⟨a,c,[],C,C⟩
   |con tx k=>exact⟨a,c,[],C,d,C⟩
 |.var _ r,_,⟨a',c',xs',D,F⟩=>⟨a',c',xs'++tC t a c,by rw[D,List.append_assoc],Cr.snoc d F⟩
 |.con _ k r,_,⟨a',c',xs',D,F,G⟩=>⟨a',c',xs'++tC t a c,by rw[D,List.append_assoc],F,Cr.snoc d G⟩
theorem Cs.drop{m:lV}(h:Cs w f b off (l++m)):Cs w f b (off+l.length) m:=λj v d=>by
 have:=h (l.length+j) v (by rw[List.getElem?_append_right (by omega)];simpa using d);rwa[← Nat.add_assoc] at this
theorem Cr.toG:∀{k:Ty}{xs:lV}{off:Nat},Cr w f k xs→Cs w f b off xs→Ix w f k b off
 |.nil,_,_,_,_=>trivial
 |.var _ r,_,off,⟨a,c,xs',h,D⟩,d=>by
   subst h;exact⟨⟨a,c,Cs.le d⟩,Cr.toG D (Cs.drop d)⟩
 |.con _ k r,_,off,⟨a,c,xs',h,D,F⟩,d=>by
   subst h;exact⟨⟨a,c,Cs.le d,D⟩,Cr.toG F (Cs.drop d)⟩
theorem Cr.toF{c:Nat}{k:Ty}(h:Cr w f k xs)(d:Cs w f b 0 xs)(D:k.len≤c):Al w f k (some ⟨b,0,none⟩) c:=⟨D,.inr ⟨b,0,C,Cr.toG h d⟩⟩
theorem Cr.len:∀{k:Ty}{xs:lV},Cr w f k xs→xs.length=k.len*4
 |.nil,xs,h=>by have h:xs=[]:=h;subst h;rfl
 |.var _ r,_,⟨a,c,xs',d,D⟩=>by subst d;have:=Cr.len D;simp[Ty.len,this];omega
 |.con _ k r,_,⟨a,c,xs',d,D,F⟩=>by subst d;have:=Cr.len F;simp[Ty.len,this];omega
theorem N9(a b c vs:lV)(h:b.length=vs.length):DT (a++(b++c)) a.length vs=(a++vs)++c:=by
 rw[MT vs _ _ (by simp;omega)];have d:(a++(b++c)).take a.length=a:=by simp
 have D:(a++(b++c)).drop (a.length+vs.length)=c:=by
   rw[← List.drop_drop];simp[← h]
 rw[d,D]
def OwnF(P:Program)(d:FuncId)(m:Nat):Prop:=∀(w:wO)(f:Fq)(_:Vl w f)(t:T1)(a:oA)(c:Nat),t.kids.size<m→t.bnd→Al w f t.kids a c →
 AX P d #[tV t a c] w (AU (α:=oA×Nat) (λx=>tV t x.1 x.2) (λ_=>True) (λx=>[λw f=>Al w f t.kids x.1 x.2]) w f)
end Go.SP
namespace Go.SP
open Go.SW Go.RowKit
theorem aR(t:T1)(a:oA)(c:Nat):∀v∈tC t a c,v.oneCell'=true:=by
 intro v d;unfold tC at d;simp only[List.mem_cons,List.not_mem_nil,or_false] at d;rcases d with rfl|rfl|rfl|rfl <;> rfl
variable {f:Fq}{b:Nat}{w:wO}
theorem Ix.cells:∀{k:Ty}{off:Nat},Ix w f k b off→∃xs,Cr w f k xs∧Cs w f b off xs∧∀v∈xs,v.oneCell'=true
 |.nil,_,_=>⟨[],C,(λj v D=>by simp at D),λv h=>by cases h⟩
 |.var n r,off,⟨⟨a,c,F⟩,G⟩=>by
   obtain⟨xs,J,K,L⟩:=Ix.cells G;refine⟨_++xs,⟨a,c,xs,C,J⟩,?_,?_⟩
   · intro j v D
     rcases Nat.lt_or_ge j 4 with d|d
     · exact F j v (by rwa[List.getElem?_append_left (by simpa using d)] at D)
     · rw[List.getElem?_append_right (by simpa using d)] at D
       have:=K (j-4) v (by simpa using D);rwa[show off+4+(j-4)=off+j by omega] at this
   · intro v h
     rcases List.mem_append.1 h with h|h
     · exact aR (.var n) a c v h
     · exact L v h
 |.con tx k r,off,⟨⟨a,c,F,O⟩,G⟩=>by
   obtain⟨xs,J,K,L⟩:=Ix.cells G;refine⟨_++xs,⟨a,c,xs,C,O,J⟩,?_,?_⟩
   · intro j v D
     rcases Nat.lt_or_ge j 4 with d|d
     · exact F j v (by rwa[List.getElem?_append_left (by simpa using d)] at D)
     · rw[List.getElem?_append_right (by simpa using d)] at D
       have:=K (j-4) v (by simpa using D);rwa[show off+4+(j-4)=off+j by omega] at this
   · intro v h
     rcases List.mem_append.1 h with h|h
     · exact aR (.con tx k) a c v h
     · exact L v h
end Go.SP
namespace Go.SP
open Go.SW Go.RowKit
variable {X:Cx}{f:Fq}{Fs:List (wO→Fq→Prop)}{B:List FB}{H:List HB}{xs:lV}{m:Nat}{a:oA}{e:tI}{w:wO}
theorem R9{R:List RB}{c:Nat}{k:Ty}(F:AO X w f H (⟨e,4,a,c,m,xs⟩::R) B Fs)(G:Cr w f k xs)(L:0<k.len):∃f',AO X w f' H R B Fs∧Al w f' k a c:=by
 have J:=F.row _ (.head _);have hlen:=Cr.len G;have hm:m=k.len:=by have:=J.1;simp only at this;omega
 rcases J.2 with ⟨_,_,h⟩|⟨b,l,K,_,D,_⟩
 · simp only at h;omega
 · simp only at K D
   subst K;obtain⟨f',d⟩:=(F.more (B':=[]) (F':=[λw f=>Cr w f k xs]) (λ_ h=>by cases h) (AR.mem ⟨G,tQ⟩) (Au.mem ⟨Cr.mono,tQ⟩)).done (i:=0) C C;exact⟨f',d.less (List.Sublist.refl _) (List.Sublist.refl _) (λe he=>.tail _ he) (λφ h=>.tail _ h),Cr.toF (d.fact (i:=0) C) (d.fro _ (.head _)) oM⟩
end Go.SP
namespace Go.SP
open Go.SW Go.RowKit
variable {f:Fq}{a:oA}{w:wO}
theorem Al.cells{k:Ty}{c:Nat}(h:Al w f k a c)(D:0<k.len):∃x:Nat×Nat×lV,(a=some ⟨x.1,x.2.1,none⟩∧(∀v∈x.2.2,v.oneCell'=true)∧x.2.2.length=k.len*4)∧Cs w f x.1 x.2.1 x.2.2∧Cr w f k x.2.2:=by
 rcases h.2 with h|⟨b,off,F,G⟩
 · subst h;cases D
 · obtain⟨xs,d,J,K⟩:=Ix.cells G
   exact⟨(b,off,xs),⟨F,K,Cr.len d⟩,J,d⟩
def FJ(w:wO)(f:Fq):BP→List (Int×Value)→Prop
 | [],es=>es=[]
 |(n,t)::s,es=>∃a c d,es=(n,tV t a c)::d∧Al w f t.kids a c∧FJ w f s d
variable {s:BP}{f':Fq}{fr pr:Int}{Fs:List (wO→Fq→Prop)}{mb sb:Nat}{MI:Nat→Prop}{T:tI}{w':wO}
theorem FJ.mono(D:HF w f w' f'):∀(s:BP)(es:List (Int×Value)),FJ w f s es→FJ w' f' s es
 | [],_,h=>h
 |(_,_)::s,_,⟨a,c,d,F,G,J⟩=>⟨a,c,d,F,Al.mono _ _ _ _ G D,FJ.mono D s d J⟩
def I0:BP→Prop
 | []=>True
 |(n,t)::s=>CP s n=none∧(∀m,t=.var m→m≠n∧CP s m=none)∧t.bnd∧I0 s
def mB:BP→Prop
 | []=>True
 |(n,t)::s=>CP s n=none∧(∀m,t=.var m→m≠n∧CP s m=none)∧mB s
theorem I0.v:∀{s:BP},I0 s→mB s
 | [],_=>trivial
 |(_,_)::_,h=>⟨h.1,h.2.1,I0.v h.2.2.2⟩
theorem FJ.look:∀{s:BP}{es:List (Int×Value)},FJ w f s es→∀n,(CP s n=none→Gu es n=none)∧∀t,CP s n=some t→∃a c,Gu es n=some (tV t a c)∧Al w f t.kids a c
 | [],es,h,n=>by
   have h:es=[]:=h;subst h;exact⟨λ_=>C,λt h=>by cases h⟩
 |(k,t)::s,es,⟨a,c,D,F,G,J⟩,n=>by
   subst F;have K:=FJ.look J n;simp only[CP,Gu]
   by_cases d:k=n
   · subst d
     refine⟨λh=>by simp at h,λt' h=>?_⟩;simp at h;subst h;exact⟨a,c,by simp,G⟩
   · have L:(k==n)=false:=by simpa using d
     have O:(n==k)=false:=by simpa using λe=>d e.symm
     rw[L,O];simpa using K
theorem FJ.dis:∀{s:BP}{es:List (Int×Value)},FJ w f s es→I0 s→M5 es
 | [],es,h,_=>by have h:es=[]:=h;subst h;trivial
 |(k,t)::s,es,⟨a,c,D,F,G,d⟩,hw=>by
   subst F;exact⟨(FJ.look d k).1 hw.1,FJ.dis d hw.2.2.2⟩
def Bz(T:tI)(sb mb:Nat)(s:BP)(fr pr:Int)(w:wO)(f:Fq):Prop:=AS w sb [.map (some mb),.int .i64 fr,.int .i64 pr] T∧∃es,CW Ez w mb es∧FJ w f s es
theorem Bz.stab(d:MI sb)(D:MI mb):ED MI (Bz T sb mb s fr pr):=λ_ _ _ _ ⟨F,es,hm,G⟩ J h=>⟨(h sb d).trans F,es,hm.heap (h mb D),FJ.mono J s es G⟩
abbrev MD(sb mb:Nat):Nat→Prop:=λb=>b=sb∨b=mb
abbrev XS(T:tI)(sb mb:Nat)(s:BP)(fr pr:Int)(w:wO)(f:Fq):Cx:=⟨MD sb mb,MD sb mb,Bz T sb mb s fr pr,w,f⟩
theorem jN(F:Vl w f)(d:Bz T sb mb s fr pr w f)(D:f sb=0∧f mb=0)(G:AR Fs w f)(hm:Au Fs):AO (XS T sb mb s fr pr w f) w f [] [] [] Fs where
 stp:=MC.refl _ _
 old _ _:=rfl
 val:=F
 ent:=HF.refl _ _
 res:=d
 stab:=Bz.stab (.inl C) (.inr C)
 mi b J:=by
   rcases J with rfl|rfl
   · exact⟨d.1.lt,D.1,.inr (.inl C)⟩
   · obtain⟨_,es,h,_⟩:=d;exact⟨h.lt,D.2,.inr (.inr C)⟩
 blk _ h:=by cases h
 row _ h:=by cases h
 nd:=List.nodup_nil
 own _ h:=by cases h
 hnw _ h:=by cases h
 rnw _ h:=by cases h
 fro _ h:=by cases h
 fac:=G.mem
 mono:=hm.mem
def ID:BP→Int→Option Nat
 | [],_=>none
 |(k,_)::s,n=>if k==n then some 0 else (ID s n).map (· + 1)
def Et(s:BP):T1→Nat
 |.con _ _=>0
 |.var n=>match ID s n with
   |none=>0
   |some p=>p+1
theorem Sx{n:Int}:∀{s:BP},CP s n=none↔ID s n=none
 | []=>by simp[CP,ID]
 |(k,t)::s=>by
   have:=Sx (n:=n) (s:=s);simp only[CP,ID]
   split <;> simp[this]
theorem HI{n:Int}{t:T1}:∀{s:BP},mB s→CP s n=some t→∃p,ID s n=some p∧Et s t≤p
 | [],_,h=>by cases h
 |(k,t0)::s,hw,h=>by
   simp only[CP] at h
   split at h
   · rename_i D
     cases h
     have e:k=n:=by simpa using D
     subst e;refine⟨0,by simp[ID],?_⟩
     cases t with
     |con _ _=>simp[Et]
     |var m =>
       obtain⟨F,d⟩:=hw.2.1 m C;have G:(k==m)=false:=by simpa using λe=>F e.symm
       simp[Et,ID,G,Sx.1 d]
   · rename_i D
     obtain⟨p,F,d⟩:=HI hw.2.2 h;have G:(k==n)=false:=by simpa using D
     refine⟨p+1,by simp[ID,G,F],?_⟩
     cases t with
     |con _ _=>simp[Et]
     |var m =>
       have J:∀s:BP,Et s (.var m)=(match ID s m with|none=>0|some p=>p+1):=λ_=>C;rw[J] at d ⊢;simp only[ID]
       cases K:(k==m) with
       |true=>simp
       |false =>
         simp only[Bool.false_eq_true,if_false]
         cases L:ID s m with
         |none=>simp
         |some q =>
           rw[L] at d;simp only[Option.map_some] at d ⊢;have O:q+1≤p:=d;show q+1+1≤p+1;exact Nat.succ_le_succ O
theorem Ub{n:Int}:∀{s:BP}{p:Nat},ID s n=some p→p<s.length
 | [],_,h=>by cases h
 |(k,t)::s,p,h=>by
   simp only[ID] at h
   split at h
   · cases h;simp
   · cases d:ID s n with
     |none=>rw[d] at h;cases h
     |some q=>rw[d] at h;cases h;have:=Ub d;simp;exact this
theorem Xa(s:BP)(t:T1):Et s t≤s.length:=by
 cases t with
 |con _ _=>simp[Et]
 |var n =>
   have d:Et s (.var n)=(match ID s n with|none=>0|some p=>p+1):=rfl;rw[d]
   cases h:ID s n with
   |none=>simp
   |some p=>exact Ub h
theorem Lt(hw:mB s):∀(k j:Nat)(t:T1),Et s t≤k→Et s t≤j→Hv s k t=Hv s j t
 |k,j,.con tx J,_,_=>by cases k <;> cases j <;> rfl
 |k,j,.var n,h,D=>by
   cases d:CP s n with
   |none =>
     have:∀k,Hv s k (.var n)=.var n:=λk=>by cases k <;> simp[Hv,d]
     rw[this,this]
   |some t =>
     obtain⟨p,F,K⟩:=HI hw d;have G:Et s (.var n)=p+1:=by simp[Et,F]
     rw[G] at h D
     cases k with
     |zero=>omega
     |succ k =>
       cases j with
       |zero=>omega
       |succ j =>
         simp only[Hv,d];exact Lt hw k j t oM oM
theorem NX{n:Int}(h:CP s n=none):Am s (.var n)=.var n:=by simp[Am,Hv,h]
theorem Gr(s:BP)(tx:lU)(k:Ty):Am s (.con tx k)=.con tx k:=rfl
theorem SG{n:Int}{t:T1}(hw:mB s)(h:CP s n=some t):Am s (.var n)=Am s t:=by
 obtain⟨p,d,D⟩:=HI hw h;have:=Ub d;unfold Am
 conv=>lhs;rw[Hv];simp only[h]
 exact Lt hw _ _ t oM (by have:=Xa s t;omega)
theorem NF{n:Int}{t:T1}(hw:mB s)(h:CP s n=some t):Et s t<Et s (.var n):=by
 obtain⟨p,d,F⟩:=HI hw h;have D:Et s (.var n)=p+1:=by simp[Et,d]
 rw[D];omega
theorem U4{n:Int}{t:T1}(hw:I0 s)(h:CP s n=some t):Am s (.var n)=Am s t:=SG hw.v h
theorem jS{n:Int}{t:T1}(hw:I0 s)(h:CP s n=some t):Et s t<Et s (.var n):=NF hw.v h
theorem Ob{n:Int}{t:T1}:∀{s:BP},I0 s→CP s n=some t→t.bnd
 | [],_,h=>by cases h
 |(k,t0)::s,hw,h=>by
   simp only[CP] at h
   split at h
   · cases h;exact hw.2.2.1
   · exact Ob hw.2.2.2 h
theorem Eo{t:T1}(h:(t.op==0)=true):∃n,t=.var n:=by
 cases t with
 |var n=>exact⟨n,C⟩
 |con _ _=>cases h
theorem Fe{t:T1}(h:(t.op==0)=false):∃tx k,t=.con tx k:=by
 cases t with
 |var n=>cases h
 |con tx k=>exact⟨tx,k,C⟩
end Go.SP
namespace Go.SW
open Go.RowKit
section
variable{P:Program}{σ:Ba}{w:wO}{ty:tI}
variable {caps:List Operand}{vs:lV}
theorem Uk{f:FuncId}{g:Operand}{args:List Operand}{caps:lV}{D:Array tI}(he:Bi P f)(F:ev σ g=some (.func (.func f) #[] caps.toArray))(G:Ii σ args=some vs) :
   Enters P σ (.call {callee:=.value g,args:=args.toArray,argTypes:=D}) ty w f (vs++caps).toArray:=λJ _ _ _ _ d=>by
 have h:=Em d G;have e:=he (vs++caps).toArray w;simp[execOp,resolve,d _ _ F,Deferred.ofValue,invoke,h];simpa using e
theorem Rk{f:FuncId}(D:Ii σ caps=some vs):AK P σ (.makeFunc (.func f) #[] caps.toArray) ty w (.func (.func f) #[] vs.toArray) w:=λF _ _ _ _ d=>by
 have h:=Em d D;simp[execOp,Instr.makeFunc,h]
end
end Go.SW
namespace Go.SP
open Go.SW Go.RowKit
def Bu(b:BP):Nat→Ty→Option Nat
 |k,.nil=>some k
 |0,.var _ _=>none
 |0,.con _ _ _=>none
 |k+1,.var n r=>match Am b (.var n) with
   |.var _=>Bu b k r
   |.con _ d=>Bu b k (d.app r)
 |k+1,.con _ d r=>Bu b k (d.app r)
theorem Fa(b:BP):∀(k:Nat)(t:Ty),Kx b k t=(Bu b k t).isSome
 |k,.nil=>by cases k <;> rfl
 |0,.var _ _=>rfl
 |0,.con _ _ _=>rfl
 |k+1,.var n r=>by
   simp only[Kx,Bu]
   cases Am b (.var n) with
   |var _=>exact Fa b k r
   |con _ d=>exact Fa b k _
 |k+1,.con _ d r=>by simp only[Kx,Bu];exact Fa b k _
theorem Jh(b:BP):∀(k:Nat)(x y:Ty),Bu b k (x.app y)=(Bu b k x).bind λj=>Bu b j y
 |k,.nil,y=>by cases k <;> rfl
 |0,.var _ _,y=>rfl
 |0,.con _ _ _,y=>rfl
 |k+1,.var n r,y=>by
   simp only[Ty.app,Bu]
   cases Am b (.var n) with
   |var _=>exact Jh b k r y
   |con _ d =>
     simp only;rw[← Ty.app_assoc];exact Jh b k _ y
 |k+1,.con _ d r,y=>by
   simp only[Ty.app,Bu];rw[← Ty.app_assoc];exact Jh b k _ y
theorem Fv(b:BP):∀(k:Nat)(x:Ty)(j:Nat),Bu b k x=some j→j≤k
 |k,.nil,j,h=>by cases k <;> (cases h;exact Nat.le_refl _)
 |0,.var _ _,_,h=>by cases h
 |0,.con _ _ _,_,h=>by cases h
 |k+1,.var n r,j,h=>by
   simp only[Bu] at h
   split at h
   · have:=Fv b k _ j h;omega
   · have:=Fv b k _ j h;omega
 |k+1,.con _ d r,j,h=>by
   simp only[Bu] at h;have:=Fv b k _ j h;omega
theorem IZ(b:BP)(k:Nat)(t:T1)(r:Ty):Bu b k (t.cons r)=(Bu b k t.one).bind λj=>Bu b j r:=by rw[← T1.one_app,Jh]
theorem J3(b:BP)(k:Nat)(t:T1):Bu b (k+1) t.one=Bu b k (Am b t).kids:=by
 cases t with
 |var n =>
   simp only[T1.one,T1.cons,Bu]
   cases Am b (.var n) with
   |var _=>cases k <;> rfl
   |con _ d=>simp only[Ty.app_nil];rfl
 |con tx d =>
   simp only[T1.one,T1.cons,Bu,Gr,Ty.app_nil];rfl
theorem KH(b:BP)(t:T1):Bu b 0 t.one=none:=by cases t <;> rfl
variable {s:BP}
theorem PK(hw:I0 s):∀(k:Nat)(t:T1),t.bnd→(Hv s k t).bnd
 |0,t,h=>h
 |k+1,.con _ _,h=>h
 |k+1,.var n,h=>by
   simp only[Hv]
   split
   · exact h
   · rename_i t' d;exact PK hw k t' (Ob hw d)
theorem C3(hw:I0 s){t:T1}(h:t.bnd):(Am s t).bnd:=PK hw _ t h
end Go.SP
namespace Go.SP
open Go.SW Go.RowKit
variable {s:BP}{f f':Fq}{fr pr:Int}{Fs:List (wO→Fq→Prop)}{l:lV}{mb nb sb:Nat}{M MI:Nat→Prop}{T:tI}{w':wO}
theorem Bz.keep{w:wO}(h:Bz T sb mb s fr pr w f)(d:C9 M w f w' f')(F:HF w f w' f')(G:¬M sb)(J:¬M mb):Bz T sb mb s fr pr w' f':=by
 obtain⟨D,es,hm,K⟩:=h;exact⟨(d.stp.block sb D.lt G).trans D,es,hm.heap (d.stp.block mb hm.lt J),FJ.mono F s es K⟩
theorem memH{w:wO}(d:Vl w f)(D:AS w nb l T)(F:f nb=0)(G:AR Fs w f)(hm:Au Fs):AO ⟨λb=>b=nb,λ_=>False,λ_ _=>True,w,f⟩ w f [⟨nb,l,T,false⟩] [] [] Fs where
 stp:=MC.refl _ _
 old _ _:=rfl
 val:=d
 ent:=HF.refl _ _
 res:=trivial
 stab _ _ _ _ _ _ _:=trivial
 mi _ h:=h.elim
 blk e h:=by
   rcases List.mem_cons.1 h with rfl|h
   · exact D
   · cases h
 row _ h:=by cases h
 nd:=by simp[Cf]
 own b h:=by
   have:b=nb:=by simpa[Cf] using h
   subst this;exact⟨F,.inr C,λh=>h⟩
 hnw e h J:=by
   rcases List.mem_cons.1 h with rfl|h
   · cases J
   · cases h
 rnw _ h:=by cases h
 fro _ h:=by cases h
 fac:=G.mem
 mono:=hm.mem
theorem JF{I:wO→Fq→Prop}{w:wO}(F:Vl w f)(G:I w f)(d:ED M I)(hm:∀b,M b→b<w.heap.size∧f b=0)(J:AR Fs w f)(D:Au Fs):AO ⟨M,M,I,w,f⟩ w f [] [] [] Fs where
 stp:=MC.refl _ _
 old _ _:=rfl
 val:=F
 ent:=HF.refl _ _
 res:=G
 stab:=d
 mi b h:=⟨(hm b h).1,(hm b h).2,.inr h⟩
 blk _ h:=by cases h
 row _ h:=by cases h
 nd:=List.nodup_nil
 own _ h:=by cases h
 hnw _ h:=by cases h
 rnw _ h:=by cases h
 fro _ h:=by cases h
 fac:=J.mem
 mono:=D.mem
def JH(nb:Nat)(n:Int)(w:wO)(_:Fq):Prop:=AS w nb [.int .i64 n] 3
theorem JH.stab{n:Int}(h:MI nb):ED MI (JH nb n):=λ_ _ _ _ d _ hm=>(hm nb h).trans d
def VisF(P:Program)(d:FuncId)(T:tI)(g:FuncId)(k:Nat):Prop:=∀(w:wO)(f:Fq)(_:Vl w f)(sb mb:Nat)(s:BP)(fr pr:Int)(nb:Nat),Bz T sb mb s fr pr w f→I0 s→sb≠nb→mb≠nb→f nb=0→JH nb (1000-(k:Int)) w f→k≤1000→∀(t:T1)(a:oA)(c:Nat),t.bnd→Al w f t.kids a c →
 AX P d #[.pointer (some ⟨sb,0,none⟩),tV t a c,.func (.func g) #[] #[.pointer (some ⟨nb,0,none⟩)]] w (EF (α:=Int) (λ_=>.bool (Bu s k t.one).isSome) (λx=>∀j,Bu s k t.one=some j→x=1000-(j:Int)) (λb=>b=nb) (λx=>JH nb x) (λ_=>[]) w f)
end Go.SP
namespace Go.SW
open Go.RowKit
variable {Q:AV}{nw:Bool}{X:Cx}{f:Fq}{Fs:List (wO→Fq→Prop)}{ds:List Deferred}{B:List FB}{fs:List Fr}{H H':List HB}{l:lV}{b i n:Nat}{T:tI}
theorem AO.give{w:wO}{R:List RB}(h:AO X w f H R B Fs)(K:G9 H i=some ⟨b,l,T,nw⟩)(W:JD H i=some H') :
   AO {X with MI:=λk=>X.MI k∨k=b,I:=λw f=>X.I w f∧AS w b l T} w f H' R B Fs:=by
 have F:AS w b l T:=h.blk _ (BD K);have G:=h.own b (List.mem_append.2 (.inl (List.mem_map.2 ⟨_,BD K,C⟩)));have d:=La W;have O:(H.map HB.b++I6 R).Nodup:=h.nd;have U:b∉Cf H' R:=Lz (L:=I6 R) K W O;have D:(Cf H' R).Sublist (Cf H R):=List.Sublist.append (d.map _) (List.Sublist.refl _)
 exact {h with
         res:=⟨h.res,F⟩,
         stab:=λw1 f1 w2 f2 Y hF Z=>⟨h.stab w1 f1 w2 f2 Y.1 hF λk hm=>Z k (.inl hm),(Z b (.inr C)).trans Y.2⟩,
         mi:=λk J=>by
           rcases J with J|rfl
           · exact h.mi k J
           · exact⟨F.lt,G.1,G.2.1⟩,
         blk:=λe he=>h.blk e (d.subset he),nd:=D.nodup h.nd,
         own:=λk J=>⟨(h.own k (D.subset J)).1,(h.own k (D.subset J)).2.1,λhm=>by
           rcases hm with hm|rfl
           · exact (h.own k (D.subset J)).2.2 hm
           · exact U J⟩,
         hnw:=λe he=>h.hnw e (d.subset he)}
theorem uH{P:Program}{R:List RB}{σ:Ba}{k:K3}(i:Nat)(d:G9 H i=some ⟨b,l,T,nw⟩)(D:JD H i=some H')
   (h:A1 P n Q ds {X with MI:=λk=>X.MI k∨k=b,I:=λw f=>X.I w f∧AS w b l T} R B Fs k fs σ H'):A1 P n Q ds X R B Fs k fs σ H:=λw f F=>h w f (F.give d D)
end Go.SW
namespace Go.SW
open Go.RowKit
variable {Q:AV}{X:Cx}{f:Fq}{Fs:List (wO→Fq→Prop)}{ds:List Deferred}{B:List FB}{fs:List Fr}{H:List HB}{b n:Nat}{w':wO}
theorem Hc.fle{w:wO}(h:Hc b w w')(d:f b=0):HF w f w' f:=λk=>⟨Nat.le_refl _,λo D=>DW (h.block k (λe=>by rw[e,d] at D;omega)) o⟩
theorem mxi{P:Program}{R:List RB}{σ:Ba}{k:K3}{α:Type}(d:α→wO→Fq→Prop)(G:∀w f,X.I w f→∃x,d x w f)(D:∀x,ED X.MI (d x))
   (h:∀x,A1 P n Q ds {X with I:=d x} R B Fs k fs σ H):A1 P n Q ds X R B Fs k fs σ H:=λw f F=>by
 obtain⟨x,J⟩:=G w f F.res;exact h x w f {F with res:=J,stab:=D x}
end Go.SW
namespace Go.SP
open Go.SW Go.RowKit
variable {s:BP}{j k:Nat}
theorem KZ{x:Int}:∀(k:Nat)(a b:Ty)(j:Nat),Bu s k a=some j→CQ s x k (a.app b)=(CQ s x k a&&CQ s x j b)
 |k,.nil,b,j,h=>by
   have e:j=k:=by cases k <;> (cases h;rfl)
   subst e
   cases j <;> simp[Ty.app,CQ]
 |0,.var _ _,_,_,h=>by cases h
 |0,.con _ _ _,_,_,h=>by cases h
 |k+1,.var n r,b,j,h=>by
   simp only[Ty.app,Bu,CQ] at h ⊢
   cases d:Am s (.var n) with
   |var m=>rw[d] at h;simp only at h ⊢;rw[KZ k r b j h,Bool.and_assoc]
   |con tx D=>rw[d] at h;simp only at h ⊢;rw[← Ty.app_assoc];exact KZ k _ b j h
 |k+1,.con tx D r,b,j,h=>by
   simp only[Ty.app,Bu,CQ] at h ⊢;rw[← Ty.app_assoc];exact KZ k _ b j h
theorem PJ{x:Int}{t:T1}{r:Ty}(h:Bu s k t.one=some j):CQ s x k (t.cons r)=(CQ s x k t.one&&CQ s x j r):=by rw[← T1.one_app];exact KZ k t.one r j h
def Xn(x:Int):T1→Bool
 |.var m=>!(m==x)
 |.con _ _=>true
theorem Jg(s:BP)(x:Int)(k:Nat)(t:T1):CQ s x (k+1) t.one=(Xn x (Am s t)&&CQ s x k (Am s t).kids):=by
 cases t with
 |var n =>
   simp only[T1.one,T1.cons,CQ]
   cases Am s (.var n) with
   |var m=>cases k <;> simp[Xn,T1.kids,CQ]
   |con tx d=>simp[Xn,T1.kids,Ty.app_nil]
 |con tx d=>simp[T1.one,T1.cons,CQ,Gr,Xn,T1.kids,Ty.app_nil]
def yZ(P:Program)(d:FuncId)(T:tI)(g:FuncId)(k:Nat):Prop:=∀(w:wO)(f:Fq)(_:Vl w f)(sb mb:Nat)(s:BP)(fr pr:Int)(h:Nat)(x:Int),Bz T sb mb s fr pr w f→I0 s→AS w h [.int .i64 x] 3→∀(t:T1)(a:oA)(c j:Nat),t.bnd→Al w f t.kids a c→Bu s k t.one=some j →
 AX P d #[.pointer (some ⟨sb,0,none⟩),tV t a c,.func (.func g) #[] #[.pointer (some ⟨h,0,none⟩)]] w (AU (α:=Unit) (λ_=>.bool (CQ s x k t.one)) (λ_=>True) (λ_=>[]) w f)
def JQ(s:BP)(n:Int)(t:T1):Int×BP:=match CC s n t with
 |.error e=>(e,s)
 |.ok s'=>(0,s')
end Go.SP
namespace Go.SP
open Go.SW Go.RowKit
def mF(T:tI)(sb mb:Nat)(s:BP)(fr pr:Int)(es:List (Int×Value))(w:wO)(f:Fq):Prop:=AS w sb [.map (some mb),.int .i64 fr,.int .i64 pr] T∧CW Ez w mb es∧FJ w f s es
variable {s:BP}{fr pr:Int}{es:List (Int×Value)}{mb sb:Nat}{MI:Nat→Prop}{T:tI}
theorem mF.stab(d:MI sb)(D:MI mb):ED MI (mF T sb mb s fr pr es):=λ_ _ _ _ ⟨F,hm,G⟩ J h=>⟨(h sb d).trans F,hm.heap (h mb D),FJ.mono J s es G⟩
theorem Xs{n:Int}{t:T1}(h:Hl s t=false):JQ s n t=(4,s):=by simp[JQ,CC,h]
theorem cQ{n:Int}{t:T1}(h:Hl s t=true)(d:CQ s n 1000 t.one=false):JQ s n t=(11,s):=by simp[JQ,CC,h,d]
theorem dD{n:Int}{t:T1}(h:Hl s t=true)(d:CQ s n 1000 t.one=true):JQ s n t=(0,(n,t)::s):=by simp[JQ,CC,h,d]
end Go.SP
namespace Go.SW
open Go.RowKit
variable {Q:AV}{af:Array Edge}{ag:Bool}{X:Cx}{Fs:List (wO→Fq→Prop)}{ds:List Deferred}{B:List FB}{fs:List Fr}{H:List HB}{r:List Oper}{l l' vs:lV}{b k n off:Nat}{x:Operand}{g:Option (Nat×Bool)}{T T':tI}{I':wO→Fq→Prop}
theorem ZZ{P:Program}{R:List RB}{σ:Ba}{all:List Oper}{ty:tI}{pos:String}{y:Operand}{v:Value}
   (K:gd all σ g=some true) (L:ev σ x=some (.pointer (some ⟨b,off,none⟩))) (O:ev σ y=some v) (U:Hm v=some vs) (W:AT P T=some (ag,k)) (Y:Nat.beq vs.length k=true) (Z:MB vs=true) (hp:OR l off vs=some l') (D:X.MI b)
   (hb:∀w f,X.I w f→AS w b l T') (hI:∀w f w',X.I w f→AO X w f H R B Fs→Hc b w w'→AS w' b l' T'→I' w' f) (F:ED X.MI I')
   (h:A1 P n Q ds {X with I:=I' } R B Fs (.ops all r) fs σ H):A1 P n Q ds X R B Fs (.ops all (⟨none,.store T x y,ty,pos,af,g⟩::r)) fs σ H:=λw f d =>
 Bh K (AA L O U W Y (hb w f d.res) Z hp λw' G J=>h w' f (d.chgI D J (hI w f w' d.res d J G) F))
def cutq(P:Program)(n:Nat){α:Type}(p:α→Prop)(s:α→Ba)(X:α→Cx)(H:α→List HB)(R:α→List RB)(B:α→List FB)(Fs:α→List (wO→Fq→Prop))(ds:List Deferred)(Q:AV):AV :=
 {q:=λe σ d w=>match e with
     |.normal=>∃x,p x∧d=ds∧Le (s x) σ∧∃f,AO (X x) w f (H x) (R x) (B x) (Fs x)
     |e=>Q.q e σ d w,
   p:=Q.p}
section
variable{P:Program}{n:Nat}{Q:AV}{ds:List Deferred}{X:Cx}{R:List RB}{B:List FB}{Fs:List (wO→Fq→Prop)}{fs:List Fr}{σ:Ba}{H:List HB}
theorem OE{c:Code}{α:Type}(p:α→Prop)(s:α→Ba)(d:α→Cx)(H':α→List HB)(R':α→List RB)(B':α→List FB)(F':α→List (wO→Fq→Prop))(h:A1 P n (cutq P n p s d H' R' B' F' ds (Lo P n Q fs)) ds X R B Fs (.code c) [] σ H)
   (D:∀x,p x→A1 P n Q ds (d x) (R' x) (B' x) (F' x) (.out .normal) fs (s x) (H' x)):A1 P n Q ds X R B Fs (.code c) fs σ H:=λw f F a G=>by
 refine wp_mono (h w f F a G) λe a' w' he=>?_
 cases e with
 |normal =>
   obtain⟨J,K,L,x,O,rfl,U,f',hm⟩:=he;exact⟨s x,_,L.le U,D x O w' f' hm⟩
 |panic c=>exact he
 |outgrown=>exact he
 |ret=>exact he
 |exit i=>exact he
 |goto i=>exact he
theorem Lx{α:Type}{p:α→Prop}{s:α→Ba}{d:α→Cx}{H':α→List HB}{R':α→List RB}{B':α→List FB}{F':α→List (wO→Fq→Prop)}(x:α)(h:p x)(D:Le (s x) σ)(F:∀w f,AO X w f H R B Fs→∃f,AO (d x) w f (H' x) (R' x) (B' x) (F' x)):A1 P n (cutq P n p s d H' R' B' F' ds Q) ds X R B Fs (.out .normal) [] σ H :=
 λw f hm=>⟨x,h,C,D,F w f hm⟩
end
end Go.SW
namespace Go.SP
open Go.SW Go.RowKit
def K4(f:BP→Ty→Ty→Except Int (Nat×BP))(b:BP)(x y:T1)(r q:Ty):Except Int (Nat×BP) :=
 match x,y with
 |.var n,.var m=>if n==m then f b r q else (match CC b n (.var m) with|.error e=>.error e|.ok d=>f d r q)
 |.var n,.con ty h=>(match CC b n (.con ty h) with|.error e=>.error e|.ok d=>f d r q)
 |.con tx ka,.var m=>(match CC b m (.con tx ka) with|.error e=>.error e|.ok d=>f d r q)
 |.con tx ka,.con ty h=>if !(tx==ty)||(ka.len:Int) != h.len then .error 11 else f b (ka.app r) (h.app q)
def Gt:Nat→BP→Ty→Ty→Except Int (Nat×BP)
 |k,b,.nil,_=>.ok (k,b)
 |0,_,.var _ _,_=>.error 4
 |0,_,.con _ _ _,_=>.error 4
 |k+1,b,.var n r,y=>K4 (Gt k) b (Am b (.var n)) (Am b y.hd) r y.tl
 |k+1,b,.con tx ka r,y=>K4 (Gt k) b (.con tx ka) (Am b y.hd) r y.tl
def mapE{α β:Type}(g:α→β):Except Int α→Except Int β
 |.error e=>.error e
 |.ok x=>.ok (g x)
def Sk{α β:Type}(g:α→Except Int β):Except Int α→Except Int β
 |.error e=>.error e
 |.ok x=>g x
theorem SX:∀(k:Nat)(b:BP)(x y:Ty),N4 k b x y=mapE (·.2) (Gt k b x y):=by
 intro k
 induction k with
 |zero=>intro b x y;cases x <;> rfl
 |succ k d =>
   have h:∀b x y r q,Ks (N4 k) b x y r q=mapE (·.2) (K4 (Gt k) b x y r q):=by
     intro b x y r q
     cases x with
     |var n =>
       cases y with
       |var m =>
         simp only[Ks,K4]
         cases (n==m) with
         |true=>simp only[if_true];exact d _ _ _
         |false =>
           simp only[Bool.false_eq_true,if_false]
           cases CC b n (.var m) with
           |error e=>rfl
           |ok D=>exact d _ _ _
       |con ty F =>
         simp only[Ks,K4]
         cases CC b n (.con ty F) with
         |error e=>rfl
         |ok D=>exact d _ _ _
     |con tx ka =>
       cases y with
       |var m =>
         simp only[Ks,K4]
         cases CC b m (.con tx ka) with
         |error e=>rfl
         |ok D=>exact d _ _ _
       |con ty F =>
         simp only[Ks,K4]
         split
         · rfl
         · exact d _ _ _
   intro b x y
   cases x with
   |nil=>rfl
   |var n r=>exact h _ _ _ _ _
   |con tx ka r=>exact h _ _ _ _ _
theorem T1.hd_cons(t:T1)(r:Ty):(t.cons r).hd=t:=by cases t <;> rfl
theorem T1.tl_cons(t:T1)(r:Ty):(t.cons r).tl=r:=by cases t <;> rfl
theorem gU(k:Nat)(b:BP)(x:T1)(r y:Ty):Gt (k+1) b (x.cons r) y=K4 (Gt k) b (Am b x) (Am b y.hd) r y.tl:=by cases x <;> rfl
theorem wC:∀(k:Nat)(b:BP)(x y r q:Ty),x.len=y.len→Gt k b (x.app r) (y.app q)=Sk (λz=>Gt z.1 z.2 r q) (Gt k b x y):=by
 intro k
 induction k with
 |zero =>
   intro b x y r q h
   cases x with
   |nil =>
     have:y=.nil:=Ty.len0 (by simpa[Ty.len] using h.symm);subst this;rfl
   |var n x=>rfl
   |con tx ka x=>rfl
 |succ k d =>
   have G:∀b u v x y r q,x.len=y.len→K4 (Gt k) b u v (x.app r) (y.app q)=Sk (λz=>Gt z.1 z.2 r q) (K4 (Gt k) b u v x y):=by
     intro b u v x y r q h
     cases u with
     |var n =>
       cases v with
       |var m =>
         simp only[K4]
         cases (n==m) with
         |true=>simp only[if_true];exact d _ _ _ _ _ h
         |false =>
           simp only[Bool.false_eq_true,if_false]
           cases CC b n (.var m) with
           |error e=>rfl
           |ok J=>exact d _ _ _ _ _ h
       |con ty D =>
         simp only[K4]
         cases CC b n (.con ty D) with
         |error e=>rfl
         |ok J=>exact d _ _ _ _ _ h
     |con tx ka =>
       cases v with
       |var m =>
         simp only[K4]
         cases CC b m (.con tx ka) with
         |error e=>rfl
         |ok J=>exact d _ _ _ _ _ h
       |con ty D =>
         simp only[K4]
         split
         · rfl
         · rename_i K
           have L:ka.len=D.len:=by
             simp only[Bool.or_eq_true,not_or,bne_iff_ne,ne_eq,Decidable.not_not] at K;omega
           rw[← Ty.app_assoc,← Ty.app_assoc];exact d _ _ _ _ _ (by rw[Ty.len_app,Ty.len_app,L,h])
   intro b x y r q h
   cases x with
   |nil =>
     have:y=.nil:=Ty.len0 (by simpa[Ty.len] using h.symm);subst this;rfl
   |var n x =>
     obtain⟨u,y,rfl⟩:=Ty.cases1 y (by rw[← h];simp[Ty.len]);have F:(u.cons y).app q=u.cons (y.app q):=by cases u <;> rfl
     rw[F];show K4 (Gt k) b (Am b (.var n)) (Am b (u.cons (y.app q)).hd) (x.app r) (u.cons (y.app q)).tl=Sk _ (K4 (Gt k) b (Am b (.var n)) (Am b (u.cons y).hd) x (u.cons y).tl);rw[T1.hd_cons,T1.tl_cons,T1.hd_cons,T1.tl_cons];exact G _ _ _ _ _ _ _ (by rw[T1.len_cons] at h;simpa[Ty.len] using h)
   |con tx ka x =>
     obtain⟨u,y,rfl⟩:=Ty.cases1 y (by rw[← h];simp[Ty.len]);have F:(u.cons y).app q=u.cons (y.app q):=by cases u <;> rfl
     rw[F];show K4 (Gt k) b (.con tx ka) (Am b (u.cons (y.app q)).hd) (x.app r) (u.cons (y.app q)).tl=Sk _ (K4 (Gt k) b (.con tx ka) (Am b (u.cons y).hd) x (u.cons y).tl);rw[T1.hd_cons,T1.tl_cons,T1.hd_cons,T1.tl_cons];exact G _ _ _ _ _ _ _ (by rw[T1.len_cons] at h;simpa[Ty.len] using h)
theorem Sn(k:Nat)(b:BP)(x y:T1)(r q:Ty)(h:r.len=q.len):Gt k b (x.cons r) (y.cons q)=Sk (λz=>Gt z.1 z.2 r q) (Gt k b x.one y.one):=by
 rw[← T1.one_app,← T1.one_app];exact wC k b x.one y.one r q (by unfold T1.one;rw[T1.len_cons,T1.len_cons])
theorem Kc(k:Nat)(b:BP)(x y:T1):Gt (k+1) b x.one y.one=K4 (Gt k) b (Am b x) (Am b y) .nil .nil:=by
 unfold T1.one;rw[gU,T1.hd_cons,T1.tl_cons]
theorem fR(b:BP)(x y:T1):Gt 0 b x.one y.one=.error 4:=by cases x <;> rfl
variable {s:BP}
theorem N1(hw:mB s):∀(k:Nat)(t:T1)(n:Int),Et s t≤k→Hv s k t=.var n→CP s n=none
 |0,.con _ _,_,_,h=>by cases h
 |0,.var m,n,D,h=>by
   cases h
   cases d:CP s m with
   |none=>rfl
   |some t=>have:=NF hw d;omega
 |k+1,.con _ _,_,_,h=>by cases h
 |k+1,.var m,n,D,h=>by
   simp only[Hv] at h
   cases d:CP s m with
   |none=>rw[d] at h;cases h;exact d
   |some t =>
     rw[d] at h;exact N1 hw k t n (by have:=NF hw d;omega) h
theorem NL(hw:mB s){t:T1}{n:Int}(h:Am s t=.var n):CP s n=none:=N1 hw _ t n (by have:=Xa s t;omega) h
theorem Gq(hw:I0 s){t:T1}{n:Int}(h:Am s t=.var n):CP s n=none:=NL hw.v h
theorem UC(hw:mB s)(t:T1):Am s (Am s t)=Am s t:=by
 cases h:Am s t with
 |con tx k=>exact Gr s tx k
 |var n=>exact NX (NL hw h)
theorem P7(hw:I0 s)(t:T1):Am s (Am s t)=Am s t:=UC hw.v t
theorem WK{s':BP}(hw:I0 s){n:Int}{t:T1}(D:CP s n=none)(d:Am s t=t)(F:t.bnd)(h:CC s n t=.ok s'):I0 s':=by
 unfold CC at h
 split at h
 · split at h
   · rename_i J G
     cases h
     refine⟨D,λm hm=>?_,F,hw⟩;subst hm;refine⟨λe=>?_,Gq hw d⟩;have:=Jg s n 999 (.var m);rw[G,d,e] at this;simp[Xn] at this
   · cases h
 · cases h
def qA(P:Program)(d:FuncId)(T:tI)(k:Nat):Prop:=∀(w:wO)(f:Fq)(_:Vl w f)(sb mb:Nat)(s:BP)(fr:Int),Bz T sb mb s fr (10000-(k:Int)) w f→(f sb=0∧f mb=0)→sb≠mb→I0 s→k≤10000→∀(t u:T1)(a:oA)(c:Nat)(a2:oA)(c2:Nat),t.bnd→u.bnd→Al w f t.kids a c→Al w f u.kids a2 c2 →
 AX P d #[.pointer (some ⟨sb,0,none⟩),tV t a c,tV u a2 c2] w (EF (α:=Int×BP×Int) (λx=>.int .i64 x.1) (λx=>(∀z,Gt k s t.one u.one=.ok z→x.1=0∧x.2.1=z.2∧x.2.2=10000-(z.1:Int)∧I0 z.2)∧∀e,Gt k s t.one u.one=.error e→x.1=e∧e≠0) (MD sb mb) (λx=>Bz T sb mb x.2.1 fr x.2.2) (λ_=>[]) w f)
theorem un_le:∀(k:Nat)(b:BP)(x y:Ty)(z:Nat×BP),Gt k b x y=.ok z→z.1≤k:=by
 intro k
 induction k with
 |zero=>intro b x y z h;cases x <;> cases h;exact Nat.le_refl _
 |succ k D =>
   have d:∀b u v r q z,K4 (Gt k) b u v r q=.ok z→z.1≤k:=by
     intro b u v r q z h;unfold K4 at h
     repeat' split at h
     all_goals first|exact D _ _ _ _ h|cases h
   intro b x y z h
   cases x with
   |nil=>cases h;exact Nat.le_refl _
   |var n r=>have:=d _ _ _ _ _ _ h;omega
   |con tx ka r=>have:=d _ _ _ _ _ _ h;omega
end Go.SP
namespace Go.SP
variable {s:BP}
theorem Wh{n:Int}{t:T1}{e:Int}(h:CC s n t=.error e):e≠0:=by
 unfold CC at h
 split at h
 · split at h
   · cases h
   · cases h;decide
 · cases h;decide
end Go.SP
namespace Go.SP
open Go.SW Go.RowKit
theorem G4(s:BP)(k:Nat):Bg s k .nil=.nil:=by cases k <;> rfl
variable {s:BP}{j k:Nat}
theorem Py:∀(k:Nat)(x:Ty)(j:Nat),Bu s k x=some j→∀m,k-j≤m→Bg s m x=Bg s k x:=by
 intro k
 induction k using Nat.strongRecOn with
 |_ k L =>
   intro x j h m hm
   have key:∀(F d:Nat)(D r:Ty),F<k→Bu s F (D.app r)=some j→F-j≤d→Bg s d D=Bg s F D∧Bg s d r=Bg s F r:=by
     intro F d D r Q G U;rw[Jh] at G
     cases J:Bu s F D with
     |none=>rw[J] at G;cases G
     |some j1 =>
       rw[J] at G;have G:Bu s j1 r=some j:=G;have W:=Fv s _ _ _ J;have Y:=Fv s _ _ _ G;exact⟨L F Q D j1 J d oM,(L j1 oM r j G d oM).trans (L j1 oM r j G F oM).symm⟩
   cases x with
   |nil=>rw[G4,G4]
   |var n r =>
     cases k with
     |zero=>cases h
     |succ k =>
       simp only[Bu] at h
       cases K:Am s (.var n) with
       |var q =>
         rw[K] at h;have O:=Fv s _ _ _ h;obtain⟨m,rfl⟩:∃d,m=d+1:=⟨m-1,oM⟩;simp only[Bg,K];rw[(key k m .nil r (by omega) h (by omega)).2]
       |con tx D =>
         rw[K] at h;have O:=Fv s _ _ _ h;obtain⟨m,rfl⟩:∃d,m=d+1:=⟨m-1,oM⟩;simp only[Bg,K];have:=key k m D r oM h oM;rw[this.1,this.2]
   |con tx D r =>
     cases k with
     |zero=>cases h
     |succ k =>
       simp only[Bu] at h;have O:=Fv s _ _ _ h;obtain⟨m,rfl⟩:∃d,m=d+1:=⟨m-1,oM⟩;simp only[Bg];have:=key k m D r oM h oM;rw[this.1,this.2]
theorem Oe(k:Nat)(t:T1):(Bg s (k+1) t.one).hd=(match Am s t with|.var m=>.var m|.con tx d=>.con tx (Bg s k d)):=by
 cases t with
 |var n =>
   simp only[T1.one,T1.cons,Bg]
   cases Am s (.var n) <;> rfl
 |con tx d=>rw[Gr];rfl
theorem Xz{t:T1}{r:Ty}{j2:Nat}(h:Bu s k t.one=some j)(D:Bu s j r=some j2):Bg s k (t.cons r)=(Bg s k t.one).hd.cons (Bg s j r):=by
 cases k with
 |zero=>rw[KH] at h;cases h
 |succ k =>
   have G:j≤k:=by rw[J3] at h;exact Fv s _ _ _ h
   have d:=Py j r j2 D k oM;rw[Oe]
   cases t with
   |var n =>
     simp only[T1.cons,Bg]
     cases Am s (.var n) with
     |var m=>simp only[T1.cons];rw[d]
     |con tx F=>simp only[T1.cons];rw[d]
   |con tx F=>rw[Gr];simp only[T1.cons,Bg];rw[d]
theorem XQ(hw:I0 s):∀(k:Nat)(x:Ty),x.bnd→(Bg s k x).bnd∧(Bg s k x).len≤x.len:=by
 intro k
 induction k with
 |zero=>intro x _;cases x <;> exact⟨tQ,Nat.zero_le _⟩
 |succ k D =>
   intro x d
   cases x with
   |nil=>exact⟨tQ,Nat.le_refl _⟩
   |var n r =>
     have F:=C3 hw (t:=.var n) ⟨⟨Nat.zero_le _,Nat.zero_le _⟩,tQ⟩;have G:=D r d;simp only[Bg]
     cases K:Am s (.var n) with
     |var m=>exact⟨G.1,by simp only[Ty.len];omega⟩
     |con tx J =>
       rw[K] at F;have h:=D J F.2;exact⟨⟨⟨Nat.le_trans h.2 F.1.1,F.1.2⟩,h.1,G.1⟩,by simp only[Ty.len];omega⟩
   |con tx J r =>
     have G:=D r d.2.2;have h:=D J d.2.1;exact⟨⟨⟨Nat.le_trans h.2 d.1.1,d.1.2⟩,h.1,G.1⟩,by simp only[Bg,Ty.len];omega⟩
theorem GX{t:T1}(h:t.bnd):t.one.bnd:=T1.bnd_cons.2 ⟨h,tQ⟩
theorem eQ{x:Ty}(h:x.bnd):x.hd.bnd:=by
 cases x with
 |nil=>exact⟨⟨Nat.zero_le _,Nat.zero_le _⟩,tQ⟩
 |var n r=>exact⟨⟨Nat.zero_le _,Nat.zero_le _⟩,tQ⟩
 |con tx k r=>exact⟨h.1,h.2.1⟩
theorem dQ(hw:I0 s){t:T1}(h:t.bnd)(k:Nat):(Bg s k t.one).hd.bnd:=eQ (XQ hw k _ (GX h)).1
def pM(P:Program)(d:FuncId)(T:tI)(k:Nat):Prop:=∀(w:wO)(f:Fq)(_:Vl w f)(sb mb:Nat)(s:BP)(fr pr:Int),Bz T sb mb s fr pr w f→I0 s→∀(t:T1)(a:oA)(c j:Nat),t.bnd→Al w f t.kids a c→Bu s k t.one=some j →
 AX P d #[.pointer (some ⟨sb,0,none⟩),tV t a c] w (AU (α:=oA×Nat) (λx=>tV (Bg s k t.one).hd x.1 x.2) (λ_=>True) (λx=>[λw f=>Al w f (Bg s k t.one).hd.kids x.1 x.2]) w f)
end Go.SP
namespace Go.SP
open Go.SW Go.RowKit
variable {f:Fq}{i:Nat}{a:oA}{w:wO}
theorem Al.get{t:T1}:∀{k:Ty}{b off i:Nat},Ix w f k b off→k.get i=some t→∃ka kc,Cs w f b (off+i*4) (tC t ka kc)∧Al w f t.kids ka kc
 |k,b,off,0,h,d=>by
   obtain⟨t2,r,rfl⟩:∃t r,k=T1.cons t r:=by
     cases k with
     |nil=>cases d
     |var n r=>exact⟨.var n,r,C⟩
     |con tx q r=>exact⟨.con tx q,r,C⟩
   have e:t2=t:=by cases t2 <;> (cases d;rfl)
   subst e;obtain⟨b2,D,ka,kc,F,J,K,_⟩:=BY.head (a:=some ⟨b,off,none⟩) (i:=0) (.inr ⟨b,off,C,by simpa using h⟩)
   cases F
   exact⟨ka,kc,by simpa using J,K⟩
 |k,b,off,i+1,h,d=>by
   obtain⟨t2,r,rfl⟩:∃t r,k=T1.cons t r:=by
     cases k with
     |nil=>cases d
     |var n r=>exact⟨.var n,r,C⟩
     |con tx q r=>exact⟨.con tx q,r,C⟩
   have e:r.get i=some t:=by cases t2 <;> exact d
   obtain⟨b2,D,ka,kc,F,_,_,L⟩:=BY.head (a:=some ⟨b,off,none⟩) (i:=0) (.inr ⟨b,off,C,by simpa using h⟩);rcases L with rfl|⟨b3,G,O,Q⟩
   · cases e
   · cases O
     obtain⟨ka,kc,U,W⟩:=Al.get Q e;exact⟨ka,kc,by rw[show off+(i+1)*4=off+(0+1)*4+i*4 by omega];exact U,W⟩
theorem Al.nth{t:T1}{k:Ty}{c:Nat}(h:Al w f k a c)(d:k.get i=some t):∃b off ka kc,a=some ⟨b,off,none⟩∧Cs w f b (off+i*4) (tC t ka kc)∧Al w f t.kids ka kc:=by
 rcases h.2 with rfl|⟨b,off,D,F⟩
 · cases d
 · obtain⟨ka,kc,G,J⟩:=Al.get F d
   exact⟨b,off,ka,kc,D,G,J⟩
theorem HV{t:T1}:∀{k:Ty}{i:Nat},k.bnd→k.get i=some t→t.bnd
 |.nil,_,_,h=>by cases h
 |.var n r,0,_,h=>by cases h;exact⟨⟨Nat.zero_le _,Nat.zero_le _⟩,tQ⟩
 |.con tx q r,0,d,h=>by cases h;exact⟨d.1,d.2.1⟩
 |.var n r,i+1,d,h=>HV (k:=r) d h
 |.con tx q r,i+1,d,h=>HV (k:=r) d.2.2 h
theorem II{k:Ty}(h:i<k.len):∃t,k.get i=some t:=by
 induction k generalizing i with
 |nil=>simp[Ty.len] at h
 |var n r d=>cases i with
   |zero=>exact⟨_,C⟩
   |succ i=>exact d (by simp only[Ty.len] at h;omega)
 |con tx q r _ d=>cases i with
   |zero=>exact⟨_,C⟩
   |succ i=>exact d (by simp only[Ty.len] at h;omega)
theorem bZ{k:Ty}(h:k.len≤i):k.get i=none:=by
 induction k generalizing i with
 |nil=>rfl
 |var n r d=>cases i with
   |zero=>simp[Ty.len] at h
   |succ i=>exact d (by simp only[Ty.len] at h;omega)
 |con tx q r _ d=>cases i with
   |zero=>simp[Ty.len] at h
   |succ i=>exact d (by simp only[Ty.len] at h;omega)
theorem Xu(l:List Int)(y:Ty)(t:T1)(r:Ty):Ev l y (t.cons r)=(Dj t l y).cons (Ev l y r):=by
 cases t with
 |var n =>
   simp only[T1.cons,Ev,Dj,T1.one]
   cases (D6 l n).bind y.get with
   |none=>rfl
   |some t=>cases t <;> rfl
 |con tx k=>rfl
theorem Jl{l:List Int}{y:Ty}(h:y.bnd):∀x:Ty,x.bnd→(Ev l y x).bnd∧(Ev l y x).len=x.len
 |.nil,_=>⟨tQ,C⟩
 |.var n r,d=>by
   have D:=Jl (l:=l) h r d;simp only[Ev]
   cases G:(D6 l n).bind y.get with
   |none=>exact⟨D.1,by simp only[Ty.len];omega⟩
   |some t =>
     obtain⟨i,_,J⟩:=Option.bind_eq_some_iff.1 G;exact⟨T1.bnd_cons.2 ⟨HV h J,D.1⟩,by rw[T1.len_cons];simp only[Ty.len];omega⟩
 |.con tx k r,d=>by
   have D:=Jl (l:=l) h r d.2.2;have F:=Jl (l:=l) h k d.2.1;exact⟨⟨⟨by rw[F.2];exact d.1.1,d.1.2⟩,F.1,D.1⟩,by simp only[Ev,Ty.len];omega⟩
theorem N6{l:List Int}{y:Ty}(d:y.bnd){t:T1}(h:t.bnd):(Dj t l y).bnd:=eQ (Jl d _ (GX h)).1
theorem NO{l:List Int}{y:Ty}{n:Int}:Dj (.var n) l y=((D6 l n).bind y.get).getD (.var n):=by
 simp only[Dj,T1.one,T1.cons,Ev]
 cases (D6 l n).bind y.get with
 |none=>rfl
 |some t=>cases t <;> rfl
theorem bM{l:List Int}{y:Ty}{tx:lU}{k:Ty}:Dj (.con tx k) l y=.con tx (Ev l y k):=rfl
def oN(P:Program)(d:FuncId)(m:Nat):Prop:=∀(w:wO)(f:Fq)(_:Vl w f)(l:List Int)(h:oA)(lc:Nat)(y:Ty)(D:oA)(F:Nat),l.length≤1000000→y.len≤200000→y.bnd→Cg w f l h lc→Al w f y D F→∀(t:T1)(a:oA)(c:Nat),t.kids.size<m→t.bnd→Al w f t.kids a c →
 AX P d #[tV t a c,.slice h l.length lc,.slice D y.len F] w (AU (α:=oA×Nat) (λx=>tV (Dj t l y) x.1 x.2) (λ_=>True) (λx=>[λw f=>Al w f (Dj t l y).kids x.1 x.2]) w f)
end Go.SP
namespace Go.SW
open Go.RowKit
section
variable{X:Cx}{w w':wO}{f f':Fq}{H:List HB}{R:List RB}{B:List FB}{Fs:List (wO→Fq→Prop)}
variable {I':wO→Fq→Prop}
theorem AO.callJ{MI':Nat→Prop}(h:AO X w f H R B Fs)(he:C9 X.MI w f w' f')(L:I' w' f')(J:ED MI' I')(F:∀b,MI' b→X.MI b∨(w.heap.size≤b∧b<w'.heap.size∧f' b=0)):AO {X with MI:=MI',I:=I' } w' f' H R B Fs :=
 have G:AO {X with I:=λ_ _=>True} w' f' H R B Fs:=h.callI he tQ (λ_ _ _ _ _ _ _=>trivial)
 {G with
   res:=L,stab:=J,
   mi:=λb D=>by
     rcases F b D with D|⟨K,O,U⟩
     · exact G.mi b D
     · exact⟨O,U,.inl (Nat.le_trans h.stp.size K)⟩,
   own:=λb D=>⟨(G.own b D).1,(G.own b D).2.1,λhm=>by
     rcases F b hm with hm|⟨K,_,_⟩
     · exact (G.own b D).2.2 hm
     · exact Nat.lt_irrefl _ (Nat.lt_of_lt_of_le (h.lt D) K)⟩}
end
def Ny{α:Type}(val:α→Value)(q:α→Prop)(M:Nat→Prop)(MI':α→Nat→Prop)(I':α→wO→Fq→Prop)(F':α→List (wO→Fq→Prop))(w:wO)(f:Fq)(v:Value)(w':wO):Prop:=∃x f',v=val x∧q x∧C9 M w f w' f'∧(∀b,MI' x b→M b∨(w.heap.size≤b∧b<w'.heap.size∧f' b=0))∧I' x w' f'∧AR (F' x) w' f'
section
variable{P:Program}{n:Nat}{Q:AV}{ds:List Deferred}{X:Cx}{R:List RB}{B:List FB}{Fs:List (wO→Fq→Prop)}{fs:List Fr}{σ:Ba}{H:List HB}
variable{all r:List Oper}{ty T:tI}{pos:String}{af:Array Edge}{g:Option (Nat×Bool)}{d:Nat}{x y:Operand}
variable {args:Array Value}{nw:Bool}{fid:FuncId}{XX:List PanicEntry→wO→Prop}{news xs zl:lV}{bytes cs k:Nat}{Ts e:tI}
theorem fN{op:Op}{α:Type}{val:α→Value}{q:α→Prop}{MI':α→Nat→Prop}{I':α→wO→Fq→Prop}{F':α→List (wO→Fq→Prop)}
   (J:gd all σ g=some true) (hd:Nat.blt d n=true) (he:∀w,Enters P σ op ty w fid args)
   (K:∀w f,AO X w f H R B Fs→BV P fid args w (Ny val q X.MI MI' I' F' w f) XX) (D:∀x,ED (MI' x) (I' x)) (hm:∀x,Au (F' x))
   (L:∀w f c w',AO X w f H R B Fs→XX c w'→Q.p c σ ds w')
   (h:∀x,q x→A1 P n Q ds {X with MI:=MI' x,I:=I' x} R B (F' x++Fs) (.ops all r) fs (AI σ d (val x)) H):A1 P n Q ds X R B Fs (.ops all (⟨some d,op,ty,pos,af,g⟩::r)) fs σ H:=λw f F=>by
 refine Bh J (Cc hd (he w) (K w f F) ?_ ?_)
 · rintro v w' ⟨x,f',rfl,O,U,G,W,Y⟩
   exact h x O w' f' ((F.callJ U W (D x) G).more (B':=[]) (λ_ h=>by cases h) Y.mem (hm x).mem)
 · intro c w' Z
   rw[M0];exact L w f c w' F Z
theorem YS{size:Nat}{a:oA}{c src:Nat}{MI':oA→Nat→Prop}{I':oA→Nat→wO→Fq→Prop}(j:Nat)(hg:gd all σ g=some true)(hd:Nat.blt d n=true)(hT:Jy P T=some (e,size,bytes,zl))(L:Nat.beq zl.length size=true)(O:Nat.blt 0 size=true)
   (hs:ev σ x=some (.slice a k c)) (hx:ev σ y=some (.slice (some ⟨src,0,none⟩) 1 cs)) (hH:G9 H j=some ⟨src,news,Ts,nw⟩) (hl:Nat.beq news.length size=true) (h1:MB news=true) (U:(k+1)*bytes≤140737488355328) (W:k+1≤9223372036854775807)
   (J:∀w f,X.I w f→BQ w e size a c k xs) (K:∀b,rb a=some b→X.MI b) (Y:∀a' b,MI' a' b→X.MI b∨rb a'=some b) (hI:∀w f w' a' c',X.I w f→AO X w f H R B Fs→BQ w' e size a' c' (k+1) (xs++news)→FE a w a' w'→I' a' c' w' f) (Z:∀a' c',ED (MI' a') (I' a' c'))
   (h:∀a' c',A1 P n Q ds {X with MI:=MI' a',I:=I' a' c' } R B Fs (.ops all r) fs (AI σ d (.slice a' (k+1) c')) H) :
   A1 P n Q ds X R B Fs (.ops all (⟨some d,.call {callee:=.builtin .append,args:=#[x,y],argTypes:=#[T,T]},ty,pos,af,g⟩::r)) fs σ H:=λw f G =>
 Bh hg (Cm hd hT L O hs hx (J w f G.res) (G.blk _ (BD hH)) hl h1 U W λa' c' w' hr F=>h a' c' w' f (G.callJ ⟨⟨F.os,F.tape,F.output,F.size,λb D hm=>F.block b D λe=>hm (K b e.symm)⟩,λ_ _=>C,λb D=>G.val b (Nat.le_trans F.size D)⟩ (hI w f w' a' c' G.res G hr F) (Z a' c') λb D=>by
   rcases Y a' b D with D|D
   · exact .inl D
   · rcases F.own with ho|ho
     · exact .inl (K b (ho.symm.trans D))
     · have e:b=w.heap.size:=Option.some.inj (D.symm.trans ho)
       subst e;exact .inr ⟨Nat.le_refl _,hr.lt D,G.val _ (Nat.le_refl _)⟩))
end
variable {b:Nat}{M:Nat→Prop}
theorem C9.done{w w':wO}{f f':Fq}(h:C9 M w f w' f')(F:w.heap.size≤b)(G:b<w'.heap.size)(n:Nat):C9 M w f w' (λk=>if k=b then n else f' k) :=
 ⟨h.stp,λk D=>by show (if k=b then n else f' k)=f k;rw[if_neg (by omega)];exact h.old k D,λk D=>by show (if k=b then n else f' k)=0;rw[if_neg (by omega)];exact h.val k D⟩
end Go.SW
namespace Go.SP
open Go.SW Go.RowKit
def GZ(l:List Int):List (Int×Value):=l.reverse.map λn=>(n,.bool true)
theorem QT(n:Int):∀l:List Int,Gu (l.map λn=>(n,Value.bool true)) n=if l.contains n then some (.bool true) else none
 | []=>rfl
 |k::l=>by
   have:=QT n l;simp only[List.map,Gu,List.contains_cons]
   by_cases h:n=k
   · subst h;simp
   · have e:(n==k)=false:=by simpa using h
     rw[e,this];simp
theorem UI(n:Int)(l:List Int):Gu (GZ l) n=if l.contains n then some (.bool true) else none:=by
 unfold GZ;rw[QT];simp
theorem SA:∀l:List Int,l.Nodup→M5 (l.map λn=>(n,Value.bool true))
 | [],_=>trivial
 |k::l,h=>by
   have D:=List.nodup_cons.1 h;refine⟨?_,SA l D.2⟩;rw[QT,if_neg];simpa using D.1
theorem KU{l:List Int}(h:l.Nodup):M5 (GZ l):=SA _ ((List.reverse_perm l).nodup_iff.2 h)
def ON(ob mb:Nat)(a:oA)(b:Nat):Prop:=b=ob∨b=mb∨rb a=some b
structure EJ(T:tI)(ob mb:Nat)(sl:Value)(lm:List Int)(a:oA)(c:Nat)(l:List Int)(w:wO)(f:Fq):Prop where
 blk:AS w ob [sl] T
 map:CW Ez w mb (GZ lm)
 row:BQ w 3 1 a c l.length (l.map λn=>.int .i64 n)
 ne:ob≠mb∧rb a≠some ob∧rb a≠some mb
 nd:lm.Nodup
theorem EJ.stab{T:tI}{ob mb:Nat}{sl:Value}{lm:List Int}{a:oA}{c:Nat}{l:List Int}:ED (ON ob mb a) (EJ T ob mb sl lm a c l):=λ_ _ _ _ h K D =>
 ⟨(D ob (.inl C)).trans h.blk,h.map.heap (D mb (.inr (.inl C))),⟨h.row.1,h.row.2.imp id λ⟨b,q,F,G,J⟩=>⟨b,q,F,(D b (.inr (.inr (by rw[F];rfl)))).trans G,J⟩⟩,h.ne,h.nd⟩
abbrev Q4(T:tI)(ob mb:Nat)(a:oA)(c:Nat)(l:List Int):wO→Fq→Prop:=EJ T ob mb (.slice a l.length c) l a c l
variable {b:Nat}{M:Nat→Prop}{w0:wO}
theorem EJ.lt{T:tI}{ob mb:Nat}{sl:Value}{lm:List Int}{a:oA}{c:Nat}{l:List Int}{w:wO}{f:Fq}(h:EJ T ob mb sl lm a c l w f)(D:ON ob mb a b):b<w.heap.size:=by
 rcases D with rfl|rfl|D
 · exact h.blk.lt
 · exact h.map.lt
 · exact h.row.lt D
theorem Yn(t:T1)(r:Ty)(l:List Int):CO (t.cons r) l=CO r (CO t.one l):=by cases t <;> rfl
theorem IT:∀(x:Ty)(l:List Int),(CO x l).length≤x.size+l.length
 |.nil,l=>by simp[CO]
 |.var n r,l=>by
   have:=IT r (if l.contains n then l else l++[n]);simp only[CO,Ty.size]
   split at this <;> simp_all <;> omega
 |.con tx k r,l=>by
   have h:=IT k l;have D:=IT r (CO k l);simp only[CO,Ty.size];omega
def oJ(P:Program)(fid:FuncId)(T:tI)(m:Nat):Prop:=∀(w:wO)(f:Fq)(_:Vl w f)(ob mb:Nat)(a:oA)(c:Nat)(l:List Int),Q4 T ob mb a c l w f→(∀b,ON ob mb a b→f b=0)→∀(t:T1)(h:oA)(D:Nat),t.kids.size<m→t.kids.size+1+l.length≤1000000→t.bnd→Al w f t.kids h D →
 AX P fid #[tV t h D,.map (some mb),.pointer (some ⟨ob,0,none⟩)] w (Ny (α:=oA×Nat) (λ_=>.tuple #[]) (λ_=>True) (ON ob mb a) (λx=>ON ob mb x.1) (λx=>Q4 T ob mb x.1 x.2 (CO t.one l)) (λ_=>[]) w f)
theorem EJ.int{T:tI}{ob mb:Nat}{sl:Value}{lm:List Int}{a:oA}{c:Nat}{l:List Int}{w:wO}{f0 f:Fq}(h:EJ T ob mb sl lm a c l w f)(J:C9 M w0 f0 w f)(L:∀b,rb a=some b→w0.heap.size≤b):∃f',C9 M w0 f0 w f'∧Cg w f' l a c:=by
 obtain⟨W,⟨F,Y,hz⟩|⟨b,q,F,K,G,_,Z,O⟩⟩:=h.row
 · exact⟨f,J,oM,.inl (by cases l with|nil=>rfl|cons _ _=>simp at hz)⟩
 · refine⟨λk=>if k=b then l.length else f k,J.done (L b (by rw[F];rfl)) K.lt _,G,.inr ⟨b,0,F,λj v D=>?_⟩⟩
   have U:j<l.length:=by have:=(List.getElem?_eq_some_iff.1 D).1;simpa using this
   refine⟨?_,?_⟩
   · show 0+j<(if b=b then l.length else f b)
     rw[if_pos C];omega
   · rw[Nat.zero_add,K.cell]
     rw[← O,List.getElem?_take] at D
     split at D
     · exact D
     · cases D
end Go.SP
namespace Go.SP
open Go.SW Go.RowKit
theorem WM(n:Int)(l:List Int):(Gu (GZ l) n).getD (.bool false)=.bool (l.contains n):=by
 rw[UI];cases l.contains n <;> rfl
theorem WQ{n:Int}{l:List Int}(h:l.contains n=false):Gu (GZ l) n=none:=by rw[UI,h];rfl
theorem PT(n:Int)(l:List Int):GZ (l++[n])=(n,.bool true)::GZ l:=by simp[GZ]
section
variable{T:tI}{ob mb:Nat}{sl sl':Value}{lm l:List Int}{a a':oA}{c c':Nat}{w w':wO}{f f':Fq}{n:Int}
theorem EJ.app(h:EJ T ob mb sl lm a c l w f)(F:BQ w' 3 1 a' c' (l.length+1) (l.map (λn=>Value.int .i64 n)++[.int .i64 n]))(D:FE a w a' w'):EJ T ob mb sl lm a' c' (l++[n]) w' f' where
 blk:=h.blk.grow D (λe=>h.ne.2.1 e.symm)
 map:=h.map.heap (D.block mb h.map.lt (λe=>h.ne.2.2 e.symm))
 row:=by simpa using F
 ne:=⟨h.ne.1,λe=>D.own.elim (λo=>h.ne.2.1 (o.symm.trans e)) (λo=>absurd h.blk.lt (by rw[← Option.some.inj (o.symm.trans e)];exact Nat.lt_irrefl _)),λe=>D.own.elim (λo=>h.ne.2.2 (o.symm.trans e)) (λo=>absurd h.map.lt (by rw[← Option.some.inj (o.symm.trans e)];exact Nat.lt_irrefl _))⟩
 nd:=h.nd
variable {xs:lV}{b:Nat}{e:tI}
theorem BQ.chgB{size:Nat}{a:oA}{c n:Nat}(h:BQ w e size a c n xs)(G:Hc b w w')(D:rb a≠some b):BQ w' e size a c n xs :=
 ⟨h.1,h.2.imp id λ⟨g,q,F,J,K⟩=>⟨g,q,F,(G.block g (λe=>D (by rw[F,← e];rfl))).trans J,K⟩⟩
theorem EJ.mapped{q:List Int}(h:EJ T ob mb sl l a c q w f)(D:Hc mb w w')(hm:CW Ez w' mb ((n,.bool true)::GZ l))(G:l.contains n=false):EJ T ob mb sl (l++[n]) a c q w' f' where
 blk:=(D.block ob h.ne.1).trans h.blk
 map:=by rw[PT];exact hm
 row:=BQ.chgB h.row D h.ne.2.2
 ne:=h.ne
 nd:=by
   have J:n∉l:=by simpa using G
   exact List.nodup_append.2 ⟨h.nd,List.nodup_cons.2 ⟨by simp,List.nodup_nil⟩,λx K y F e=>by simp at F;subst F;subst e;exact J K⟩
theorem EJ.store(h:EJ T ob mb sl lm a c l w f)(D:Hc ob w w')(F:AS w' ob [sl'] T):EJ T ob mb sl' lm a c l w' f' where
 blk:=F
 map:=h.map.heap (D.block mb (λe=>h.ne.1 e.symm))
 row:=BQ.chgB h.row D h.ne.2.1
 ne:=h.ne
 nd:=h.nd
end
variable {b:Nat}
theorem ON.or{ob mb:Nat}{a a':oA}(h:ON ob mb a' b):ON ob mb a b∨rb a'=some b:=h.elim (λh=>.inl (.inl h)) λh=>h.elim (λh=>.inl (.inr (.inl h))) .inr
theorem T6(n:Int)(l:List Int):CO (T1.var n).one l=if l.contains n then l else l++[n]:=rfl
theorem ZS(tx:lU)(k:Ty)(l:List Int):CO (T1.con tx k).one l=CO k l:=rfl
end Go.SP
namespace Go.SW
open Go.RowKit
section
variable{P:Program}{σ:Ba}{w:wO}{ty T T':tI}{x y:Operand}
variable {t t':tI}
theorem iD{k:IntKind}{a b:Int}(m:Int)(D:ev σ x=some (.int k a))(F:ev σ y=some (.int k b))(G:b≠0)(h:k.wrap (a.tdiv b)=m):AK P σ (.binOp .quo t x y t') ty w (.int k m) w :=
 λJ _ _ _ _ d=>by simp[execOp,d _ _ D,d _ _ F,eqGuard,binOp,Op.intDiv,G,h]
theorem mZ{k:IntKind}{a b:Int}(m:Int)(D:ev σ x=some (.int k a))(F:ev σ y=some (.int k b))(G:b≠0)(h:a.tmod b=m):AK P σ (.binOp .rem t x y t') ty w (.int k m) w :=
 λJ _ _ _ _ d=>by simp[execOp,d _ _ D,d _ _ F,eqGuard,binOp,Op.intDiv,G,h]
theorem vU{k:IntKind}{n:Int}{l:lU}(J:ev σ x=some (.int k n))(D:vZ P T T'=true)(h:Utf8.encode n=⟨l.toArray⟩):AK P σ (.convert T T' x) ty w (S l) w:=by
 unfold vZ at D
 cases F:P.underlying T with
 |none=>rw[F] at D;cases D
 |some s =>
   cases hd:P.underlying T' with
   |none=>rw[F,hd] at D;cases D
   |some d =>
     rw[F,hd] at D
     cases d <;> simp at D
     exact λK _ _ _ _ G=>by
       simp[execOp,G _ _ J,convert,run_underlying F,run_underlying hd,Conv.intToString,h,S]
end
variable {Q:AV}{X:Cx}{f:Fq}{Fs:List (wO→Fq→Prop)}{ds:List Deferred}{B:List FB}{fs:List Fr}{H H':List HB}{l:lV}{b i n:Nat}{w':wO}
theorem AO.toRow{w:wO}{R:List RB}{T:tI}(h:AO X w f H R B Fs)(W:G9 H i=some ⟨b,l,T,true⟩)(hs:JD H i=some H')(size c:Nat)(Y:l.length=c*size)(hc:c≤maxLen):AO X w f H' (⟨T,size,some ⟨b,0,none⟩,c,c,l⟩::R) B Fs:=by
 have J:AS w b l T:=h.blk _ (BD W);have K:b∈Cf H R:=List.mem_append.2 (.inl (List.mem_map.2 ⟨_,BD W,C⟩));have O:=h.own b K;have D:=La hs;have Z:(H.map HB.b++I6 R).Nodup:=h.nd;have hbR:b∉Cf H' R:=Lz (L:=I6 R) W hs Z;have U:(Cf H' R).Sublist (Cf H R):=List.Sublist.append (D.map _) (List.Sublist.refl _)
 have hp:∀k,k∈Cf H' (⟨T,size,some ⟨b,0,none⟩,c,c,l⟩::R)→k=b∨k∈Cf H' R:=λk F=>by
   have d:k∈H'.map HB.b++b::R.filterMap (λr=>rb r.a):=F;rcases List.mem_append.1 d with d | d
   · exact .inr (List.mem_append.2 (.inl d))
   · rcases List.mem_cons.1 d with rfl|d
     · exact .inl C
     · exact .inr (List.mem_append.2 (.inr d))
 exact {h with
         blk:=λe he=>h.blk e (D.subset he),
         row:=λr G=>by
           rcases List.mem_cons.1 G with rfl|G
           · exact⟨Y,.inr ⟨b,l,C,J,Nat.le_refl _,hc,Y,by rw[← Y];exact List.take_length⟩⟩
           · exact h.row r G,
         nd:=by
           show (H'.map HB.b++b::R.filterMap (λr=>rb r.a)).Nodup;exact List.perm_middle.nodup_iff.2 (List.nodup_cons.2 ⟨hbR,U.nodup h.nd⟩),
         own:=λk F=>by
           rcases hp k F with rfl|F
           · exact O
           · exact h.own k (U.subset F),
         hnw:=λe he=>h.hnw e (D.subset he),
         rnw:=λr G k F=>by
           rcases List.mem_cons.1 G with rfl|G
           · cases F;exact h.hnw _ (BD W) C
           · exact h.rnw r G k F}
theorem yT{P:Program}{R:List RB}{σ:Ba}{k:K3}{T:tI}(i size c:Nat)(d:G9 H i=some ⟨b,l,T,true⟩)(D:JD H i=some H')(F:Nat.beq l.length (c*size)=true)(G:c≤maxLen)
   (h:A1 P n Q ds X (⟨T,size,some ⟨b,0,none⟩,c,c,l⟩::R) B Fs k fs σ H'):A1 P n Q ds X R B Fs k fs σ H:=λw f J=>h w f (J.toRow d D size c (Nat.eq_of_beq_eq_true F) G)
theorem Below.exm{w:wO}(h:Below w.heap.size w w')(d:∀b,w.heap.size≤b→f b=0)(M:Nat→Prop):C9 M w f w' f:=⟨⟨h.os,h.tape,h.output,h.size,λk D _=>h.block k D⟩,λ_ _=>C,λb F=>d b (Nat.le_trans h.size F)⟩
end Go.SW
namespace Go.SP
open Go.SW Go.RowKit
def OQ(vs:List Int)(t:T1):lU:=(D8 vs t.one).drop 1
theorem LI(vs:List Int)(t:T1)(r:Ty):D8 vs (t.cons r)=32::(OQ vs t++D8 vs r):=by
 cases t with
 |var n=>simp[OQ,T1.one,T1.cons,D8]
 |con tx k=>cases k <;> simp[OQ,T1.one,T1.cons,D8]
theorem Zp(vs:List Int)(n:Int):OQ vs (.var n)=(match D6 vs n with|some i=>DH i|none=>[]):=by
 simp[OQ,T1.one,T1.cons,D8] <;> cases D6 vs n <;> rfl
theorem VN(vs:List Int)(tx:lU):OQ vs (.con tx .nil)=tx:=by simp[OQ,T1.one,T1.cons,D8]
theorem bP(vs:List Int)(tx:lU)(k:Ty)(h:k.len≠0):OQ vs (.con tx k)=[40]++(tx++D8 vs k)++[41]:=by
 cases k with
 |nil=>exact absurd C h
 |var n r=>simp[OQ,T1.one,T1.cons,D8]
 |con tx k r=>simp[OQ,T1.one,T1.cons,D8]
theorem Ul(s:lU)(l:List lU)(x:lU):Lib.joinTail s (l++[x])=Lib.joinTail s l++(s++x):=by simp[Lib.joinTail]
theorem O3:∀k n,(Vu k n).length≤k
 |0,_=>Nat.le_refl _
 |k+1,n=>by
   unfold Vu
   split
   · simp
   · have:=O3 k (n / 10);simp;omega
theorem V5(i:Nat):(DH i).length≤22:=by
 unfold DH
 split
 · simp
 · have:=O3 20 (i / 26);simp;omega
theorem KK(vs:List Int):∀x:Ty,x.bnd→(D8 vs x).length≤x.size*1000100
 |.nil,_=>by simp[D8]
 |.var n r,h=>by
   have F:=KK vs r h;rw[show Ty.var n r=(T1.var n).cons r from C,LI,T1.size_cons,Zp]
   have d:(match D6 vs n with|some i=>DH i|none=>[]).length≤22:=by
     cases D6 vs n with
     |none=>simp
     |some i=>exact V5 i
   simp only[List.length_cons,List.length_append,T1.kids,Ty.size] at d ⊢;omega
 |.con tx k r,h=>by
   have F:=KK vs r h.2.2;have d:=KK vs k h.2.1;have J:=h.1.2;rw[show Ty.con tx k r=(T1.con tx k).cons r from C,LI,T1.size_cons]
   have G:(OQ vs (.con tx k)).length≤tx.length+k.size*1000100+2:=by
     by_cases D:k.len=0
     · obtain rfl:=Ty.len0 D
       rw[VN];exact Nat.le_trans (Nat.le_add_right _ _) (Nat.le_add_right _ _)
     · rw[bP vs tx k D];simp;omega
   simp only[List.length_cons,List.length_append,T1.kids] at G ⊢;omega
theorem UL(i:Nat):Utf8.encode (97+((i % 26:Nat):Int))=⟨[UInt8.ofNat (97+i % 26)].toArray⟩:=by
 have h:∀j,j<26→Utf8.encode (97+((j:Nat):Int))=⟨[UInt8.ofNat (97+j)].toArray⟩:=dC;exact h _ (Nat.mod_lt _ oM)
theorem Qg:∀(k n:Nat),n<10 ^ (k+1)→Vu (k+1) n=Lib.decDigits n
 |0,n,h=>by
   have:n<10:=by simpa using h
   rw[Lib.decDigits,Vu,if_pos this,dif_pos this]
 |k+1,n,h=>by
   rw[Lib.decDigits,Vu]
   by_cases d:n<10
   · rw[if_pos d,dif_pos d]
   · rw[if_neg d,dif_neg d,Qg k (n / 10) (by rw[Nat.pow_succ] at h;omega)]
def LV(vs:List Int)(es:List (Int×Value)):Prop:=M5 es∧∀n,Gu es n=(D6 vs n).map λi=>S (DH i)
variable {es:List (Int×Value)}
theorem LV.get{vs:List Int}(h:LV vs es)(n:Int):(Gu es n).getD (S [])=S (OQ vs (.var n)):=by
 rw[h.2,Zp]
 cases D6 vs n <;> rfl
def oB(P:Program)(d:FuncId)(m:Nat):Prop:=∀(w:wO)(f:Fq)(_:Vl w f)(mb:Nat)(vs:List Int)(es:List (Int×Value)),CW Ez w mb es→LV vs es→∀(t:T1)(a:oA)(c:Nat),t.kids.size<m→t.kids.size≤1000000→t.bnd→Al w f t.kids a c →
 AX P d #[tV t a c,.map (some mb)] w (AU (α:=Unit) (λ_=>S (OQ vs t)) (λ_=>True) (λ_=>[]) w f)
end Go.SP
namespace Go.SP
open Go.SW Go.RowKit
theorem Sc(x n:Int):∀l:List Int,D6 (l++[n]) x=(match D6 l x with|some j=>some j|none=>if n==x then some l.length else none)
 | []=>by simp[D6]
 |k::l=>by
   have h:=Sc x n l;simp only[List.cons_append,D6]
   by_cases d:(k==x)=true
   · rw[if_pos d,if_pos d]
   · rw[if_neg d,if_neg d,h]
     cases D6 l x with
     |some j=>rfl
     |none=>by_cases D:(n==x)=true <;> simp[D]
theorem LV.nil:LV [] []:=⟨tQ,λ_=>C⟩
variable {f:Fq}{es:List (Int×Value)}{l:lV}{b i m mb sb:Nat}
theorem LV.snoc{l:List Int}(h:LV l es){n:Int}(D:l.contains n=false):Gu es n=none∧LV (l++[n]) ((n,S (DH l.length))::es):=by
 have F:Gu es n=none:=by rw[h.2,NN D];rfl
 refine⟨F,⟨F,h.1⟩,λx=>?_⟩;rw[Sc];simp only[Gu]
 by_cases d:x=n
 · subst d;rw[NN D];simp
 · have G:(x==n)=false:=by simpa using d
   have J:(n==x)=false:=by simpa using λe:n=x=>d e.symm
   rw[G,J,h.2]
   cases D6 l x <;> simp
theorem HH:∀(x:Ty)(l:List Int),l.Nodup→(CO x l).Nodup
 |.nil,_,h=>h
 |.var n r,l,h=>by
   simp only[CO];apply HH r
   split
   · exact h
   · rename_i D
     have F:n∉l:=by simpa using D
     exact List.nodup_append.2 ⟨h,List.nodup_cons.2 ⟨by simp,List.nodup_nil⟩,λx G y d e=>by simp at d;subst d;subst e;exact F G⟩
 |.con tx k r,l,h=>HH r _ (HH k l h)
theorem U8{l:List Int}(h:l.Nodup){n:Int}(D:l[i]?=some n):(l.take i).contains n=false:=by
 have d:=(List.getElem?_eq_some_iff.1 D).1;have e:l=l.take i++l.drop i:=(List.take_append_drop i l).symm
 have hd:n∈l.drop i:=by
   rw[List.drop_eq_getElem_cons d,(List.getElem?_eq_some_iff.1 D).2];exact .head _
 rw[e] at h;have:=(List.nodup_append.1 h).2.2;have F:n∉l.take i:=λhm=>this n hm n hd C;simpa using F
theorem Gm(t:T1):(An t).length≤t.kids.size+1:=by
 have:=IT t.one [];have e:t.one.size=t.kids.size+0+1:=T1.size_cons t .nil;rw[e] at this;simpa[An] using this
theorem Bz.new{T:tI}{w:wO}(d:AS w sb [.map (some mb),.int .i64 0,.int .i64 0] T)(h:CW Ez w mb []):Bz T sb mb [] 0 0 w f:=⟨d,[],h,C⟩
theorem uQ{w:wO}{T:tI}(h:AS w b l T)(hm:CW Ez w m es):b≠m:=λe=>by
 subst e;obtain⟨es,c,d,_⟩:=hm;have D:=h.symm.trans d
 cases D
structure Ad where
 cb:Nat
 sb:Nat
 mb:Nat
 km:Nat
 dm:Nat
 rm:Nat
def Dk(A:Ad)(b:Nat):Prop:=b=A.cb∨b=A.sb∨b=A.mb∨b=A.km∨b=A.dm∨b=A.rm
structure Ad.ok(A:Ad):Prop where
 cs:A.cb≠A.sb
 cm:A.cb≠A.mb∧A.cb≠A.km∧A.cb≠A.dm∧A.cb≠A.rm
 sm:A.sb≠A.mb∧A.sb≠A.km∧A.sb≠A.dm∧A.sb≠A.rm
 mm:A.mb≠A.km∧A.mb≠A.dm∧A.mb≠A.rm∧A.km≠A.dm∧A.km≠A.rm∧A.dm≠A.rm
def mkC(m:Mk)(aa:oA)(ac:Nat)(oa:oA)(oc:Nat)(va:oA)(vc:Nat):lV:=.slice aa m.args.len ac::(tC m.out oa oc++[.slice va m.vars.length vc])
def D0(w:wO)(f:Fq):List (lU×Mk)→List (lU×Value)→Prop
 | [],es=>es=[]
 |(k,m)::l,es=>∃aa ac oa oc va vc h,es=(k,.agg (mkC m aa ac oa oc va vc).toArray)::h∧Al w f m.args aa ac∧Al w f m.out.kids oa oc∧Cg w f m.vars va vc∧D0 w f l h
variable {A:Ad}{s:BP}{f f':Fq}{b:Nat}{a:oA}{TS:tI}{w w':wO}
theorem D0.mono(F:HF w f w' f'):∀(l:List (lU×Mk))(es:List (lU×Value)),D0 w f l es→D0 w' f' l es
 | [],_,h=>h
 |(_,_)::l,_,⟨aa,ac,oa,oc,va,vc,D,G,J,K,L,O⟩=>⟨aa,ac,oa,oc,va,vc,D,G,Al.mono _ _ _ _ J F,Al.mono _ _ _ _ K F,Cg.mono _ _ _ _ L F,D0.mono F l D O⟩
theorem D0.look{n:lU}:∀{l:List (lU×Mk)}{es:List (lU×Value)},D0 w f l es→(Eu l n=none→Gu es n=none)∧∀m,Eu l n=some m→∃aa ac oa oc va vc,Gu es n=some (.agg (mkC m aa ac oa oc va vc).toArray)∧Al w f m.args aa ac∧Al w f m.out.kids oa oc∧Cg w f m.vars va vc
 | [],es,h=>by
   have h:es=[]:=h;subst h;exact⟨λ_=>C,λt h=>by cases h⟩
 |(k,m)::l,es,⟨aa,ac,oa,oc,va,vc,F,G,J,K,L,O⟩=>by
   subst G;have U:=D0.look (n:=n) O;simp only[Eu,Gu]
   by_cases D:k=n
   · subst D
     refine⟨λh=>by simp at h,λt' h=>?_⟩;simp at h;subst h;exact⟨aa,ac,oa,oc,va,vc,by simp,J,K,L⟩
   · have W:(k==n)=false:=by simpa using D
     have Y:(n==k)=false:=by simpa using λe:n=k=>D e.symm
     rw[W,Y];simpa using U
structure AN(T TS:tI)(A:Ad)(s:CS)(w:wO)(f:Fq):Prop where
 blk:AS w A.cb [.pointer (some ⟨A.sb,0,none⟩),.map (some A.km),.map (some A.dm),.map (some A.rm),.int .i64 s.vars] T
 sol:∃pr,Bz TS A.sb A.mb s.sol s.fresh pr w f
 cons:∃es,CW JB w A.km es∧D0 w f s.cons es
 datas:CW JB w A.dm (s.datas.map λp=>(p.1,.int .i64 p.2))
 roots:CW JB w A.rm (s.roots.map λk=>(k,.bool true))
theorem AN.stab{T:tI}{s:CS}:ED (Dk A) (AN T TS A s):=λw f w' f' h F D =>
 ⟨(
   D _ (.inl C)).trans h.blk,let ⟨pr,G⟩:=h.sol;⟨pr,Bz.stab (MI:=MD A.sb A.mb) (.inl C) (.inr C) _ _ _ _ G F λb hm=>D b (hm.elim (λe=>.inr (.inl e)) λe=>.inr (.inr (.inl e)))⟩,
   let ⟨es,J,K⟩:=h.cons;⟨es,J.heap (D _ (.inr (.inr (.inr (.inl C))))),D0.mono F _ _ K⟩,h.datas.heap (D _ (.inr (.inr (.inr (.inr (.inl C)))))),h.roots.heap (D _ (.inr (.inr (.inr (.inr (.inr C))))))⟩
theorem AN.lt{T:tI}{s:CS}(h:AN T TS A s w f)(D:Dk A b):b<w.heap.size:=by
 rcases D with rfl|rfl|rfl|rfl|rfl|rfl
 · exact h.blk.lt
 · obtain⟨_,F⟩:=h.sol;exact F.1.lt
 · obtain⟨_,_,_,hm,_⟩:=h.sol;exact hm.lt
 · obtain⟨_,hm,_⟩:=h.cons;exact hm.lt
 · exact h.datas.lt
 · exact h.roots.lt
structure Im(s:CS):Prop where
 sol:I0 s.sol
 cons:∀k m,Eu s.cons k=some m→m.args.len≤200000∧m.args.bnd∧m.out.bnd∧m.vars.length≤200000
 dc:M5 (s.cons.map λp=>(p.1,Value.bool true))
 dd:M5 (s.datas.map λp=>(p.1,Value.int .i64 p.2))
 dr:M5 (s.roots.map λk=>(k,Value.bool true))
 fr:0≤s.fresh
def BC(w:wO)(f:Fq):BJ→oA→Prop
 | [],a=>a=none
 |b::e,a=>∃k h D va vc F,a=some ⟨k,0,none⟩∧Cs w f k 0 (S b.name::(tC b.t h D++[.slice va b.all.length vc,.pointer F]))∧Al w f b.t.kids h D∧Cg w f b.all va vc∧BC w f e F
theorem BC.mono'(D:HF w f w' f'):∀(e:BJ)(a:oA),BC w f e a→BC w' f' e a
 | [],_,h=>h
 |_::e,_,⟨k,G,J,va,vc,F,K,L,O,U,W⟩=>⟨k,G,J,va,vc,F,K,L.mono D,Al.mono _ _ _ _ O D,Cg.mono _ _ _ _ U D,BC.mono' D e F W⟩
theorem BC.mono{e:BJ}:EI (λw f=>BC w f e a):=λ_ _ _ _ h D=>BC.mono' D e a h
def JI(e:BJ):Prop:=∀b,b∈e→b.t.bnd∧b.all.length≤1000000
def trI(T:tI)(e:Er):List PanicEntry:=[{v:=.iface T (.agg #[.int .i64 e.1,.int .i64 e.2.1,.int .i64 e.2.2]),recovered:=false}]
def PanE(T:tI)(M:Nat→Prop)(q:Er→Prop)(w:wO)(f:Fq)(c:List PanicEntry)(w':wO):Prop:=∃er f',c=trI T er∧q er∧C9 M w f w' f'
abbrev XC(T TS:tI)(A:Ad)(s:CS)(w:wO)(f:Fq):Cx:=⟨Dk A,Dk A,AN T TS A s,w,f⟩
theorem Tq{T:tI}{s:CS}{Fs:List (wO→Fq→Prop)}(F:Vl w f)(h:AN T TS A s w f)(G:∀b,Dk A b→f b=0)(J:AR Fs w f)(hm:Au Fs):AO (XC T TS A s w f) w f [] [] [] Fs :=
 JF (M:=Dk A) F h AN.stab (λb D=>⟨h.lt D,G b D⟩) J hm
theorem Xc:∀(k:Nat)(x:Ty)(j:Nat),Bu s k x=some j→(Bg s k x).size+j≤k:=by
 intro k
 induction k using Nat.strongRecOn with
 |_ k L =>
   intro x j h
   have key:∀(D:Nat)(F r:Ty),D<k→Bu s D (F.app r)=some j→(Bg s D F).size+(Bg s D r).size+j≤D:=by
     intro D F r O G;rw[Jh] at G
     cases J:Bu s D F with
     |none=>rw[J] at G;cases G
     |some j1 =>
       rw[J] at G;have G:Bu s j1 r=some j:=G;have U:=Fv s _ _ _ J;have W:=L D O F j1 J;have Y:=L j1 oM r j G;rw[Py j1 r j G D (by omega)];omega
   cases x with
   |nil=>rw[G4];cases k <;> (cases h;simp[Ty.size])
   |var n r =>
     cases k with
     |zero=>cases h
     |succ k =>
       simp only[Bu] at h
       cases K:Am s (.var n) with
       |var q =>
         rw[K] at h;have:=key k .nil r oM h;simp only[Bg,K,Ty.size];rw[G4] at this;simp only[Ty.size] at this;omega
       |con tx F =>
         rw[K] at h;have:=key k F r oM h;simp only[Bg,K,Ty.size];omega
   |con tx F r =>
     cases k with
     |zero=>cases h
     |succ k =>
       simp only[Bu] at h;have:=key k F r oM h;simp only[Bg,Ty.size];omega
theorem Zx(s:BP)(k:Nat)(t:T1):Bg s (k+1) t.one=(Bg s (k+1) t.one).hd.one:=by
 cases t with
 |var n =>
   simp only[T1.one,T1.cons,Bg]
   cases Am s (.var n) <;> (simp only[G4];rfl)
 |con tx h=>simp only[T1.one,T1.cons,Bg,G4];rfl
theorem Kl{t u:T1}(h:DC s t=some u):u.kids.size+1≤1000:=by
 unfold DC at h
 split at h
 · rename_i D
   rw[Hl,Fa] at D;obtain⟨j,F⟩:=Option.isSome_iff_exists.1 D;have J:=Xc 1000 t.one j F;have G:=Zx s 999 t
   cases h
   have K:(Bg s 1000 t.one).size=(Bg s 1000 t.one).hd.kids.size+0+1:=(congrArg Ty.size G).trans (T1.size_cons _ .nil);omega
 · cases h
theorem Mq(hw:I0 s){t u:T1}(D:t.bnd)(h:DC s t=some u):u.bnd:=by
 unfold DC at h
 split at h
 · cases h;exact dQ hw D 1000
 · cases h
end Go.SP
namespace Go.SW
open Go.RowKit Go.SP
variable {args:Array Value}{f f':Fq}{fid:FuncId}{M:Nat→Prop}{w w':wO}
theorem AO.exmI{X:Cx}{H:List HB}{R:List RB}{B:List FB}{Fs:List (wO→Fq→Prop)}(h:AO X w f H R B Fs)(D:∀b,M b→X.MI b)(he:C9 M w f w' f'):C9 X.M X.w0 X.f0 w' f' :=
 (h.callI (I':=λ_ _=>True) (he.mono D) tQ (λ_ _ _ _ _ _ _=>trivial)).exm
section
variable{P:Program}{n:Nat}{Q:AV}{ds:List Deferred}{X:Cx}{R:List RB}{B:List FB}{Fs:List (wO→Fq→Prop)}{fs:List Fr}{σ:Ba}{H:List HB}
variable{all r:List Oper}{ty T:tI}{pos:String}{af:Array Edge}{g:Option (Nat×Bool)}{d:Nat}
theorem XO{op:Op}{α:Type}{val:α→Value}{q:α→Prop}{I':α→wO→Fq→Prop}{F':α→List (wO→Fq→Prop)}{pe:Er→Prop}
   (L:gd all σ g=some true) (hd:Nat.blt d n=true) (he:∀w,Enters P σ op ty w fid args) (O:∀b,M b→X.MI b)
   (U:∀w f,AO X w f H R B Fs→BV P fid args w (EF val q X.MI I' F' w f) (PanE T M pe w f)) (D:∀x,ED X.MI (I' x)) (hm:∀x,Au (F' x))
   (W:∀er w' f',pe er→C9 X.M X.w0 X.f0 w' f'→Q.p (trI T er) σ ds w')
   (h:∀x,q x→A1 P n Q ds {X with I:=I' x} R B (F' x++Fs) (.ops all r) fs (AI σ d (val x)) H):A1 P n Q ds X R B Fs (.ops all (⟨some d,op,ty,pos,af,g⟩::r)) fs σ H :=
 CI (XX:=λc w'=>∃er f',c=trI T er∧pe er∧C9 X.M X.w0 X.f0 w' f') L hd he (λw f K=>(U w f K).mono (λ_ _ h=>h) λ_ _ ⟨er,f',F,G,J⟩=>⟨er,f',F,G,K.exmI O J⟩) D hm (λ_ _ _ _ _ ⟨er,f',F,G,J⟩=>F▸W er _ f' G J) h
theorem jJ{op:Op}{pe:Er→Prop}
   (D:gd all σ g=some true) (hd:Nat.blt d n=true) (he:∀w,Enters P σ op ty w fid args) (F:∀b,M b→X.MI b)
   (G:∀w f,AO X w f H R B Fs→BV P fid args w (λ_ _=>False) (PanE T M pe w f))
   (J:∀er w' f',pe er→C9 X.M X.w0 X.f0 w' f'→Q.p (trI T er) σ ds w'):A1 P n Q ds X R B Fs (.ops all (⟨some d,op,ty,pos,af,g⟩::r)) fs σ H :=
 XO (α:=Unit) (val:=λ_=>.tuple #[]) (q:=λ_=>False) (I':=λ_ _ _=>True) (F':=λ_=>[]) D hd he F (λw f K=>(G w f K).mono (λ_ _ h=>h.elim) λ_ _ h=>h) (λ_ _ _ _ _ _ _ _=>trivial) (λ_=>trivial) J (λ_ h=>h.elim)
end
end Go.SW
namespace Go.SP
open Go.SW Go.RowKit
variable {A:Ad}{f f':Fq}{fr pr:Int}{M:Nat→Prop}{TS:tI}{w w' w0:wO}
theorem MD.c:∀b,MD A.sb A.mb b→Dk A b:=λ_ h=>h.elim (λe=>.inr (.inl e)) λe=>.inr (.inr (.inl e))
theorem AN.solved{T:tI}{s:CS}(h:AN T TS A s w f)(D:A.ok)(J:Vl w f)(hz:∀b,MD A.sb A.mb b→f b=0)(F:C9 (MD A.sb A.mb) w f w' f'){s':BP}(K:Bz TS A.sb A.mb s' fr pr w' f'):AN T TS A {s with sol:=s',fresh:=fr} w' f' where
 blk:=(F.stp.block _ (h.lt (.inl C)) (λe=>e.elim D.cs D.cm.1)).trans h.blk
 sol:=⟨pr,K⟩
 cons:=let ⟨es,G,L⟩:=h.cons;⟨es,G.heap (F.stp.block _ G.lt (λe=>e.elim (λe=>D.sm.2.1 e.symm) (λe=>D.mm.1 e.symm))),D0.mono (F.fle J hz) _ _ L⟩
 datas:=h.datas.heap (F.stp.block _ h.datas.lt (λe=>e.elim (λe=>D.sm.2.2.1 e.symm) (λe=>D.mm.2.1 e.symm)))
 roots:=h.roots.heap (F.stp.block _ h.roots.lt (λe=>e.elim (λe=>D.sm.2.2.2 e.symm) (λe=>D.mm.2.2.1 e.symm)))
theorem yP{P:Program}{n:Nat}{Q:AV}{ds:List Deferred}{f0:Fq}{T:tI}{s:CS}{R:List RB}{B:List FB}{Fs:List (wO→Fq→Prop)}{fs:List Fr}{σ:Ba}{H:List HB}{k:K3}
   (h:∀pr,A1 P n Q ds ⟨M,Dk A,λw f=>AN T TS A s w f∧Bz TS A.sb A.mb s.sol s.fresh pr w f,w0,f0⟩ R B Fs k fs σ H):A1 P n Q ds ⟨M,Dk A,AN T TS A s,w0,f0⟩ R B Fs k fs σ H :=
 mxi (X:=⟨M,Dk A,AN T TS A s,w0,f0⟩) (λpr w f=>AN T TS A s w f∧Bz TS A.sb A.mb s.sol s.fresh pr w f) (λw f h=>let ⟨pr,G⟩:=h.sol;⟨pr,h,G⟩) (λpr w f w' f' h D F=>⟨AN.stab w f w' f' h.1 D F,Bz.stab (MI:=MD A.sb A.mb) (.inl C) (.inr C) _ _ _ _ h.2 D λb hm=>F b (MD.c b hm)⟩) h
end Go.SP
namespace Go.SP
open Go.SW Go.RowKit
def Eb(fr:Int):Nat→Ty
 |0=>.nil
 |n+1=>.var (fr+1) (Eb (fr+1) n)
theorem G3:∀(n:Nat)(fr:Int),(Eb fr n).len=n
 |0,_=>rfl
 |n+1,fr=>by simp only[Eb,Ty.len];rw[G3 n]
theorem JZ:∀(n:Nat)(fr:Int),(Eb fr n).bnd
 |0,_=>trivial
 |n+1,fr=>JZ n (fr+1)
theorem Mx:∀(n:Nat)(fr:Int),Eb fr (n+1)=(Eb fr n).snoc (.var (fr+n+1))
 |0,fr=>by simp[Eb,Ty.snoc,Ty.app,T1.one,T1.cons]
 |n+1,fr=>by
   have:=Mx n (fr+1);rw[Eb,this];show _=Ty.var _ _
   congr 2
   simp;omega
theorem Cy:∀(l:List Int)(s:CS),CX l s=(Eb s.fresh l.length,{s with fresh:=s.fresh+l.length})
 | [],s=>by simp[CX,Eb]
 |_::l,s=>by
   have h:=Cy l (AM s).2;simp only[CX,T1.cons,Eb,List.length_cons];rw[h];simp only[AM,T1.cons];have e:s.fresh+1+(l.length:Int)=s.fresh+((l.length+1:Nat):Int):=oM;rw[e]
theorem Im.fresh{s:CS}(h:Im s){n:Int}(d:0≤n):Im {s with fresh:=n}:={h with fr:=d}
end Go.SP
namespace Go.SP
open Go.SW Go.RowKit
variable {Q:AV}{A:Ad}{σ:Ba}{f:Fq}{Fs:List (wO→Fq→Prop)}{ds:List Deferred}{B:List FB}{fs:List Fr}{H:List HB}{n:Nat}{M:Nat→Prop}{P:Program}{T TS:tI}{w w0:wO}
theorem D0.keys{n:lU}:∀{l:List (lU×Mk)}{es:List (lU×Value)},D0 w f l es→(Gu (l.map λp=>(p.1,Value.bool true)) n=none→Gu es n=none)
 | [],es,h,_=>by have h:es=[]:=h;subst h;rfl
 |(k,m)::l,es,⟨_,_,_,_,_,_,D,F,_,_,_,G⟩,d=>by
   subst F;simp only[List.map,Gu] at d ⊢
   split at d
   · cases d
   · rename_i J;rw[if_neg J];exact D0.keys G d
theorem D0.dis:∀{l:List (lU×Mk)}{es:List (lU×Value)},D0 w f l es→M5 (l.map λp=>(p.1,Value.bool true))→M5 es
 | [],es,h,_=>by have h:es=[]:=h;subst h;trivial
 |(k,m)::l,es,⟨_,_,_,_,_,_,D,F,_,_,_,d⟩,hd=>by
   subst F;exact⟨D0.keys d hd.1,D0.dis d hd.2⟩
theorem mxk{f0:Fq}{s:CS}{R:List RB}{k:K3}
   (h:∀es,A1 P n Q ds ⟨M,Dk A,λw f=>AN T TS A s w f∧CW JB w A.km es∧D0 w f s.cons es,w0,f0⟩ R B Fs k fs σ H):A1 P n Q ds ⟨M,Dk A,AN T TS A s,w0,f0⟩ R B Fs k fs σ H :=
 mxi (X:=⟨M,Dk A,AN T TS A s,w0,f0⟩) (λes w f=>AN T TS A s w f∧CW JB w A.km es∧D0 w f s.cons es) (λw f h=>let ⟨es,F,G⟩:=h.cons;⟨es,h,F,G⟩) (λes w f w' f' h d D=>⟨AN.stab w f w' f' h.1 d D,h.2.1.heap (D _ (.inr (.inr (.inr (.inl C))))),D0.mono d _ _ h.2.2⟩) h
end Go.SP
namespace Go.SW
open Go.RowKit Go.SP
variable {Q:AV}{σ:Ba}{X:Cx}{Fs:List (wO→Fq→Prop)}{ds:List Deferred}{B:List FB}{fs:List Fr}{H:List HB}{n:Nat}{P:Program}
theorem Xg{R:List RB}{k:K3}{r:RB}(φ:wO→Fq→Prop)(hm:EI φ)(F:∀w f,AO X w f H (r::R) B Fs→∃f',AO X w f' H R B Fs∧φ w f')
   (h:A1 P n Q ds X R B (φ::Fs) k fs σ H):A1 P n Q ds X (r::R) B Fs k fs σ H:=λw f G=>by
 obtain⟨f',d,D⟩:=F w f G;exact h w f' (d.more (B':=[]) (F':=[φ]) (λ_ h=>by cases h) (AR.mem ⟨D,tQ⟩) (Au.mem ⟨hm,tQ⟩))
end Go.SW
namespace Go.SP
open Go.SW Go.RowKit
variable {X:Cx}{f:Fq}{Fs:List (wO→Fq→Prop)}{B:List FB}{H:List HB}{xs:lV}{m:Nat}{a:oA}{e:tI}{w:wO}
theorem Ni{R:List RB}{c:Nat}{k:Ty}(D:AO X w f H (⟨e,4,a,c,m,xs⟩::R) B Fs)(F:Cr w f k xs):∃f',AO X w f' H R B Fs∧Al w f' k a c:=by
 rcases Nat.eq_zero_or_pos k.len with d|d
 · obtain rfl:=Ty.len0 d
   exact⟨f,D.less (List.Sublist.refl _) (List.sublist_cons_self _ _) (λ_ h=>h) (λ_ h=>h),Al.nil _ _ _ _⟩
 · exact R9 D F d
theorem R4{R:List RB}{c:Nat}{l:List Int}(D:AO X w f H (⟨3,1,a,c,l.length,l.map λn=>.int .i64 n⟩::R) B Fs):∃f',AO X w f' H R B Fs∧Cg w f' l a c:=by
 have J:=D.row _ (.head _);rcases J.2 with ⟨_,_,hz⟩|⟨b,q,G,K,F,_,L,O⟩
 · simp only at hz
   exact⟨f,D.less (List.Sublist.refl _) (List.sublist_cons_self _ _) (λ_ h=>h) (λ_ h=>h),oM,.inl (by cases l with|nil=>rfl|cons _ _=>simp at hz)⟩
 · simp only at G
   subst G;obtain⟨f',d⟩:=D.done (i:=0) C C;refine⟨f',d.less (List.Sublist.refl _) (List.Sublist.refl _) (λ_ h=>.tail _ h) (λ_ h=>h),F,.inr ⟨b,0,C,d.fro _ (.head _)⟩⟩
end Go.SP
namespace Go.SW
open Go.RowKit Go.SP
section
variable{κ:Type}[BEq κ]{K:Key κ}[LawfulBEq κ]
theorem P4(x:κ):∀(es:List MapEntry)(l:List (κ×Value))(i:Nat)(v:Value),es.map (λe=>(e.key,e.val))=l.map (λp=>(K.enc p.1,p.2))→Mm x l=some v →
   ∃j e,Instr.findNow K.desc (K.enc x) es i=some (some (i+j,v))∧es[j]?=some e∧e.key=K.enc x∧e.val=v
 | [],[],i,v,_,h=>by cases h
 | [],_::_,_,_,h,_=>by simp at h
 |_::_,[],_,_,h,_=>by simp at h
 |e::es,p::l,i,v,h,D=>by
   simp only[List.map_cons,List.cons.injEq,Prod.mk.injEq] at h;obtain⟨⟨G,J⟩,O⟩:=h;have U:Instr.sameNow K.desc (K.enc x) e.key=some (x==p.1):=by rw[G];exact K.same x p.1
   obtain⟨L,pv⟩:=p;unfold Instr.findNow;unfold Mm at D;rw[U]
   cases F:x==L with
   |true =>
     rw[F] at D;have D:pv=v:=by simpa using D
     have he:x=L:=by simpa using F
     subst he;exact⟨0,e,by simp[J,D],C,G,J.trans D⟩
   |false =>
     rw[F] at D;obtain⟨j,W,Y,Z,h3⟩:=P4 x es l (i+1) v O (by simpa using D);exact⟨j+1,W,by simp only[Y];congr 3;omega,Z,h3⟩
variable{P:Program}{n:Nat}{Q:AV}{ds:List Deferred}{X:Cx}{R:List RB}{B:List FB}{Fs:List (wO→Fq→Prop)}{fs:List Fr}{σ:Ba}{H:List HB}{w:wO}
variable{all r:List Oper}{ty T k e:tI}{pos:String}{af:Array Edge}{g:Option (Nat×Bool)}{d m:Nat}{x y z:Operand}{a:κ}{l:List (κ×Value)}
theorem Vb{v:Value}(hT:Iq P T=some (k,e))(Y:P.underlying k=some K.desc)(J:Instr.sameBits 10000 (K.enc a) (K.enc a)=true)(hm:CW K w m l)(hd:M5 l)(hn:Gu l a=some v):∃w',(Instr.mapUpdate T (.map (some m)) (K.enc a) v).run P w=.ok () w'∧CW K w' m l∧Hc m w w':=by
 have hu:=Ma hT;obtain⟨es,c,Z,h2⟩:=id hm;obtain⟨j,e',hj,he,h,L⟩:=P4 (K:=K) a es l.reverse 0 v h2 (by rw[Rz a l hd];exact hn);have D:(getObj m).run P w=.ok (.map es.toArray c) w:=by simp[getObj,Sem.run,Z]
 have O:=hm.lt;have U:=λb=>K.chk P k w a b Y
 have F:∀o,(setObj m o).run P w=.ok () {w with heap:=w.heap.setIfInBounds m o}:=λo=>by
   simp[setObj,Sem.run,Z]
 rw[Nat.zero_add] at hj;refine⟨{w with heap:=w.heap.setIfInBounds m (.map (es.toArray.modify j λe=>{e with key:=K.enc a,val:=v}) c)},?_,?_,?_⟩
 · simp only[Instr.mapUpdate,Sem.run_bind,run_underlying hu,Result.andThen_ok,D]
   simp only[U,Result.andThen_ok,Instr.findKey,Sem.run_bind,run_underlying Y,hj];simp only[Sem.run_pure,Result.andThen_ok,List.getElem?_toArray,he,Option.map_some,Option.getD_some,h,Instr.keyThatStays,J,if_true];exact F _
 · refine⟨es.modify j λe=>{e with key:=K.enc a,val:=v},c,?_,?_⟩
   · rw[show (es.modify j λe=>{e with key:=K.enc a,val:=v}).toArray=es.toArray.modify j λe=>{e with key:=K.enc a,val:=v} from Array.ext' (by simp)]
     simp[O]
   · rw[← h2]
     apply List.ext_getElem?;intro i;rw[List.getElem?_map,List.getElem?_map,List.getElem?_modify]
     by_cases G:j=i
     · subst G
       rw[he];simp[h,L]
     · simp[G]
 · refine⟨C,C,C,by simp,λi W=>?_⟩
   show (w.heap.setIfInBounds m _)[i]?=_;rw[Array.getElem?_setIfInBounds_ne (λe=>W e.symm)]
variable {I':wO→Fq→Prop}
theorem mupS{v:Value}(U:gd all σ g=some true)(W:ev σ x=some (.map (some m)))(Y:ev σ y=some (K.enc a))(hz:ev σ z=some v)(Z:Iq P T=some (k,e))(hk:P.underlying k=some K.desc)(G:Instr.sameBits 10000 (K.enc a) (K.enc a)=true)(J:X.MI m)(hd:M5 l)(hn:Gu l a=some v)
   (hm:∀w f,X.I w f→CW K w m l) (hI:∀w f w',X.I w f→AO X w f H R B Fs→Hc m w w'→CW K w' m l→I' w' f) (L:ED X.MI I')
   (h:A1 P n Q ds {X with I:=I' } R B Fs (.ops all r) fs σ H):A1 P n Q ds X R B Fs (.ops all (⟨none,.mapUpdate T x y z,ty,pos,af,g⟩::r)) fs σ H:=λw f F=>by
 obtain⟨w',h1,h2,O⟩:=Vb (v:=v) Z hk G (hm w f F.res) hd hn;refine Bh U (IP (w':=w') (λρ _ _ _ _ D=>?_) (h w' f (F.chgI J O (hI w f w' F.res F O h2) L)));simp only[execOp,D _ _ W,D _ _ Y,D _ _ hz];rw[Sem.run_bind,h1];rfl
omit [LawfulBEq κ] in
theorem lJ(O:gd all σ g=some true)(hd:Nat.blt d n=true)
   (h:∀m,¬X.MI m→A1 P n Q ds {X with MI:=λb=>X.MI b∨b=m,I:=λw f=>X.I w f∧CW K w m []} R B Fs (.ops all r) fs (AI σ d (.map (some m))) H):A1 P n Q ds X R B Fs (.ops all (⟨some d,.makeMap T none,ty,pos,af,g⟩::r)) fs σ H:=λw f G=>by
 refine Bh O (Ac (v:=.map (some w.heap.size)) (w':=w.alloc (.map #[] 0)) hd (λρ _ _ _ _ U=>by simp[execOp,Instr.makeMap]) (h w.heap.size (λhm=>Nat.lt_irrefl _ (G.mi _ hm).1) _ f ?_));have F:AO X (w.alloc (.map #[] 0)) f H R B Fs:=G.call0 (C9.of_ext (J5 w _) G.val);have J:∀b,b∈Cf H R→b≠w.heap.size:=λb D e=>Nat.lt_irrefl _ (e▸G.lt D)
 exact {F with
         res:=⟨F.res,[],0,heap_alloc_new w _,C⟩,
         stab:=λW f1 Y f2 L Z D=>⟨F.stab W f1 Y f2 L.1 Z λb hm=>D b (.inl hm),L.2.heap (D _ (.inr C))⟩,
         mi:=λb D=>by
           rcases D with D|rfl
           · exact F.mi b D
           · exact⟨by rw[GH];omega,G.val _ (Nat.le_refl _),.inl G.stp.size⟩,
         own:=λb D=>⟨(F.own b D).1,(F.own b D).2.1,λhm=>by
           rcases hm with hm|rfl
           · exact (F.own b D).2.2 hm
           · exact J _ D C⟩}
end
end Go.SW
namespace Go.SP
open Go.SW Go.RowKit
def Lj(T TS:tI)(A:Ad)(s:CS)(m:Nat)(l:List Int)(w:wO)(f:Fq):Prop:=AN T TS A s w f∧CW Ez w m (GZ l)
variable {A:Ad}{f:Fq}{mb:Nat}{M:Nat→Prop}{TS:tI}{w' w0:wO}
theorem Lj.stab{T:tI}{s:CS}{m:Nat}{l:List Int}:ED (λb=>Dk A b∨b=m) (Lj T TS A s m l):=λw f w' f' h F D =>
 ⟨AN.stab w f w' f' h.1 F λb hm=>D b (.inl hm),h.2.heap (D _ (.inr C))⟩
theorem AN.chg{T:tI}{s:CS}{m:Nat}{w:wO}(h:AN T TS A s w f)(D:Hc m w w')(hm:¬Dk A m)(F:f m=0):AN T TS A s w' f :=
 AN.stab w f w' f h (Hc.fle D F) λb G=>D.block b λe=>hm (e▸G)
theorem OW(l:List Int)(v n:Int):(l++[v]).contains n=(l.contains n||v==n):=by
 cases h:(v==n) with
 |true =>
   have:v=n:=by simpa using h
   subst this;simp
 |false =>
   have:¬v=n:=by simpa using h
   simp;intro D;exact absurd D.symm this
theorem sbI(n:Int):Instr.sameBits 10000 (Ez.enc n) (Ez.enc n)=true:=by
 show Instr.sameBits 10000 (.int .i64 n) (.int .i64 n)=true;simp[Instr.sameBits]
theorem KE(l:List Int)(v n:Int)(q:List Int)(b:Bool):(((if l.contains v then l else l++[v]).contains n||q.contains n)||b)=((l.contains n||(v::q).contains n)||b):=by
 have D:(v::q).contains n=((v==n)||q.contains n):=by
   rw[List.contains_cons];congr 1
   cases h:(v==n) with
   |true =>
     have:v=n:=by simpa using h
     subst this;simp
   |false =>
     have:¬v=n:=by simpa using h
     simpa using λe:n=v=>this e.symm
 rw[D]
 split
 · rename_i F
   cases G:(v==n) with
   |true =>
     have:v=n:=by simpa using G
     subst this;rw[F];simp
   |false=>simp
 · rw[OW,Bool.or_assoc (l.contains n)]
theorem PC{l:List Int}{v:Int}(h:l.Nodup):(if l.contains v then l else l++[v]).Nodup:=by
 split
 · exact h
 · rename_i D
   refine List.nodup_append.2 ⟨h,List.pairwise_singleton _ _,λa F b G e=>?_⟩;obtain rfl:b=v:=by simpa using G
   subst e;exact D (by simpa using F)
theorem frUp{P:Program}{n:Nat}{Q:AV}{ds:List Deferred}{f0:Fq}{T:tI}{s:CS}{R:List RB}{B:List FB}{Fs:List (wO→Fq→Prop)}{fs:List Fr}{σ:Ba}{H:List HB}
   {all r:List Oper} {ty O k e:tI} {pos:String} {af:Array Edge} {g:Option (Nat×Bool)} {x y z:Operand} {l:List Int} {v:Int} (U:gd all σ g=some true) (W:ev σ x=some (.map (some mb))) (Y:ev σ y=some (.int .i64 v)) (hz:ev σ z=some (.bool true))
   (Z:Iq P O=some (k,e)) (hk:P.underlying k=some (.int .i64)) (D:¬Dk A mb) (F:l.Nodup)
   (h:A1 P n Q ds ⟨M,λb=>Dk A b∨b=mb,Lj T TS A s mb (if l.contains v then l else l++[v]),w0,f0⟩ R B Fs (.ops all r) fs σ H) :
   A1 P n Q ds ⟨M,λb=>Dk A b∨b=mb,Lj T TS A s mb l,w0,f0⟩ R B Fs (.ops all (⟨none,.mapUpdate O x y z,ty,pos,af,g⟩::r)) fs σ H:=by
 cases G:l.contains v with
 |true =>
   rw[G] at h;exact mupS (K:=Ez) (a:=v) (l:=GZ l) (I':=Lj T TS A s mb l) U W Y hz Z hk (sbI v) (.inr C) (KU F) (by rw[UI,G];rfl) (λw f h=>h.2) (λw f w2 h J L hm=>⟨h.1.chg L D (J.mi mb (.inr C)).2.1,hm⟩) Lj.stab h
 |false =>
   rw[G] at h;exact yJ (K:=Ez) (a:=v) (l:=GZ l) (I':=Lj T TS A s mb (l++[v])) U W Y hz Z hk (.inr C) (KU F) (WQ G) (λw f h=>h.2) (λw f w2 h J L hm=>⟨h.1.chg L D (J.mi mb (.inr C)).2.1,by rw[PT];exact hm⟩) Lj.stab h
theorem JI.cons{e:BJ}(h:JI e){b:Bd}(F:b.t.bnd)(G:b.all.length≤1000000):JI (b::e):=λb2 D=>by
 rcases List.mem_cons.1 D with rfl|D
 · exact⟨F,G⟩
 · exact h b2 D
theorem Nd.len_le:∀x:Nd,x.len≤x.size
 |.nil=>Nat.le_refl _
 |.cons _ _ _ _ _ k r=>by have:=Nd.len_le r;simp only[Nd.len,Nd.size];omega
theorem Nd.cases1(x:Nd)(h:0<x.len):∃op ln co tx nm k r,x=.cons op ln co tx nm k r:=by
 cases x with
 |nil=>simp[Nd.len] at h
 |cons op ln co tx nm k r=>exact⟨op,ln,co,tx,nm,k,r,C⟩
theorem Nd.len0{x:Nd}(h:x.len=0):x=.nil:=by
 cases x with
 |nil=>rfl
 |cons=>simp[Nd.len] at h
def Nd.wfm:Nd→Nat→Prop
 |.nil,m=>m=0∨m=1∨m=9
 |.cons op _ _ _ _ k r,m =>
   let X:Prop:=(op=1∨op=3∨op=5)∨(op=7∧k.wfm 4)∨(op=8∧0<k.len∧k.wfm 0)
   match m with
   |0=>X∧r.wfm 0
   |1=>k.wfm 8∧r.wfm 1
   |2=>r.wfm 3
   |3=>X
   |4=>(r=.nil∧X)∨(r≠.nil∧r.wfm 4)
   |5=>X∧0<r.len∧r.wfm 1
   |6=>X∧r.wfm 3
   |7=>X∧r.wfm 6
   |8=>((21≤op∧op≤27)∧k.wfm 9)∧r.wfm 3
   |9=>((21≤op∧op≤27)∧k.wfm 9)∧r.wfm 9
   |_=>False
def TU(op:Int)(k:Nd):Prop:=(op=1∨op=3∨op=5)∨(op=7∧k.wfm 4)∨(op=8∧0<k.len∧k.wfm 0)
section
variable{op ln co nm:Int}{tx:lU}{k r:Nd}
theorem wfm0:(Nd.cons op ln co tx nm k r).wfm 0↔TU op k∧r.wfm 0:=Iff.rfl
theorem wfm4:(Nd.cons op ln co tx nm k r).wfm 4↔(r=.nil∧TU op k)∨(r≠.nil∧r.wfm 4):=Iff.rfl
end
abbrev nV(op ln co:Int)(tx:lU)(nm:Int)(k:Nd)(d:oA)(nc:Nat):Value:=.agg #[.int .i64 op,.int .i64 ln,.int .i64 co,S tx,.int .i64 nm,.slice d k.len nc]
def ZI(P:Program)(d:FuncId)(n:Nat):Prop:=∀(w:wO)(f:Fq)(_:Vl w f)(op ln co nm:Int)(tx:lU)(kids:Nd)(h:oA)(nc:Nat),kids.size<n→kids.size≤1000000→Bc w f kids h nc →
 AX P d #[nV op ln co tx nm kids h nc] w (AU (α:=Unit) (λ_=>.bool (C7 n op kids)) (λ_=>True) (λ_=>[]) w f)
theorem dH{op n:Int}{k:Nd}(h:TU op k)(e:(op==n)=true)(d:(n==1||n==3||n==5||n==7||n==8)=false:=by decide):False:=by
 obtain rfl:=eq_of_beq e;rcases h with (h|h|h)|⟨h,-⟩|⟨h,-⟩ <;> (subst h;cases d)
theorem wno0{op:Int}{k:Nd}(h:TU op k)(d:(op==1)=false)(D:(op==3)=false)(F:(op==5)=false)(G:(op==7)=false)(J:(op==8)=false):False:=by
 rcases h with (h|h|h)|⟨h,-⟩|⟨h,-⟩ <;> subst h <;> contradiction
end Go.SP
namespace Go.SW
open Go.RowKit
variable {σ':Ba}{vs:lV}{d:Nat}{x0 x1 x10 x2 x3 x4 x5 x6 x7 x8 x9:Value}{a0 a1 a10 a11 a12 a13 a14 a15 a16 a2 a3 a4 a5 a6 a7 a8 a9:wO→Fq→Prop}
theorem lE{σ:Ba}(h:Le σ' σ:=by (repeat (first|exact JM _|refine Av ?_ rfl))):Le σ' σ:=h
theorem lu1{σ:Ba}{a0:Nat}(h:σ a0=some x0):Le (AI e0 a0 x0) σ:=Av (JM _) h
@[reducible] def E2(a0:Nat)(x0:Value)(a1:Nat)(x1:Value):Ba:=AI (AI e0 a0 x0) a1 x1
theorem lu3{σ:Ba}{a0 a1 a2:Nat}(h:σ a0=some x0)(D:σ a1=some x1)(F:σ a2=some x2):Le (AI (AI (AI e0 a0 x0) a1 x1) a2 x2) σ:=Av (Av (Av (JM _) h) D) F
@[reducible] def E3(a0:Nat)(x0:Value)(a1:Nat)(x1:Value)(a2:Nat)(x2:Value):Ba:=AI (AI (AI e0 a0 x0) a1 x1) a2 x2
theorem yO{σ:Ba}{a0 a1 a2 a3:Nat}(h:σ a0=some x0)(D:σ a1=some x1)(F:σ a2=some x2)(G:σ a3=some x3):Le (AI (AI (AI (AI e0 a0 x0) a1 x1) a2 x2) a3 x3) σ:=Av (Av (Av (Av (JM _) h) D) F) G
@[reducible] def E4(a0:Nat)(x0:Value)(a1:Nat)(x1:Value)(a2:Nat)(x2:Value)(a3:Nat)(x3:Value):Ba:=AI (AI (AI (AI e0 a0 x0) a1 x1) a2 x2) a3 x3
theorem lu5{σ:Ba}{a0 a1 a2 a3 a4:Nat}(h:σ a0=some x0)(D:σ a1=some x1)(F:σ a2=some x2)(G:σ a3=some x3)(J:σ a4=some x4):Le (AI (AI (AI (AI (AI e0 a0 x0) a1 x1) a2 x2) a3 x3) a4 x4) σ:=Av (Av (Av (Av (Av (JM _) h) D) F) G) J
@[reducible] def E5(a0:Nat)(x0:Value)(a1:Nat)(x1:Value)(a2:Nat)(x2:Value)(a3:Nat)(x3:Value)(a4:Nat)(x4:Value):Ba:=AI (AI (AI (AI (AI e0 a0 x0) a1 x1) a2 x2) a3 x3) a4 x4
theorem Yw{σ:Ba}{a0 a1 a2 a3 a4 a5:Nat}(h:σ a0=some x0)(D:σ a1=some x1)(F:σ a2=some x2)(G:σ a3=some x3)(J:σ a4=some x4)(K:σ a5=some x5):Le (AI (AI (AI (AI (AI (AI e0 a0 x0) a1 x1) a2 x2) a3 x3) a4 x4) a5 x5) σ:=Av (Av (Av (Av (Av (Av (JM _) h) D) F) G) J) K
@[reducible] def E6(a0:Nat)(x0:Value)(a1:Nat)(x1:Value)(a2:Nat)(x2:Value)(a3:Nat)(x3:Value)(a4:Nat)(x4:Value)(a5:Nat)(x5:Value):Ba:=AI (AI (AI (AI (AI (AI e0 a0 x0) a1 x1) a2 x2) a3 x3) a4 x4) a5 x5
theorem lu7{σ:Ba}{a0 a1 a2 a3 a4 a5 a6:Nat}(h:σ a0=some x0)(D:σ a1=some x1)(F:σ a2=some x2)(G:σ a3=some x3)(J:σ a4=some x4)(K:σ a5=some x5)(L:σ a6=some x6):Le (AI (AI (AI (AI (AI (AI (AI e0 a0 x0) a1 x1) a2 x2) a3 x3) a4 x4) a5 x5) a6 x6) σ:=Av (Av (Av (Av (Av (Av (Av (JM _) h) D) F) G) J) K) L
@[reducible] def E7(a0:Nat)(x0:Value)(a1:Nat)(x1:Value)(a2:Nat)(x2:Value)(a3:Nat)(x3:Value)(a4:Nat)(x4:Value)(a5:Nat)(x5:Value)(a6:Nat)(x6:Value):Ba:=AI (AI (AI (AI (AI (AI (AI e0 a0 x0) a1 x1) a2 x2) a3 x3) a4 x4) a5 x5) a6 x6
@[reducible] def E8(a0:Nat)(x0:Value)(a1:Nat)(x1:Value)(a2:Nat)(x2:Value)(a3:Nat)(x3:Value)(a4:Nat)(x4:Value)(a5:Nat)(x5:Value)(a6:Nat)(x6:Value)(a7:Nat)(x7:Value):Ba:=AI (AI (AI (AI (AI (AI (AI (AI e0 a0 x0) a1 x1) a2 x2) a3 x3) a4 x4) a5 x5) a6 x6) a7 x7
theorem fH{σ:Ba}{a0 a1 a2 a3 a4 a5 a6 a7 a8:Nat}(h:σ a0=some x0)(D:σ a1=some x1)(F:σ a2=some x2)(G:σ a3=some x3)(J:σ a4=some x4)(K:σ a5=some x5)(L:σ a6=some x6)(O:σ a7=some x7)(Q:σ a8=some x8):Le (AI (AI (AI (AI (AI (AI (AI (AI (AI e0 a0 x0) a1 x1) a2 x2) a3 x3) a4 x4) a5 x5) a6 x6) a7 x7) a8 x8) σ:=Av (Av (Av (Av (Av (Av (Av (Av (Av (JM _) h) D) F) G) J) K) L) O) Q
@[reducible] def E9(a0:Nat)(x0:Value)(a1:Nat)(x1:Value)(a2:Nat)(x2:Value)(a3:Nat)(x3:Value)(a4:Nat)(x4:Value)(a5:Nat)(x5:Value)(a6:Nat)(x6:Value)(a7:Nat)(x7:Value)(a8:Nat)(x8:Value):Ba:=AI (AI (AI (AI (AI (AI (AI (AI (AI e0 a0 x0) a1 x1) a2 x2) a3 x3) a4 x4) a5 x5) a6 x6) a7 x7) a8 x8
theorem lu11{σ:Ba}{a0 a1 a2 a3 a4 a5 a6 a7 a8 a9 a10:Nat}(D:σ a0=some x0)(F:σ a1=some x1)(G:σ a2=some x2)(J:σ a3=some x3)(K:σ a4=some x4)(L:σ a5=some x5)(O:σ a6=some x6)(Q:σ a7=some x7)(U:σ a8=some x8)(W:σ a9=some x9)(h:σ a10=some x10):Le (AI (AI (AI (AI (AI (AI (AI (AI (AI (AI (AI e0 a0 x0) a1 x1) a2 x2) a3 x3) a4 x4) a5 x5) a6 x6) a7 x7) a8 x8) a9 x9) a10 x10) σ:=Av (Av (Av (Av (Av (Av (Av (Av (Av (Av (Av (JM _) D) F) G) J) K) L) O) Q) U) W) h
@[reducible] def E11(a0:Nat)(x0:Value)(a1:Nat)(x1:Value)(a2:Nat)(x2:Value)(a3:Nat)(x3:Value)(a4:Nat)(x4:Value)(a5:Nat)(x5:Value)(a6:Nat)(x6:Value)(a7:Nat)(x7:Value)(a8:Nat)(x8:Value)(a9:Nat)(x9:Value)(a10:Nat)(x10:Value):Ba:=AI (AI (AI (AI (AI (AI (AI (AI (AI (AI (AI e0 a0 x0) a1 x1) a2 x2) a3 x3) a4 x4) a5 x5) a6 x6) a7 x7) a8 x8) a9 x9) a10 x10
theorem yU{σ:Ba}{a0 a1 a2 a3 a4 a5 a6 a7 a8 a9 a10 a11 a12 a13 a14 a15:Nat}{h D F G J:Value}(Y:σ a0=some x0)(Z:σ a1=some x1)(h2:σ a2=some x2)(h3:σ a3=some x3)(h4:σ a4=some x4)(h5:σ a5=some x5)(h6:σ a6=some x6)(h7:σ a7=some x7)(h8:σ a8=some x8)(h9:σ a9=some x9)(K:σ a10=some x10)(L:σ a11=some h)(O:σ a12=some D)(Q:σ a13=some F)(U:σ a14=some G)(W:σ a15=some J):Le (AI (AI (AI (AI (AI (AI (AI (AI (AI (AI (AI (AI (AI (AI (AI (AI e0 a0 x0) a1 x1) a2 x2) a3 x3) a4 x4) a5 x5) a6 x6) a7 x7) a8 x8) a9 x9) a10 x10) a11 h) a12 D) a13 F) a14 G) a15 J) σ:=Av (Av (Av (Av (Av (Av (Av (Av (Av (Av (Av (Av (Av (Av (Av (Av (JM _) Y) Z) h2) h3) h4) h5) h6) h7) h8) h9) K) L) O) Q) U) W
@[reducible] def yG(a0:Nat)(x0:Value)(a1:Nat)(x1:Value)(a2:Nat)(x2:Value)(a3:Nat)(x3:Value)(a4:Nat)(x4:Value)(a5:Nat)(x5:Value)(a6:Nat)(x6:Value)(a7:Nat)(x7:Value)(a8:Nat)(x8:Value)(a9:Nat)(x9:Value)(a10:Nat)(x10:Value)(a11:Nat)(h:Value)(a12:Nat)(D:Value)(a13:Nat)(F:Value)(a14:Nat)(G:Value)(a15:Nat)(J:Value):Ba:=AI (AI (AI (AI (AI (AI (AI (AI (AI (AI (AI (AI (AI (AI (AI (AI e0 a0 x0) a1 x1) a2 x2) a3 x3) a4 x4) a5 x5) a6 x6) a7 x7) a8 x8) a9 x9) a10 x10) a11 h) a12 D) a13 F) a14 G) a15 J
theorem mR{α:Type}{F' Fs:List α}(F:List Nat)(h:F.map (nth Fs)=F'.map some:=by rfl):∀φ,φ∈F'→φ∈Fs:=λφ D=>by
 have J:some φ∈F.map (nth Fs):=by rw[h];exact List.mem_map.2 ⟨φ,D,C⟩
 obtain⟨i,_,G⟩:=List.mem_map.1 J;rw[Es] at G;exact List.mem_of_getElem? G
theorem sK{α:Type}{a:α}{l D:List α}(h:l.Sublist D):(a::l).Sublist (a::D):=.cons_cons _ h
theorem sD{α:Type}{a:α}{l D:List α}(h:l.Sublist D):l.Sublist (a::D):=.cons _ h
theorem sZ{α:Type}:([]:List α).Sublist []:=.slnil
theorem sR{α:Type}{l:List α}:l.Sublist l:=List.Sublist.refl _
theorem nE{α:Type _}{p:α→Prop}:∀e,e∈([]:List α)→p e:=λ_ h=>by cases h
theorem Ef{α:Sort _}{β:α→Sort _}{h:(a:α)→β a→Sort _}{D:(a:α)→(b:β a)→h a b→Sort _}:∀(a:α)(b:β a)(c:h a b)(_:D a b c),True:=λ_ _ _ _=>trivial
@[reducible] def rd:List Nat→OT→OT
 | [],t=>t
 |i::l,t=>.rd i (rd l t)
section
variable{X:Cx}{w:wO}{f:Fq}{H:List HB}{R:List RB}{B:List FB}{Fs:List (wO→Fq→Prop)}
theorem AO.mz(h:AO X w f H R B Fs):∀b,X.MI b→f b=0:=λb D=>(h.mi b D).2.1
theorem AO.f0(h:AO X w f H R B (a0::Fs)):a0 w f:=h.fac _ (List.mem_of_getElem? (i:=0) C)
theorem AO.f1(h:AO X w f H R B (a0::a1::Fs)):a1 w f:=h.fac _ (List.mem_of_getElem? (i:=1) C)
theorem AO.f2(h:AO X w f H R B (a0::a1::a2::Fs)):a2 w f:=h.fac _ (List.mem_of_getElem? (i:=2) C)
theorem AO.f3(h:AO X w f H R B (a0::a1::a2::a3::Fs)):a3 w f:=h.fac _ (List.mem_of_getElem? (i:=3) C)
theorem AO.f4(h:AO X w f H R B (a0::a1::a2::a3::a4::Fs)):a4 w f:=h.fac _ (List.mem_of_getElem? (i:=4) C)
theorem AO.f5(h:AO X w f H R B (a0::a1::a2::a3::a4::a5::Fs)):a5 w f:=h.fac _ (List.mem_of_getElem? (i:=5) C)
theorem AO.f6(h:AO X w f H R B (a0::a1::a2::a3::a4::a5::a6::Fs)):a6 w f:=h.fac _ (List.mem_of_getElem? (i:=6) C)
theorem AO.f7(h:AO X w f H R B (a0::a1::a2::a3::a4::a5::a6::a7::Fs)):a7 w f:=h.fac _ (List.mem_of_getElem? (i:=7) C)
theorem AO.f8(h:AO X w f H R B (a0::a1::a2::a3::a4::a5::a6::a7::a8::Fs)):a8 w f:=h.fac _ (List.mem_of_getElem? (i:=8) C)
theorem AO.f9(h:AO X w f H R B (a0::a1::a2::a3::a4::a5::a6::a7::a8::a9::Fs)):a9 w f:=h.fac _ (List.mem_of_getElem? (i:=9) C)
theorem AO.f10(h:AO X w f H R B (a0::a1::a2::a3::a4::a5::a6::a7::a8::a9::a10::Fs)):a10 w f:=h.fac _ (List.mem_of_getElem? (i:=10) C)
theorem AO.f12(h:AO X w f H R B (a0::a1::a2::a3::a4::a5::a6::a7::a8::a9::a10::a11::a12::Fs)):a12 w f:=h.fac _ (List.mem_of_getElem? (i:=12) C)
theorem AO.f13(h:AO X w f H R B (a0::a1::a2::a3::a4::a5::a6::a7::a8::a9::a10::a11::a12::a13::Fs)):a13 w f:=h.fac _ (List.mem_of_getElem? (i:=13) C)
theorem AO.f16(h:AO X w f H R B (a0::a1::a2::a3::a4::a5::a6::a7::a8::a9::a10::a11::a12::a13::a14::a15::a16::Fs)):a16 w f:=h.fac _ (List.mem_of_getElem? (i:=16) C)
theorem AO.f17{D:wO→Fq→Prop}(h:AO X w f H R B (a0::a1::a2::a3::a4::a5::a6::a7::a8::a9::a10::a11::a12::a13::a14::a15::a16::D::Fs)):D w f:=h.fac _ (List.mem_of_getElem? (i:=17) C)
theorem AO.b0{a0:FB}(h:AO X w f H R (a0::B) Fs):Cs w f a0.b a0.off a0.l:=h.fro _ (List.mem_of_getElem? (i:=0) C)
theorem AO.b1{a0 a1:FB}(h:AO X w f H R (a0::a1::B) Fs):Cs w f a1.b a1.off a1.l:=h.fro _ (List.mem_of_getElem? (i:=1) C)
theorem AO.b2{a0 a1 a2:FB}(h:AO X w f H R (a0::a1::a2::B) Fs):Cs w f a2.b a2.off a2.l:=h.fro _ (List.mem_of_getElem? (i:=2) C)
theorem AO.b3{a0 a1 a2 a3:FB}(h:AO X w f H R (a0::a1::a2::a3::B) Fs):Cs w f a3.b a3.off a3.l:=h.fro _ (List.mem_of_getElem? (i:=3) C)
theorem AO.b4{a0 a1 a2 a3 a4:FB}(h:AO X w f H R (a0::a1::a2::a3::a4::B) Fs):Cs w f a4.b a4.off a4.l:=h.fro _ (List.mem_of_getElem? (i:=4) C)
theorem AO.b5{a0 a1 a2 a3 a4 a5:FB}(h:AO X w f H R (a0::a1::a2::a3::a4::a5::B) Fs):Cs w f a5.b a5.off a5.l:=h.fro _ (List.mem_of_getElem? (i:=5) C)
theorem AO.b6{a0 a1 a2 a3 a4 a5 a6:FB}(h:AO X w f H R (a0::a1::a2::a3::a4::a5::a6::B) Fs):Cs w f a6.b a6.off a6.l:=h.fro _ (List.mem_of_getElem? (i:=6) C)
theorem AO.b7{a0 a1 a2 a3 a4 a5 a6 a7:FB}(h:AO X w f H R (a0::a1::a2::a3::a4::a5::a6::a7::B) Fs):Cs w f a7.b a7.off a7.l:=h.fro _ (List.mem_of_getElem? (i:=7) C)
theorem AO.k0{a0:HB}(h:AO X w f (a0::H) R B Fs):AS w a0.b a0.l a0.T:=h.blk _ (List.mem_of_getElem? (i:=0) C)
theorem om0{a0:HB}{H:List HB}:a0∈a0::H:=List.mem_of_getElem? (i:=0) C
theorem AO.k1{a0 a1:HB}(h:AO X w f (a0::a1::H) R B Fs):AS w a1.b a1.l a1.T:=h.blk _ (List.mem_of_getElem? (i:=1) C)
theorem tH{a0 a1:HB}{H:List HB}:a1∈a0::a1::H:=List.mem_of_getElem? (i:=1) C
theorem AO.k2{a0 a1 a2:HB}(h:AO X w f (a0::a1::a2::H) R B Fs):AS w a2.b a2.l a2.T:=h.blk _ (List.mem_of_getElem? (i:=2) C)
theorem iP{a0 a1 a2:HB}{H:List HB}:a2∈a0::a1::a2::H:=List.mem_of_getElem? (i:=2) C
theorem AO.k3{a0 a1 a2 a3:HB}(h:AO X w f (a0::a1::a2::a3::H) R B Fs):AS w a3.b a3.l a3.T:=h.blk _ (List.mem_of_getElem? (i:=3) C)
theorem yF{a0 a1 a2 a3:HB}{H:List HB}:a3∈a0::a1::a2::a3::H:=List.mem_of_getElem? (i:=3) C
theorem AO.k4{a0 a1 a2 a3 a4:HB}(h:AO X w f (a0::a1::a2::a3::a4::H) R B Fs):AS w a4.b a4.l a4.T:=h.blk _ (List.mem_of_getElem? (i:=4) C)
theorem om4{a0 a1 a2 a3 a4:HB}{H:List HB}:a4∈a0::a1::a2::a3::a4::H:=List.mem_of_getElem? (i:=4) C
end
section
variable{P:Program}{σ:Ba}{ty:tI}
theorem eC{f:FuncId}{g:Operand}{args:List Operand}{h:Array tI}(he:Bi P f)(D:ev σ g=some (.func (.func f) #[] #[]))(F:Ii σ args=some vs) :
   ∀w,Enters P σ (.call {callee:=.value g,args:=args.toArray,argTypes:=h}) ty w f vs.toArray:=λ_=>As he D F
theorem Cb{fn:Func}{v:Value}{X:Cx}{H:List HB}{R:List RB}{B:List FB}{Fs:List (wO→Fq→Prop)}(D:fn.results=#[.tmp d])(h:σ d=some v):∀w f,AO X w f H R B Fs→Um P fn σ w v:=λ_ _ _=>Ao D (Af h)
end
section
variable{P:Program}{n:Nat}{Q:AV}{ds:List Deferred}{X:Cx}{R:List RB}{B:List FB}{Fs:List (wO→Fq→Prop)}{fs:List Fr}{σ:Ba}{H Hk:List HB}{l:List Oper}
variable {top:Bool}{f:Fq}{B0:List FB}{i id:Nat}{R0:Value→wO→Prop}{w w0:wO}{J:wO→Prop}
theorem Cq(G:List Nat)(hm:P.follows .mixedOrders=true)(t:OT)(K:M1 H G=some Hk)(D:(t.ok l.toArray true (Array.replicate l.length false)&&(t.even true l.length&&Region.noSelect l.toArray))=true) 
   (h:CK P n (Lo P n Q fs) ds X R B Fs l Hk B (λ_=>True) true t σ H) (F:PI Q:=by exact λ_ _ _ _ _ h=>h):A1 P n Q ds X R B Fs (.code (.region id l.toArray true)) fs σ H:=by
 simp only[Bool.and_eq_true] at D;exact RL (λ_=>True) (λ_ _ _ _=>trivial) G hm t K D.1 D.2.1 D.2.2 F h
theorem Ar{k:OT}(D:List Nat)(F:M1 H D=some Hk)(h:CK P n Q ds X R B0 Fs l Hk B0 (λ_=>True) true k σ H):A1 P n (TI P n l Q (Kp Hk B0 (λ_=>True)) k) ds X R B0 Fs (.out .normal) [] σ H :=
 Bv D (λ_ _ _ _=>trivial) F (λ_ h=>h) h
theorem BI{k:K3}(φ:wO→Fq→Prop)(F:∀w f,AO X w f H R B Fs→φ w f)(hm:EI φ)(h:A1 P n Q ds X R B (φ::Fs) k fs σ H):A1 P n Q ds X R B Fs k fs σ H:=λw f D =>
 h w f (D.more (B':=[]) (F':=[φ]) (λ_ h=>by cases h) (AR.mem ⟨F w f D,tQ⟩) (Au.mem ⟨hm,tQ⟩))
variable{all r:List Oper}{ty T:tI}{pos:String}{af:Array Edge}{g:Option (Nat×Bool)}{d:Nat}{op:Op}{fid:FuncId}{args:Array Value}
theorem Dn{c:Value}(F:gd all σ g=some true)(hd:Nat.blt d n=true)(he:∀w,Enters P σ op ty w fid args)(G:∀w f,AO X w f H R B Fs→AX P fid args w λv w'=>v=c∧AW w w')
   (h:A1 P n Q ds X R B Fs (.ops all r) fs (AI σ d c) H):A1 P n Q ds X R B Fs (.ops all (⟨some d,op,ty,pos,af,g⟩::r)) fs σ H :=
 CR (α:=Unit) (val:=λ_=>c) (q:=λ_=>True) (F':=λ_=>[]) F hd he (λw f D=>(G w f D).mono λ_ _ ⟨K,L⟩=>⟨(),f,K,tQ,C9.of_ext L D.val,tQ⟩) (λ_=>trivial) (λ_ _=>h)
theorem BO{val:Unit→Value}{q:Unit→Prop}(D:gd all σ g=some true)(hd:Nat.blt d n=true)(he:∀w,Enters P σ op ty w fid args)(F:∀w f,AO X w f H R B Fs→AX P fid args w (AU val q (λ_=>[]) w f))
   (h:A1 P n Q ds X R B Fs (.ops all r) fs (AI σ d (val ())) H):A1 P n Q ds X R B Fs (.ops all (⟨some d,op,ty,pos,af,g⟩::r)) fs σ H:=CR D hd he F (λ_=>trivial) (λ_ _=>h)
theorem Ak{k:OT}{x:Oper}(D:nth l i=some x)(h:A1 P n (TI P n l Q (Kp Hk B0 J) k) ds X R B Fs (.ops l [x]) [] σ H):CK P n Q ds X R B Fs l Hk B0 J top (.br i k .fin) σ H:=Cl D h mtn
theorem Ed{fn:Func}{c:Code}{L:lV}(Fs:List (wO→Fq→Prop))(D:P.funcs[fid]?=some fn)(F:fn.body=some c)(G:fn.ntmps=n)(K:Nat.ble L.length n=true)(O:AO (X0 w f) w f [] [] [] Fs)
   (h:A1 P n (Ek P fn R0 λ_ _=>False) [] (X0 w f) [] [] Fs (.code c) [] (GU L 0) []):AX P fid L.toArray w R0:=Gb D F G K O h
theorem mrU{fn:Func}{v:Value}{val:Unit→Value}{f0:Fq}(h:∀w f,AO (X0 w0 f0) w f H R B Fs→Um P fn σ w v)(he:v=val ()):A1 P n (Ek P fn (AU val (λ_=>True) (λ_=>[]) w0 f0) λ_ _=>False) [] (X0 w0 f0) R B Fs (.out .ret) [] σ H:=A5 h (λ_ f D=>⟨(),f,he,tQ,D.exm,tQ⟩)
end
theorem oE{α:Type}{p:α→Prop}{a:α}(h:p a):∀e,e∈[a]→p e:=λe he=>by
 cases he with
 |head=>exact h
 |tail _ h=>cases h
end Go.SW
namespace Go.SW
open Go.RowKit Go.SP
variable {f:Fq}{co ln nm:Int}{j:Nat}{w:wO}{φ:wO→Fq→Prop}
theorem AO.fn{X:Cx}{H:List HB}{R:List RB}{B:List FB}{Fs:List (wO→Fq→Prop)}(h:AO X w f H R B Fs)(d:nth Fs j=some φ):φ w f:=h.fac _ (by rw[Es] at d;exact List.mem_of_getElem? d)
section
variable{P:Program}{n:Nat}{Q:AV}{ds:List Deferred}{X:Cx}{R:List RB}{B:List FB}{Fs:List (wO→Fq→Prop)}{fs:List Fr}{σ:Ba}{H:List HB}{k:K3}{na:oA}{i c:Nat}
theorem Yy{op:Int}{tx:lU}{q r:Nd}(j:Nat)(d:nth Fs j=some (λw f=>Ct w f na i (.cons op ln co tx nm q r)))
   (h:∀x:Nat×Nat×oA×Nat,na=some ⟨x.1,x.2.1,none⟩→A1 P n Q ds X R (⟨x.1,x.2.1+i*6,GQ op ln co tx nm x.2.2.1 q.len x.2.2.2⟩::B) ((λw f=>Bc w f q x.2.2.1 x.2.2.2)::(λw f=>Ct w f na (i+1) r)::Fs) k fs σ H):A1 P n Q ds X R B Fs k fs σ H :=
 Hh (α:=Nat×Nat×oA×Nat) (λx=>na=some ⟨x.1,x.2.1,none⟩) (λ_=>[_]) (λ_=>[_,_]) (λ_ _ D=>let ⟨b,off,ka,kc,F,G,J,K⟩:=Ct.head (D.fn d);⟨(b,off,ka,kc),F,oE G,AR.mem ⟨J,K,tQ⟩⟩) (λ_=>Au.mem ⟨Bc.mono,Ct.mono,tQ⟩) h
theorem mne{x y:Nd}(j:Nat)(d:nth Fs j=some (λw f=>Bc w f x na c))(e:x=y)(h:A1 P n Q ds X R B ((λw f=>Ct w f na 0 y)::Fs) k fs σ H):A1 P n Q ds X R B Fs k fs σ H:=BI _ (λ_ _ D=>by rw[← e];exact Bc.at (D.fn d)) Ct.mono h
theorem kH{t:T1}{r:Ty}(j:Nat)(d:nth Fs j=some (λw f=>BY w f na i (t.cons r)))
   (h:∀x:Nat×Nat×oA×Nat,na=some ⟨x.1,x.2.1,none⟩→A1 P n Q ds X R (⟨x.1,x.2.1+i*4,tC t x.2.2.1 x.2.2.2⟩::B) ((λw f=>Al w f t.kids x.2.2.1 x.2.2.2)::(λw f=>BY w f na (i+1) r)::Fs) k fs σ H):A1 P n Q ds X R B Fs k fs σ H :=
 Hh (α:=Nat×Nat×oA×Nat) (λx=>na=some ⟨x.1,x.2.1,none⟩) (λ_=>[_]) (λ_=>[_,_]) (λ_ _ D=>let ⟨b,off,ka,kc,F,G,J,K⟩:=BY.head (D.fn d);⟨(b,off,ka,kc),F,oE G,AR.mem ⟨J,K,tQ⟩⟩) (λ_=>Au.mem ⟨Al.mono,BY.mono,tQ⟩) h
theorem rA{l:List Int}{v:Int}(j:Nat)(d:nth Fs j=some (λw f=>Cg w f l na c))(D:l[i]?=some v)
   (h:∀x:Nat×Nat,na=some ⟨x.1,x.2,none⟩→A1 P n Q ds X R (⟨x.1,x.2+i*1,[.int .i64 v]⟩::B) Fs k fs σ H):A1 P n Q ds X R B Fs k fs σ H :=
 Hh (α:=Nat×Nat) (λx=>na=some ⟨x.1,x.2,none⟩) (λ_=>[_]) (λ_=>[]) (λ_ _ F=>let ⟨b,off,G,J⟩:=Cg.get (F.fn d) D;⟨(b,off),G,oE J,nE⟩) (λ_=>Au.mem tQ) h
end
end Go.SW
namespace Go.SW
open Go.RowKit
open Go.SP (RG)
def RZ(T:tI)(q:Int×Int→Prop)(w:wO)(f:Fq)(c:List PanicEntry)(w':wO):Prop:=∃e f',c=RG T e∧q e∧C9 (λ_=>False) w f w' f'
def ZN{α:Type}(e:tI)(size:Nat)(n:α→Nat)(xs:α→lV)(q:α→Prop)(F':α→List (wO→Fq→Prop))(w:wO)(f:Fq)(v:Value)(w':wO):Prop :=
 ∃x a c f',v=.slice a (n x) c∧q x∧C9 (λ_=>False) w f w' f'∧BQ w' e size a c (n x) (xs x)∧(∀b,rb a=some b→w.heap.size≤b∧f' b=0)∧AR (F' x) w' f'
variable {f f':Fq}{pe:Int×Int→Prop}{xs:lV}{w w':wO}
theorem AO.addRow{X:Cx}{H:List HB}{R:List RB}{B:List FB}{Fs:List (wO→Fq→Prop)}(h:AO X w f H R B Fs)(Y:C9 (λ_=>False) w f w' f'){e:tI}{size c n:Nat}{a:oA}
   (U:BQ w' e size a c n xs) (G:∀b,rb a=some b→w.heap.size≤b∧f' b=0):AO X w' f' H (⟨e,size,a,c,n,xs⟩::R) B Fs:=by
 have D:=h.call0 Y
 cases J:rb a with
 |none =>
   have K:Cf H (⟨e,size,a,c,n,xs⟩::R)=Cf H R:=by simp only[Cf,List.filterMap_cons,J]
   exact {D with
     row:=λr hm=>by rcases List.mem_cons.1 hm with rfl|hm;exact U;exact D.row r hm,
     nd:=by rw[K];exact D.nd,
     own:=by rw[K];exact D.own,
     rnw:=λr hm b G=>by rcases List.mem_cons.1 hm with rfl|hm;(rw[J] at G;cases G);exact D.rnw r hm b G}
 |some b =>
   obtain⟨Z,hz⟩:=G b J;have K:Cf H (⟨e,size,a,c,n,xs⟩::R)=H.map (·.b)++b::(R.filterMap λr=>rb r.a):=by simp only[Cf,List.filterMap_cons,J]
   have W:(H.map (·.b)++b::(R.filterMap λr=>rb r.a)).Perm (b::Cf H R):=List.perm_middle;have L:X.w0.heap.size≤b:=Nat.le_trans h.stp.size Z
   exact {D with
     row:=λr hm=>by rcases List.mem_cons.1 hm with rfl|hm;exact U;exact D.row r hm,
     nd:=by rw[K];exact W.nodup_iff.2 (List.nodup_cons.2 ⟨λhm=>by have:=h.lt hm;omega,D.nd⟩),
     own:=λk O=>by
       rw[K] at O;rcases List.mem_cons.1 (W.mem_iff.1 O) with rfl|O
       · exact⟨hz,.inl L,λhm=>by have:=(h.mi _ hm).1;omega⟩
       · exact D.own k O,
     rnw:=λr hm b' F=>by
       rcases List.mem_cons.1 hm with rfl|hm
       · rw[J] at F;cases F;exact L
       · exact D.rnw r hm b' F }
section
variable{P:Program}{n:Nat}{Q:AV}{ds:List Deferred}{X:Cx}{R:List RB}{B:List FB}{Fs:List (wO→Fq→Prop)}{fs:List Fr}{σ:Ba}{H:List HB}
variable{all r:List Oper}{ty T:tI}{pos:String}{af:Array Edge}{g:Option (Nat×Bool)}{d:Nat}{op:Op}{fid:FuncId}{args:Array Value}{α:Type}
theorem JA{val:α→Value}{q:α→Prop}{F':α→List (wO→Fq→Prop)}
   (J:gd all σ g=some true) (hd:Nat.blt d n=true) (he:∀w,Enters P σ op ty w fid args)
   (K:∀w f,AO X w f H R B Fs→BV P fid args w (AU val q F' w f) (RZ T pe w f)) (hm:∀x,Au (F' x))
   (L:∀e w' f',pe e→C9 X.M X.w0 X.f0 w' f'→Q.p (RG T e) σ ds w')
   (h:∀x,q x→A1 P n Q ds X R B (F' x++Fs) (.ops all r) fs (AI σ d (val x)) H):A1 P n Q ds X R B Fs (.ops all (⟨some d,op,ty,pos,af,g⟩::r)) fs σ H:=λw f D=>by
 refine Bh J (Cc hd (he w) (K w f D) ?_ ?_)
 · rintro v w' ⟨x,f',rfl,F,G,O⟩
   exact h x F w' f' ((D.call0 G).more (B':=[]) (λ_ h=>by cases h) O.mem (hm x).mem)
 · rintro c w' ⟨e,f',rfl,F,G⟩
   rw[M0];exact L e w' f' F (D.call0 G).exm
theorem wD(D:gd all σ g=some true)(hd:Nat.blt d n=true)(he:∀w,Enters P σ op ty w fid args)
   (F:∀w f,AO X w f H R B Fs→BV P fid args w (λ_ _=>False) (RZ T pe w f))
   (G:∀e w' f',pe e→C9 X.M X.w0 X.f0 w' f'→Q.p (RG T e) σ ds w'):A1 P n Q ds X R B Fs (.ops all (⟨some d,op,ty,pos,af,g⟩::r)) fs σ H :=
 JA (α:=Unit) (val:=λ_=>.tuple #[]) (q:=λ_=>False) (F':=λ_=>[]) D hd he (λw f J=>(F w f J).mono (λ_ _ h=>h.elim) λ_ _ h=>h) (λ_=>trivial) G (λ_ h=>h.elim)
theorem XT{e:tI}{size:Nat}{m:α→Nat}{xs:α→lV}{q:α→Prop}{F':α→List (wO→Fq→Prop)}
   (J:gd all σ g=some true) (hd:Nat.blt d n=true) (he:∀w,Enters P σ op ty w fid args)
   (K:∀w f,AO X w f H R B Fs→BV P fid args w (ZN e size m xs q F' w f) (RZ T pe w f)) (hm:∀x,Au (F' x))
   (L:∀e w' f',pe e→C9 X.M X.w0 X.f0 w' f'→Q.p (RG T e) σ ds w')
   (h:∀x a c,q x→A1 P n Q ds X (⟨e,size,a,c,m x,xs x⟩::R) B (F' x++Fs) (.ops all r) fs (AI σ d (.slice a (m x) c)) H):A1 P n Q ds X R B Fs (.ops all (⟨some d,op,ty,pos,af,g⟩::r)) fs σ H:=λw f D=>by
 refine Bh J (Cc hd (he w) (K w f D) ?_ ?_)
 · rintro v w' ⟨x,a,c,f',rfl,F,G,O,U,W⟩
   exact h x a c F w' f' ((D.addRow G O U).more (B':=[]) (λ_ h=>by cases h) W.mem (hm x).mem)
 · rintro c w' ⟨e,f',rfl,F,G⟩
   rw[M0];exact L e w' f' F (D.call0 G).exm
end
end Go.SW
namespace Go.SP
open Go.SW Go.RowKit
def Yj(w:wO)(f:Fq):Fo→Nat→Nat→Prop
 |.nil,_,_=>True
 |.cons t k r,b,off=>(∃a c,Cs w f b off [.int .i64 t.k,.int .i64 t.ln,.int .i64 t.co,.int .i64 t.nm,S t.tx,.slice a k.len c]∧k.len≤c∧(k=.nil∨∃D h,a=some ⟨D,h,none⟩∧Yj w f k D h))∧Yj w f r b (off+6)
def Bq(w:wO)(f:Fq)(k:Fo)(a:oA)(c:Nat):Prop:=k.len≤c∧(k=.nil∨∃b off,a=some ⟨b,off,none⟩∧Yj w f k b off)
variable {f f':Fq}{co ln nm:Int}{xs ys:lV}{b:Nat}{w w':wO}
theorem Yj.mono(D:HF w f w' f'):∀(k:Fo)(b off:Nat),Yj w f k b off→Yj w' f' k b off
 |.nil,_,_,_=>trivial
 |.cons _ k r,b,off,⟨⟨a,c,G,J,K⟩,L⟩=>⟨⟨a,c,G.mono D,J,K.imp id λ⟨F,h,O,U⟩=>⟨F,h,O,Yj.mono D k F h U⟩⟩,Yj.mono D r b _ L⟩
theorem Bq.mono{k:Fo}{a:oA}{c:Nat}:EI (λw f=>Bq w f k a c):=λ_ _ _ _ h D=>⟨h.1,h.2.imp id λ⟨b,off,F,G⟩=>⟨b,off,F,Yj.mono D k b off G⟩⟩
theorem Bq.nil(w:wO)(f:Fq)(a:oA)(c:Nat):Bq w f .nil a c:=⟨Nat.zero_le _,.inl C⟩
def Bt(w:wO)(f:Fq)(a:oA)(i:Nat)(r:Fo):Prop:=r=.nil∨∃b off,a=some ⟨b,off,none⟩∧Yj w f r b (off+i*6)
theorem Bt.mono{a:oA}{i:Nat}{r:Fo}:EI (λw f=>Bt w f a i r):=λ_ _ _ _ h D=>h.imp id λ⟨b,off,F,G⟩=>⟨b,off,F,Yj.mono D r b _ G⟩
theorem Bq.at{k:Fo}{a:oA}{c:Nat}(h:Bq w f k a c):Bt w f a 0 k:=h.2.imp id λ⟨b,off,D,F⟩=>⟨b,off,D,by simpa using F⟩
def LQ(t:Aq)(a:oA)(n c:Nat):lV:=[.int .i64 t.k,.int .i64 t.ln,.int .i64 t.co,.int .i64 t.nm,S t.tx,.slice a n c]
abbrev fV(t:Aq)(a:oA)(n c:Nat):Value:=.agg #[.int .i64 t.k,.int .i64 t.ln,.int .i64 t.co,.int .i64 t.nm,S t.tx,.slice a n c]
theorem Bt.head{a:oA}{i:Nat}{t:Aq}{k r:Fo}(h:Bt w f a i (.cons t k r)):∃b off ka kc,a=some ⟨b,off,none⟩∧Cs w f b (off+i*6) (LQ t ka k.len kc)∧Bq w f k ka kc∧Bt w f a (i+1) r:=by
 rcases h with h|⟨b,off,D,⟨ka,kc,F,G⟩,J⟩
 · cases h
 · exact⟨b,off,ka,kc,D,F,G,.inr ⟨b,off,D,by rw[show off+(i+1)*6=off+i*6+6 by omega];exact J⟩⟩
theorem Bt.rest{a:oA}{t:Aq}{k r:Fo}{c:Nat}(h:Bq w f (.cons t k r) a c):Bq w f r (DL a c 6) (c-1):=by
 obtain⟨F,D⟩:=h;simp only[Fo.len] at F;refine⟨oM,?_⟩;rcases D with D|⟨b,off,rfl,K,G⟩
 · cases D
 · by_cases J:c=1
   · left
     cases r with
     |nil=>rfl
     |cons _ _ _=>simp only[Fo.len] at F;omega
   · exact .inr ⟨b,off+1*6,by unfold DL;rw[if_neg J];rfl,G⟩
def BH(w:wO)(f:Fq):Nd→lV→Prop
 |.nil,xs=>xs=[]
 |.cons op ln co tx nm k r,xs=>∃a c xs',xs=GQ op ln co tx nm a k.len c++xs'∧Bc w f k a c∧BH w f r xs'
theorem BH.mono'(D:HF w f w' f'):∀(k:Nd)(xs:lV),BH w f k xs→BH w' f' k xs
 |.nil,_,h=>h
 |.cons _ _ _ _ _ _ r,_,⟨a,c,xs',F,G,J⟩=>⟨a,c,xs',F,Bc.mono _ _ _ _ G D,BH.mono' D r xs' J⟩
theorem BH.mono{k:Nd}:EI (λw f=>BH w f k xs):=λ_ _ _ _ h D=>BH.mono' D k xs h
theorem BH.app{y:Nd}(D:BH w f y ys):∀{x:Nd}{xs:lV},BH w f x xs→BH w f (x.app y) (xs++ys)
 |.nil,xs,h=>by have h:xs=[]:=h;subst h;exact D
 |.cons _ _ _ _ _ _ r,_,⟨a,c,xs',F,G,J⟩=>⟨a,c,xs'++ys,by rw[F,List.append_assoc],G,BH.app D J⟩
theorem BH.one{op:Int}{tx:lU}{k:Nd}{a:oA}{c:Nat}(h:Bc w f k a c):BH w f (.cons op ln co tx nm k .nil) (GQ op ln co tx nm a k.len c):=⟨a,c,[],by simp,h,C⟩
theorem BH.len:∀{k:Nd}{xs:lV},BH w f k xs→xs.length=k.len*6
 |.nil,xs,h=>by have h:xs=[]:=h;subst h;rfl
 |.cons _ _ _ _ _ _ r,_,⟨a,c,xs',D,G,F⟩=>by subst D;have:=BH.len F;simp[Nd.len,GQ,this];omega
theorem BH.toG:∀{k:Nd}{xs:lV}{off:Nat},BH w f k xs→Cs w f b off xs→Xr w f k b off
 |.nil,_,_,_,_=>trivial
 |.cons _ _ _ _ _ k r,_,off,⟨a,c,xs',D,F,G⟩,h=>by
   subst D;exact⟨⟨a,c,Cs.le h,F⟩,BH.toG G (Cs.drop h)⟩
theorem BH.toF{c:Nat}{k:Nd}(h:BH w f k xs)(D:Cs w f b 0 xs)(F:k.len≤c):Bc w f k (some ⟨b,0,none⟩) c:=⟨F,.inr ⟨b,0,C,BH.toG h D⟩⟩
theorem G8{X:Cx}{H:List HB}{R:List RB}{B:List FB}{Fs:List (wO→Fq→Prop)}{e:tI}{a:oA}{c m:Nat}{k:Nd}(F:AO X w f H (⟨e,6,a,c,m,xs⟩::R) B Fs)(J:BH w f k xs):∃f',AO X w f' H R B Fs∧Bc w f' k a c:=by
 have K:=F.row _ (.head _);have hlen:=BH.len J;have hm:m=k.len:=by have:=K.1;simp only at this;omega
 rcases K.2 with ⟨_,_,h⟩|⟨b,l,L,_,G,_⟩
 · simp only at h
   have O:k=.nil:=by
     cases k with
     |nil=>rfl
     |cons _ _ _ _ _ _ _=>simp only[Nd.len] at hm;omega
   exact⟨f,F.less (List.Sublist.refl _) (List.sublist_cons_self _ _) (λ_ h=>h) (λ_ h=>h),by rw[O];exact⟨Nat.zero_le _,.inl C⟩⟩
 · simp only at L G
   subst L;obtain⟨f',D⟩:=(F.more (B':=[]) (F':=[λw f=>BH w f k xs]) (λ_ h=>by cases h) (AR.mem ⟨J,tQ⟩) (Au.mem ⟨BH.mono,tQ⟩)).done (i:=0) C C;exact⟨f',D.less (List.Sublist.refl _) (List.Sublist.refl _) (λe he=>.tail _ he) (λφ h=>.tail _ h),BH.toF (D.fact (i:=0) C) (D.fro _ (.head _)) oM⟩
end Go.SP
namespace Go.SP
open Go.SW Go.RowKit
theorem Nd.app_len:∀x y:Nd,(x.app y).len=x.len+y.len
 |.nil,y=>by simp[Nd.app,Nd.len]
 |.cons _ _ _ _ _ _ r,y=>by simp only[Nd.app,Nd.len,Nd.app_len r y];omega
section
variable{m:Aq→Fo→R N}{t:Aq}{k r:Fo}{a:N}{dn:Nd}{e:Int×Int}
theorem V7(h:m t k=.ok a):(match AL m (.cons t k r) with|.error e=>.error e|.ok b=>.ok (dn.app b):R Nd)=(match AL m r with|.error e=>.error e|.ok b=>.ok ((dn.app a.one).app b)):=by
 simp only[AL,h]
 cases AL m r with
 |error e=>rfl
 |ok b=>simp only[Nd.app_assoc];rfl
theorem Xh(h:m t k=.error e):(match AL m (.cons t k r) with|.error e=>.error e|.ok b=>.ok (dn.app b):R Nd)=.error e:=by simp only[AL,h]
theorem Tk{l:Fo}:AL m l=(match AL m l with|.error e=>.error e|.ok b=>.ok (Nd.nil.app b)):=by cases AL m l <;> rfl
end
theorem Fo.cases1:∀r:Fo,0<r.len→∃t k q,r=.cons t k q
 |.nil,h=>by cases h
 |.cons t k q,_=>⟨t,k,q,C⟩
theorem Fo.len0:∀{r:Fo},r.len=0→r=.nil
 |.nil,_=>rfl
 |.cons _ _ _,h=>by simp[Fo.len] at h
abbrev H7(x:R N)(w:wO)(f:Fq):Value→wO→Prop:=AU (α:=N×oA×Nat) (λy=>nV y.1.op y.1.ln y.1.co y.1.tx y.1.nm y.1.kids y.2.1 y.2.2) (λy=>x=.ok y.1) (λy=>[λw f=>Bc w f y.1.kids y.2.1 y.2.2]) w f
abbrev HX(T:tI)(x:R N)(w:wO)(f:Fq):List PanicEntry→wO→Prop:=RZ T (λe=>x=.error e) w f
end Go.SP
namespace Go.SP
open Go.SW Go.RowKit
variable {f:Fq}{w w':wO}
theorem ZN.fro{T:tI}{q:Nd×lV→Prop}{v:Value}(F:Vl w f)(h:ZN T 6 (λx:Nd×lV=>x.1.len) (λx=>x.2) q (λx=>[λw f=>BH w f x.1 x.2]) w f v w') :
   AU (α:=(Nd×lV)×oA×Nat) (λy=>.slice y.2.1 y.1.1.len y.2.2) (λy=>q y.1) (λy=>[λw f=>Bc w f y.1.1 y.2.1 y.2.2]) w f v w':=by
 obtain⟨x,a,c,f',G,J,K,L,O,U,-⟩:=h;have W:=(Be F (Fs:=[]) tQ tQ).addRow K L O;obtain⟨f2,D,Y⟩:=G8 W U;exact⟨(x,a,c),f2,G,J,D.exm,Y,tQ⟩
end Go.SP
namespace Go.SP
open Go.SW Go.RowKit
variable {lo x:Operand}{w:wO}
theorem Cd{P:Program}{σ:Ba}{ty T e:tI}{k len m c:Nat}{a:oA}(D:len=m+1)(F:ev σ x=some (.slice a len c))(h:ev σ lo=some (.int .i64 1))(G:Hj P T=some (e,k)):AK P σ (.slice T x (some lo) none none) ty w (.slice (DL a c k) m (c-1)) w:=by
 subst D;exact Wj F h G
end Go.SP
namespace Go.SP
open Go.SW Go.RowKit
variable {f:Fq}{xs:lV}{w:wO}
theorem BH.one':∀{k:Nd}{xs:lV},BH w f k xs→∀v∈xs,v.oneCell'=true
 |.nil,xs,h,v,D=>by have h:xs=[]:=h;subst h;cases D
 |.cons _ _ _ _ _ _ r,_,⟨a,c,xs',F,J,G⟩,v,D=>by
   subst F;rcases List.mem_append.1 D with D|D
   · simp only[GQ,List.mem_cons,List.not_mem_nil,or_false] at D
     rcases D with rfl|rfl|rfl|rfl|rfl|rfl <;> rfl
   · exact BH.one' G v D
theorem BH.cons'{nd:N}{r:Nd}{a:oA}{c:Nat}(h:Bc w f nd.kids a c)(D:BH w f r xs):BH w f (nd.cons r) (GQ nd.op nd.ln nd.co nd.tx nd.nm a nd.kids.len c++xs):=⟨a,c,xs,C,h,D⟩
theorem Fo.two:∀l:Fo,(∃p h b bk,l=.cons p h (.cons b bk .nil))∨l.len≠2
 |.nil=>.inr (by simp[Fo.len])
 |.cons _ _ .nil=>.inr (by simp[Fo.len])
 |.cons p h (.cons b bk .nil)=>.inl ⟨p,h,b,bk,C⟩
 |.cons _ _ (.cons _ _ (.cons _ _ r))=>.inr (by simp only[Fo.len];omega)
theorem Fo.three:∀l:Fo,(∃p h b bk c D,l=.cons p h (.cons b bk (.cons c D .nil)))∨l.len≠3
 |.nil=>.inr (by simp[Fo.len])
 |.cons _ _ .nil=>.inr (by simp[Fo.len])
 |.cons _ _ (.cons _ _ .nil)=>.inr (by simp[Fo.len])
 |.cons p h (.cons b bk (.cons c D .nil))=>.inl ⟨p,h,b,bk,c,D,C⟩
 |.cons _ _ (.cons _ _ (.cons _ _ (.cons _ _ r)))=>.inr (by simp only[Fo.len];omega)
theorem Fo.single:∀l:Fo,(∃p h,l=.cons p h .nil)∨l.len≠1
 |.nil=>.inr (by simp[Fo.len])
 |.cons p h .nil=>.inl ⟨p,h,C⟩
 |.cons _ _ (.cons _ _ r)=>.inr (by simp only[Fo.len];omega)
section
variable{n:Nat}{ex:Aq→Fo→R N}{t:Aq}{l:Fo}
theorem fm_fn(h:l.len≠2):Bo n ex t [102,110] l=.error (t.ln,t.co):=by
 unfold Bo;rw[if_pos (by decide)]
 split
 · simp[Fo.len] at h
 · rfl
theorem uR(h:l.len≠3):Bo n ex t [108,101,116] l=.error (t.ln,t.co):=by
 unfold Bo;rw[if_neg (by decide),if_pos (by decide)]
 split
 · simp[Fo.len] at h
 · rfl
theorem xH(h:l.len≠3):Bo n ex t [114,101,99] l=.error (t.ln,t.co):=by
 unfold Bo;rw[if_neg (by decide),if_neg (by decide),if_pos (by decide)]
 split
 · simp[Fo.len] at h
 · rfl
theorem cA{w:lU}(hw:w=[114,97,105,115,101]∨w=[116,114,97,110,115,97,99,116])(h:l.len≠1):Bo n ex t w l=.error (t.ln,t.co):=by
 unfold Bo;rw[if_neg (by rcases hw with rfl|rfl <;> decide),if_neg (by rcases hw with rfl|rfl <;> decide),if_neg (by rcases hw with rfl|rfl <;> decide),if_neg (by rcases hw with rfl|rfl <;> decide),if_neg (by rcases hw with rfl|rfl <;> decide),if_neg (by rcases hw with rfl|rfl <;> decide),if_neg (by rcases hw with rfl|rfl <;> decide),if_pos (by rcases hw with rfl|rfl <;> decide)]
 split
 · simp[Fo.len] at h
 · rfl
end
end Go.SP
namespace Go.SW
open Go.RowKit Go.SP
section
variable{P:Program}{n:Nat}{Q:AV}{ds:List Deferred}{X:Cx}{R:List RB}{B:List FB}{Fs:List (wO→Fq→Prop)}{fs:List Fr}{σ:Ba}{H:List HB}{k:K3}{na:oA}{i c:Nat}{t:Aq}{q r:Fo}
theorem Hr(j:Nat)(D:nth Fs j=some (λw f=>Bt w f na i (.cons t q r)))
   (h:∀x:Nat×Nat×oA×Nat,na=some ⟨x.1,x.2.1,none⟩→A1 P n Q ds X R (⟨x.1,x.2.1+i*6,LQ t x.2.2.1 q.len x.2.2.2⟩::B) ((λw f=>Bq w f q x.2.2.1 x.2.2.2)::(λw f=>Bt w f na (i+1) r)::Fs) k fs σ H):A1 P n Q ds X R B Fs k fs σ H :=
 Hh (α:=Nat×Nat×oA×Nat) (λx=>na=some ⟨x.1,x.2.1,none⟩) (λ_=>[_]) (λ_=>[_,_]) (λ_ _ F=>let ⟨b,off,ka,kc,G,J,K,L⟩:=Bt.head (F.fn D);⟨(b,off,ka,kc),G,oE J,AR.mem ⟨K,L,tQ⟩⟩) (λ_=>Au.mem ⟨Bq.mono,Bt.mono,tQ⟩) h
variable {b o:Nat}
theorem MY(j:Nat)(D:nth Fs j=some (λw f=>Bt w f (some ⟨b,o,none⟩) i (.cons t q r)))
   (h:∀x:oA×Nat,A1 P n Q ds X R (⟨b,o+i*6,LQ t x.1 q.len x.2⟩::B) ((λw f=>Bq w f q x.1 x.2)::(λw f=>Bt w f (some ⟨b,o,none⟩) (i+1) r)::Fs) k fs σ H):A1 P n Q ds X R B Fs k fs σ H :=
 Hr j D λx e=>by
   obtain⟨F,G,ka,kc⟩:=x
   cases e
   exact h (ka,kc)
theorem JN{x:Fo}(j:Nat)(D:nth Fs j=some (λw f=>Bq w f x na c))(h:A1 P n Q ds X R B ((λw f=>Bt w f na 0 x)::Fs) k fs σ H):A1 P n Q ds X R B Fs k fs σ H:=BI _ (λ_ _ F=>Bq.at (F.fn D)) Bt.mono h
theorem cW(j:Nat)(D:nth Fs j=some (λw f=>Bq w f (.cons t q r) na c))(h:A1 P n Q ds X R B ((λw f=>Bq w f r (DL na c 6) (c-1))::Fs) k fs σ H):A1 P n Q ds X R B Fs k fs σ H:=BI _ (λ_ _ F=>Bt.rest (F.fn D)) Bq.mono h
end
end Go.SW
namespace Go.SW
open Go.RowKit
def CsW(w:wO)(e:FB):Prop:=∀j v,e.l[j]?=some v→w.cell? ⟨e.b,e.off+j,none⟩=some v
def BK(w:wO):List FB→Prop
 | []=>True
 |e::l=>CsW w e∧BK w l
theorem Fb(w:wO):BK w []:=trivial
variable {σ:Ba}{r:List Oper}{l:lV}{b:Nat}{T:tI}
theorem kB{w:wO}{B:List FB}(h:AS w b l T)(d:BK w B):BK w (⟨b,0,l⟩::B) :=
 ⟨λj v D=>by rw[h.cell,Nat.zero_add];exact D,d⟩
theorem BK.get{w:wO}:∀{B:List FB}{i:Nat}{e:FB},BK w B→nth B i=some e→CsW w e
 |_::_,0,_,h,d=>by cases d;exact h.1
 |_::B,i+1,e,h,d=>BK.get (B:=B) h.2 d
section
variable(P:Program)(n:Nat)(Q:AV)(ds:List Deferred)(w:wO)(B:List FB)(tb:Ym)
def Stp1(k:K3)(fs:List Fr)(σ:Ba):Prop:=match k with
 |.code c=>GP P n c (Lo P n Q fs) σ ds w
 |.ops all l=>Gd P n all.toArray (Lo P n Q fs) l σ ds w
 |.out e=>(Lo P n Q fs).q e σ ds w
def Ij:Nat→List Nat→K3→List Fr→Ba→Prop
 |0,_,k,fs,σ=>True→Stp1 P n Q ds w k fs σ
 |m+1,D,.code c,fs,σ=>(match c with
   |.skip=>Ij m D (.out .normal) fs σ
   |.ret=>Ij m D (.out .ret) fs σ
   |.exit i=>Ij m D (.out (.exit i)) fs σ
   |.seq a b=>Ij m D (.code a) (.sq b::fs) σ
   |.block i a=>Ij m D (.code a) (.bk i::fs) σ
   |.region _ ⟨l⟩ false=>Ij m D (.ops l l) fs σ
   |.cond x a b=>(match ev σ x with
     |some (.bool true)=>Ij m D (.code a) fs σ
     |some (.bool false)=>Ij m D (.code b) fs σ
     |_=>False)
   |_=>False)
 |m+1,D,.out e,fs,σ=>(match fs with
   | []=>False
   |.sq y::fs=>(match e with
     |.normal=>Ij m D (.code y) fs σ
     |.ret=>Ij m D (.out .ret) fs σ
     |.exit i=>Ij m D (.out (.exit i)) fs σ
     |_=>False)
   |.bk i::fs=>(match e with
     |.normal=>Ij m D (.out .normal) fs σ
     |.ret=>Ij m D (.out .ret) fs σ
     |.exit j=>(match Nat.beq j i with
       |true=>Ij m D (.out .normal) fs σ
       |false=>Ij m D (.out (.exit j)) fs σ)
     |_=>False))
 |m+1,D,.ops all [],fs,σ=>Ij m D (.out .normal) fs σ
 |m+1,D,.ops all (⟨dst,op,ty,pos,J,g⟩::r),fs,σ=>(match gd all σ g with
   |none=>False
   |some false=>(match dst with
     |some d=>(match Nat.blt d n with
       |true=>Ij m D (.ops all r) fs (AI σ d undef)
       |false=>False)
     |none=>False)
   |some true=>(match dst with
     |none=>False
     |some d=>(match Nat.blt d n with|false=>False|true=>(match op with
       |.load T x=>(match D with
         |h::q::D=>(match ev σ x,qM tb.ti T with
           |some (.pointer (some ⟨b,o,none⟩)),some (a,k)=>(match nth B h with
             |some ⟨F,off,l⟩=>(match a with
               |false=>(match nth l q with
                 |some v=>(F=b∧off+q=o)∧Ij m D (.ops all r) fs (AI σ d v)
                 |none=>False)
               |true=>(match UH l q k with
                 |some vs=>(F=b∧off+q=o)∧Ij m D (.ops all r) fs (AI σ d (.agg ⟨vs⟩))
                 |none=>False))
             |none=>False)
           |_,_=>False)
         |_=>False)
       |.indexAddr T x y=>(match ev σ x,ev σ y,WO tb.sl T with
         |some (.slice (some ⟨b,o,none⟩) len _),some (.int _ i),some (_,k)=>(0≤i∧i<len)∧Ij m D (.ops all r) fs (AI σ d (.pointer (some ⟨b,o+i.toNat*k,none⟩)))
         |_,_,_=>False)
       |.index T x y=>(match ev σ x,ev σ y,yK tb.st T with
         |some (.string ⟨⟨s⟩⟩),some (.int _ i),true=>(0≤i∧i<s.length)∧∀c,s[i.toNat]?=some c→Ij m D (.ops all r) fs (AI σ d (.int .u8 c.toNat))
         |_,_,_=>False)
       |.binOp .add T x y G=>(match ev σ x,ev σ y with
         |some (.int .i64 a),some (.int .i64 b)=>Qj (a+b)∧Ij m D (.ops all r) fs (AI σ d (.int .i64 (a+b)))
         |_,_=>False)
       |.binOp .sub T x y G=>(match ev σ x,ev σ y with
         |some (.int .i64 a),some (.int .i64 b)=>Qj (a-b)∧Ij m D (.ops all r) fs (AI σ d (.int .i64 (a-b)))
         |_,_=>False)
       |op=>(match pv tb σ op with
         |some v=>Ij m D (.ops all r) fs (AI σ d v)
         |none=>False)))))
end
section
variable{P:Program}{n:Nat}{Q:AV}{ds:List Deferred}{w:wO}{B:List FB}{tb:Ym}
theorem Fj(F:tb.Ok P)(L:BK w B):∀(m:Nat)(O:List Nat)(k:K3)(fs:List Fr)(σ:Ba),Ij P n Q ds w B tb m O k fs σ→Stp1 P n Q ds w k fs σ
 |0,_,_,_,_,h=>h tQ
 |m+1,O,.code c,fs,σ,h=>by
   have d:=Fj F L m;unfold Ij at h
   split at h
   · exact HD (d _ _ _ _ h)
   · exact J6 (d _ _ _ _ h)
   · exact KP (d _ _ _ _ h)
   · exact BF (d _ _ _ _ h)
   · exact DU (d _ _ _ _ h)
   · exact C6 (d _ _ _ _ h)
   · split at h
     · rename_i D;exact F2 D C (d _ _ _ _ h)
     · rename_i D;exact J4 D C (d _ _ _ _ h)
     · exact h.elim
   · exact h.elim
 |m+1,O,.out e,fs,σ,h=>by
   have d:=Fj F L m;unfold Ij at h
   split at h
   · exact h.elim
   · split at h
     · exact Dr (d _ _ _ _ h)
     · exact VQ (d _ _ _ _ h)
     · exact WE (d _ _ _ _ h)
     · exact h.elim
   · split at h
     · exact IA (d _ _ _ _ h)
     · exact WL (d _ _ _ _ h)
     · split at h
       · rename_i W
         have e:=Nat.eq_of_beq_eq_true W;subst e;exact PE (d _ _ _ _ h)
       · rename_i W;exact pZ W (d _ _ _ _ h)
     · exact h.elim
 |m+1,O,.ops all [],fs,σ,h=>by
   unfold Ij at h;exact Ah (Fj F L m _ _ _ _ h)
 |m+1,O,.ops all (⟨dst,op,ty,pos,af,g⟩::r),fs,σ,h=>by
   have d:=Fj F L m;unfold Ij at h
   split at h
   · exact h.elim
   · rename_i Y
     split at h
     · split at h
       · rename_i hd;exact Og Y hd (d _ _ _ _ h)
       · exact h.elim
     · exact h.elim
   · rename_i Y
     refine Bh Y ?_
     split at h
     · exact h.elim
     · split at h
       · exact h.elim
       rename_i hd
       split at h
       · split at h
         · split at h
           · rename_i D J
             split at h
             · rename_i Z
               have hc:=L.get Z
               split at h
               · split at h
                 · rename_i v K
                   obtain⟨⟨rfl,rfl⟩,h⟩:=h;rw[Es] at K;exact Ac hd (IW D (FR F.ti J) (hc _ v K)) (d _ _ _ _ h)
                 · exact h.elim
               · split at h
                 · rename_i vs K
                   obtain⟨⟨rfl,rfl⟩,h⟩:=h;obtain⟨hk,hg2⟩:=QX K;exact Ac hd (K9 D (FR F.ti J) hk (λj v hj=>by have:=hc _ v (hg2 j v hj);rwa[← Nat.add_assoc] at this)) (d _ _ _ _ h)
                 · exact h.elim
             · exact h.elim
           · exact h.elim
         · exact h.elim
       · split at h
         · rename_i D G J
           exact Ac hd (Oo D G (JT F.sl J) h.1) (d _ _ _ _ h.2)
         · exact h.elim
       · split at h
         · rename_i s _ i D G J
           obtain⟨h1,h⟩:=h;have U:i.toNat<s.length:=oM;exact Ac hd (C1 D G (QZ F.st J) h1.1 (List.getElem?_eq_getElem U)) (d _ _ _ _ (h _ (List.getElem?_eq_getElem U)))
         · exact h.elim
       · split at h
         · rename_i D G
           exact Ac hd (NQ D G h.1) (d _ _ _ _ h.2)
         · exact h.elim
       · split at h
         · rename_i D G
           exact Ac hd (G0 D G h.1) (d _ _ _ _ h.2)
         · exact h.elim
       · split at h
         · rename_i v K
           exact Ac hd (QE F K) (d _ _ _ _ h)
         · exact h.elim
theorem gL{all:List Oper}(fs:List Fr)(D:tb.Ok P)(m:Nat)(d:List Nat)(F:BK w B)(h:Ij P n Q ds w B tb m d (.ops all r) fs σ):Gd P n all.toArray (Lo P n Q fs) r σ ds w:=Fj D F m d _ fs σ h
theorem gP{c:Code}(fs:List Fr)(D:tb.Ok P)(m:Nat)(d:List Nat)(F:BK w B)(h:Ij P n Q ds w B tb m d (.code c) fs σ):GP P n c (Lo P n Q fs) σ ds w:=Fj D F m d _ fs σ h
theorem gQ{e:Exit}(fs:List Fr)(D:tb.Ok P)(m:Nat)(d:List Nat)(F:BK w B)(h:Ij P n Q ds w B tb m d (.out e) fs σ):(Lo P n Q fs).q e σ ds w:=Fj D F m d _ fs σ h
theorem sL{all:Array Oper}{Q:AV}{b:Bool}(t:Nat)(h:σ t=some (.bool b))(D:b=true→Gd P n all Q r (AI σ t (.bool true)) ds w)(F:b=false→Gd P n all Q r (AI σ t (.bool false)) ds w):Gd P n all Q r σ ds w:=by
 cases b with
 |true=>exact λa d=>D C a (d.le (Av (le_refl _) h))
 |false=>exact λa d=>F C a (d.le (Av (le_refl _) h))
theorem sP{c:Code}{Q:AV}{b:Bool}(t:Nat)(d:σ t=some (.bool b))(h:b=true→GP P n c Q (AI σ t (.bool true)) ds w)(D:b=false→GP P n c Q (AI σ t (.bool false)) ds w):GP P n c Q σ ds w:=by
 cases b with
 |true=>exact N8 (Av (le_refl _) d) (h C)
 |false=>exact N8 (Av (le_refl _) d) (D C)
theorem kP{c:Code}{Q:AV}{b:Bool}(t:Nat)(c':Bool)(d:σ t=some (.bool b))(D:b=c')(h:GP P n c Q (AI σ t (.bool c')) ds w):GP P n c Q σ ds w:=by
 subst D;exact N8 (Av (le_refl _) d) h
end
def zQ(d:Ba)(I:wO→Prop)(h:List Deferred)(Q:AV):AV :=
 {q:=λe σ ds w=>match e with|.normal=>Le d σ∧ds=h∧I w|e=>Q.q e σ ds w,p:=Q.p}
theorem Rx{P:Program}{n:Nat}{Q:AV}{ds:List Deferred}{w:wO}{x y:Code}(d:Ba)(I:wO→Prop)(D:GP P n x (zQ d I ds Q) σ ds w)(F:∀w',I w'→GP P n y Q d ds w'):GP P n (.seq x y) Q σ ds w :=
 BF λa G=>wp_mono (D a G) λe a' w' he=>by
   cases e with
   |normal=>obtain⟨h,J,K,L,rfl,O⟩:=he;exact⟨h,_,K,N8 L (F w' O)⟩
   |panic c=>exact he
   |outgrown=>exact he
   |ret=>exact he
   |exit i=>exact he
   |goto i=>exact he
theorem PO{d:Ba}{I:wO→Prop}{ds:List Deferred}{Q:AV}{w:wO}(D:Le d σ)(h:I w):(zQ d I ds Q).q .normal σ ds w:=⟨D,C,h⟩
end Go.SW
namespace Go.Proofs.YtnojaendcldjpaaGreatDoor
open Go.SW Go.RowKit Go.Proofs.Tryz
theorem I1:Jy prog 27=some (29,4,56,[.int .i64 0,.int .i64 0,.string ⟨#[]⟩,.slice none 0 0]):=kR
theorem YX:Jy prog 63=some (9,1,16,[.string ⟨#[]⟩]):=kR
theorem QH:Jy prog 176=some (3,1,8,[.int .i64 0]):=kR
theorem gB:Wc prog 3 21=some .i32:=kR
theorem C8:Bi prog 14:=Ag func14 kR kR
theorem IS:Bi prog 15:=Ag func15 kR kR
theorem cD:Bi prog 32:=Ag func32 kR kR
theorem En:Bi prog 99:=Ag func99 kR kR
theorem Jn:Bi prog 104:=Ag func104 kR kR
theorem nJ:Bi prog 108:=Ag func108 kR kR
theorem W0:Bi prog 109:=Ag func109 kR kR
theorem VS:Bi prog 129:=Ag func129 kR kR
theorem Nl:Bi prog 130:=Ag func130 kR kR
theorem We:Bi prog 131:=Ag func131 kR kR
theorem W9:Bi prog 137:=Ag func137 kR kR
theorem nH:Bi prog 139:=Ag func139 kR kR
theorem mK:Bi prog 140:=Ag func140 kR kR
theorem Wk:Bi prog 141:=Ag func141 kR kR
theorem Rq:Bi prog 142:=Ag func142 kR kR
theorem HK:Bi prog 157:=Ag func157 kR kR
theorem Qx:Bi prog 158:=Ag func158 kR kR
theorem MR:Bi prog 165:=Ag func165 kR kR
theorem lT:Bi prog 166:=Ag func166 kR kR
theorem jH:Bi prog 183:=Ag func183 kR kR
theorem nC:DD prog 29 0=some 0:=kR
theorem mH:DD prog 29 1=some 1:=kR
theorem iI:DD prog 29 2=some 2:=kR
theorem lD:DD prog 29 3=some 3:=kR
theorem aM:DD prog 224 0=some 0:=kR
theorem aF:DD prog 224 1=some 1:=kR
theorem eG:DD prog 224 2=some 2:=kR
theorem nO:vZ prog 21 9=true:=kR
theorem Nz:Iq prog 190=some (3,4):=kR
theorem eL:Iq prog 195=some (3,9):=kR
theorem Ue:Iq prog 222=some (3,29):=kR
theorem Aj:prog.follows .mixedOrders=true:=kR
theorem qpl29:K2 prog 29=some [(0,1),(1,1),(2,1),(3,1)]:=kR
theorem sT:K2 prog 224=some [(0,1),(1,1),(2,1)]:=kR
theorem Sv:Hj prog 27=some (29,4):=kR
theorem qsl63:Hj prog 63=some (9,1):=kR
theorem wG:Hj prog 176=some (3,1):=kR
theorem IL:AT prog 3=some (false,1):=kR
theorem qti9:AT prog 9=some (false,1):=kR
theorem ZL:AT prog 27=some (false,1):=kR
theorem CA:AT prog 29=some (true,4):=kR
theorem Ns:AT prog 176=some (false,1):=kR
theorem VB:AT prog 222=some (false,1):=kR
theorem OY:prog.underlying 3=some (.int .i64):=kR
theorem uE:prog.underlying 141=some (.pointer 224):=kR
theorem rF:zO prog 4=some (.bool false):=kR
theorem qzo9:zO prog 9=some (.string ⟨#[]⟩):=kR
theorem pF:zO prog 29=some (.agg #[.int .i64 0,.int .i64 0,.string ⟨#[]⟩,.slice none 0 0]):=kR
theorem qzr3:FK prog 3=some [.int .i64 0]:=kR
theorem qzr9:FK prog 9=some [.string ⟨#[]⟩]:=kR
theorem qzr29:FK prog 29=some [.int .i64 0,.int .i64 0,.string ⟨#[]⟩,.slice none 0 0]:=kR
theorem xZ:FK prog 176=some [.slice none 0 0]:=kR
theorem vO:FK prog 224=some [.map none,.int .i64 0,.int .i64 0]:=kR
theorem rO:Bi prog 35:=Ag func35 kR kR
theorem Y0:Bi prog 69:=Ag func69 kR kR
theorem vK:Bi prog 71:=Ag func71 kR kR
theorem Oj:Bi prog 72:=Ag func72 kR kR
theorem aH:Bi prog 73:=Ag func73 kR kR
theorem eZ:Bi prog 74:=Ag func74 kR kR
theorem OK:Bi prog 77:=Ag func77 kR kR
theorem rZ:Bi prog 79:=Ag func79 kR kR
theorem QF:Bi prog 100:=Ag func100 kR kR
theorem gI:Bi prog 101:=Ag func101 kR kR
theorem iC:Bi prog 102:=Ag func102 kR kR
theorem lN:Bi prog 103:=Ag func103 kR kR
theorem VH:Bi prog 105:=Ag func105 kR kR
theorem kG:Bi prog 106:=Ag func106 kR kR
theorem Qr:Bi prog 107:=Ag func107 kR kR
theorem Nf:Bi prog 110:=Ag func110 kR kR
theorem Nj:Bi prog 136:=Ag func136 kR kR
theorem jM:Bi prog 138:=Ag func138 kR kR
theorem WW:Bi prog 159:=Ag func159 kR kR
theorem Zf:DD prog 101 0=some 0:=kR
theorem Zb:DD prog 101 1=some 1:=kR
theorem fE:DD prog 101 2=some 3:=kR
theorem Zy:DD prog 101 4=some 5:=kR
theorem ZE:DD prog 146 0=some 0:=kR
theorem dR:DD prog 146 1=some 1:=kR
theorem YU:DD prog 178 0=some 0:=kR
theorem YF:DD prog 178 1=some 1:=kR
theorem Zo:DD prog 178 2=some 5:=kR
theorem YD:DD prog 181 0=some 0:=kR
theorem Zc:DD prog 181 1=some 4:=kR
theorem Y5:DD prog 183 0=some 0:=kR
theorem ZH:DD prog 183 1=some 1:=kR
theorem dG:DD prog 183 2=some 6:=kR
theorem xE:Iq prog 142=some (9,178):=kR
theorem wX:yE prog 134=true:=kR
theorem qT:K2 prog 134=some [(0,2),(2,1)]:=kR
theorem vN:K2 prog 181=some [(0,4),(4,1)]:=kR
theorem vP:K2 prog 183=some [(0,1),(1,5),(6,1)]:=kR
theorem ZT:Hj prog 39=some (101,6):=kR
theorem VX:AT prog 39=some (false,1):=kR
theorem Dx:AT prog 41=some (true,2):=kR
theorem Bb:AT prog 101=some (true,6):=kR
theorem xO:AT prog 136=some (false,1):=kR
theorem JX:AT prog 141=some (false,1):=kR
theorem uI:AT prog 142=some (false,1):=kR
theorem wA:AT prog 178=some (true,6):=kR
theorem vY:AT prog 181=some (true,5):=kR
theorem LM:prog.underlying 9=some .string:=kR
theorem qY:prog.underlying 136=some (.pointer 183):=kR
theorem tR:FK prog 101=some [.int .i64 0,.int .i64 0,.int .i64 0,.string ⟨#[]⟩,.int .i64 0,.slice none 0 0]:=kR
theorem uA:FK prog 134=some [.int .i64 0,.int .i64 0,.int .i64 0]:=kR
theorem xW:FK prog 178=some [.slice none 0 0,.int .i64 0,.int .i64 0,.string ⟨#[]⟩,.slice none 0 0,.slice none 0 0]:=kR
theorem tY:FK prog 181=some [.int .i64 0,.int .i64 0,.string ⟨#[]⟩,.slice none 0 0,.slice none 0 0]:=kR
theorem vH:FK prog 183=some [.string ⟨#[]⟩,.int .i64 0,.int .i64 0,.string ⟨#[]⟩,.slice none 0 0,.slice none 0 0,.pointer none]:=kR
theorem qap23:Jy prog 23=some (31,6,80,[.string ⟨#[]⟩,.int .i64 0,.int .i64 0,.int .i64 0,.string ⟨#[]⟩,.slice none 0 0]):=kR
theorem nY:Jy prog 56=some (60,2,32,[.string ⟨#[]⟩,.string ⟨#[]⟩]):=kR
theorem oL:Bi prog 5:=Ag func5 kR kR
theorem aZ:Bi prog 11:=Ag func11 kR kR
theorem tX:Bi prog 16:=Ag func16 kR kR
theorem uL:Bi prog 17:=Ag func17 kR kR
theorem Rm:Bi prog 18:=Ag func18 kR kR
theorem dP:Bi prog 66:=Ag func66 kR kR
theorem rH:Bi prog 67:=Ag func67 kR kR
theorem tO:Bi prog 76:=Ag func76 kR kR
theorem xA:Bi prog 84:=Ag func84 kR kR
theorem uV:Bi prog 98:=Ag func98 kR kR
theorem lP:Bi prog 132:=Ag func132 kR kR
theorem iU:DD prog 31 0=some 0:=kR
theorem gO:DD prog 31 2=some 2:=kR
theorem hZ:DD prog 53 0=some 0:=kR
theorem jU:DD prog 53 1=some 1:=kR
theorem lQ:DD prog 53 3=some 3:=kR
theorem kW:DD prog 60 1=some 1:=kR
theorem aB:DD prog 134 0=some 0:=kR
theorem cM:DD prog 134 1=some 2:=kR
theorem Zv:DD prog 146 2=some 2:=kR
theorem eW:DD prog 146 4=some 4:=kR
theorem Q9:Y3 prog 20=true:=kR
theorem ZW:Iq prog 144=some (9,4):=kR
theorem qpl31:K2 prog 31=some [(0,1),(1,1),(2,4)]:=kR
theorem qpl41:K2 prog 41=some [(0,1),(1,1)]:=kR
theorem zS:K2 prog 53=some [(0,1),(1,1),(2,1),(3,1)]:=kR
theorem qpl60:K2 prog 60=some [(0,1),(1,1)]:=kR
theorem sM:K2 prog 146=some [(0,1),(1,1),(2,1),(3,1),(4,1)]:=kR
theorem tN:K2 prog 178=some [(0,1),(1,4),(5,1)]:=kR
theorem qsl23:Hj prog 23=some (31,6):=kR
theorem zZ:Hj prog 48=some (53,4):=kR
theorem qsl56:Hj prog 56=some (60,2):=kR
theorem gV:zG prog 134=true:=kR
theorem Tc:AT prog 23=some (false,1):=kR
theorem qti31:AT prog 31=some (true,6):=kR
theorem Pg:AT prog 42=some (false,1):=kR
theorem qti53:AT prog 53=some (true,4):=kR
theorem Yz:AT prog 56=some (false,1):=kR
theorem tZ:AT prog 134=some (true,3):=kR
theorem qzr23:FK prog 23=some [.slice none 0 0]:=kR
theorem yR:FK prog 31=some [.string ⟨#[]⟩,.int .i64 0,.int .i64 0,.int .i64 0,.string ⟨#[]⟩,.slice none 0 0]:=kR
theorem qzr41:FK prog 41=some [.int .i64 0,.int .i64 0]:=kR
theorem Aa1:FK prog 42=some [.int .i64 0]:=kR
theorem qzr53:FK prog 53=some [.string ⟨#[]⟩,.string ⟨#[]⟩,.int .i64 0,.int .i64 0]:=kR
theorem yQ:FK prog 56=some [.slice none 0 0]:=kR
theorem qzr60:FK prog 60=some [.string ⟨#[]⟩,.string ⟨#[]⟩]:=kR
theorem uF:FK prog 146=some [.pointer none,.map none,.map none,.map none,.int .i64 0]:=kR
theorem Pn:Jy prog 39=some (101,6,72,[.int .i64 0,.int .i64 0,.int .i64 0,.string ⟨#[]⟩,.int .i64 0,.slice none 0 0]):=kR
theorem Zr:Bi prog 22:=Ag func22 kR kR
theorem cU:Bi prog 23:=Ag func23 kR kR
theorem De:Bi prog 24:=Ag func24 kR kR
theorem vX:Bi prog 25:=Ag func25 kR kR
theorem wV:Bi prog 26:=Ag func26 kR kR
theorem AE:Bi prog 41:=Ag func41 kR kR
theorem GK:Bi prog 42:=Ag func42 kR kR
theorem YH:Bi prog 43:=Ag func43 kR kR
theorem V9:Bi prog 44:=Ag func44 kR kR
theorem YW:Bi prog 45:=Ag func45 kR kR
theorem Bj:Bi prog 46:=Ag func46 kR kR
theorem vM:Bi prog 47:=Ag func47 kR kR
theorem O0:Bi prog 48:=Ag func48 kR kR
theorem Kk:Bi prog 49:=Ag func49 kR kR
theorem Dp:Bi prog 50:=Ag func50 kR kR
theorem bD:Bi prog 51:=Ag func51 kR kR
theorem UO:Bi prog 52:=Ag func52 kR kR
theorem Kd:Bi prog 85:=Ag func85 kR kR
theorem Ic:Bi prog 86:=Ag func86 kR kR
theorem qQ:Bi prog 87:=Ag func87 kR kR
theorem mV:Bi prog 121:=Ag func121 kR kR
theorem WH:Bi prog 122:=Ag func122 kR kR
theorem QC:Bi prog 123:=Ag func123 kR kR
theorem MN:Bi prog 124:=Ag func124 kR kR
theorem Qo:Bi prog 152:=Ag func152 kR kR
theorem QI:Bi prog 153:=Ag func153 kR kR
theorem mJ:DD prog 74 0=some 0:=kR
theorem YB:DD prog 117 0=some 0:=kR
theorem cY:DD prog 117 1=some 1:=kR
theorem eH:DD prog 117 2=some 3:=kR
theorem eA:DD prog 117 3=some 4:=kR
theorem dY:DD prog 119 0=some 0:=kR
theorem Y1:DD prog 119 1=some 5:=kR
theorem tF:K2 prog 101=some [(0,1),(1,2),(3,1),(4,1),(5,1)]:=kR
theorem KR:Hj prog 76=some (119,6):=kR
theorem sI:zG prog 74=true:=kR
theorem qti74:AT prog 74=some (true,2):=kR
theorem zV:AT prog 76=some (false,1):=kR
theorem uP:AT prog 119=some (true,6):=kR
theorem qzr39:FK prog 39=some [.slice none 0 0]:=kR
theorem qzr74:FK prog 74=some [.int .i64 0,.int .i64 0]:=kR
theorem wY:FK prog 119=some [.int .i64 0,.int .i64 0,.int .i64 0,.int .i64 0,.string ⟨#[]⟩,.slice none 0 0]:=kR
theorem qap25:Jy prog 25=some (36,6,80,[.string ⟨#[]⟩,.int .i64 0,.int .i64 0,.int .i64 0,.string ⟨#[]⟩,.slice none 0 0]):=kR
theorem qap32:Jy prog 32=some (34,4,56,[.int .i64 0,.int .i64 0,.string ⟨#[]⟩,.slice none 0 0]):=kR
theorem IM:Jy prog 45=some (94,6,72,[.int .i64 0,.int .i64 0,.int .i64 0,.string ⟨#[]⟩,.int .i64 0,.slice none 0 0]):=kR
theorem zB:Jy prog 48=some (53,4,48,[.string ⟨#[]⟩,.string ⟨#[]⟩,.int .i64 0,.int .i64 0]):=kR
theorem qap50:Jy prog 50=some (54,4,48,[.string ⟨#[]⟩,.string ⟨#[]⟩,.int .i64 0,.int .i64 0]):=kR
theorem Wq:Jy prog 79=some (97,5,48,[.int .i64 0,.int .i64 0,.int .i64 0,.int .i64 0,.string ⟨#[]⟩]):=kR
theorem oD:Jy prog 85=some (99,6,72,[.int .i64 0,.int .i64 0,.int .i64 0,.int .i64 0,.string ⟨#[]⟩,.slice none 0 0]):=kR
theorem ZM:Jy prog 123=some (41,2,16,[.int .i64 0,.int .i64 0]):=kR
theorem Mn:Jy prog 127=some (5,1,1,[.int .u8 0]):=kR
theorem P6:kJ prog 127 9=some 5:=kR
theorem xV:Wc prog 3 5=some .u8:=kR
theorem Rf:Wc prog 5 3=some .i64:=kR
theorem bR:Wc prog 5 170=some .u64:=kR
theorem RW:Wc prog 170 3=some .i64:=kR
theorem aY:Wc prog 170 5=some .u8:=kR
theorem P9:cvF prog 5 218=some .f64:=kR
theorem pS:Bi prog 4:=Ag func4 kR kR
theorem qent6:Bi prog 6:=Ag func6 kR kR
theorem pA:Bi prog 7:=Ag func7 kR kR
theorem cB:Bi prog 8:=Ag func8 kR kR
theorem pT:Bi prog 9:=Ag func9 kR kR
theorem rI:Bi prog 10:=Ag func10 kR kR
theorem xI:Bi prog 12:=Ag func12 kR kR
theorem cG:Bi prog 13:=Ag func13 kR kR
theorem DG:Bi prog 19:=Ag func19 kR kR
theorem rK:Bi prog 20:=Ag func20 kR kR
theorem CJ:Bi prog 21:=Ag func21 kR kR
theorem qX:Bi prog 27:=Ag func27 kR kR
theorem Zw:Bi prog 28:=Ag func28 kR kR
theorem tK:Bi prog 29:=Ag func29 kR kR
theorem sH:Bi prog 30:=Ag func30 kR kR
theorem rS:Bi prog 31:=Ag func31 kR kR
theorem rR:Bi prog 36:=Ag func36 kR kR
theorem tP:Bi prog 37:=Ag func37 kR kR
theorem aV:Bi prog 53:=Ag func53 kR kR
theorem vI:Bi prog 54:=Ag func54 kR kR
theorem Z5:Bi prog 55:=Ag func55 kR kR
theorem QW:Bi prog 56:=Ag func56 kR kR
theorem YP:Bi prog 57:=Ag func57 kR kR
theorem HP:Bi prog 58:=Ag func58 kR kR
theorem AD:Bi prog 59:=Ag func59 kR kR
theorem Vg:Bi prog 60:=Ag func60 kR kR
theorem HQ:Bi prog 61:=Ag func61 kR kR
theorem dK:Bi prog 62:=Ag func62 kR kR
theorem Kw:Bi prog 63:=Ag func63 kR kR
theorem Kv:Bi prog 64:=Ag func64 kR kR
theorem Ec:Bi prog 65:=Ag func65 kR kR
theorem sW:Bi prog 88:=Ag func88 kR kR
theorem tD:Bi prog 89:=Ag func89 kR kR
theorem qW:Bi prog 90:=Ag func90 kR kR
theorem UQ:Bi prog 91:=Ag func91 kR kR
theorem bH:Bi prog 92:=Ag func92 kR kR
theorem Qi:Bi prog 93:=Ag func93 kR kR
theorem cE:Bi prog 94:=Ag func94 kR kR
theorem xG:Bi prog 95:=Ag func95 kR kR
theorem eR:Bi prog 96:=Ag func96 kR kR
theorem Uy:Bi prog 97:=Ag func97 kR kR
theorem jV:Bi prog 125:=Ag func125 kR kR
theorem W4:Bi prog 126:=Ag func126 kR kR
theorem Wd:Bi prog 127:=Ag func127 kR kR
theorem VP:Bi prog 128:=Ag func128 kR kR
theorem Q0:Bi prog 155:=Ag func155 kR kR
theorem Wu:Bi prog 156:=Ag func156 kR kR
theorem gF:DD prog 31 1=some 1:=kR
theorem jY:DD prog 34 0=some 0:=kR
theorem hO:DD prog 34 1=some 1:=kR
theorem mT:DD prog 34 2=some 2:=kR
theorem iO:DD prog 34 3=some 3:=kR
theorem iY:DD prog 36 0=some 0:=kR
theorem mA:DD prog 36 1=some 1:=kR
theorem jZ:DD prog 36 2=some 2:=kR
theorem kX:DD prog 41 0=some 0:=kR
theorem gZ:DD prog 41 1=some 1:=kR
theorem gM:DD prog 53 2=some 2:=kR
theorem nN:DD prog 84 0=some 0:=kR
theorem jE:DD prog 84 1=some 1:=kR
theorem kM:DD prog 84 2=some 2:=kR
theorem gC:DD prog 84 3=some 3:=kR
theorem iL:DD prog 92 0=some 0:=kR
theorem jW:DD prog 92 1=some 1:=kR
theorem lX:DD prog 94 0=some 0:=kR
theorem nF:DD prog 94 2=some 3:=kR
theorem lF:DD prog 94 3=some 4:=kR
theorem mC:DD prog 94 4=some 5:=kR
theorem gH:DD prog 97 0=some 0:=kR
theorem gA:DD prog 97 1=some 1:=kR
theorem jF:DD prog 97 2=some 3:=kR
theorem kT:DD prog 97 3=some 4:=kR
theorem gW:DD prog 99 0=some 0:=kR
theorem lG:DD prog 99 1=some 5:=kR
theorem qpl34:K2 prog 34=some [(0,1),(1,1),(2,1),(3,1)]:=kR
theorem zI:K2 prog 36=some [(0,1),(1,1),(2,4)]:=kR
theorem zW:K2 prog 54=some [(0,1),(1,1),(2,1),(3,1)]:=kR
theorem qpl84:K2 prog 84=some [(0,1),(1,1),(2,1),(3,2)]:=kR
theorem zR:K2 prog 92=some [(0,1),(1,2)]:=kR
theorem qpl94:K2 prog 94=some [(0,1),(1,2),(3,1),(4,1),(5,1)]:=kR
theorem qpl97:K2 prog 97=some [(0,1),(1,2),(3,1),(4,1)]:=kR
theorem yV:K2 prog 99=some [(0,5),(5,1)]:=kR
theorem vD:dJ prog 41=true:=kR
theorem qsl25:Hj prog 25=some (36,6):=kR
theorem zH:Hj prog 32=some (34,4):=kR
theorem qsl45:Hj prog 45=some (94,6):=kR
theorem qsl50:Hj prog 50=some (54,4):=kR
theorem qsl79:Hj prog 79=some (97,5):=kR
theorem FW:Hj prog 85=some (99,6):=kR
theorem fF:Hj prog 123=some (41,2):=kR
theorem rC:Hj prog 127=some (5,1):=kR
theorem H8:AT prog 4=some (false,1):=kR
theorem qti32:AT prog 32=some (false,1):=kR
theorem P0:AT prog 34=some (true,4):=kR
theorem qti45:AT prog 45=some (false,1):=kR
theorem qti54:AT prog 54=some (true,4):=kR
theorem qE:AT prog 79=some (false,1):=kR
theorem qti85:AT prog 85=some (false,1):=kR
theorem A2:AT prog 94=some (true,6):=kR
theorem Oh:AT prog 97=some (true,5):=kR
theorem qti99:AT prog 99=some (true,6):=kR
theorem qun4:prog.underlying 4=some .bool:=kR
theorem qzr5:FK prog 5=some [.int .u8 0]:=kR
theorem Aa2:FK prog 34=some [.int .i64 0,.int .i64 0,.string ⟨#[]⟩,.slice none 0 0]:=kR
theorem qzr36:FK prog 36=some [.string ⟨#[]⟩,.int .i64 0,.int .i64 0,.int .i64 0,.string ⟨#[]⟩,.slice none 0 0]:=kR
theorem qzr54:FK prog 54=some [.string ⟨#[]⟩,.string ⟨#[]⟩,.int .i64 0,.int .i64 0]:=kR
theorem zK:FK prog 84=some [.slice none 0 0,.int .i64 0,.bool false,.int .i64 0,.int .i64 0]:=kR
theorem zY:FK prog 92=some [.bool false,.int .i64 0,.int .i64 0]:=kR
theorem qzr94:FK prog 94=some [.int .i64 0,.int .i64 0,.int .i64 0,.string ⟨#[]⟩,.int .i64 0,.slice none 0 0]:=kR
theorem qzr97:FK prog 97=some [.int .i64 0,.int .i64 0,.int .i64 0,.int .i64 0,.string ⟨#[]⟩]:=kR
theorem qzr99:FK prog 99=some [.int .i64 0,.int .i64 0,.int .i64 0,.int .i64 0,.string ⟨#[]⟩,.slice none 0 0]:=kR
end Go.Proofs.YtnojaendcldjpaaGreatDoor
namespace Go.Proofs.YtnojaendcldjpaaGreatDoor
open Go.SW Go.SP Go.RowKit Go.Proofs.Tryz
def gT:Ym:=⟨[(29,3,3),(101,4,5),(101,2,3),(119,0,0),(117,3,4),(29,0,0),(101,1,1),(119,1,5),(101,0,0),(29,1,1),(97,1,1),(99,0,0),(92,0,0),(94,4,5),(146,0,0),(97,3,4),(99,1,5),(94,2,3),(94,0,0),(117,0,0),(97,0,0),(117,1,1),(29,2,2),(116,2,2),(146,1,1),(178,0,0),(181,0,0),(181,1,4),(84,2,2),(117,2,3),(41,1,1),(41,0,0),(224,0,0),(224,2,2),(183,2,6),(183,1,1),(146,2,2),(146,4,4),(53,1,1),(53,3,3),(53,0,0),(31,0,0),(31,2,2),(60,1,1),(84,3,3),(92,1,1),(97,2,3),(94,3,4),(74,0,0),(116,1,1),(321,0,0),(224,1,1),(178,2,5),(178,1,1),(183,0,0),(134,0,0),(134,1,2),(84,1,1),(84,0,0),(34,3,3),(34,0,0),(34,1,1),(34,2,2),(36,0,0),(31,1,1),(36,1,1),(36,2,2),(53,2,2)],[(27,29,4),(39,101,6),(76,119,6),(85,99,6),(176,3,1),(45,94,6),(63,9,1),(127,5,1),(48,53,4),(23,31,6),(32,34,4),(56,60,2),(123,41,2),(79,97,5),(50,54,4),(25,36,6),(70,117,5),(120,76,1)],[9],[],[(3,false,1),(9,false,1),(41,true,2),(29,true,4),(101,true,6),(27,false,1),(39,false,1),(119,true,6),(4,false,1),(99,true,6),(76,false,1),(94,true,6),(45,false,1),(85,false,1),(176,false,1),(141,false,1),(34,true,4),(42,false,1),(178,true,6),(97,true,5),(136,false,1),(56,false,1),(117,true,5),(74,true,2),(70,false,1),(181,true,5),(53,true,4),(31,true,6),(134,true,3),(32,false,1),(54,true,4)],[(29,zT),(101,zN),(94,zN),(41,[iV 0,iV 0]),(119,[iV 0,iV 0,iV 0,iV 0,.string ⟨#[]⟩,.slice none 0 0]),(3,[iV 0]),(9,[.string ⟨#[]⟩]),(74,[iV 0,iV 0]),(113,[iV 0,iV 0]),(178,[.slice none 0 0,iV 0,iV 0,.string ⟨#[]⟩,.slice none 0 0,.slice none 0 0]),(53,[.string ⟨#[]⟩,.string ⟨#[]⟩,iV 0,iV 0]),(97,[iV 0,iV 0,iV 0,iV 0,.string ⟨#[]⟩]),(99,[iV 0,iV 0,iV 0,iV 0,.string ⟨#[]⟩,.slice none 0 0]),(34,zT),(42,[iV 0]),(117,[iV 0,iV 0,iV 0,iV 0,.string ⟨#[]⟩]),(134,[iV 0,iV 0,iV 0]),(181,[iV 0,iV 0,.string ⟨#[]⟩,.slice none 0 0,.slice none 0 0]),(183,[.string ⟨#[]⟩,iV 0,iV 0,.string ⟨#[]⟩,.slice none 0 0,.slice none 0 0,.pointer none]),(31,[.string ⟨#[]⟩,iV 0,iV 0,iV 0,.string ⟨#[]⟩,.slice none 0 0]),(5,[.int .u8 0]),(54,[.string ⟨#[]⟩,.string ⟨#[]⟩,iV 0,iV 0]),(39,[.slice none 0 0]),(176,[.slice none 0 0]),(224,[.map none,iV 0,iV 0]),(23,[.slice none 0 0]),(146,[.pointer none,.map none,.map none,.map none,iV 0]),(56,[.slice none 0 0]),(60,[.string ⟨#[]⟩,.string ⟨#[]⟩]),(84,[.slice none 0 0,iV 0,.bool false,iV 0,iV 0]),(92,[.bool false,iV 0,iV 0]),(36,[.string ⟨#[]⟩,iV 0,iV 0,iV 0,.string ⟨#[]⟩,.slice none 0 0])],[(41,[(0,1),(1,1)]),(94,[(0,1),(1,2),(3,1),(4,1),(5,1)]),(29,[(0,1),(1,1),(2,1),(3,1)]),(101,[(0,1),(1,2),(3,1),(4,1),(5,1)]),(113,[(0,2)]),(74,[(0,2)]),(117,[(0,1),(1,2),(3,1),(4,1)]),(181,[(0,4),(4,1)]),(183,[(0,1),(1,5),(6,1)]),(178,[(0,1),(1,4),(5,1)]),(53,[(0,1),(1,1),(2,1),(3,1)]),(97,[(0,1),(1,2),(3,1),(4,1)]),(54,[(0,1),(1,1),(2,1),(3,1)]),(34,[(0,1),(1,1),(2,1),(3,1)]),(224,[(0,1),(1,1),(2,1)]),(134,[(0,2),(2,1)]),(31,[(0,1),(1,1),(2,4)]),(146,[(0,1),(1,1),(2,1),(3,1),(4,1)]),(60,[(0,1),(1,1)]),(99,[(0,5),(5,1)]),(84,[(0,1),(1,1),(2,1),(3,2)]),(92,[(0,1),(1,2)]),(36,[(0,1),(1,1),(2,4)])],[(141,224),(136,183)]⟩
theorem fG:gT.Ok prog:=⟨(aI lD (aI Zy (aI fE (aI dY (aI eA (aI nC (aI Zb (aI Y1 (aI Zf (aI mH (aI gA (aI gW (aI iL (aI mC (aI ZE (aI kT (aI lG (aI nF (aI lX (aI YB (aI gH (aI cY (aI iI (aI Q6 (aI dR (aI YU (aI YD (aI Zc (aI kM (aI eH (aI gZ (aI kX (aI aM (aI eG (aI dG (aI ZH (aI Zv (aI eW (aI jU (aI lQ (aI hZ (aI iU (aI gO (aI kW (aI gC (aI jW (aI jF (aI lF (aI mJ (aI ER (aI iX (aI aF (aI Zo (aI YF (aI Y5 (aI aB (aI cM (aI jE (aI nN (aI iO (aI jY (aI hO (aI mT (aI iY (aI gF (aI mA (aI jZ (aI gM tQ)))))))))))))))))))))))))))))))))))))))))))))))))))))))))))))))))))),(aI Sv (aI ZT (aI KR (aI FW (aI wG (aI qsl45 (aI qsl63 (aI rC (aI zZ (aI qsl23 (aI zH (aI qsl56 (aI fF (aI qsl79 (aI qsl50 (aI qsl25 (aI GR (aI G5 tQ)))))))))))))))))),(aI LM tQ),tQ,(aI IL (aI qti9 (aI Dx (aI CA (aI Bb (aI ZL (aI VX (aI uP (aI H8 (aI qti99 (aI zV (aI A2 (aI qti45 (aI qti85 (aI Ns (aI JX (aI P0 (aI Pg (aI wA (aI Oh (aI xO (aI Yz (aI DO (aI qti74 (aI EU (aI vY (aI qti53 (aI qti31 (aI tZ (aI qti32 (aI qti54 tQ))))))))))))))))))))))))))))))),(aI qzr29 (aI tR (aI qzr94 (aI qzr41 (aI wY (aI qzr3 (aI qzr9 (aI qzr74 (aI pJ (aI xW (aI qzr53 (aI qzr97 (aI qzr99 (aI Aa2 (aI Aa1 (aI DA (aI uA (aI tY (aI vH (aI yR (aI qzr5 (aI qzr54 (aI qzr39 (aI xZ (aI vO (aI qzr23 (aI uF (aI yQ (aI qzr60 (aI zK (aI zY (aI qzr36 tQ)))))))))))))))))))))))))))))))),(aI qpl41 (aI qpl94 (aI qpl29 (aI tF (aI Aa0 (aI pl74 (aI Tf (aI vN (aI vP (aI tN (aI zS (aI qpl97 (aI zW (aI qpl34 (aI sT (aI qT (aI qpl31 (aI sM (aI qpl60 (aI yV (aI qpl84 (aI zR (aI zI tQ))))))))))))))))))))))),(aI uE (aI qY tQ))⟩
section
variable{n:Nat}{Q:AV}{ds:List Deferred}{X:Cx}{R:List RB}{B B0:List FB}{Fs:List (wO→Fq→Prop)}{fs:List Fr}{σ:Ba}{H Hk:List HB}{l:List Oper}{J:wO→Prop}{w:wO}
theorem Ae{k:K3}(m:Nat)(d:List Nat)(h:ex prog n Q ds X R B Fs gT m d k fs σ H):A1 prog n Q ds X R B Fs k fs σ H:=go fG m d h
theorem By{t:OT}(m:Nat)(d:List Nat)(h:UM prog n Q ds X R B Fs gT l Hk B0 J m d t σ H):CK prog n Q ds X R B Fs l Hk B0 J true t σ H:=goT fG m d h
variable {r:List Oper}
theorem K0{all:List Oper}(fs:List Fr)(m:Nat)(d:List Nat)(D:BK w B)(h:Ij prog n Q ds w B gT m d (.ops all r) fs σ):Gd prog n all.toArray (Lo prog n Q fs) r σ ds w:=gL fs fG m d D h
theorem OV{c:Code}(fs:List Fr)(m:Nat)(d:List Nat)(D:BK w B)(h:Ij prog n Q ds w B gT m d (.code c) fs σ):GP prog n c (Lo prog n Q fs) σ ds w:=gP fs fG m d D h
theorem Aa{k:K3}(m:Nat)(h:ex prog n Q ds X R B Fs gT m [] k fs σ H):A1 prog n Q ds X R B Fs k fs σ H:=go fG m [] h
theorem Bf{t:OT}(m:Nat)(h:UM prog n Q ds X R B Fs gT l Hk B0 J m [] t σ H):CK prog n Q ds X R B Fs l Hk B0 J true t σ H:=goT fG m [] h
theorem Ay{all:List Oper}(fs:List Fr)(m:Nat)(h:Ij prog n Q ds w [] gT m [] (.ops all r) fs σ):Gd prog n all.toArray (Lo prog n Q fs) r σ ds w:=gL fs fG m [] (Fb _) h
theorem Az{c:Code}(fs:List Fr)(m:Nat)(h:Ij prog n Q ds w [] gT m [] (.code c) fs σ):GP prog n c (Lo prog n Q fs) σ ds w:=gP fs fG m [] (Fb _) h
theorem El{e:Exit}(fs:List Fr)(m:Nat)(h:Ij prog n Q ds w [] gT m [] (.out e) fs σ):(Lo prog n Q fs).q e σ ds w:=gQ fs fG m [] (Fb _) h
theorem ggQ{e:Exit}(fs:List Fr)(m:Nat)(d:List Nat)(D:BK w B)(h:Ij prog n Q ds w B gT m d (.out e) fs σ):(Lo prog n Q fs).q e σ ds w:=gQ fs fG m d D h
end
theorem VJ{l:lU}(h:l≠[]):l[(0:Int).toNat]?=some (Ys l):=by cases l <;> simp_all [Ys]
theorem Cp(w:wO)(t:Aq)(F:Value) :
  AX prog 42 #[.agg #[iV t.k,iV t.ln,iV t.co,iV t.nm,S t.tx,F]] w λv w'=>v=.bool (t.k==0)∧AW w w':=by
 have d:=AW.refl w;refine enter func42 C C C<|Az [] 2 (λ_=>DV C C C λb1 K h D G J=>?_);have d:=d.trans D;exact K0 [.sq _] 13 [0,0] (kB h (Fb _)) (y2<|λ_=>Bp (Ao C (Af C))<|⟨C,d⟩)
theorem FA(w:wO)(t:Aq)(F:Value) :
  AX prog 43 #[.agg #[iV t.k,iV t.ln,iV t.co,iV t.nm,S t.tx,F]] w λv w'=>v=.bool (t.k==5)∧AW w w':=by
 have d:=AW.refl w;refine enter func43 C C C<|Az [] 2 (λ_=>DV C C C λb1 K h D G J=>?_);have d:=d.trans D;exact K0 [.sq _] 13 [0,0] (kB h (Fb _)) (y2<|λ_=>Bp (Ao C (Af C))<|⟨C,d⟩)
theorem Dz(w:wO)(t:Aq)(J:Value)(s:lU) :
  AX prog 85 #[.agg #[iV t.k,iV t.ln,iV t.co,iV t.nm,S t.tx,J],S s] w λv w'=>v=.bool (t.isWord s)∧AW w w':=by
 have D:=AW.refl w;refine enter func85 C C C<|Az [] 2 (λ_=>DV C C C λb1 Q d F K L=>?_);have D:=D.trans F;refine K0 [.sq _] 6 [0,0] (kB d (Fb _)) (y2<|λ_=>A0 C (As cV C C) (FA _ ⟨_,_,_,_,_⟩ _) ?_);rintro _ U ⟨rfl,h⟩;have d:=d.ext h;have D:=D.trans h;have O:=h.size;refine Ac C (Aw C)<|sL 7 C (λG=>?_) (λG=>?_);exact K0 [.sq _] 10 [0,4] (kB d (Fb _)) (y2<|λ_=>Bp (Ao C (Af C))<|⟨by simp[Aq.isWord,G],D⟩);exact Ay [.sq _] 10 (λ_=>Bp (Ao C (Af C))<|⟨by simp[Aq.isWord,G],D⟩)
theorem CY(w:wO)(n d h:Int) :
  AX prog 86 #[iV n,iV d,iV h] w λv w'=>v=.bool (SP.within n d h)∧AW w w':=by
 have F:=AW.refl w;refine enter func86 C C C<|Az [] 11 (λ_=>?_)
 ·
  refine sL 10 C (λD=>?_) (λD=>?_)
  rotate_left
  all_goals
   exact Ay [.sq _] 8 (λ_=>Bp (Ao C (Af C))<|⟨by simp[SP.within,D],F⟩)

theorem Ej(w:wO)(Q:Gl w)(t:Aq)(U:Value)(K:t.k=5→t.tx≠[])(hlen:t.tx.length≤100000) :
  AX prog 48 #[.agg #[iV t.k,iV t.ln,iV t.co,iV t.nm,S t.tx,U]] w λv w'=>v=.bool t.isVar∧AW w w':=by
 have h:=AW.refl w;refine enter func48 C C C<|Az [] 2 (λ_=>DV C C C λb1 w1 d L W Y=>?_);have h:=h.trans L;refine K0 [.sq _] 6 [0,0] (kB d (Fb _)) (y2<|λ_=>A0 C (As cV C C) (FA _ ⟨_,_,_,_,_⟩ _) ?_);rintro _ w2 ⟨rfl,D⟩;have d:=d.ext D;have h:=h.trans D;have Z:=D.size;refine Ac C (Aw C)<|sL 5 C (λG=>?_) (λG=>?_);refine K0 [.sq _] 6 [0,4] (kB d (Fb _)) (y2<|λ_=>sL 11 C (λJ=>?_) (λJ=>?_));refine K0 [.sq _] 3 [0,4] (kB d (Fb _)) (y2<|λ_=>Bw C C C<|Ac C (C1 C C J7 dC (VJ (K (by simpa using G))))<|Ay [.sq _] 3 (λ_=>sL 18 C (λO=>?_) (λO=>?_)));refine K0 [.sq _] 3 [0,4] (kB d (Fb _)) (y2<|λ_=>Bw C C C<|Ac C (Jk C C (by simp;omega))<|Bw C C C<|Ac C (Jk C C (by simp;omega))<|Bw C C C<|A0 C (As oP C C) (He _ (Q.ext h) _ _ dC) ?_);rintro _ w3 ⟨rfl,F⟩;have d:=d.ext F;have h:=h.trans F;have sz2:=F.size;refine Ay [.sq _] 6 (λ_=>Bp (Ao C (Af C))<|⟨?_,h⟩);show _=Value.bool (t.k==5&&(!(t.tx==[95])&&(((Ys t.tx).toNat:Int) != 39&&!My t.tx)));rw[G,J,O];rfl;refine Ay [.sq _] 12 (λ_=>Bp (Ao C (Af C))<|⟨?_,h⟩);show _=Value.bool (t.k==5&&(!(t.tx==[95])&&(((Ys t.tx).toNat:Int) != 39&&!My t.tx)));simp[G,J,O];refine Ay [.sq _] 19 (λ_=>Bp (Ao C (Af C))<|⟨?_,h⟩);show _=Value.bool (t.k==5&&(!(t.tx==[95])&&(((Ys t.tx).toNat:Int) != 39&&!My t.tx)));simp[G,J];refine Ay [.sq _] 25 (λ_=>Bp (Ao C (Af C))<|⟨?_,h⟩);show _=Value.bool (t.k==5&&(!(t.tx==[95])&&(((Ys t.tx).toNat:Int) != 39&&!My t.tx)));simp[G]
theorem IC(w:wO)(L:Gl w)(t:Aq)(O:Value)(G:t.k=5→t.tx≠[])(hlen:t.tx.length≤100000) :
  AX prog 123 #[.agg #[iV t.k,iV t.ln,iV t.co,iV t.nm,S t.tx,O]] w λv w'=>v=.bool t.isHole∧AW w w':=by
 have h:=AW.refl w;refine enter func123 C C C<|Az [] 2 (λ_=>DV C C C λb1 Z d J Q U=>?_);have h:=h.trans J;refine K0 [.sq _] 6 [0,0] (kB d (Fb _)) (y2<|λ_=>A0 C (As nZ C C) (Ej _ (L.ext h) ⟨_,_,_,_,_⟩ _ G hlen) ?_);rintro _ w2 ⟨rfl,D⟩;have d:=d.ext D;have h:=h.trans D;have W:=D.size;refine Ac C (Aw C)<|sL 5 C (λK=>?_) (λK=>?_);exact Ay [.sq _] 7 (λ_=>Bp (Ao C (Af C))<|⟨by simp[Aq.isHole,K],h⟩);refine K0 [.sq _] 1 [0,0] (kB d (Fb _)) (y2<|λ_=>Bw C C C<|A0 C (As ent85 C C) (Dz _ ⟨_,_,_,_,_⟩ _ _) ?_);rintro _ w3 ⟨rfl,F⟩;have d:=d.ext F;have h:=h.trans F;have Y:=F.size;exact Ay [.sq _] 5 (λ_=>Bp (Ao C (Af C))<|⟨by simp[Aq.isHole,K],h⟩)
theorem FO(w:wO)(L:Gl w)(t:Aq)(O:Value)(G:t.k=5→t.tx≠[])(hlen:t.tx.length≤100000) :
  AX prog 44 #[.agg #[iV t.k,iV t.ln,iV t.co,iV t.nm,S t.tx,O]] w λv w'=>v=.bool t.isTypeName∧AW w w':=by
 have h:=AW.refl w;refine enter func44 C C C<|Az [] 2 (λ_=>DV C C C λb1 Z d J Q U=>?_);have h:=h.trans J;refine K0 [.sq _] 6 [0,0] (kB d (Fb _)) (y2<|λ_=>A0 C (As nZ C C) (Ej _ (L.ext h) ⟨_,_,_,_,_⟩ _ G hlen) ?_);rintro _ w2 ⟨rfl,D⟩;have d:=d.ext D;have h:=h.trans D;have W:=D.size;refine Ac C (Aw C)<|sL 5 C (λK=>?_) (λK=>?_);refine K0 [.sq _] 3 [0,4] (kB d (Fb _)) (y2<|λ_=>Bw C C C<|Ac C (Jk C C (by simp;omega))<|Bw C C C<|Ac C (Jk C C (by simp;omega))<|Bw C C C<|A0 C (As oP C C) (He _ (L.ext h) _ _ dC) ?_);rintro _ w3 ⟨rfl,F⟩;have d:=d.ext F;have h:=h.trans F;have Y:=F.size;refine Ay [.sq _] 6 (λ_=>Bp (Ao C (Af C))<|⟨?_,h⟩);show _=Value.bool (t.isVar&&!Rj t.tx);rw[K];rfl;refine Ay [.sq _] 12 (λ_=>Bp (Ao C (Af C))<|⟨?_,h⟩);show _=Value.bool (t.isVar&&!Rj t.tx);simp[K]
theorem IX(w:wO)(t:Aq)(L:Value)(G:t.k=5→t.tx≠[]) :
  AX prog 45 #[.agg #[iV t.k,iV t.ln,iV t.co,iV t.nm,S t.tx,L]] w λv w'=>v=.bool t.isTypeVar∧AW w w':=by
 have h:=AW.refl w;refine enter func45 C C C<|Az [] 2 (λ_=>DV C C C λb1 W d J O Q=>?_);have h:=h.trans J;refine K0 [.sq _] 6 [0,0] (kB d (Fb _)) (y2<|λ_=>A0 C (As cV C C) (FA _ ⟨_,_,_,_,_⟩ _) ?_);rintro _ Y ⟨rfl,D⟩;have d:=d.ext D;have h:=h.trans D;have U:=D.size;refine Ac C (Aw C)<|sL 5 C (λF=>?_) (λF=>?_);refine K0 [.sq _] 3 [0,4] (kB d (Fb _)) (y2<|λ_=>Bw C C C<|Ac C (C1 C C J7 dC (VJ (G (by simpa using F))))<|Ay [.sq _] 3 (λ_=>sL 12 C (λK=>?_) (λK=>?_)));refine K0 [.sq _] 10 [0,4] (kB d (Fb _)) (y2<|λ_=>Bp (Ao C (Af C))<|⟨?_,h⟩);show _=Value.bool (t.k==5&&(((Ys t.tx).toNat:Int)==39&&decide (1<(t.tx.length:Int))));rw[F,K];rfl;refine Ay [.sq _] 10 (λ_=>Bp (Ao C (Af C))<|⟨?_,h⟩);show _=Value.bool (t.k==5&&(((Ys t.tx).toNat:Int)==39&&decide (1<(t.tx.length:Int))));simp[F,K];refine Ay [.sq _] 17 (λ_=>Bp (Ao C (Af C))<|⟨?_,h⟩);show _=Value.bool (t.k==5&&(((Ys t.tx).toNat:Int)==39&&decide (1<(t.tx.length:Int))));simp[F]
theorem Ig(w:wO)(t:Aq)(F:Value) :
  BV prog 52 #[.agg #[iV t.k,iV t.ln,iV t.co,iV t.nm,S t.tx,F]] w (λv w'=>False) (λc w'=>c=RG 74 (t.ln,t.co)∧AW w w'):=by
 have d:=AW.refl w;refine HZ func52 C C C<|Az [] 2 (λ_=>DV C C C λb1 K h D G J=>?_);have d:=d.trans D;exact K0 [.sq _] 7 [0,1] (kB h (Fb _)) (y2<|λ_=>Ac C (B7 C nI)<|BX (B2 C) (aI C<|⟨C,d⟩))
theorem UE(w:wO)(t:Aq)(J:Value)(ok:Bool) :
  BV prog 41 #[.agg #[iV t.k,iV t.ln,iV t.co,iV t.nm,S t.tx,J],.bool ok] w (λv w'=>ok=true∧v=.tuple #[]∧AW w w') (λc w'=>ok=false∧c=RG 74 (t.ln,t.co)∧AW w w'):=by
 have h:=AW.refl w;refine HZ func41 C C C<|Az [] 2 (λ_=>DV C C C λb1 Q D F K L=>?_);have h:=h.trans F;refine Ay [.sq _] 8 (λ_=>sP 5 C (λd=>?_) (λd=>?_));have d:=B5 d;refine OV [] 3 [0,0] (kB D (Fb _)) (y2<|λ_=>Cc C (As ent52 C C) (Ig _ ⟨_,_,_,_,_⟩ _) (λ_ _ O=>O.elim) (λc wp G=>aI C (⟨d,G.1,h.trans G.2⟩)));have d:=B3 d;exact Az [] 2 (λ_=>MA (Gz C)<|⟨d,C,h⟩)
theorem A9(w:wO)(t:Aq)(L:Value)(op:Int)(tx:lU)(ka:oA)(kn kc:Nat) :
  AX prog 46 #[.agg #[iV t.k,iV t.ln,iV t.co,iV t.nm,S t.tx,L],iV op,S tx,.slice ka kn kc] w λv w'=>v=.agg #[iV op,iV t.ln,iV t.co,S tx,iV 0,.slice ka kn kc]∧AW w w':=by
 have h:=AW.refl w;refine enter func46 C C C<|Az [] 2 (λ_=>DV C C C λb1 Z d G O Q=>?_);have h:=h.trans G;refine CF C zr101 λb2 w2 J F U W=>?_;have d:=d.ext F;have h:=h.trans F;refine K0 [.sq _] 11 [0,1] (kB d (Fb _)) (y2<|λ_=>AA C C C nS C J C C λw3 K D=>?_);have d:=d.chg D oM;have h:=h.chg D oM;have Y:=D.size;exact Ay [.sq _] 3 (λ_=>Bp (Ao C (Ab C nS K C))<|⟨C,h⟩)
end Go.Proofs.YtnojaendcldjpaaGreatDoor
