/- What it rests on, part 2. -/
import Derived.Test.YtplnpgpagkpnmaaGreatDoorGb1
import Derived.Laws.MakeOwn
import Derived.Lib.Join
import Derived.Lib.ItoaNum
set_option linter.unusedVariables false
set_option linter.unusedSimpArgs false
namespace Go.SW
open Go.RowKit
def getR:List RB→Nat→Option RB
 | [],_=>none
 |x::_,0=>some x
 |_::l,i+1=>getR l i
def Rj:List RB→Nat→RB→Option (List RB)
 | [],_,_=>none
 |_::H,0,e=>some (e::H)
 |x::H,i+1,e=>match Rj H i e with
   |some r=>some (x::r)
   |none=>none
def Q6:List RB→Nat→Option (List RB)
 | [],_=>none
 |_::H,0=>some H
 |x::H,i+1=>match Q6 H i with
   |some r=>some (x::r)
   |none=>none
theorem CU:∀{R:List RB}{i:Nat}{r:RB},getR R i=some r→r∈R
 | [],_,_,h=>by cases h
 |_::_,0,_,h=>by cases h;exact .head _
 |_::R,i+1,r,h=>.tail _ (CU (R:=R) h)
theorem Tn:∀{R R':List RB}{i:Nat},Q6 R i=some R'→R'.Sublist R
 | [],_,_,h=>by cases h
 |_::_,_,0,h=>by cases h;exact List.sublist_cons_self _ _
 |x::R,R',i+1,h=>by
   unfold Q6 at h
   cases d:Q6 R i with
   |none=>rw[d] at h;cases h
   |some r=>rw[d] at h;cases h;exact (Tn d).cons_cons x
def IV(R:List RB):List Nat:=R.filterMap λr=>rb r.a
theorem TF:∀{R R':List RB}{i:Nat}{r K:RB},getR R i=some r→Rj R i K=some R'→(∀x,x∈R'→x=K∨x∈R)∧∀N,(rb K.a=rb r.a∨∃k,rb K.a=some k∧k∉N∧k∉IV R)→(N++IV R).Nodup→(N++IV R').Nodup∧(∀b,b∈IV R'→some b=rb K.a∨b∈IV R)∧∀x,x∈R'→x=K∨(x∈R∧(rb x.a=none∨rb x.a≠rb r.a))
 | [],_,_,_,_,h,_=>by cases h
 |x::R,R',0,r,K,hg,W=>by
   cases hg;cases W
   refine⟨λy D=>by rcases List.mem_cons.1 D with h|h;exact .inl h;exact .inr (.tail _ h),λN G J=>?_⟩
   have Z:IV (x::R)=(match rb x.a with|some b=>b::IV R|none=>IV R):=by
     unfold IV;rw[List.filterMap_cons];cases rb x.a <;> rfl
   have e2:IV (K::R)=(match rb K.a with|some b=>b::IV R|none=>IV R):=by
     unfold IV;rw[List.filterMap_cons];cases rb K.a <;> rfl
   have O:(N++IV R).Nodup:=by
     rw[Z] at J
     cases F:rb x.a with
     |none=>rw[F] at J;exact J
     |some b=>rw[F] at J;exact (List.Sublist.append (List.Sublist.refl N) (List.sublist_cons_self b _)).nodup J
   have Q:∀y,y∈R→rb y.a=none∨rb y.a≠rb x.a:=λy D=>by
     cases d:rb y.a with
     |none=>exact .inl C
     |some b =>
       refine .inr λe=>?_;rw[Z,← e] at J;have h2:=(List.nodup_append.1 J).2.1;exact (List.nodup_cons.1 h2).1 (List.mem_filterMap.2 ⟨y,D,d⟩)
   refine⟨?_,?_,?_⟩
   · rcases G with G|⟨k,G,Y,U⟩
     · rw[e2,G,← Z];exact J
     · rw[e2,G]
       have hkR':k∉IV R:=λh=>U (by rw[Z];cases rb x.a with|none=>exact h|some b=>exact .tail _ h)
       exact List.nodup_append.2 ⟨(List.nodup_append.1 O).1,List.nodup_cons.2 ⟨hkR',(List.nodup_append.1 O).2.1⟩,λa ha b d e=>by
         rcases List.mem_cons.1 d with rfl|d
         · exact Y (e▸ha)
         · exact (List.nodup_append.1 O).2.2 a ha b d e⟩
   · intro b d
     rw[e2] at d
     cases hr:rb K.a with
     |none=>rw[hr] at d;right;rw[Z];cases rb x.a with|none=>exact d|some c=>exact .tail _ d
     |some c =>
       rw[hr] at d;rcases List.mem_cons.1 d with rfl|d
       · exact .inl C
       · right;rw[Z];cases rb x.a with|none=>exact d|some c=>exact .tail _ d
   · intro y D
     rcases List.mem_cons.1 D with h|h
     · exact .inl h
     · exact .inr ⟨.tail _ h,Q y h⟩
 |x::R,R',i+1,r,K,hg,W=>by
   unfold Rj at W
   cases hr:Rj R i K with
   |none=>rw[hr] at W;cases W
   |some R1 =>
     rw[hr] at W;cases W;obtain⟨h1,h2⟩:=TF (R:=R) hg hr
     refine⟨λy D=>by
       rcases List.mem_cons.1 D with rfl|D
       · exact .inr (.head _)
       · rcases h1 y D with h|h
         · exact .inl h
         · exact .inr (.tail _ h),λN G J=>?_⟩
     have ex:∀L:List RB,IV (x::L)=(match rb x.a with|some b=>b::IV L|none=>IV L):=λL=>by
       unfold IV;rw[List.filterMap_cons];cases rb x.a <;> rfl
     cases F:rb x.a with
     |none =>
       rw[ex,F] at J;obtain⟨a1,a2,a3⟩:=h2 N (by rw[ex,F] at G;exact G) J;refine⟨by rw[ex,F];exact a1,λb d=>by rw[ex,F] at d;rw[ex,F];exact a2 b d,λy D=>?_⟩;rcases List.mem_cons.1 D with rfl|D
       · exact .inr ⟨.head _,.inl F⟩
       · rcases a3 y D with h|h
         · exact .inl h
         · exact .inr ⟨.tail _ h.1,h.2⟩
     |some c =>
       rw[ex,F] at J;simp only at J;have hn':((N++[c])++IV R).Nodup:=by simpa using J
       obtain⟨a1,a2,a3⟩:=h2 (N++[c]) (by
         rw[ex,F] at G;rcases G with G|⟨k,G,Y,U⟩
         · exact .inl G
         · exact .inr ⟨k,G,λh=>by
             rcases List.mem_append.1 h with h|h
             · exact Y h
             · exact U (by rw[List.mem_singleton] at h;subst h;exact .head _),λh=>U (.tail _ h)⟩) hn'
       have hrc:rb r.a≠some c:=λe=>by
         have:c∈IV R:=List.mem_filterMap.2 ⟨r,CU hg,e⟩;exact (List.nodup_append.1 hn').2.2 c (List.mem_append.2 (.inr (.head _))) c this C
       refine⟨by rw[ex,F];simpa using a1,λb d=>?_,λy D=>?_⟩
       · rw[ex,F] at d
         rcases List.mem_cons.1 d with rfl|d
         · right;rw[ex,F];exact .head _
         · rcases a2 b d with h|h
           · exact .inl h
           · right;rw[ex,F];exact .tail _ h
       · rcases List.mem_cons.1 D with rfl|D
         · exact .inr ⟨.head _,.inr (by rw[F];exact λe=>hrc e.symm)⟩
         · rcases a3 y D with h|h
           · exact .inl h
           · exact .inr ⟨.tail _ h.1,h.2⟩
section
variable{X:Cx}{w w':wO}{f:Fq}{H:List HB}{R R':List RB}{B:List FB}{Fs:List (wO→Fq→Prop)}
variable {xs:lV}{b c' i n n':Nat}{a':oA}{e:tI}
theorem AP.grow{r:RB}{xs':lV}(h:AP X w f H R B Fs)(Q:getR R i=some r)(hs:Rj R i ⟨r.e,r.size,a',c',n',xs'⟩=some R')(hr:BO w' r.e r.size a' c' n' xs')(F:EO r.a w a' w'):AP X w' f H R' B Fs:=by
 have D:∀b,rb r.a=some b→b∈CD H R:=λb d=>List.mem_append.2 (.inr (List.mem_filterMap.2 ⟨r,CU Q,d⟩))
 have Y:Hi w f w' f:=λk=>⟨Nat.le_refl _,λo G=>by
   have J:k<w.heap.size:=by
     rcases Nat.lt_or_ge k w.heap.size with K|K
     · exact K
     · have:=h.val k K;omega
   exact D2 (F.block k J λe=>by have:=(h.own k (D k e.symm)).1;omega) o⟩
 have Z:∀k,X.MI k→w'.heap[k]?=w.heap[k]?:=λk J=>F.block k (h.mi k J).1 λe=>(h.own k (D k e.symm)).2.2 J;have O:w.heap.size∉CD H R:=λK=>Nat.lt_irrefl _ (h.lt K);obtain⟨h1,h2⟩:=TF Q hs
 obtain⟨a1,a2,a3⟩:=h2 (H.map HB.b) (by
   rcases F.own with G|G
   · exact .inl G
   · exact .inr ⟨_,G,λK=>O (List.mem_append.2 (.inl K)),λK=>O (List.mem_append.2 (.inr K))⟩) h.nd
 have U:∀e,e∈H→w'.heap[e.b]?=w.heap[e.b]?:=λe he=>F.block e.b (h.blk e he).lt λK=>by
   exact (List.nodup_append.1 h.nd).2.2 e.b (List.mem_map.2 ⟨e,he,C⟩) e.b (List.mem_filterMap.2 ⟨r,CU Q,K.symm⟩) C
 exact {stp:=⟨F.os.trans h.stp.os,F.tape.trans h.stp.tape,F.output.trans h.stp.output,Nat.le_trans h.stp.size F.size,λk J hm=>(F.block k (Nat.lt_of_lt_of_le J h.stp.size) λe=>by have:=h.rnw r (CU Q) k e.symm;omega).trans (h.stp.block k J hm)⟩,
         old:=h.old,val:=λk J=>h.val k (Nat.le_trans F.size J),ent:=h.ent.trans Y,res:=h.stab _ _ _ _ h.res Y Z,stab:=h.stab,
         mi:=λk J=>⟨Nat.lt_of_lt_of_le (h.mi k J).1 F.size,(h.mi k J).2⟩,
         blk:=λe he=>(U e he).trans (h.blk e he),
         row:=λx L=>by
           rcases a3 x L with rfl|⟨L,hne⟩
           · exact hr
           · exact (h.row x L).grow F hne,
         nd:=a1,
         own:=λb d=>by
           rcases List.mem_append.1 d with d|d
           · exact h.own b (List.mem_append.2 (.inl d))
           · rcases a2 b d with d|d
             · rcases F.own with G|G
               · exact h.own b (D b (by rw[← G];exact d.symm))
               · have:b=w.heap.size:=Option.some.inj (d.trans G)
                 subst this;exact⟨h.val _ (Nat.le_refl _),.inl h.stp.size,λhm=>Nat.lt_irrefl _ (h.mi _ hm).1⟩
             · exact h.own b (List.mem_append.2 (.inr d)),
         hnw:=h.hnw,
         rnw:=λx L b d=>by
           rcases a3 x L with rfl|⟨L,_⟩
           · rcases F.own with G|G
             · exact h.rnw r (CU Q) b (by rw[← G];exact d)
             · have:b=w.heap.size:=Option.some.inj (d.symm.trans G)
               subst this;exact h.stp.size
           · exact h.rnw x L b d,
         fro:=λx L=>(h.fro x L).mono Y,fac:=λφ W=>h.mono φ W _ _ _ _ (h.fac φ W) Y,mono:=h.mono}
theorem AP.rowNil(h:AP X w f H R B Fs)(e:tI)(size:Nat):AP X w f H (⟨e,size,none,0,0,[]⟩::R) B Fs :=
 {h with
   row:=λr d=>by
     rcases List.mem_cons.1 d with rfl|d
     · exact F6 _ _ _
     · exact h.row r d,
   rnw:=λr d b D=>by
     rcases List.mem_cons.1 d with rfl|d
     · cases D
     · exact h.rnw r d b D}
theorem AP.done{size c:Nat}(h:AP X w f H R B Fs)(G:getR R i=some ⟨e,size,some ⟨b,0,none⟩,c,n,xs⟩)(J:Q6 R i=some R'):∃f',AP X w f' H R' (⟨b,0,xs⟩::B) Fs:=by
 have F:=h.row _ (CU G);have O:=h.own b (List.mem_append.2 (.inr (List.mem_filterMap.2 ⟨_,CU G,C⟩)));have hnw:=h.rnw _ (CU G) b C;have hlt:b<w.heap.size:=F.lt C
 let f':Fq:=λk=>if k=b then n*size else f k
 have hF:Hi w f w f':=λk=>by
   show f k≤(if k=b then n*size else f k)∧_
   split
   · rename_i d;subst d;rw[O.1];exact⟨Nat.zero_le _,λo ho=>by omega⟩
   · exact⟨Nat.le_refl _,λ_ _=>C⟩
 have K:∀k,k≠b→f' k=f k:=λk d=>if_neg d;have D:=Tn J
 have hbR:b∉CD H R':=by
   have:∀(R R':List RB)(i:Nat)(N:List Nat),getR R i=some ⟨e,size,some ⟨b,0,none⟩,c,n,xs⟩→Q6 R i=some R'→(N++IV R).Nodup→b∉N++IV R':=by
     intro R
     induction R with
     |nil=>intro R' i N G;cases G
     |cons x R ih =>
       intro R' i N G J Q
       cases i with
       |zero =>
         cases G;cases J
         have e1:IV (⟨e,size,some ⟨b,0,none⟩,c,n,xs⟩::R)=b::IV R:=rfl;rw[e1] at Q;intro U;rcases List.mem_append.1 U with U|U
         · exact (List.nodup_append.1 Q).2.2 b U b (.head _) C
         · exact (List.nodup_cons.1 (List.nodup_append.1 Q).2.1).1 U
       |succ i =>
         unfold Q6 at J
         cases F:Q6 R i with
         |none=>rw[F] at J;cases J
         |some R1 =>
           rw[F] at J;cases J
           have ex:∀L:List RB,IV (x::L)=(match rb x.a with|some b=>b::IV L|none=>IV L):=λL=>by
             unfold IV;rw[List.filterMap_cons];cases rb x.a <;> rfl
           rw[ex] at Q ⊢
           cases Y:rb x.a with
           |none=>rw[Y] at Q;exact ih R1 i N G F Q
           |some k =>
             rw[Y] at Q;have:=ih R1 i (N++[k]) G F (by simpa using Q);simpa using this
   exact this R R' i (H.map HB.b) G J h.nd
 refine⟨f',{stp:=h.stp,old:=λk d=>(K k oM).trans (h.old k d),val:=λk d=>(K k oM).trans (h.val k d),ent:=h.ent.trans hF,res:=h.stab _ _ _ _ h.res hF (λ_ _=>C),stab:=h.stab,
               mi:=λk d=>⟨(h.mi k d).1,(K k (λe=>O.2.2 (e▸d))).trans (h.mi k d).2.1,(h.mi k d).2.2⟩,
               blk:=h.blk,row:=λr F=>h.row r (D.subset F),nd:=(List.Sublist.append (List.Sublist.refl _) (D.filterMap _)).nodup h.nd,
               own:=λk d=>by
                 have Z:k∈CD H R:=(List.Sublist.append (List.Sublist.refl (H.map (·.b))) (D.filterMap _)).subset d;exact⟨(K k (λe=>hbR (e▸d))).trans (h.own k Z).1,(h.own k Z).2⟩,
               hnw:=h.hnw,rnw:=λr F=>h.rnw r (D.subset F),
               fro:=λx Y=>by
                 rcases List.mem_cons.1 Y with rfl|Y
                 · intro j v W
                   have W:xs[j]?=some v:=W;obtain⟨hl,_⟩:=List.getElem?_eq_some_iff.1 W;rcases F.2 with ⟨h0,_⟩|⟨b',l,ha,U,hnc,_,hll,ht⟩
                   · cases h0
                   · cases ha
                     have hxl:xs.length=n*size:=F.1;have ht:l.take (n*size)=xs:=ht;refine⟨?_,?_⟩
                     · show 0+j<(if b=b then n*size else f b)
                       rw[if_pos C];omega
                     · show w.cell? ⟨b,0+j,none⟩=some v
                       rw[U.cell,Nat.zero_add];rw[← ht,List.getElem?_take] at W
                       split at W
                       · exact W
                       · cases W
                 · exact (h.fro x Y).mono hF,
               fac:=λφ hφ=>h.mono φ hφ _ _ _ _ (h.fac φ hφ) hF,mono:=h.mono}⟩
end
def AA:List (wO→Fq→Prop)→wO→Fq→Prop
 | [],_,_=>True
 |φ::l,w,f=>φ w f∧AA l w f
def Ap:List (wO→Fq→Prop)→Prop
 | []=>True
 |φ::l=>Ea φ∧Ap l
theorem AA.mem:∀{l:List (wO→Fq→Prop)}{w:wO}{f:Fq},AA l w f→∀φ,φ∈l→φ w f
 | [],_,_,_,_,h=>by cases h
 |_::_,_,_,h,φ,D=>by
   rcases List.mem_cons.1 D with rfl|D
   · exact h.1
   · exact AA.mem h.2 φ D
theorem Ap.mem:∀{l:List (wO→Fq→Prop)},Ap l→∀φ,φ∈l→Ea φ
 | [],_,_,h=>by cases h
 |_::_,h,φ,D=>by
   rcases List.mem_cons.1 D with rfl|D
   · exact h.1
   · exact Ap.mem h.2 φ D
def AF{α:Type}(val:α→Value)(q:α→Prop)(F':α→List (wO→Fq→Prop))(w:wO)(f:Fq)(v:Value)(w':wO):Prop:=∃x f',v=val x∧q x∧C6 (λ_=>False) w f w' f'∧AA (F' x) w' f'
def CY{α:Type}(val:α→Value)(q:α→Prop)(MI:Nat→Prop)(I':α→wO→Fq→Prop)(F':α→List (wO→Fq→Prop))(w:wO)(f:Fq)(v:Value)(w':wO):Prop:=∃x f',v=val x∧q x∧C6 MI w f w' f'∧I' x w' f'∧AA (F' x) w' f'
def Vl(w:wO)(f:Fq):Prop:=∀b,w.heap.size≤b→f b=0
abbrev X0(w:wO)(f:Fq):Cx:=⟨λ_=>False,λ_=>False,λ_ _=>True,w,f⟩
theorem AR{w:wO}{f:Fq}{Fs:List (wO→Fq→Prop)}(D:Vl w f)(F:AA Fs w f)(hm:Ap Fs):AP (X0 w f) w f [] [] [] Fs where
 stp:=MM.refl _ _
 old _ _:=rfl
 val:=D
 ent:=Hi.refl _ _
 res:=trivial
 stab _ _ _ _ _ _ _:=trivial
 mi _ h:=h.elim
 blk _ h:=by cases h
 row _ h:=by cases h
 nd:=List.nodup_nil
 own _ h:=by cases h
 hnw _ h:=by cases h
 rnw _ h:=by cases h
 fro _ h:=by cases h
 fac:=F.mem
 mono:=hm.mem
theorem AP.vl{X:Cx}{w:wO}{f:Fq}{H:List HB}{R:List RB}{B:List FB}{Fs:List (wO→Fq→Prop)}(h:AP X w f H R B Fs):Vl w f:=h.val
def Kb:List HB→Nat→Option (List HB)
 | [],_=>none
 |_::H,0=>some H
 |x::H,i+1=>match Kb H i with
   |some r=>some (x::r)
   |none=>none
theorem Lp:∀{H H':List HB}{i:Nat},Kb H i=some H'→H'.Sublist H
 | [],_,_,h=>by cases h
 |_::_,_,0,h=>by cases h;exact List.sublist_cons_self _ _
 |x::H,H',i+1,h=>by
   unfold Kb at h
   cases D:Kb H i with
   |none=>rw[D] at h;cases h
   |some r=>rw[D] at h;cases h;exact (Lp D).cons_cons x
theorem LC:∀{H H':List HB}{i:Nat}{e:HB}{L:List Nat},GP H i=some e→Kb H i=some H'→(H.map HB.b++L).Nodup→e.b∉H'.map HB.b++L
 | [],_,_,_,_,h,_,_=>by cases h
 |x::H,H',0,e,L,G,D,J=>by
   cases G;cases D
   exact (List.nodup_cons.1 J).1
 |x::H,H',i+1,e,L,G,D,J=>by
   unfold Kb at D
   cases K:Kb H i with
   |none=>rw[K] at D;cases D
   |some r =>
     rw[K] at D;cases D;have F:(x.b::(H.map HB.b++L)).Nodup:=J;have U:=LC (H:=H) (L:=L) G K (List.nodup_cons.1 F).2;intro W;have O:e.b∈x.b::(r.map HB.b++L):=W;rcases List.mem_cons.1 O with h|h
     · exact (List.nodup_cons.1 F).1 (by rw[← h];exact List.mem_append.2 (.inl (List.mem_map.2 ⟨e,BH G,C⟩)))
     · exact U h
section
variable{X:Cx}{w w':wO}{f:Fq}{H H':List HB}{R R':List RB}{B:List FB}{Fs:List (wO→Fq→Prop)}
variable {l:lV}{b i:Nat}
theorem AP.doneH{T:tI}(h:AP X w f H R B Fs)(W:GP H i=some ⟨b,l,T,true⟩)(hs:Kb H i=some H'):∃f',AP X w f' H' R (⟨b,0,l⟩::B) Fs:=by
 have F:=h.blk _ (BH W);have K:=h.own b (List.mem_append.2 (.inl (List.mem_map.2 ⟨_,BH W,C⟩)));have hnw:=h.hnw _ (BH W) C;have hlt:b<w.heap.size:=F.lt
 let f':Fq:=λk=>if k=b then l.length else f k
 have Y:Hi w f w f':=λk=>by
   show f k≤(if k=b then l.length else f k)∧_
   split
   · rename_i D;subst D;rw[K.1];exact⟨Nat.zero_le _,λo ho=>by omega⟩
   · exact⟨Nat.le_refl _,λ_ _=>C⟩
 have J:∀k,k≠b→f' k=f k:=λk D=>if_neg D;have G:=Lp hs;have hnd:(H.map HB.b++IV R).Nodup:=h.nd;have hbR:b∉CD H' R:=LC (L:=IV R) W hs hnd;have O:(CD H' R).Sublist (CD H R):=List.Sublist.append (G.map _) (List.Sublist.refl _);have hnw':X.w0.heap.size≤b:=hnw
 refine⟨f',{stp:=h.stp,old:=λk D=>(J k oM).trans (h.old k D),val:=λk D=>(J k oM).trans (h.val k D),ent:=h.ent.trans Y,res:=h.stab _ _ _ _ h.res Y (λ_ _=>C),stab:=h.stab,
               mi:=λk D=>⟨(h.mi k D).1,(J k (λe=>K.2.2 (e▸D))).trans (h.mi k D).2.1,(h.mi k D).2.2⟩,
               blk:=λe he=>h.blk e (G.subset he),row:=h.row,nd:=O.nodup h.nd,
               own:=λk D=>⟨(J k (λe=>hbR (e▸D))).trans (h.own k (O.subset D)).1,(h.own k (O.subset D)).2⟩,
               hnw:=λe he=>h.hnw e (G.subset he),rnw:=h.rnw,
               fro:=λx hx=>by
                 rcases List.mem_cons.1 hx with rfl|hx
                 · intro j v Z
                   have Z:l[j]?=some v:=Z;obtain⟨hl,_⟩:=List.getElem?_eq_some_iff.1 Z;refine⟨?_,?_⟩
                   · show 0+j<(if b=b then l.length else f b)
                     rw[if_pos C];omega
                   · show w.cell? ⟨b,0+j,none⟩=some v
                     have F:AE w b l T:=F;rw[F.cell,Nat.zero_add,Z]
                 · exact (h.fro x hx).mono Y,
               fac:=λφ U=>h.mono φ U _ _ _ _ (h.fac φ U) Y,mono:=h.mono}⟩
end
section
variable{P:Program}{n:Nat}{Q:AQ}{ds:List Deferred}{X:Cx}{R R':List RB}{B:List FB}{Fs:List (wO→Fq→Prop)}{tb:Zk}{fs:List Fr}{σ:AW}{H:List HB}
variable{all r:List Oper}{ty T:tI}{pos:String}{af:Array Edge}{g:Option (Nat×Bool)}{d:Nat}{x y:Operand}
theorem KR{k:Kt}(e:tI)(size:Nat)(h:Aw P n Q ds X (⟨e,size,none,0,0,[]⟩::R) B Fs k fs σ H):Aw P n Q ds X R B Fs k fs σ H:=λw f D=>h w f (D.rowNil e size)
variable {ag nw:Bool}{l vs xs z zl:lV}{b bytes cs k m o off:Nat}{a:oA}{Ts e:tI}
theorem nA{k:Kt}{size c:Nat}(i:Nat)(F:getR R i=some ⟨e,size,some ⟨b,0,none⟩,c,m,xs⟩)(G:Q6 R i=some R')(h:Aw P n Q ds X R' (⟨b,0,xs⟩::B) Fs k fs σ H):Aw P n Q ds X R B Fs k fs σ H:=λw f J=>by
 obtain⟨f',D⟩:=J.done F G;exact h w f' D
theorem CJ{k:Kt}{H':List HB}{T:tI}(i:Nat)(F:GP H i=some ⟨b,l,T,true⟩)(G:Kb H i=some H')(h:Aw P n Q ds X R (⟨b,0,l⟩::B) Fs k fs σ H'):Aw P n Q ds X R B Fs k fs σ H:=λw f J=>by
 obtain⟨f',D⟩:=J.doneH F G;exact h w f' D
theorem BW{size:Nat}{c src:Nat}{news:lV}{R':oA→Nat→List RB}(i j:Nat)(O:gd all σ g=some true)(hd:Nat.blt d n=true)(U:Kc P T=some (e,size,bytes,zl))(D:Nat.beq zl.length size=true)(F:Nat.blt 0 size=true)
   (W:ev σ x=some (.slice a k c)) (Y:ev σ y=some (.slice (some ⟨src,0,none⟩) 1 cs)) (L:getR R i=some ⟨e,size,a,c,k,xs⟩) (Z:GP H j=some ⟨src,news,Ts,nw⟩) (hl:Nat.beq news.length size=true) (h1:Mp news=true)
   (hS:∀a' c',Rj R i ⟨e,size,a',c',k+1,xs++news⟩=some (R' a' c')) (G:(k+1)*bytes≤140737488355328) (J:k+1≤9223372036854775807)
   (h:∀a' c',Aw P n Q ds X (R' a' c') B Fs (.ops all r) fs (AD σ d (.slice a' (k+1) c')) H) :
   Aw P n Q ds X R B Fs (.ops all (⟨some d,.call {callee:=.builtin .append,args:=#[x,y],argTypes:=#[T,T]},ty,pos,af,g⟩::r)) fs σ H:=λw f K =>
 Bv O (Cm hd U D F W Y (K.row _ (CU L)) (K.blk _ (BH Z)) hl h1 G J λa' c' w' hr hG=>h a' c' w' f (K.grow L (hS a' c') hr hG))
theorem pD{size:Nat}{c src:Nat}{news:lV}{R':oA→Nat→List RB}(i j:Nat)(U:gd all σ g=some true)(hd:Nat.blt d n=true)(W:Kc P T=some (e,size,bytes,zl))(D:Nat.beq zl.length size=true)(F:Nat.blt 0 size=true)
   (Y:ev σ x=some (.slice a k c)) (Z:ev σ y=some (.slice (some ⟨src,off,none⟩) m cs)) (O:getR R i=some ⟨e,size,a,c,k,xs⟩) (hB:nth B j=some ⟨src,off,news⟩) (hl:news.length=m*size) (h1:∀v∈news,v.oneCell'=true) (hm:0<m)
   (hS:∀a' c',Rj R i ⟨e,size,a',c',k+m,xs++news⟩=some (R' a' c')) (G:(k+m)*bytes≤140737488355328) (J:k+m≤9223372036854775807)
   (h:∀a' c',Aw P n Q ds X (R' a' c') B Fs (.ops all r) fs (AD σ d (.slice a' (k+m) c')) H) :
   Aw P n Q ds X R B Fs (.ops all (⟨some d,.call {callee:=.builtin .append,args:=#[x,y],argTypes:=#[T,T]},ty,pos,af,g⟩::r)) fs σ H:=λw f K=>by
 obtain⟨a',c',w',hr,L,hG⟩:=RN (ty:=ty) W D F Y Z (K.row _ (CU O)) (λj u hj=>by rw[D5];exact (K.getB hB j u hj).2) hl h1 hm G J;exact Bv U (Ab hd hr (h a' c' w' f (K.grow O (hS a' c') L hG)))
theorem xV(F:gd all σ g=some true)(hd:Nat.blt d n=true)(G:Hl P T=some (e,k))
   (h:∀b,Aw P n Q ds X (⟨e,k,some ⟨b,0,none⟩,0,0,[]⟩::R) B Fs (.ops all r) fs (AD σ d (.slice (some ⟨b,0,none⟩) 0 0)) H) :
   Aw P n Q ds X R B Fs (.ops all (⟨some d,.buildSlice T 0 #[],ty,pos,af,g⟩::r)) fs σ H:=λw f J=>by
 obtain⟨i,hu,K,rfl⟩:=Ha G
 have L:(Instr.buildSlice T 0 #[]).run P w=.ok (.slice (some ⟨w.heap.size,0,none⟩) 0 0) (w.alloc (.cells #[] e)):=by
   simp[Instr.buildSlice,run_underlying hu,sizeOf,typeInfo,K,Instr.fill,newRow,show Array.range 0=#[] from C]
 refine Bv F (Ab hd (v:=.slice (some ⟨w.heap.size,0,none⟩) 0 0) (w':=w.alloc (.cells #[] e)) (λW _ _ _ _ O=>by simp[execOp,L]) ?_)
 have D:=(J.rowNil e i.size).grow (i:=0) (a':=some ⟨w.heap.size,0,none⟩) (c':=0) (n':=0) (xs':=[]) (w':=w.alloc (.cells #[] e)) C C
   ⟨by simp,.inr ⟨w.heap.size,[],C,Nn w [] _,Nat.le_refl _,Nat.zero_le _,by simp,by simp⟩⟩ ⟨C,C,C,by rw[GW];omega,λk U _=>JA w _ k U,.inr C⟩
 exact h w.heap.size _ f D
theorem Si{size:Nat}(hz:z.length=size)(h:0<size)(m:Nat):madeCells z.toArray (m*size)=(EZ m z).toArray:=by
 rw[← QE size z hz h m,← OM m size z hz h];rfl
theorem Lj{size:Nat}(hz:z.length=size):∀m,(EZ m z).length=m*size
 |0=>by simp[EZ]
 |m+1=>by rw[EZ,List.length_append,Lj hz m,hz,Nat.add_mul];omega
theorem mmk{size:Nat}{x y:Operand}(hg:gd all σ g=some true)(hd:Nat.blt d n=true)(F:Kc P T=some (e,size,bytes,zl))(U:Nat.beq zl.length size=true)(W:Nat.blt 0 size=true)
   (hx:ev σ x=some (.int .i64 (m:Int))) (hy:ev σ y=some (.int .i64 (m:Int))) (hb:bytes*m≤281474976710656) (G:m≤maxLen)
   (h:∀b,Aw P n Q ds X (⟨e,size,some ⟨b,0,none⟩,m,m,EZ m zl⟩::R) B Fs (.ops all r) fs (AD σ d (.slice (some ⟨b,0,none⟩) m m)) H) :
   Aw P n Q ds X R B Fs (.ops all (⟨some d,.makeSlice T x y,ty,pos,af,g⟩::r)) fs σ H:=λw f hM=>by
 unfold Kc at F
 split at F
 · rename_i O hu
   split at F
   · rename_i i hi
     split at F
     · rename_i z hz
       injection F with F
       obtain⟨rfl,rfl,rfl,rfl⟩:=by simpa using F
       have D:z.cells.toList.length=i.size:=Nat.eq_of_beq_eq_true U;have J:0<i.size:=Nat.le_of_ble_eq_true W;have K:(m:Int)≤9223372036854775807:=by have:=G;unfold maxLen at this;omega
       have Y:(i.bytes:Int)*(m:Int)≤281474976710656:=by
         have:((i.bytes*m:Nat):Int)≤281474976710656:=oM;rwa[Int.natCast_mul] at this
       have Z:=run_make (P:=P) w T O i z hu hi hz .i64 .i64 (m:Int) (m:Int) oM oM Y K;simp only[Int.toNat_natCast] at Z
       have hc:madeCells z.cells (m*i.size)=(EZ m z.cells.toList).toArray:=by
         have:=Si (z:=z.cells.toList) D J m;simpa using this
       rw[hc] at Z;refine Bv hg (Ab hd (v:=.slice (some ⟨w.heap.size,0,none⟩) m m) (w':=w.alloc (.cells (EZ m z.cells.toList).toArray O)) ?_ ?_)
       · intro ρ _ _ _ _ L
         simp[execOp,L _ _ hx,L _ _ hy,Z]
       · have hM1:=(hM.rowNil O i.size).grow (i:=0) (a':=some ⟨w.heap.size,0,none⟩) (c':=m) (n':=m) (xs':=EZ m z.cells.toList) (w':=w.alloc (.cells (EZ m z.cells.toList).toArray O)) C C
           ⟨Lj D m,.inr ⟨w.heap.size,_,C,Nn w _ _,Nat.le_refl _,G,Lj D m,by rw[List.take_of_length_le (by rw[Lj D m];exact Nat.le_refl _)]⟩⟩
           ⟨C,C,C,by rw[GW];omega,λk hk _=>JA w _ k hk,.inr C⟩
         exact h w.heap.size _ f hM1
     · cases F
   · cases F
 · cases F
theorem Qi:∀(vs cs:lV)(o k:Nat),(DI cs o vs).take k=DI (cs.take k) o vs
 | [],_,_,_=>rfl
 |v::vs,cs,o,k=>by rw[DI,DI,Qi vs (cs.set o v) (o+1) k,List.take_set]
theorem mrs{size c:Nat}{v:Value}(i:Nat)(xs':lV)(hg:gd all σ g=some true)(hx:ev σ x=some (.pointer (some ⟨b,o,none⟩)))(hy:ev σ y=some v)(hv:Hz v=some vs)(hT:AL P T=some (ag,k))(U:Nat.beq vs.length k=true)(h1:Mp vs=true)
   (W:getR R i=some ⟨e,size,some ⟨b,0,none⟩,c,m,xs⟩) (hf:o+vs.length≤m*size) (he:DI xs o vs=xs') (hS:Rj R i ⟨e,size,some ⟨b,0,none⟩,c,m,xs'⟩=some R')
   (h:Aw P n Q ds X R' B Fs (.ops all r) fs σ H):Aw P n Q ds X R B Fs (.ops all (⟨none,.store T x y,ty,pos,af,g⟩::r)) fs σ H:=λw f Y=>by
 subst he;have Z:=Y.row _ (CU W);rcases Z.2 with ⟨h0,_⟩|⟨b',l,ha,G,F,J,D,K⟩
 · cases h0
 · cases ha
   have L:xs.length=m*size:=Z.1;have D:l.length=c*size:=D;have K:l.take (m*size)=xs:=K;have hms:m*size≤c*size:=Nat.mul_le_mul_right _ F;have G:AE w b l e:=G;refine Bv hg (Js (OK hx hy (G1 hv) hT U G h1 oM) (h _ f (Y.grow W hS ?_ ?_)))
   · refine⟨by rw[FL];exact L,.inr ⟨b,DI l o vs,C,setRow_heap w b _ _ e _ G,F,J,by rw[FL];exact D,?_⟩⟩
     rw[Qi,K]
   · exact⟨C,C,C,by simp[World.setRow],λk U O=>setRow_other w b k _ (λe=>O (by rw[e];rfl)),.inl C⟩
end
def Kp(Hk:List HB)(B:List FB)(J:wO→Prop)(w:wO):Prop:=(∀e,e∈Hk→AE w e.b e.l e.T)∧(∀e,e∈B→∀(j:Nat)(v:Value),e.l[j]?=some v→w.cell? ⟨e.b,e.off+j,none⟩=some v)∧J w
def MF(H:List HB):List Nat→Option (List HB)
 | []=>some []
 |i::l=>match GP H i,MF H l with
   |some e,some r=>some (e::r)
   |_,_=>none
theorem JQ{H:List HB}:∀{D:List Nat}{Hk:List HB},MF H D=some Hk→∀e,e∈Hk→e∈H
 | [],_,h,e,he=>by cases h;cases he
 |i::D,Hk,h,e,he=>by
   unfold MF at h
   split at h
   · rename_i e0 r F G
     cases h
     rcases List.mem_cons.1 he with rfl|he
     · exact BH F
     · exact JQ G e he
   · cases h
variable {σ':AW}{af:Array Edge}{args:Array Value}{nw top:Bool}{f:Fq}{fid:FuncId}{XX:List PanicEntry→wO→Prop}{b d i id off:Nat}{g:Option (Nat×Bool)}{pos:String}{T ty:tI}{w:wO}
theorem AP.kp{X:Cx}{H Hk:List HB}{R:List RB}{B:List FB}{Fs:List (wO→Fq→Prop)}{J:wO→Prop}(h:AP X w f H R B Fs)(D:∀e,e∈Hk→e∈H)(F:∀w f,X.I w f→C6 X.M X.w0 X.f0 w f→J w):Kp Hk B J w :=
 ⟨λe he=>h.blk e (D e he),λe he j v G=>(h.fro e he j v G).2,F w f h.res h.exm⟩
section
variable(P:Program)(n:Nat)(Q:AQ)(ds:List Deferred)(X:Cx)(R:List RB)(B:List FB)(Fs:List (wO→Fq→Prop))(tb:Zk)(l:List Oper)(Hk:List HB)(B0:List FB)(J:wO→Prop)
def CE(top:Bool)(t:OT)(σ:AW)(H:List HB):Prop:=∀w f,AP X w f H R B Fs→UA P n l Q (Kp Hk B0 J) top t σ ds w
def Vy:Nat→List Nat→OT→AW→List HB→Prop
 |0,_,t,σ,H=>True→CE P n Q ds X R B Fs l Hk B0 J true t σ H
 |m+1,D,.rd i k,σ,H=>(match nth l i with
   |some ⟨some d,op,_,_,_,g⟩=>(match Nat.blt d n with
     |false=>False
     |true=>(match gd l σ g with
       |none=>False
       |some false=>Vy m D k (AD σ d undef) H
       |some true=>(match op with
         |.load T x=>(match D with
           | []=>False
           |h::D=>(match ev σ x,rT tb.ti T with
             |some (.pointer (some ⟨b,o,none⟩)),some (a,q)=>(match Nat.blt h 100 with
               |true=>(match GP Hk h with
                 |some ⟨F,c,_,_⟩=>(match a with
                   |false=>(match nth c o with
                     |some v=>F=b∧Vy m D k (AD σ d v) H
                     |none=>False)
                   |true=>(match Vn c o q with
                     |some vs=>F=b∧Vy m D k (AD σ d (.agg ⟨vs⟩)) H
                     |none=>False))
                 |none=>False)
               |false=>(match D with
                 | []=>False
                 |j::D=>(match nth B0 (h-100) with
                   |some ⟨F,off,c⟩=>(match a with
                     |false=>(match nth c j with
                       |some v=>(F=b∧off+j=o)∧Vy m D k (AD σ d v) H
                       |none=>False)
                     |true=>(match Vn c j q with
                       |some vs=>(F=b∧off+j=o)∧Vy m D k (AD σ d (.agg ⟨vs⟩)) H
                       |none=>False))
                   |none=>False)))
             |_,_=>False))
         |.indexAddr T x y=>(match ev σ x,ev σ y,Xw tb.sl T with
           |some (.slice (some ⟨b,o,none⟩) len _),some (.int _ i),some (_,q)=>(0≤i∧i<len)∧Vy m D k (AD σ d (.pointer (some ⟨b,o+i.toNat*q,none⟩))) H
           |_,_,_=>False)
         |.binOp .add T x y G=>(match ev σ x,ev σ y with
           |some (.int .i64 a),some (.int .i64 b)=>Q1 (a+b)∧Vy m D k (AD σ d (.int .i64 (a+b))) H
           |some (.string ⟨⟨a⟩⟩),some (.string ⟨⟨b⟩⟩)=>a.length+b.length≤9223372036854775807∧Vy m D k (AD σ d (S (a++b))) H
           |_,_=>False)
         |.binOp .sub T x y G=>(match ev σ x,ev σ y with
           |some (.int .i64 a),some (.int .i64 b)=>Q1 (a-b)∧Vy m D k (AD σ d (.int .i64 (a-b))) H
           |_,_=>False)
         |op=>(match pv tb σ op with
           |some v=>Vy m D k (AD σ d v) H
           |none=>False))))
   |_=>False)
 |_+1,_,_,_,_=>False
end
section
variable{P:Program}{n:Nat}{Q:AQ}{ds:List Deferred}{X:Cx}{R:List RB}{B:List FB}{Fs:List (wO→Fq→Prop)}{tb:Zk}{l:List Oper}{Hk:List HB}{B0:List FB}{J:wO→Prop}{σ:AW}{H:List HB}{fs:List Fr}
theorem F5{S:wO→Prop}{op:Op}{k:OT}{v:Value}(F:nth l i=some ⟨some d,op,ty,pos,af,g⟩)(hd:Nat.blt d n=true)(G:gd l σ g=some true)(K:∀w,S w→AM P σ op ty w v w)
   (h:UA P n l Q S true k (AD σ d v) ds w):UA P n l Q S top (.rd i k) σ ds w:=λa D =>
 ⟨_,v,(Ev l i).symm.trans F,.inl ⟨JI D G,λw L=>K w L a.eval _ _ _ _ D.ev⟩,h _ (D.put hd v)⟩
theorem lK{S:wO→Prop}{op:Op}{k:OT}(F:nth l i=some ⟨some d,op,ty,pos,af,g⟩)(hd:Nat.blt d n=true)(G:gd l σ g=some false)
   (h:UA P n l Q S true k (AD σ d undef) ds w):UA P n l Q S top (.rd i k) σ ds w:=λa D =>
 ⟨_,undef,(Ev l i).symm.trans F,.inr ⟨JI D G,C⟩,h _ (D.put hd undef)⟩
theorem Kp.blk{c:lV}(h:Kp Hk B0 J w)(D:GP Hk i=some ⟨b,c,T,nw⟩):AE w b c T:=h.1 _ (BH D)
theorem Kp.cel{c:lV}(h:Kp Hk B0 J w)(D:nth B0 i=some ⟨b,off,c⟩):∀(j:Nat)(v:Value),c[j]?=some v→w.cell? ⟨b,off+j,none⟩=some v:=by
 rw[Ev] at D;exact h.2.1 _ (List.mem_of_getElem? D)
theorem Qr(U:tb.Ok P):∀(m:Nat)(hs:List Nat)(t:OT)(σ:AW)(H:List HB),Vy P n Q ds X R B Fs tb l Hk B0 J m hs t σ H→CE P n Q ds X R B Fs l Hk B0 J true t σ H
 |0,_,_,_,_,h=>h tQ
 |m+1,hs,.fin,σ,H,h=>h.elim
 |m+1,hs,.br _ _ _,σ,H,h=>h.elim
 |m+1,hs,.rd i k,σ,H,h=>by
   have K:=Qr U m;intro w f L;unfold Vy at h
   split at h
   · rename_i O
     split at h
     · exact h.elim
     rename_i hd
     split at h
     · exact h.elim
     · rename_i F
       exact lK O hd F (K _ _ _ _ h w f L)
     · rename_i F
       split at h
       · split at h
         · exact h.elim
         · split at h
           · rename_i D Z
             split at h
             · split at h
               · rename_i hH
                 split at h
                 · split at h
                   · rename_i v G
                     obtain⟨rfl,h⟩:=h;rw[Ev] at G;exact F5 O hd F (λw W=>Ai D (Gb U.ti Z) (W.blk hH) G) (K _ _ _ _ h w f L)
                   · exact h.elim
                 · split at h
                   · rename_i vs G
                     obtain⟨rfl,h⟩:=h;exact F5 O hd F (λw W=>C3 D (Gb U.ti Z) (W.blk hH) G) (K _ _ _ _ h w f L)
                   · exact h.elim
               · exact h.elim
             · split at h
               · exact h.elim
               · split at h
                 · rename_i hB
                   split at h
                   · split at h
                     · rename_i v G
                       obtain⟨⟨rfl,rfl⟩,h⟩:=h;rw[Ev] at G;exact F5 O hd F (λw W=>J1 D (Gb U.ti Z) (W.cel hB _ v G)) (K _ _ _ _ h w f L)
                     · exact h.elim
                   · split at h
                     · rename_i vs G
                       obtain⟨⟨rfl,rfl⟩,h⟩:=h;obtain⟨hk,hg2⟩:=Rm G;exact F5 O hd F (λw W=>KZ D (Gb U.ti Z) hk (λj v hj=>by have:=W.cel hB _ v (hg2 j v hj);rwa[← Nat.add_assoc] at this)) (K _ _ _ _ h w f L)
                     · exact h.elim
                 · exact h.elim
           · exact h.elim
       · split at h
         · rename_i D Y Z
           exact F5 O hd F (λw _=>O5 D Y (Ku U.sl Z) h.1) (K _ _ _ _ h.2 w f L)
         · exact h.elim
       · split at h
         · rename_i D Y;exact F5 O hd F (λw _=>LV D Y h.1) (K _ _ _ _ h.2 w f L)
         · rename_i D Y;exact F5 O hd F (λw _=>Ic D Y h.1) (K _ _ _ _ h.2 w f L)
         · exact h.elim
       · split at h
         · rename_i D Y;exact F5 O hd F (λw _=>GI D Y h.1) (K _ _ _ _ h.2 w f L)
         · exact h.elim
       · split at h
         · rename_i v G;exact F5 O hd F (λw _=>QV U G) (K _ _ _ _ h w f L)
         · exact h.elim
   · exact h.elim
theorem goT{t:OT}(F:tb.Ok P)(m:Nat)(D:List Nat)(h:Vy P n Q ds X R B Fs tb l Hk B0 J m D t σ H):CE P n Q ds X R B Fs l Hk B0 J true t σ H:=Qr F m D t σ H h
theorem VC(h:PI Q):∀fs:List Fr,PI (KT P n Q fs)
 | []=>h
 |.sq _::fs=>VC h fs
 |.bk _::fs=>VC h fs
theorem IQ(J:wO→Prop)(U:∀w f,X.I w f→C6 X.M X.w0 X.f0 w f→J w)(W:List Nat)(hm:P.follows .mixedOrders=true)(t:OT)(Y:MF H W=some Hk)(G:t.ok l.toArray true (Array.replicate l.length false)=true)(K:t.even true l.length=true)(D:Region.noSelect l.toArray=true)(L:PI Q)
   (h:CE P n (KT P n Q fs) ds X R B Fs l Hk B J true t σ H):Aw P n Q ds X R B Fs (.code (.region id l.toArray true)) fs σ H:=λw f O=>by
 refine DR hm (Kp Hk B J) t G K D (λw' Z hz=>?_) (VC L fs);have F:AP X w' f H R B Fs:=O.call0 (C6.of_ext Z O.val);exact⟨F.kp (JQ Y) U,h w' f F⟩
theorem Bp(h:Aw P n Q ds X R B Fs (.out .normal) fs σ H):CE P n (KT P n Q fs) ds X R B Fs l Hk B0 J true .fin σ H:=λw f D=>Dn (h w f D)
theorem Bj{k o:OT}{x:Oper}(F:nth l i=some x)(h:Aw P n (TQ P n l Q (Kp Hk B0 J) k) ds X R B Fs (.ops l [x]) [] σ H)(G:CE P n Q ds X R B Fs l Hk B0 J false o σ H):CE P n Q ds X R B Fs l Hk B0 J top (.br i k o) σ H :=
 λw f D=>Bu ((Ev l i).symm.trans F) (h w f D) (G w f D)
theorem mtn:CE P n Q ds X R B Fs l Hk B0 J false .fin σ H:=λ_ _ _=>BI
theorem AS{k:OT}(F:List Nat)(G:∀w f,X.I w f→C6 X.M X.w0 X.f0 w f→J w)(K:MF H F=some Hk)(L:∀e,e∈B0→e∈B)(h:CE P n Q ds X R B Fs l Hk B0 J true k σ H):Aw P n (TQ P n l Q (Kp Hk B0 J) k) ds X R B Fs (.out .normal) [] σ H:=λw f D =>
 ⟨⟨λe he=>D.blk e (JQ K e he),λe he j v O=>(D.fro e (L e he) j v O).2,G w f D.res D.exm⟩,h w f D⟩
theorem CE.le{t:OT}(D:Le σ' σ)(h:CE P n Q ds X R B Fs l Hk B0 J top t σ' H):CE P n Q ds X R B Fs l Hk B0 J top t σ H:=λw f F a G=>h w f F a (G.le D)
theorem JG{t:OT}{b:Bool}(s:Nat)(h:σ s=some (.bool b))(D:b=true→CE P n Q ds X R B Fs l Hk B0 J top t (AD σ s (.bool true)) H)(F:b=false→CE P n Q ds X R B Fs l Hk B0 J top t (AD σ s (.bool false)) H):CE P n Q ds X R B Fs l Hk B0 J top t σ H:=by
 cases b with
 |true=>exact CE.le (A2 (le_refl _) h) (D C)
 |false=>exact CE.le (A2 (le_refl _) h) (F C)
theorem CP{k:OT}{op:Op}{v:Value}(D:nth l i=some ⟨some d,op,ty,pos,af,g⟩)(hd:Nat.blt d n=true)(F:gd l σ g=some true)(G:∀w,Kp Hk B0 J w→AM P σ op ty w v w)
   (h:CE P n Q ds X R B Fs l Hk B0 J true k (AD σ d v) H):CE P n Q ds X R B Fs l Hk B0 J true (.rd i k) σ H:=λw f K=>F5 D hd F G (h w f K)
theorem BV{all r:List Oper}{op:Op}{α:Type}{val:α→Value}{q:α→Prop}{F':α→List (wO→Fq→Prop)}(D:gd all σ g=some true)(hd:Nat.blt d n=true)(he:∀w,Enters P σ op ty w fid args)
   (F:∀w f,AP X w f H R B Fs→AO P fid args w (AF val q F' w f)) (hm:∀x,Ap (F' x))
   (h:∀x,q x→Aw P n Q ds X R B (F' x++Fs) (.ops all r) fs (AD σ d (val x)) H):Aw P n Q ds X R B Fs (.ops all (⟨some d,op,ty,pos,af,g⟩::r)) fs σ H :=
 mc0 D hd he (λw f G=>(F w f G).mono λv w' ⟨x,f',K,L,O,U⟩=>⟨x,f',K,L,O,U.mem⟩) (λx=>(hm x).mem) h
theorem JK{all r:List Oper}{op:Op}{α:Type}{val:α→Value}{q:α→Prop}{I':α→wO→Fq→Prop}{F':α→List (wO→Fq→Prop)}
   (F:gd all σ g=some true) (hd:Nat.blt d n=true) (he:∀w,Enters P σ op ty w fid args)
   (G:∀w f,AP X w f H R B Fs→BB P fid args w (CY val q X.MI I' F' w f) XX) (D:∀x,EC X.MI (I' x)) (hm:∀x,Ap (F' x))
   (K:∀w f c w',AP X w f H R B Fs→XX c w'→Q.p c σ ds w')
   (h:∀x,q x→Aw P n Q ds {X with I:=I' x} R B (F' x++Fs) (.ops all r) fs (AD σ d (val x)) H):Aw P n Q ds X R B Fs (.ops all (⟨some d,op,ty,pos,af,g⟩::r)) fs σ H :=
 mcI F hd he (λw f L=>(G w f L).mono (λv w' ⟨x,f',O,U,W,Y,Z⟩=>⟨x,f',O,U,W,Y,Z.mem⟩) λ_ _ h=>h) D (λx=>(hm x).mem) K h
end
end Go.SW
namespace Go.SW
open Go.RowKit Go.SP
structure Key(κ:Type)[BEq κ] where
 enc:κ→Value
 desc:TypeDesc
 same:∀a b,Instr.sameNow desc (enc a) (enc b)=some (a==b)
 chk:∀(P:Program)(k:tI)(w:wO)(a:κ)(b:Bool),P.underlying k=some desc→(Instr.checkKey b 10000 k (enc a)).run P w=.ok () w
def Ck:Key lU where
 enc:=S
 desc:=.string
 same a b:=by
   have:Instr.sameNow .string (S a) (S b)=some ((⟨a.toArray⟩:ByteArray)==⟨b.toArray⟩):=rfl;rw[this,beq_toListBytes,P3,P3]
 chk P k w a b h:=Kh h
def ED:Key Int where
 enc n:=.int .i64 n
 desc:=.int .i64
 same a b:=by simp[Instr.sameNow]
 chk P k w a b h:=by rw[Instr.checkKey];simp[run_underlying h]
section
variable{κ:Type}[BEq κ](K:Key κ)
def BM(w:wO)(m:Nat)(l:List (κ×Value)):Prop:=∃(es:List MapEntry)(c:Nat),w.heap[m]?=some (.map es.toArray c)∧es.map (λe=>(e.key,e.val))=l.reverse.map λp=>(K.enc p.1,p.2)
def EF:List (κ×Value)→κ→Option Value
 | [],_=>none
 |(k,v)::l,x=>if x==k then some v else EF l x
def FT(P:Program)(T:tI):Option (tI×tI):=match P.underlying T with
 |some (.map k e)=>some (k,e)
 |_=>none
end
section
variable{κ:Type}[BEq κ]{K:Key κ}
theorem BM.lt{w:wO}{m:Nat}{l:List (κ×Value)}(h:BM K w m l):m<w.heap.size:=by
 obtain⟨es,c,F,_⟩:=h;rcases Nat.lt_or_ge m w.heap.size with D | D
 · exact D
 · rw[Array.getElem?_eq_none D] at F;cases F
variable {f:Fq}{b:Nat}{w':wO}{I':wO→Fq→Prop}
theorem BM.heap{w:wO}{m:Nat}{l:List (κ×Value)}(h:BM K w m l)(he:w'.heap[m]?=w.heap[m]?):BM K w' m l:=let ⟨es,c,D,F⟩:=h;⟨es,c,he.trans D,F⟩
def Ms(x:κ):List (κ×Value)→Option Value
 | []=>none
 |(k,v)::l=>if x==k then some v else Ms x l
theorem OW(x:κ):∀(es:List MapEntry)(l:List (κ×Value))(i:Nat),es.map (λe=>(e.key,e.val))=l.map (λp=>(K.enc p.1,p.2)) →
   (∀v,Ms x l=some v→∃j,Instr.findNow K.desc (K.enc x) es i=some (some (j,v)))∧(Ms x l=none→Instr.findNow K.desc (K.enc x) es i=some none)
 | [],[],i,_=>⟨λv h=>(by cases h),λ_=>C⟩
 | [],_::_,_,h=>by simp at h
 |_::_,[],_,h=>by simp at h
 |e::es,p::l,i,h=>by
   simp only[List.map_cons,List.cons.injEq,Prod.mk.injEq] at h;obtain⟨⟨F,G⟩,J⟩:=h;have D:=OW x es l (i+1) J;have L:Instr.sameNow K.desc (K.enc x) e.key=some (x==p.1):=by rw[F];exact K.same x p.1
   obtain⟨O,pv⟩:=p;unfold Instr.findNow Ms;rw[L]
   cases U:x==O with
   |true=>exact⟨λv h=>⟨i,by simp at h;simp[G,h]⟩,λh=>by simp at h⟩
   |false=>exact⟨λv h=>D.1 v (by simpa using h),λh=>D.2 (by simpa using h)⟩
theorem WA(x:κ):∀(a b:List (κ×Value)),Ms x (a++b)=(Ms x a).or (Ms x b)
 | [],b=>by simp[Ms]
 |(k,v)::a,b=>by
   simp only[List.cons_append,Ms,WA x a b]
   split <;> rfl
def Kq[BEq κ]:List (κ×Value)→Prop
 | []=>True
 |(k,_)::l=>EF l k=none∧Kq l
variable[LawfulBEq κ]
theorem RE(x:κ):∀l:List (κ×Value),Kq l→Ms x l.reverse=EF l x
 | [],_=>rfl
 |(k,v)::l,h=>by
   rw[List.reverse_cons,WA,RE x l h.2];simp only[Ms,EF]
   cases D:x==k with
   |true =>
     have:x=k:=by simpa using D
     subst this;rw[h.1];rfl
   |false=>cases EF l x <;> simp
section
variable{P:Program}{n:Nat}{Q:AQ}{ds:List Deferred}{X:Cx}{R:List RB}{B:List FB}{Fs:List (wO→Fq→Prop)}{fs:List Fr}{σ:AW}{H:List HB}{w:wO}
variable{all r:List Oper}{ty T k e:tI}{pos:String}{af:Array Edge}{g:Option (Nat×Bool)}{d m:Nat}{x y z:Operand}{a:κ}{l:List (κ×Value)}
theorem JP(h:FT P T=some (k,e)):P.underlying T=some (.map k e):=by
 unfold FT at h
 split at h
 · rename_i hu;cases h;exact hu
 · cases h
def zO(P:Program)(e:tI):Option Value:=match P.info? e with|some i=>i.zero|none=>none
def rO(P:Program)(e:tI)(z:Value):Prop:=zO P e=some z
theorem Se{z:Value}(h:rO P e z):∃i,P.info? e=some i∧i.zero=some z:=by
 unfold rO zO at h
 split at h
 · rename_i i D;exact⟨i,D,h⟩
 · cases h
theorem Wk{z:Value}{ok:Bool}(L:FT P T=some (k,e))(F:P.underlying k=some K.desc)(hz:rO P e z)(hm:BM K w m l)(hd:Kq l) :
   (Instr.lookup T (.map (some m)) (K.enc a) ok).run P w=.ok (if ok then .tuple #[(EF l a).getD z,.bool (EF l a).isSome] else (EF l a).getD z) w:=by
 have hu:=JP L;obtain⟨es,c,O,U⟩:=hm;obtain⟨i,W,hz⟩:=Se hz;have h:(getObj m).run P w=.ok (.map es.toArray c) w:=by simp[getObj,Sem.run,O]
 obtain⟨f1,f2⟩:=OW (K:=K) a es l.reverse 0 U;rw[RE a l hd] at f1 f2;have D:=λb=>K.chk P k w a b F
 cases J:EF l a with
 |some v =>
   obtain⟨j,G⟩:=f1 v J;simp only[Instr.lookup,Sem.run_bind,run_underlying hu,Result.andThen_ok,h]
   cases ok <;> simp[D,Instr.findKey,run_underlying F,G]
 |none =>
   have G:=f2 J;simp only[Instr.lookup,Sem.run_bind,run_underlying hu,Result.andThen_ok,h]
   cases ok <;> simp[D,Instr.findKey,run_underlying F,G,zeroValue,typeInfo,W,hz]
theorem aF{z:Value}{ok:Bool}(D:ev σ x=some (.map (some m)))(F:ev σ y=some (K.enc a))(G:FT P T=some (k,e))(J:P.underlying k=some K.desc)(hz:rO P e z)(hm:BM K w m l)(hd:Kq l) :
   AM P σ (.lookup T x y ok) ty w (if ok then .tuple #[(EF l a).getD z,.bool (EF l a).isSome] else (EF l a).getD z) w:=λL _ _ _ _ h=>by
 simp only[execOp,h _ _ D,h _ _ F];rw[Sem.run_bind,Wk G J hz hm hd];rfl
theorem K5{z v:Value}(h:ev σ x=some (.map (some m)))(D:ev σ y=some (K.enc a))(F:FT P T=some (k,e))(G:P.underlying k=some K.desc)(hz:rO P e z)(hm:BM K w m l)(hd:Kq l)(J:EF l a=some v):AM P σ (.lookup T x y true) ty w (.tuple #[v,.bool true]) w:=by
 have:=aF (ty:=ty) (ok:=true) h D F G hz hm hd;rw[J] at this;exact this
theorem K4{z:Value}(h:ev σ x=some (.map (some m)))(D:ev σ y=some (K.enc a))(F:FT P T=some (k,e))(G:P.underlying k=some K.desc)(hz:rO P e z)(hm:BM K w m l)(hd:Kq l)(J:EF l a=none):AM P σ (.lookup T x y true) ty w (.tuple #[z,.bool false]) w:=by
 have:=aF (ty:=ty) (ok:=true) h D F G hz hm hd;rw[J] at this;exact this
theorem Pc{z v:Value}(h:ev σ x=some (.map (some m)))(D:ev σ y=some (K.enc a))(F:FT P T=some (k,e))(G:P.underlying k=some K.desc)(hz:rO P e z)(hm:BM K w m l)(hd:Kq l)(J:(EF l a).getD z=v):AM P σ (.lookup T x y false) ty w v w:=by
 have:=aF (ty:=ty) (ok:=false) h D F G hz hm hd;rw[← J];exact this
theorem XM{v:Value}(W:FT P T=some (k,e))(L:P.underlying k=some K.desc)(hm:BM K w m l)(hd:Kq l)(Y:EF l a=none):∃w',(Instr.mapUpdate T (.map (some m)) (K.enc a) v).run P w=.ok () w'∧BM K w' m ((a,v)::l)∧Gj m w w':=by
 have hu:=JP W;obtain⟨es,c,O,U⟩:=id hm;have Z:=(OW (K:=K) a es l.reverse 0 U).2 (by rw[RE a l hd];exact Y);have h:(getObj m).run P w=.ok (.map es.toArray c) w:=by simp[getObj,Sem.run,O]
 have F:=hm.lt;have G:=λb=>K.chk P k w a b L
 have D:(setObj m (.map (es.toArray.push {key:=K.enc a,val:=v,born:=c}) (c+1))).run P w=.ok () {w with heap:=w.heap.setIfInBounds m (.map (es.toArray.push {key:=K.enc a,val:=v,born:=c}) (c+1))}:=by
   simp[setObj,Sem.run,O]
 refine⟨{w with heap:=w.heap.setIfInBounds m (.map (es.toArray.push {key:=K.enc a,val:=v,born:=c}) (c+1))},?_,?_,?_⟩
 · simp only[Instr.mapUpdate,Sem.run_bind,run_underlying hu,Result.andThen_ok,h]
   simp only[G,Result.andThen_ok,Instr.findKey,Sem.run_bind,run_underlying L,Z];simp only[Sem.run_pure,Result.andThen_ok];exact D
 · refine⟨es++[{key:=K.enc a,val:=v,born:=c}],c+1,?_,?_⟩
   · simp[F]
   · simp[U]
 · refine⟨C,C,C,by simp,λj J=>?_⟩
   show (w.heap.setIfInBounds m _)[j]?=_;rw[Array.getElem?_setIfInBounds_ne (λe=>J e.symm)]
theorem AP.chgI{w:wO}(h:AP X w f H R B Fs)(J:X.MI b)(D:Gj b w w')(L:I' w' f)(F:EC X.MI I'):AP {X with I:=I' } w' f H R B Fs :=
 h.callI ⟨⟨D.os,D.tape,D.output,by rw[D.size];exact Nat.le_refl _,λk _ hm=>D.block k (λe=>hm (e▸J))⟩,λ_ _=>C,λk G=>h.val k (by rw[D.size] at G;exact G)⟩ L F
theorem iS{v:Value}(O:gd all σ g=some true)(U:ev σ x=some (.map (some m)))(W:ev σ y=some (K.enc a))(hz:ev σ z=some v)(Y:FT P T=some (k,e))(Z:P.underlying k=some K.desc)(G:X.MI m)(hd:Kq l)(hn:EF l a=none)
   (hm:∀w f,X.I w f→BM K w m l) (hI:∀w f w',X.I w f→AP X w f H R B Fs→Gj m w w'→BM K w' m ((a,v)::l)→I' w' f) (J:EC X.MI I')
   (h:Aw P n Q ds {X with I:=I' } R B Fs (.ops all r) fs σ H):Aw P n Q ds X R B Fs (.ops all (⟨none,.mapUpdate T x y z,ty,pos,af,g⟩::r)) fs σ H:=λw f F=>by
 obtain⟨w',h1,h2,L⟩:=XM (v:=v) Y Z (hm w f F.res) hd hn;refine Bv O (Js (w':=w') (λρ _ _ _ _ D=>?_) (h w' f (F.chgI G L (hI w f w' F.res F L h2) J)));simp only[execOp,D _ _ U,D _ _ W,D _ _ hz];rw[Sem.run_bind,h1];rfl
omit [LawfulBEq κ] in
theorem mmp(O:gd all σ g=some true)(hd:Nat.blt d n=true)
   (h:∀m,Aw P n Q ds {X with MI:=λb=>X.MI b∨b=m,I:=λw f=>X.I w f∧BM K w m []} R B Fs (.ops all r) fs (AD σ d (.map (some m))) H):Aw P n Q ds X R B Fs (.ops all (⟨some d,.makeMap T none,ty,pos,af,g⟩::r)) fs σ H:=λw f G=>by
 refine Bv O (Ab (v:=.map (some w.heap.size)) (w':=w.alloc (.map #[] 0)) hd (λρ _ _ _ _ U=>by simp[execOp,Instr.makeMap]) (h w.heap.size _ f ?_));have F:AP X (w.alloc (.map #[] 0)) f H R B Fs:=G.call0 (C6.of_ext (JU w _) G.val);have J:∀b,b∈CD H R→b≠w.heap.size:=λb D e=>Nat.lt_irrefl _ (e▸G.lt D)
 exact {F with
         res:=⟨F.res,[],0,heap_alloc_new w _,C⟩,
         stab:=λW f1 Y f2 L Z D=>⟨F.stab W f1 Y f2 L.1 Z λb hm=>D b (.inl hm),L.2.heap (D _ (.inr C))⟩,
         mi:=λb D=>by
           rcases D with D|rfl
           · exact F.mi b D
           · exact⟨by rw[GW];omega,G.val _ (Nat.le_refl _),.inl G.stp.size⟩,
         own:=λb D=>⟨(F.own b D).1,(F.own b D).2.1,λhm=>by
           rcases hm with hm|rfl
           · exact (F.own b D).2.2 hm
           · exact J _ D C⟩}
end
end
end Go.SW
namespace Go.SW
def wX(P:Program)(T h:tI):Bool:=match P.underlying T,P.underlying h with
 |some _,some .string=>true
 |_,_=>false
end Go.SW
namespace Go.SP
inductive Ty where
 |nil
 |var (n:Int) (r:Ty)
 |con (tx:lU) (k r:Ty)
inductive T1 where
 |var (n:Int)
 |con (tx:lU) (k:Ty)
def T1.cons:T1→Ty→Ty
 |.var n,r=>.var n r
 |.con tx k,r=>.con tx k r
def T1.one(t:T1):Ty:=t.cons .nil
def Ty.app:Ty→Ty→Ty
 |.nil,y=>y
 |.var n r,y=>.var n (r.app y)
 |.con tx k r,y=>.con tx k (r.app y)
def Ty.len:Ty→Nat
 |.nil=>0
 |.var _ r=>r.len+1
 |.con _ _ r=>r.len+1
def Ty.get:Ty→Nat→Option T1
 |.nil,_=>none
 |.var n _,0=>some (.var n)
 |.con tx k _,0=>some (.con tx k)
 |.var _ r,i+1=>r.get i
 |.con _ _ r,i+1=>r.get i
def Ty.snoc(a:Ty)(t:T1):Ty:=a.app t.one
def Ty.hd:Ty→T1
 |.nil=>.var 0
 |.var n _=>.var n
 |.con tx k _=>.con tx k
abbrev BT:=List (Int×T1)
def CK:BT→Int→Option T1
 | [],_=>none
 |(k,t)::s,n=>if k==n then some t else CK s n
def HD(b:BT):Nat→T1→T1
 |0,t=>t
 |k+1,t=>match t with
   |.con tx d=>.con tx d
   |.var n=>match CK b n with
     |none=>.var n
     |some t'=>HD b k t'
def An(b:BT)(t:T1):T1:=HD b (b.length+1) t
def KN(b:BT):Nat→Ty→Bool
 |_,.nil=>true
 |0,_=>false
 |k+1,.var n r=>match An b (.var n) with
   |.var _=>KN b k r
   |.con _ d=>KN b k (d.app r)
 |k+1,.con _ d r=>KN b k (d.app r)
def Hy(b:BT)(t:T1):Bool:=KN b 1000 t.one
def CL(b:BT)(x:Int):Nat→Ty→Bool
 |_,.nil=>true
 |0,_=>true
 |k+1,.var n r=>match An b (.var n) with
   |.var m=>!(m==x)&&CL b x k r
   |.con _ d=>CL b x k (d.app r)
 |k+1,.con _ d r=>CL b x k (d.app r)
def C8(b:BT)(n:Int)(t:T1):Except Int BT :=
 if Hy b t then (if CL b n 1000 t.one then .ok ((n,t)::b) else .error 11) else .error 4
def KK(f:BT→Ty→Ty→Except Int BT)(b:BT)(x y:T1)(r q:Ty):Except Int BT :=
 match x,y with
 |.var n,.var m=>if n==m then f b r q else (match C8 b n (.var m) with|.error e=>.error e|.ok d=>f d r q)
 |.var n,.con ty h=>(match C8 b n (.con ty h) with|.error e=>.error e|.ok d=>f d r q)
 |.con tx ka,.var m=>(match C8 b m (.con tx ka) with|.error e=>.error e|.ok d=>f d r q)
 |.con tx ka,.con ty h=>if !(tx==ty)||(ka.len:Int) != h.len then .error 11 else f b (ka.app r) (h.app q)
def Ty.tl:Ty→Ty
 |.nil=>.nil
 |.var _ r=>r
 |.con _ _ r=>r
def NK:Nat→BT→Ty→Ty→Except Int BT
 |_,b,.nil,_=>.ok b
 |0,_,_,_=>.error 4
 |k+1,b,.var n r,y=>KK (NK k) b (An b (.var n)) (An b y.hd) r y.tl
 |k+1,b,.con tx ka r,y=>KK (NK k) b (.con tx ka) (An b y.hd) r y.tl
def FU(b:BT)(x y:T1):Except Int BT:=NK 10000 b x.one y.one
def Bg(b:BT):Nat→Ty→Ty
 |_,.nil=>.nil
 |0,_=>.nil
 |k+1,.var n r=>match An b (.var n) with
   |.var m=>.var m (Bg b k r)
   |.con tx d=>.con tx (Bg b k d) (Bg b k r)
 |k+1,.con tx d r=>.con tx (Bg b k d) (Bg b k r)
def Dy(b:BT)(t:T1):Option T1:=if Hy b t then some (Bg b 1000 t.one).hd else none
def CI:Ty→List Int→List Int
 |.nil,s=>s
 |.var n r,s=>CI r (if s.contains n then s else s++[n])
 |.con _ k r,s=>CI r (CI k s)
def Ao(t:T1):List Int:=CI t.one []
def Du:List Int→Int→Option Nat
 | [],_=>none
 |k::l,n=>if k==n then some 0 else (Du l n).map (· + 1)
def Dw(l:List Int)(d:Ty):Ty→Ty
 |.nil=>.nil
 |.var n r=>match (Du l n).bind d.get with
   |some t=>t.cons (Dw l d r)
   |none=>.var n (Dw l d r)
 |.con tx k r=>.con tx (Dw l d k) (Dw l d r)
def Co(t:T1)(l:List Int)(d:Ty):T1:=(Dw l d t.one).hd
def bI:lU:=[105,110,116]
def bF:lU:=[102,108,111,97,116]
def bS:lU:=[115,116,114,105,110,103]
def bU:lU:=[117,110,105,116]
def bB:lU:=[98,111,111,108]
def bX:lU:=[101,120,110]
def FF:lU:=[45,62]
def SX:lU:=[116,117,112,108,101]
def Gw:lU:=[114,101,102]
def Cl:lU:=[112,114,101,102]
def c0(tx:lU):T1:=.con tx .nil
def KH:Ty→T1
 |.nil=>.var 0
 |.var n .nil=>.var n
 |.con tx k .nil=>.con tx k
 |.var n r=>.con FF (.var n (KH r).one)
 |.con tx k r=>.con FF (.con tx k (KH r).one)
structure Mk where
 args:Ty
 out:T1
 vars:List Int
structure CS where
 sol:BT
 fresh:Int
 cons:List (lU×Mk)
 datas:List (lU×Int)
 roots:List lU
 vars:Int
structure Bd where
 name:lU
 t:T1
 all:List Int
abbrev By:=List Bd
abbrev Er:=Int×Int×Int
abbrev RI(α:Type):=Except Er α
def Bo{α:Type}:List (lU×α)→lU→Option α
 | [],_=>none
 |(k,v)::l,n=>if k==n then some v else Bo l n
def A5(s:CS):T1×CS:=(.var (s.fresh+1),{s with fresh:=s.fresh+1})
def Fu(s:CS)(a b:T1)(ln co:Int):RI CS:=match FU s.sol a b with
 |.error e=>.error (ln,co,e)
 |.ok m=>.ok {s with sol:=m}
def Jo(s:CS)(t:T1)(ln co:Int):RI T1:=match Dy s.sol t with
 |none=>.error (ln,co,4)
 |some f=>.ok f
def B1(s:CS):By→List Int
 | []=>[]
 |b::e=>(match Dy s.sol b.t with
   |none=>[]
   |some f=>(Ao f).filter λv=>!b.all.contains v)++B1 s e
def HO(s:CS)(e:By)(name:lU)(t:T1)(value:Bool)(ln co:Int):RI By :=
 if value then (match Jo s t ln co with
   |.error x=>.error x
   |.ok f=>.ok (⟨name,f,(Ao f).filter λv=>!(B1 s e).contains v⟩::e))
 else .ok (⟨name,t,[]⟩::e)
def Bx:List Int→CS→Ty×CS
 | [],s=>(.nil,s)
 |_::l,s=>((A5 s).1.cons (Bx l (A5 s).2).1,(Bx l (A5 s).2).2)
def Kj(s:CS)(tx:lU)(k:Nat)(ln co:Int):RI (Ty×T1×CS):=match Bo s.cons tx with
 |none=>.error (ln,co,11)
 |some m=>if (m.args.len:Int)==k then .ok (Dw m.vars (Bx m.vars s).1 m.args,Co m.out m.vars (Bx m.vars s).1,(Bx m.vars s).2) else .error (ln,co,11)
def O7:By→lU→Option Bd
 | [],_=>none
 |b::e,n=>if b.name==n then some b else O7 e n
def IG(s:CS)(e:By)(tx:lU)(ln co:Int):RI (T1×CS):=match O7 e tx with
 |none=>.error (ln,co,11)
 |some b=>match Jo s b.t ln co with
   |.error x=>.error x
   |.ok f =>
     let vs:=(Ao f).filter λv=>b.all.contains v
     .ok (Co f vs (Bx vs s).1,(Bx vs s).2)
def We(f:Int→Nd→Bool):Nd→Bool
 |.nil=>true
 |.cons op _ _ _ _ k r=>f op k&&We f r
def Ct:Nat→Int→Nd→Bool
 |0,_,_=>false
 |n+1,op,kids =>
   if op==1||op==2||op==3||op==4||op==5||op==7 then true
   else if op==6||op==13 then We (Ct n) kids else false
abbrev MG:=CS→By→Int→Int→Int→lU→Int→Nd→RI (T1×CS)
def EJ(f:MG)(e:By):CS→Nd→RI (Ty×CS)
 |s,.nil=>.ok (.nil,s)
 |s,.cons op ln co tx nm k r=>match f s e op ln co tx nm k with
   |.error x=>.error x
   |.ok (t,s1)=>match EJ f e s1 r with
     |.error x=>.error x
     |.ok (l,s2)=>.ok (t.cons l,s2)
def Hu(f:MG)(e:By):CS→Ty→Nd→RI CS
 |s,a,.cons op ln co tx nm k r=>match f s e op ln co tx nm k with
   |.error x=>.error x
   |.ok (t,s1)=>match Fu s1 a.hd t ln co with
     |.error x=>.error x
     |.ok s2=>Hu f e s2 a.tl r
 |s,_,.nil=>.ok s
def KU(f:MG)(e:By):CS→T1→Nd→RI (T1×CS)
 |s,t,.nil=>.ok (t,s)
 |s,t,.cons op ln co tx nm k r=>match f s e op ln co tx nm k with
   |.error x=>.error x
   |.ok (a,s1)=>match Fu (A5 s1).2 t (.con FF (a.cons (A5 s1).1.one)) ln co with
     |.error x=>.error x
     |.ok s2=>KU f e s2 (A5 s1).1 r
def Fb:CS→By→Nd→Ty×By×CS
 |s,e,.nil=>(.nil,e,s)
 |s,e,.cons _ _ _ _ _ _ .nil=>(.nil,e,s)
 |s,e,.cons op _ _ tx _ _ r =>
   let d:=if op==22 then ⟨tx,(A5 s).1,[]⟩::e else e
   let (l,h,s2):=Fb (A5 s).2 d r
   ((A5 s).1.cons l,h,s2)
def Nd.last:Nd→Option N
 |.nil=>none
 |.cons op ln co tx nm k .nil=>some ⟨op,ln,co,tx,nm,k⟩
 |.cons _ _ _ _ _ _ r=>r.last
def Ty.last:Ty→T1
 |.nil=>.var 0
 |.var n .nil=>.var n
 |.con tx k .nil=>.con tx k
 |.var _ r=>r.last
 |.con _ _ r=>r.last
abbrev OE:=CS→By→Int→Int→Int→lU→Int→Nd→RI (T1×By×CS)
def Hn(f:OE):CS→By→Ty→Nd→RI (By×CS)
 |s,e,_,.nil=>.ok (e,s)
 |s,e,a,.cons op ln co tx nm k r=>match f s e op ln co tx nm k with
   |.error x=>.error x
   |.ok (q,d,s1)=>match Fu s1 a.hd q ln co with
     |.error x=>.error x
     |.ok s2=>Hn f s2 d a.tl r
def Gg(f:OE):CS→By→Nd→RI (Ty×By×CS)
 |s,e,.nil=>.ok (.nil,e,s)
 |s,e,.cons op ln co tx nm k r=>match f s e op ln co tx nm k with
   |.error x=>.error x
   |.ok (q,d,s1)=>match Gg f s1 d r with
     |.error x=>.error x
     |.ok (l,h,s2)=>.ok (q.cons l,h,s2)
def Dc(f:OE)(s:CS)(e:By)(op ln co:Int)(tx:lU)(kids:Nd):RI (T1×By×CS) :=
 if op==21 then .ok ((A5 s).1,e,(A5 s).2)
 else if op==22 then .ok ((A5 s).1,⟨tx,(A5 s).1,[]⟩::e,(A5 s).2)
 else if op==23 then .ok (c0 bI,e,s)
 else if op==24 then .ok (c0 bS,e,s)
 else if op==25 then .ok (c0 bU,e,s)
 else if op==26 then (match Kj s tx kids.len ln co with
   |.error x=>.error x
   |.ok (args,out,s1)=>match Hn f s1 e args kids with
     |.error x=>.error x
     |.ok (d,s2)=>.ok (out,d,s2))
 else if op==27 then (match Gg f s e kids with
   |.error x=>.error x
   |.ok (l,d,s2)=>.ok (.con SX l,d,s2))
 else .ok (.var 0,e,s)
def Cw:Nat→OE
 |0,_,_,_,ln,co,_,_,_=>.error (ln,co,11)
 |n+1,s,e,op,ln,co,tx,_,kids=>match Dc (Cw n) s e op ln co tx kids with
   |.error x=>.error x
   |.ok (t,d,s1)=>match Jo s1 t ln co with
     |.error x=>.error x
     |.ok _=>.ok (t,d,s1)
def DW(n:Nat)(f:MG)(e:By)(pt:T1):CS→Option T1→Nd→RI (T1×CS)
 |s,t,.nil=>.ok (t.getD (.var 0),s)
 |s,t,.cons _ _ _ _ _ K r=>match K with
   |.cons op ln co tx nm L (.cons D d h F G bk _)=>(match Cw n s e op ln co tx nm L with
     |.error x=>.error x
     |.ok (q,inner,s1)=>match Fu s1 pt q ln co with
       |.error x=>.error x
       |.ok s2=>match f s2 inner D d h F G bk with
         |.error x=>.error x
         |.ok (rt,J)=>match t with
           |some t0=>(match Fu J t0 rt d h with
             |.error x=>.error x
             |.ok O=>DW n f e pt O (some t0) r)
           |none=>DW n f e pt J (some rt) r)
   |_=>.ok (t.getD (.var 0),s)
def Kg(f:MG)(s:CS)(e:By)(ln co:Int)(tx:lU)(d h D:Int)(F:lU)(G:Int)(k0:Nd):RI (T1×CS) :=
 match f (A5 s).2 (⟨tx,(A5 s).1,[]⟩::e) d h D F G k0 with
 |.error x=>.error x
 |.ok (t,s1)=>match Fu s1 (A5 s).1 t ln co with
   |.error x=>.error x
   |.ok s2=>.ok (t,s2)
def Bl(n:Nat)(f:MG)(s:CS)(e:By)(op ln co:Int)(tx:lU)(kids:Nd):RI (T1×CS) :=
 if op==1 then .ok (c0 bI,s)
 else if op==2 then .ok (c0 bF,s)
 else if op==3 then .ok (c0 bS,s)
 else if op==4 then .ok (c0 bU,s)
 else if op==5 then IG s e tx ln co
 else if op==6 then (match Kj s tx kids.len ln co with
   |.error x=>.error x
   |.ok (args,out,s1)=>match Hu f e s1 args kids with
     |.error x=>.error x
     |.ok s2=>.ok (out,s2))
 else if op==7 then (match kids.last with
   |none=>.ok (.var 0,s)
   |some b =>
     let p:=Fb s e kids
     match f p.2.2 p.2.1 b.op b.ln b.co b.tx b.nm b.kids with
     |.error x=>.error x
     |.ok (t,s1)=>.ok (KH (p.1.snoc t),s1))
 else if op==8 then (match kids with
   |.nil=>.ok (.var 0,s)
   |.cons o l c x m k r=>match f s e o l c x m k with
     |.error x=>.error x
     |.ok (t,s1)=>KU f e s1 t r)
 else if op==9 then (match kids with
   |.cons o l c x m k (.cons d h c2 D m2 k2 _)=>(match f s e o l c x m k with
     |.error x=>.error x
     |.ok (t,s1)=>match (if tx==[95] then .ok e else HO s1 e tx t (Ct (n+1) o k) ln co) with
       |.error x=>.error x
       |.ok F=>f s1 F d h c2 D m2 k2)
   |_=>.ok (.var 0,s))
 else if op==10 then (match kids with
   |.cons o l c x m k (.cons d h c2 D m2 k2 _)=>(match Kg f s e ln co tx o l c x m k with
     |.error x=>.error x
     |.ok (t,s1)=>match HO s1 e tx t true ln co with
       |.error x=>.error x
       |.ok F=>f s1 F d h c2 D m2 k2)
   |_=>.ok (.var 0,s))
 else if op==11 then (match kids with
   |.cons o l c x m k (.cons d h c2 D m2 k2 (.cons J G c3 K m3 k3 _))=>(match f s e o l c x m k with
     |.error x=>.error x
     |.ok (t,s1)=>match Fu s1 (c0 bB) t l c with
       |.error x=>.error x
       |.ok s2=>match f s2 e d h c2 D m2 k2 with
         |.error x=>.error x
         |.ok (t2,L)=>match f L e J G c3 K m3 k3 with
           |.error x=>.error x
           |.ok (t3,O)=>match Fu O t2 t3 G c3 with
             |.error x=>.error x
             |.ok Q=>.ok (t2,Q))
   |_=>.ok (.var 0,s))
 else if op==12 then (match EJ f e s kids with
   |.error x=>.error x
   |.ok (l,s1)=>.ok (l.last,s1))
 else if op==13 then (match EJ f e s kids with
   |.error x=>.error x
   |.ok (l,s1)=>.ok (.con SX l,s1))
 else if op==14 then (match kids with
   |.nil=>.ok (.var 0,s)
   |.cons o l c x m k r=>match f s e o l c x m k with
     |.error x=>.error x
     |.ok (t,s1)=>DW n f e t s1 none r)
 else if op==15 then (match kids with
   |.nil=>.ok (.var 0,s)
   |.cons o l c x m k r=>match f s e o l c x m k with
     |.error x=>.error x
     |.ok (t,s1)=>DW n f e (c0 bX) s1 (some t) r)
 else if op==16 then (match kids with
   |.nil=>.ok (.var 0,s)
   |.cons o l c x m k _=>match f s e o l c x m k with
     |.error x=>.error x
     |.ok (t,s1)=>match Fu s1 (c0 bX) t l c with
       |.error x=>.error x
       |.ok s2=>.ok (A5 s2))
 else (match kids with
   |.nil=>.ok (.var 0,s)
   |.cons o l c x m k _=>f s e o l c x m k)
def Ce:Nat→MG
 |0,_,_,_,ln,co,_,_,_=>.error (ln,co,11)
 |n+1,s,e,op,ln,co,tx,_,kids=>match Bl n (Ce n) s e op ln co tx kids with
   |.error x=>.error x
   |.ok (t,s1)=>match Jo s1 t ln co with
     |.error x=>.error x
     |.ok _=>.ok (t,s1)
def GQ:lU:=[32,105,110,116,32,102,108,111,97,116,32,115,116,114,105,110,103,32,117,110,105,116,32,98,111,111,108,32,101,120,110,32]
def Rp:lU:=[32,116,117,112,108,101,32,114,101,102,32,112,114,101,102,32]
def Gr(datas:List (lU×Int))(vars:List (lU×T1)):Nd→RI Ty
 |.nil=>.ok .nil
 |.cons op ln co tx _ kids r =>
   let one:RI T1:=if op==31 then (match Bo vars tx with
       |some t=>.ok t
       |none=>.error (ln,co,11))
     else if (if Dm GQ ([32]++tx++[32]) then (kids.len:Int)==0
         else if tx==FF then (kids.len:Int)==2
         else if Dm Rp ([32]++tx++[32]) then true
         else match Bo datas tx with|some c=>c==(kids.len:Int)|none=>false)
       then (match Gr datas vars kids with|.error x=>.error x|.ok k=>.ok (.con tx k))
       else .error (ln,co,11)
   match one with
   |.error x=>.error x
   |.ok t=>match Gr datas vars r with
     |.error x=>.error x
     |.ok l=>.ok (t.cons l)
def EN(ln co:Int):Nd→Int→List (lU×T1)→Ty→List Int→RI (Int×List (lU×T1)×Ty×List Int)
 |.nil,v,m,self,d=>.ok (v,m,self,d)
 |.cons op _ _ tx _ _ r,v,m,self,d =>
   if op==31 then (if (Bo m tx).isSome then .error (ln,co,11) else EN ln co r (v-1) ((tx,.var (v-1))::m) (self.snoc (.var (v-1))) (d++[v-1]))
   else EN ln co r v m self d
def Ed(datas:List (lU×Int))(m:List (lU×T1))(out:T1)(d:List Int):Nd→List (lU×Mk)→RI (List (lU×Mk))
 |.nil,c=>.ok c
 |.cons op ln co tx _ kids r,c =>
   if op==42 then (if (Bo c tx).isSome then .error (ln,co,11) else match Gr datas m kids with
     |.error x=>.error x
     |.ok args=>Ed datas m out d r ((tx,⟨args,out,d⟩)::c))
   else Ed datas m out d r c
def IH(s:CS)(ln co:Int)(tx:lU)(kids:Nd):RI CS :=
 if (Bo s.datas tx).isSome||Dm GQ ([32]++tx++[32]) then .error (ln,co,11)
 else match EN ln co kids s.vars [] .nil [] with
   |.error x=>.error x
   |.ok (v,m,self,d) =>
     let datas:=(tx,(d.length:Int))::s.datas
     match Ed datas m (.con tx self) d kids s.cons with
     |.error x=>.error x
     |.ok cons=>.ok {s with datas:=datas,cons:=cons,vars:=v}
def DJ(s:CS)(e:By)(op ln co:Int)(tx:lU)(kids:Nd):RI (Option (lU×T1)×By×CS) :=
 if op==41 then (match IH s ln co tx kids with
   |.error x=>.error x
   |.ok s1=>.ok (none,e,s1))
 else match kids with
   |.nil=>.ok (some (tx,.var 0),e,s)
   |.cons o l c x m k r =>
     if op==43 then (if s.roots.contains tx then .error (ln,co,11) else match Gr s.datas [] (.cons o l c x m k .nil) with
         |.error x=>.error x
         |.ok w=>match r with
           |.nil=>.ok (some (tx,.var 0),e,s)
           |.cons h D c2 F m2 k2 _=>match Ce (k2.size+1) {s with roots:=tx::s.roots} e h D c2 F m2 k2 with
             |.error x=>.error x
             |.ok (t2,s1)=>match Fu s1 w.hd t2 ln co with
               |.error x=>.error x
               |.ok s2=>.ok (some (tx,.con Cl w),⟨tx,.con Cl w,[]⟩::e,s2))
     else if op==44 then (match Ce (k.size+1) s e o l c x m k with
       |.error x=>.error x
       |.ok (t,s1)=>match HO s1 e tx t (Ct (k.size+1) o k) ln co with
         |.error x=>.error x
         |.ok d=>.ok (some (tx,t),d,s1))
     else if op==45 then (match Kg (Ce (k.size+1)) s e ln co tx o l c x m k with
       |.error x=>.error x
       |.ok (t,s1)=>match HO s1 e tx t true ln co with
         |.error x=>.error x
         |.ok d=>.ok (some (tx,t),d,s1))
     else (match Ce (k.size+1) s e o l c x m k with
       |.error x=>.error x
       |.ok (t,s1)=>.ok (some ([],t),e,s1))
def Gi:CS→By→Nd→List (lU×T1)→RI (List (lU×T1)×CS)
 |s,_,.nil,out=>.ok (out,s)
 |s,e,.cons op ln co tx _ k r,out=>match DJ s e op ln co tx k with
   |.error x=>.error x
   |.ok (none,d,s1)=>Gi s1 d r out
   |.ok (some b,d,s1)=>Gi s1 d r (out++[b])
def Wa:Nat→Nat→lU
 |0,_=>[]
 |k+1,n=>if n<10 then [UInt8.ofNat (48+n)] else Wa k (n / 10)++[UInt8.ofNat (48+n % 10)]
def D4(i:Nat):lU:=[39,UInt8.ofNat (97+i % 26)]++(if i<26 then [] else Wa 20 (i / 26))
def Dv(vs:List Int):Ty→lU
 |.nil=>[]
 |.var n r=>32::((match Du vs n with|some i=>D4 i|none=>[])++Dv vs r)
 |.con tx .nil r=>32::(tx++Dv vs r)
 |.con tx k r=>32::([40]++tx++Dv vs k++[41]++Dv vs r)
def P6(t:T1):lU:=(Dv (Ao t) t.one).drop 1
def Mc(s:CS):List (lU×T1)→RI (List (lU×lU))
 | []=>.ok []
 |(n,t)::l=>match Jo s t 0 0 with
   |.error x=>.error x
   |.ok f=>match Mc s l with
     |.error x=>.error x
     |.ok r=>.ok ((n,P6 f)::r)
def aI:Int := -1
def rV:List (lU×Ty) :=
 let n:=c0 bI;let f:=c0 bF;let s:=c0 bS;let b:=c0 bB;let u:=c0 bU
 let a:=T1.var aI;let r:=T1.con Gw a.one;let p:=T1.con Cl a.one
 let h (x y:T1):Ty:=x.cons y.one
 let D (x y z:T1):Ty:=x.cons (y.cons z.one)
 let d (names:List lU) (t:Ty):List (lU×Ty):=names.map λx=>(x,t)
 d [[43],[45],[42],[100,105,118],[109,111,100]] (D n n n)++d [[110,101,103]] (h n n)++d [[60],[60,61],[61]] (D n n b) ++
 d [[102,43],[102,45],[102,42],[102,47]] (D f f f)++d [[102,115,113,114,116],[102,110,101,103]] (h f f)++d [[102,60],[102,61],[102,97,104,101,97,100]] (D f f b) ++
 d [[105,116,111,102]] (h n f)++d [[102,116,111,105]] (h f n)++d [[102,98,105,116,115]] (h f s)++d [[110,97,110],[105,110,102]] f.one ++
 d [[99,97,116]] (D s s s)++d [[108,101,110],[111,114,100],[97,116,111,105]] (h s n)++d [[115,117,98]] (s.cons (D n n s))++d [[115,61],[115,60]] (D s s b) ++
 d [[105,116,111,97],[99,104,114]] (h n s)++d [[112,114,105,110,116]] (h s u)++d [[114,101,97,100]] (h u s)++d [[114,101,102]] (h a r)++d [[103,101,116]] (h r a) ++
 d [[115,101,116]] (D r a u)++d [[110,101,119]] (h a p)++d [[108,111,97,100]] (h p a)++d [[115,116,111,114,101]] (D p a u)
def Rx:By:=(rV.map λp=>(⟨p.1,KH p.2,[aI]⟩:Bd)).reverse
def cons0:List (lU×Mk) :=
 [([70,97,105,108],⟨(c0 bS).one,c0 bX,[]⟩),([79,117,116],⟨.nil,c0 bX,[]⟩),([75,101,101,112],⟨.nil,c0 bX,[]⟩),([65,98,111,114,116],⟨.nil,c0 bX,[]⟩),([77,97,116,99,104],⟨.nil,c0 bX,[]⟩),([68,105,118],⟨.nil,c0 bX,[]⟩),
  ([84,114,117,101],⟨.nil,c0 bB,[]⟩),([70,97,108,115,101],⟨.nil,c0 bB,[]⟩)]
def jA:CS:=⟨[],0,cons0,[],[],-1⟩
def ER(nds:Nd):RI (List (lU×lU)):=match Gi jA Rx nds [] with
 |.error x=>.error x
 |.ok (out,s)=>Mc s out
end Go.SP
namespace Go.SP
open Go.SW Go.RowKit
namespace T1
def op:T1→Int
 |.var _=>0
 |.con _ _=>1
def num:T1→Int
 |.var n=>n
 |.con _ _=>0
def tx:T1→lU
 |.var _=>[]
 |.con t _=>t
def kids:T1→Ty
 |.var _=>.nil
 |.con _ k=>k
end T1
def tC(t:T1)(a:oA)(c:Nat):lV:=[.int .i64 t.op,.int .i64 t.num,S t.tx,.slice a t.kids.len c]
abbrev tV(t:T1)(a:oA)(c:Nat):Value:=.agg #[.int .i64 t.op,.int .i64 t.num,S t.tx,.slice a t.kids.len c]
def IN(w:wO)(f:Fq):Ty→Nat→Nat→Prop
 |.nil,_,_=>True
 |.var n r,b,off=>(∃a c,Cs w f b off [.int .i64 0,.int .i64 n,S [],.slice a 0 c])∧IN w f r b (off+4)
 |.con tx k r,b,off=>(∃a c,Cs w f b off [.int .i64 1,.int .i64 0,S tx,.slice a k.len c]∧k.len≤c∧(k=.nil∨∃h d,a=some ⟨h,d,none⟩∧IN w f k h d))∧IN w f r b (off+4)
def Ae(w:wO)(f:Fq)(k:Ty)(a:oA)(c:Nat):Prop:=k.len≤c∧(k=.nil∨∃b off,a=some ⟨b,off,none⟩∧IN w f k b off)
variable {f f':Fq}{co ln nm:Int}{l:lV}{b i off:Nat}{U:Nat→Prop}{r:Nd}{a:oA}{T:tI}{w w':wO}
theorem IN.mono(h:Hi w f w' f'):∀(k:Ty)(b off:Nat),IN w f k b off→IN w' f' k b off
 |.nil,_,_,_=>trivial
 |.var _ r,b,off,⟨⟨a,c,D⟩,F⟩=>⟨⟨a,c,D.mono h⟩,IN.mono h r b _ F⟩
 |.con _ k r,b,off,⟨⟨a,c,D,F,J⟩,K⟩=>⟨⟨a,c,D.mono h,F,J.imp id λ⟨G,d,L,O⟩=>⟨G,d,L,IN.mono h k G d O⟩⟩,IN.mono h r b _ K⟩
theorem Ae.mono{k:Ty}{c:Nat}:Ea (λw f=>Ae w f k a c):=λ_ _ _ _ h d=>⟨h.1,h.2.imp id λ⟨b,off,D,F⟩=>⟨b,off,D,IN.mono d k b off F⟩⟩
theorem Ae.nil(w:wO)(f:Fq)(a:oA)(c:Nat):Ae w f .nil a c:=⟨Nat.zero_le _,.inl C⟩
theorem IN.cons{t:T1}{r:Ty}:IN w f (t.cons r) b off↔(∃a c,Cs w f b off (tC t a c)∧Ae w f t.kids a c)∧IN w f r b (off+4):=by
 cases t with
 |var n=>exact⟨λ⟨⟨a,c,h⟩,d⟩=>⟨⟨a,c,h,Ae.nil _ _ _ _⟩,d⟩,λ⟨⟨a,c,h,_⟩,d⟩=>⟨⟨a,c,h⟩,d⟩⟩
 |con tx k=>exact⟨λ⟨⟨a,c,h,d,F⟩,D⟩=>⟨⟨a,c,h,d,F⟩,D⟩,λ⟨⟨a,c,h,d⟩,D⟩=>⟨⟨a,c,h,d.1,d.2⟩,D⟩⟩
theorem IN.app:∀{x y:Ty}{b off:Nat},IN w f x b off→IN w f y b (off+x.len*4)→IN w f (x.app y) b off
 |.nil,_,b,off,_,h=>by simpa[Ty.len,Ty.app] using h
 |.var _ r,y,b,off,h,d=>⟨h.1,IN.app h.2 (by rw[show off+4+r.len*4=off+(r.len+1)*4 by omega];exact d)⟩
 |.con _ _ r,y,b,off,h,d=>⟨h.1,IN.app h.2 (by rw[show off+4+r.len*4=off+(r.len+1)*4 by omega];exact d)⟩
def Bn(w:wO)(f:Fq)(a:oA)(i:Nat)(r:Ty):Prop:=r=.nil∨∃b off,a=some ⟨b,off,none⟩∧IN w f r b (off+i*4)
theorem Bn.mono{r:Ty}:Ea (λw f=>Bn w f a i r):=λ_ _ _ _ h d=>h.imp id λ⟨b,off,D,F⟩=>⟨b,off,D,IN.mono d r b _ F⟩
theorem Ae.at{k:Ty}{c:Nat}(h:Ae w f k a c):Bn w f a 0 k:=h.2.imp id λ⟨b,off,d,D⟩=>⟨b,off,d,by simpa using D⟩
theorem Bn.head{t:T1}{r:Ty}(h:Bn w f a i (t.cons r)):∃b off ka kc,a=some ⟨b,off,none⟩∧Cs w f b (off+i*4) (tC t ka kc)∧Ae w f t.kids ka kc∧Bn w f a (i+1) r:=by
 rcases h with h|⟨b,off,d,D⟩
 · cases t <;> cases h
 · obtain⟨⟨ka,kc,F,G⟩,J⟩:=IN.cons.1 D
   exact⟨b,off,ka,kc,d,F,G,.inr ⟨b,off,d,by rw[show off+(i+1)*4=off+i*4+4 by omega];exact J⟩⟩
def Q9(w:wO)(f:Fq):Nd→Nat→Nat→Prop
 |.nil,_,_=>True
 |.cons op ln co tx nm k r,b,off=>(∃a c,Cs w f b off [.int .i64 op,.int .i64 ln,.int .i64 co,S tx,.int .i64 nm,.slice a k.len c]∧k.len≤c∧(k=.nil∨∃h d,a=some ⟨h,d,none⟩∧Q9 w f k h d))∧Q9 w f r b (off+6)
def AJ(w:wO)(f:Fq)(k:Nd)(a:oA)(c:Nat):Prop:=k.len≤c∧(k=.nil∨∃b off,a=some ⟨b,off,none⟩∧Q9 w f k b off)
theorem Q9.mono(h:Hi w f w' f'):∀(k:Nd)(b off:Nat),Q9 w f k b off→Q9 w' f' k b off
 |.nil,_,_,_=>trivial
 |.cons _ _ _ _ _ k r,b,off,⟨⟨a,c,F,G,J⟩,K⟩=>⟨⟨a,c,F.mono h,G,J.imp id λ⟨D,d,L,O⟩=>⟨D,d,L,Q9.mono h k D d O⟩⟩,Q9.mono h r b _ K⟩
theorem AJ.mono{k:Nd}{c:Nat}:Ea (λw f=>AJ w f k a c):=λ_ _ _ _ h d=>⟨h.1,h.2.imp id λ⟨b,off,D,F⟩=>⟨b,off,D,Q9.mono d k b off F⟩⟩
def Bc(w:wO)(f:Fq)(a:oA)(i:Nat)(r:Nd):Prop:=r=.nil∨∃b off,a=some ⟨b,off,none⟩∧Q9 w f r b (off+i*6)
theorem Bc.mono:Ea (λw f=>Bc w f a i r):=λ_ _ _ _ h d=>h.imp id λ⟨b,off,D,F⟩=>⟨b,off,D,Q9.mono d r b _ F⟩
theorem AJ.at{k:Nd}{c:Nat}(h:AJ w f k a c):Bc w f a 0 k:=h.2.imp id λ⟨b,off,d,D⟩=>⟨b,off,d,by simpa using D⟩
def Kd(op ln co:Int)(tx:lU)(nm:Int)(a:oA)(n c:Nat):lV:=[.int .i64 op,.int .i64 ln,.int .i64 co,S tx,.int .i64 nm,.slice a n c]
theorem Bc.head{op:Int}{tx:lU}{k:Nd}(h:Bc w f a i (.cons op ln co tx nm k r)):∃b off ka kc,a=some ⟨b,off,none⟩∧Cs w f b (off+i*6) (Kd op ln co tx nm ka k.len kc)∧AJ w f k ka kc∧Bc w f a (i+1) r:=by
 rcases h with h|⟨b,off,d,⟨ka,kc,D,F⟩,G⟩
 · cases h
 · exact⟨b,off,ka,kc,d,D,F,.inr ⟨b,off,d,by rw[show off+(i+1)*6=off+i*6+6 by omega];exact G⟩⟩
def Sb(w:wO):Fq:=λb=>match w.heap[b]? with
 |some (.cells cs _ (0,0))=>cs.size
 |_=>0
theorem Cs.all{m:lV}(d:AE w b l T)(h:l.drop off=m):Cs w (Sb w) b off m:=λj v F=>by
 have D:l[off+j]?=some v:=by rw[← List.getElem?_drop,h,F]
 obtain⟨G,_⟩:=List.getElem?_eq_some_iff.1 D;refine⟨?_,by rw[d.cell,D]⟩;unfold Sb;unfold AE at d;rw[d];simpa using G
theorem Cs.le{m:lV}(h:Cs w f b off (l++m)):Cs w f b off l:=λj v d=>h j v (by
 obtain⟨D,_⟩:=List.getElem?_eq_some_iff.1 d;rw[List.getElem?_append_left D];exact d)
theorem F8.toG(h:AE w b l T):∀(k:Nd)(off:Nat),F8 U w k (l.drop off)→(∀(d:Nd)(a:oA)(n c:Nat),d.size<k.size→Hf U w a n c d→AJ w (Sb w) d a c)→Q9 w (Sb w) k b off
 |.nil,_,_,_=>trivial
 |.cons op ln co tx nm kids r,off,⟨a,n,c,J,D,F,K⟩,G=>by
   have L:n=kids.len:=F.1;have O:=G kids a n c (by simp only[Nd.size];omega) F;refine⟨⟨a,c,?_,O⟩,F8.toG h r (off+6) ?_ (λd a n c Q=>G d a n c (by simp only[Nd.size];omega))⟩
   · have:=Cs.all h D
     rw[L] at this;exact Cs.le (m:=J) this
   · rw[← List.drop_drop,D];exact K
theorem Hf.toF:∀(m:Nat)(k:Nd)(a:oA)(n c:Nat),k.size<m→Hf U w a n c k→AJ w (Sb w) k a c
 |0,_,_,_,_,h,_=>by omega
 |m+1,k,a,n,c,hm,⟨D,L,d⟩=>by
   refine⟨oM,?_⟩;rcases d with d|⟨b,off,l,T,_,F,G,J⟩
   · left
     cases k with
     |nil=>rfl
     |cons _ _ _ _ _ _ _=>rw[d] at D;cases D
   · exact .inr ⟨b,off,F,F8.toG G k off J (λK a n c O=>Hf.toF m K a n c oM)⟩
end Go.SP
namespace Go.SP
open Go.SW Go.RowKit
def B7(w:wO)(f:Fq)(l:List Int)(a:oA)(c:Nat):Prop:=l.length≤c∧(l=[]∨∃b off,a=some ⟨b,off,none⟩∧Cs w f b off (l.map λn=>Value.int .i64 n))
variable {f:Fq}{l:lV}{b i off:Nat}{a:oA}{w:wO}
theorem B7.mono{l:List Int}{c:Nat}:Ea (λw f=>B7 w f l a c):=λ_ _ _ _ h d=>⟨h.1,h.2.imp id λ⟨b,off,D,F⟩=>⟨b,off,D,F.mono d⟩⟩
theorem Cs.at{v:Value}(h:Cs w f b off l)(D:l[i]?=some v):Cs w f b (off+i) [v]:=λj u d=>by
 cases j with
 |zero=>simp at d;subst d;simpa using h i v D
 |succ j=>simp at d
theorem B7.get{l:List Int}{c:Nat}{n:Int}(h:B7 w f l a c)(d:l[i]?=some n):∃b off,a=some ⟨b,off,none⟩∧Cs w f b (off+i*1) [.int .i64 n]:=by
 rcases h.2 with h|⟨b,off,D,F⟩
 · subst h;simp at d
 · exact⟨b,off,D,by rw[Nat.mul_one];exact Cs.at F (by rw[List.getElem?_map,d];rfl)⟩
theorem PG{n:Int}:∀{l:List Int},Du l n=none→l.contains n=false
 | [],_=>rfl
 |k::l,h=>by
   unfold Du at h
   split at h
   · cases h
   · rename_i d
     have:Du l n=none:=by cases D:Du l n with|none=>rfl|some i=>rw[D] at h;cases h
     rw[List.contains_cons,PG this];have:¬n=k:=λe=>d (by simp[e]);simp[this]
theorem LO{n:Int}:∀{l:List Int}{i:Nat},Du l n=some i→l.contains n=true∧i<l.length∧l[i]?=some n
 | [],_,h=>by cases h
 |k::l,i,h=>by
   unfold Du at h
   split at h
   · rename_i D
     have e:k=n:=by simpa using D
     cases h
     subst e;simp
   · cases d:Du l n with
     |none=>rw[d] at h;cases h
     |some j =>
       rw[d] at h
       cases h
       have:=LO d;exact⟨by rw[List.contains_cons,this.1,Bool.or_true],by simp;exact this.2.1,by simpa using this.2.2⟩
theorem WX{n:Int}:∀{l:List Int}{i:Nat},(l.take i).contains n=false→l[i]?=some n→Du l n=some i
 | [],i,_,h=>by simp at h
 |k::l,0,_,h=>by simp at h;subst h;simp[Du]
 |k::l,i+1,d,h=>by
   simp only[List.take_succ_cons,List.contains_cons,Bool.or_eq_false_iff] at d
   have D:(k==n)=false:=by
     have:=d.1
     cases F:k==n with
     |false=>rfl
     |true =>
       have e:k=n:=by simpa using F
       subst e;simp at this
   have:=WX d.2 (by simpa using h);simp[Du,D,this]
theorem Oc{n:Int}{l:List Int}(h:l.contains n=false):Du l n=none:=by
 cases d:Du l n with
 |none=>rfl
 |some i=>rw[(LO d).1] at h;cases h
def Zt(l:List Int)(n:Int):Int:=match Du l n with
 |some i=>i
 |none => -1
theorem Dx{α:Type}{l:List α}{x:α}(h:l[i]?=some x):l.take (i+1)=l.take i++[x]:=by
 obtain⟨d,he⟩:=List.getElem?_eq_some_iff.1 h;rw[List.take_succ_eq_append_getElem d,he]
end Go.SP
namespace Go.SP
open Go.SW Go.RowKit
def Ty.size:Ty→Nat
 |.nil=>0
 |.var _ r=>r.size+1
 |.con _ k r=>k.size+r.size+1
def Ty.bnd:Ty→Prop
 |.nil=>True
 |.var _ r=>r.bnd
 |.con tx k r=>(k.len≤200000∧tx.length≤1000000)∧k.bnd∧r.bnd
def T1.bnd(t:T1):Prop:=(t.kids.len≤200000∧t.tx.length≤1000000)∧t.kids.bnd
theorem T1.bnd_cons{t:T1}{r:Ty}:(t.cons r).bnd↔t.bnd∧r.bnd:=by
 cases t with
 |var n=>exact⟨λh=>⟨⟨⟨Nat.zero_le _,Nat.zero_le _⟩,tQ⟩,h⟩,λh=>h.2⟩
 |con tx k=>exact⟨λh=>⟨⟨h.1,h.2.1⟩,h.2.2⟩,λh=>⟨h.1.1,h.1.2,h.2⟩⟩
theorem T1.len_cons(t:T1)(r:Ty):(t.cons r).len=r.len+1:=by cases t <;> rfl
theorem T1.size_cons(t:T1)(r:Ty):(t.cons r).size=t.kids.size+r.size+1:=by cases t <;> simp[T1.cons,Ty.size,T1.kids]
theorem Ty.len_app:∀x y:Ty,(x.app y).len=x.len+y.len
 |.nil,y=>by simp[Ty.app,Ty.len]
 |.var _ r,y=>by simp[Ty.app,Ty.len,Ty.len_app r y];omega
 |.con _ _ r,y=>by simp[Ty.app,Ty.len,Ty.len_app r y];omega
theorem Ty.app_assoc:∀x y z:Ty,(x.app y).app z=x.app (y.app z)
 |.nil,_,_=>rfl
 |.var _ r,y,z=>by simp[Ty.app,Ty.app_assoc r y z]
 |.con _ _ r,y,z=>by simp[Ty.app,Ty.app_assoc r y z]
theorem Ty.app_nil:∀x:Ty,x.app .nil=x
 |.nil=>rfl
 |.var _ r=>by simp[Ty.app,Ty.app_nil r]
 |.con _ _ r=>by simp[Ty.app,Ty.app_nil r]
theorem T1.one_app(t:T1)(r:Ty):t.one.app r=t.cons r:=by cases t <;> rfl
theorem Ty.len_snoc(x:Ty)(t:T1):(x.snoc t).len=x.len+1:=by unfold Ty.snoc T1.one;rw[Ty.len_app,T1.len_cons];rfl
theorem Ty.snoc_app(x:Ty)(t:T1)(r:Ty):(x.snoc t).app r=x.app (t.cons r):=by unfold Ty.snoc;rw[Ty.app_assoc,T1.one_app]
theorem Ty.cases1(k:Ty)(h:0<k.len):∃t r,k=T1.cons t r:=by
 cases k with
 |nil=>simp[Ty.len] at h
 |var n r=>exact⟨.var n,r,C⟩
 |con tx k r=>exact⟨.con tx k,r,C⟩
theorem Ty.len0{k:Ty}(h:k.len=0):k=.nil:=by cases k <;> simp_all [Ty.len]
def AU(w:wO)(f:Fq):Ty→lV→Prop
 |.nil,xs=>xs=[]
 |.var n r,xs=>∃a c xs',xs=[.int .i64 0,.int .i64 n,S [],.slice a 0 c]++xs'∧AU w f r xs'
 |.con tx k r,xs=>∃a c xs',xs=[.int .i64 1,.int .i64 0,S tx,.slice a k.len c]++xs'∧Ae w f k a c∧AU w f r xs'
variable {f f':Fq}{l xs:lV}{b off:Nat}{a:oA}{w w':wO}
theorem AU.mono'(d:Hi w f w' f'):∀(k:Ty)(xs:lV),AU w f k xs→AU w' f' k xs
 |.nil,_,h=>h
 |.var _ r,_,⟨a,c,xs',D,F⟩=>⟨a,c,xs',D,AU.mono' d r xs' F⟩
 |.con _ k r,_,⟨a,c,xs',D,F,G⟩=>⟨a,c,xs',D,Ae.mono _ _ _ _ F d,AU.mono' d r xs' G⟩
theorem AU.mono{k:Ty}:Ea (λw f=>AU w f k xs):=λ_ _ _ _ h d=>AU.mono' d k xs h
theorem AU.snoc{t:T1}{c:Nat}(d:Ae w f t.kids a c):∀{k:Ty}{xs:lV},AU w f k xs→AU w f (k.snoc t) (xs++tC t a c)
 |.nil,xs,h=>by
   have h:xs=[]:=h;subst h
   cases t with
   |var n=>exact⟨a,c,[],C,C⟩
   |con tx k=>exact⟨a,c,[],C,d,C⟩
 |.var _ r,_,⟨a',c',xs',D,F⟩=>⟨a',c',xs'++tC t a c,by rw[D,List.append_assoc],AU.snoc d F⟩
 |.con _ k r,_,⟨a',c',xs',D,F,G⟩=>⟨a',c',xs'++tC t a c,by rw[D,List.append_assoc],F,AU.snoc d G⟩
theorem Cs.drop{m:lV}(h:Cs w f b off (l++m)):Cs w f b (off+l.length) m:=λj v d=>by
 have:=h (l.length+j) v (by rw[List.getElem?_append_right (by omega)];simpa using d);rwa[← Nat.add_assoc] at this
theorem AU.toG:∀{k:Ty}{xs:lV}{off:Nat},AU w f k xs→Cs w f b off xs→IN w f k b off
 |.nil,_,_,_,_=>trivial
 |.var _ r,_,off,⟨a,c,xs',h,D⟩,d=>by
   subst h;exact⟨⟨a,c,Cs.le d⟩,AU.toG D (Cs.drop d)⟩
 |.con _ k r,_,off,⟨a,c,xs',h,D,F⟩,d=>by
   subst h;exact⟨⟨a,c,Cs.le d,D⟩,AU.toG F (Cs.drop d)⟩
theorem AU.toF{c:Nat}{k:Ty}(h:AU w f k xs)(d:Cs w f b 0 xs)(D:k.len≤c):Ae w f k (some ⟨b,0,none⟩) c:=⟨D,.inr ⟨b,0,C,AU.toG h d⟩⟩
theorem AU.len:∀{k:Ty}{xs:lV},AU w f k xs→xs.length=k.len*4
 |.nil,xs,h=>by have h:xs=[]:=h;subst h;rfl
 |.var _ r,_,⟨a,c,xs',d,D⟩=>by subst d;have:=AU.len D;simp[Ty.len,this];omega
 |.con _ k r,_,⟨a,c,xs',d,D,F⟩=>by subst d;have:=AU.len F;simp[Ty.len,this];omega
theorem NR(a b c vs:lV)(h:b.length=vs.length):DI (a++(b++c)) a.length vs=(a++vs)++c:=by
 rw[Nc vs _ _ (by simp;omega)];have d:(a++(b++c)).take a.length=a:=by simp
 have D:(a++(b++c)).drop (a.length+vs.length)=c:=by
   rw[← List.drop_drop];simp[← h]
 rw[d,D]
def OwnF(P:Program)(d:FuncId)(m:Nat):Prop:=∀(w:wO)(f:Fq)(_:Vl w f)(t:T1)(a:oA)(c:Nat),t.kids.size<m→t.bnd→Ae w f t.kids a c →
 AO P d #[tV t a c] w (AF (α:=oA×Nat) (λx=>tV t x.1 x.2) (λ_=>True) (λx=>[λw f=>Ae w f t.kids x.1 x.2]) w f)
end Go.SP
namespace Go.SP
open Go.SW Go.RowKit
theorem dA(t:T1)(a:oA)(c:Nat):∀v∈tC t a c,v.oneCell'=true:=by
 intro v d;unfold tC at d;simp only[List.mem_cons,List.not_mem_nil,or_false] at d;rcases d with rfl|rfl|rfl|rfl <;> rfl
variable {f:Fq}{b:Nat}{w:wO}
theorem IN.cells:∀{k:Ty}{off:Nat},IN w f k b off→∃xs,AU w f k xs∧Cs w f b off xs∧∀v∈xs,v.oneCell'=true
 |.nil,_,_=>⟨[],C,(λj v D=>by simp at D),λv h=>by cases h⟩
 |.var n r,off,⟨⟨a,c,F⟩,G⟩=>by
   obtain⟨xs,J,K,L⟩:=IN.cells G;refine⟨_++xs,⟨a,c,xs,C,J⟩,?_,?_⟩
   · intro j v D
     rcases Nat.lt_or_ge j 4 with d|d
     · exact F j v (by rwa[List.getElem?_append_left (by simpa using d)] at D)
     · rw[List.getElem?_append_right (by simpa using d)] at D
       have:=K (j-4) v (by simpa using D);rwa[show off+4+(j-4)=off+j by omega] at this
   · intro v h
     rcases List.mem_append.1 h with h|h
     · exact dA (.var n) a c v h
     · exact L v h
 |.con tx k r,off,⟨⟨a,c,F,O⟩,G⟩=>by
   obtain⟨xs,J,K,L⟩:=IN.cells G;refine⟨_++xs,⟨a,c,xs,C,O,J⟩,?_,?_⟩
   · intro j v D
     rcases Nat.lt_or_ge j 4 with d|d
     · exact F j v (by rwa[List.getElem?_append_left (by simpa using d)] at D)
     · rw[List.getElem?_append_right (by simpa using d)] at D
       have:=K (j-4) v (by simpa using D);rwa[show off+4+(j-4)=off+j by omega] at this
   · intro v h
     rcases List.mem_append.1 h with h|h
     · exact dA (.con tx k) a c v h
     · exact L v h
end Go.SP
namespace Go.SP
open Go.SW Go.RowKit
variable {X:Cx}{f:Fq}{Fs:List (wO→Fq→Prop)}{B:List FB}{H:List HB}{xs:lV}{m:Nat}{a:oA}{e:tI}{w:wO}
theorem OY{R:List RB}{c:Nat}{k:Ty}(F:AP X w f H (⟨e,4,a,c,m,xs⟩::R) B Fs)(G:AU w f k xs)(L:0<k.len):∃f',AP X w f' H R B Fs∧Ae w f' k a c:=by
 have J:=F.row _ (.head _);have hlen:=AU.len G;have hm:m=k.len:=by have:=J.1;simp only at this;omega
 rcases J.2 with ⟨_,_,h⟩|⟨b,l,K,_,D,_⟩
 · simp only at h;omega
 · simp only at K D
   subst K;obtain⟨f',d⟩:=(F.more (B':=[]) (F':=[λw f=>AU w f k xs]) (λ_ h=>by cases h) (AA.mem ⟨G,tQ⟩) (Ap.mem ⟨AU.mono,tQ⟩)).done (i:=0) C C;exact⟨f',d.less (List.Sublist.refl _) (List.Sublist.refl _) (λe he=>.tail _ he) (λφ h=>.tail _ h),AU.toF (d.fact (i:=0) C) (d.fro _ (.head _)) oM⟩
end Go.SP
namespace Go.SP
open Go.SW Go.RowKit
variable {f:Fq}{a:oA}{w:wO}
theorem Ae.cells{k:Ty}{c:Nat}(h:Ae w f k a c)(D:0<k.len):∃x:Nat×Nat×lV,(a=some ⟨x.1,x.2.1,none⟩∧(∀v∈x.2.2,v.oneCell'=true)∧x.2.2.length=k.len*4)∧Cs w f x.1 x.2.1 x.2.2∧AU w f k x.2.2:=by
 rcases h.2 with h|⟨b,off,F,G⟩
 · subst h;cases D
 · obtain⟨xs,d,J,K⟩:=IN.cells G
   exact⟨(b,off,xs),⟨F,K,AU.len d⟩,J,d⟩
def FQ(w:wO)(f:Fq):BT→List (Int×Value)→Prop
 | [],es=>es=[]
 |(n,t)::s,es=>∃a c d,es=(n,tV t a c)::d∧Ae w f t.kids a c∧FQ w f s d
variable {s:BT}{f':Fq}{fr pr:Int}{Fs:List (wO→Fq→Prop)}{mb sb:Nat}{MI:Nat→Prop}{T:tI}{w':wO}
theorem FQ.mono(D:Hi w f w' f'):∀(s:BT)(es:List (Int×Value)),FQ w f s es→FQ w' f' s es
 | [],_,h=>h
 |(_,_)::s,_,⟨a,c,d,F,G,J⟩=>⟨a,c,d,F,Ae.mono _ _ _ _ G D,FQ.mono D s d J⟩
def IP:BT→Prop
 | []=>True
 |(n,t)::s=>CK s n=none∧(∀m,t=.var m→m≠n∧CK s m=none)∧t.bnd∧IP s
def oK:BT→Prop
 | []=>True
 |(n,t)::s=>CK s n=none∧(∀m,t=.var m→m≠n∧CK s m=none)∧oK s
theorem IP.v:∀{s:BT},IP s→oK s
 | [],_=>trivial
 |(_,_)::_,h=>⟨h.1,h.2.1,IP.v h.2.2.2⟩
theorem FQ.look:∀{s:BT}{es:List (Int×Value)},FQ w f s es→∀n,(CK s n=none→EF es n=none)∧∀t,CK s n=some t→∃a c,EF es n=some (tV t a c)∧Ae w f t.kids a c
 | [],es,h,n=>by
   have h:es=[]:=h;subst h;exact⟨λ_=>C,λt h=>by cases h⟩
 |(k,t)::s,es,⟨a,c,D,F,G,J⟩,n=>by
   subst F;have K:=FQ.look J n;simp only[CK,EF]
   by_cases d:k=n
   · subst d
     refine⟨λh=>by simp at h,λt' h=>?_⟩;simp at h;subst h;exact⟨a,c,by simp,G⟩
   · have L:(k==n)=false:=by simpa using d
     have O:(n==k)=false:=by simpa using λe=>d e.symm
     rw[L,O];simpa using K
theorem FQ.dis:∀{s:BT}{es:List (Int×Value)},FQ w f s es→IP s→Kq es
 | [],es,h,_=>by have h:es=[]:=h;subst h;trivial
 |(k,t)::s,es,⟨a,c,D,F,G,d⟩,hw=>by
   subst F;exact⟨(FQ.look d k).1 hw.1,FQ.dis d hw.2.2.2⟩
def B9(T:tI)(sb mb:Nat)(s:BT)(fr pr:Int)(w:wO)(f:Fq):Prop:=AE w sb [.map (some mb),.int .i64 fr,.int .i64 pr] T∧∃es,BM ED w mb es∧FQ w f s es
theorem B9.stab(d:MI sb)(D:MI mb):EC MI (B9 T sb mb s fr pr):=λ_ _ _ _ ⟨F,es,hm,G⟩ J h=>⟨(h sb d).trans F,es,hm.heap (h mb D),FQ.mono J s es G⟩
abbrev MO(sb mb:Nat):Nat→Prop:=λb=>b=sb∨b=mb
abbrev XS(T:tI)(sb mb:Nat)(s:BT)(fr pr:Int)(w:wO)(f:Fq):Cx:=⟨MO sb mb,MO sb mb,B9 T sb mb s fr pr,w,f⟩
theorem mD(F:Vl w f)(d:B9 T sb mb s fr pr w f)(D:f sb=0∧f mb=0)(G:AA Fs w f)(hm:Ap Fs):AP (XS T sb mb s fr pr w f) w f [] [] [] Fs where
 stp:=MM.refl _ _
 old _ _:=rfl
 val:=F
 ent:=Hi.refl _ _
 res:=d
 stab:=B9.stab (.inl C) (.inr C)
 mi b J:=by
   rcases J with rfl|rfl
   · exact⟨d.1.lt,D.1,.inr (.inl C)⟩
   · obtain⟨_,es,h,_⟩:=d;exact⟨h.lt,D.2,.inr (.inr C)⟩
 blk _ h:=by cases h
 row _ h:=by cases h
 nd:=List.nodup_nil
 own _ h:=by cases h
 hnw _ h:=by cases h
 rnw _ h:=by cases h
 fro _ h:=by cases h
 fac:=G.mem
 mono:=hm.mem
def Jj:BT→Int→Option Nat
 | [],_=>none
 |(k,_)::s,n=>if k==n then some 0 else (Jj s n).map (· + 1)
def Ey(s:BT):T1→Nat
 |.con _ _=>0
 |.var n=>match Jj s n with
   |none=>0
   |some p=>p+1
theorem S9{n:Int}:∀{s:BT},CK s n=none↔Jj s n=none
 | []=>by simp[CK,Jj]
 |(k,t)::s=>by
   have:=S9 (n:=n) (s:=s);simp only[CK,Jj]
   split <;> simp[this]
theorem HZ{n:Int}{t:T1}:∀{s:BT},oK s→CK s n=some t→∃p,Jj s n=some p∧Ey s t≤p
 | [],_,h=>by cases h
 |(k,t0)::s,hw,h=>by
   simp only[CK] at h
   split at h
   · rename_i D
     cases h
     have e:k=n:=by simpa using D
     subst e;refine⟨0,by simp[Jj],?_⟩
     cases t with
     |con _ _=>simp[Ey]
     |var m =>
       obtain⟨F,d⟩:=hw.2.1 m C;have G:(k==m)=false:=by simpa using λe=>F e.symm
       simp[Ey,Jj,G,S9.1 d]
   · rename_i D
     obtain⟨p,F,d⟩:=HZ hw.2.2 h;have G:(k==n)=false:=by simpa using D
     refine⟨p+1,by simp[Jj,G,F],?_⟩
     cases t with
     |con _ _=>simp[Ey]
     |var m =>
       have J:∀s:BT,Ey s (.var m)=(match Jj s m with|none=>0|some p=>p+1):=λ_=>C;rw[J] at d ⊢;simp only[Jj]
       cases K:(k==m) with
       |true=>simp
       |false =>
         simp only[Bool.false_eq_true,if_false]
         cases L:Jj s m with
         |none=>simp
         |some q =>
           rw[L] at d;simp only[Option.map_some] at d ⊢;have O:q+1≤p:=d;show q+1+1≤p+1;exact Nat.succ_le_succ O
theorem Ul{n:Int}:∀{s:BT}{p:Nat},Jj s n=some p→p<s.length
 | [],_,h=>by cases h
 |(k,t)::s,p,h=>by
   simp only[Jj] at h
   split at h
   · cases h;simp
   · cases d:Jj s n with
     |none=>rw[d] at h;cases h
     |some q=>rw[d] at h;cases h;have:=Ul d;simp;exact this
theorem X9(s:BT)(t:T1):Ey s t≤s.length:=by
 cases t with
 |con _ _=>simp[Ey]
 |var n =>
   have d:Ey s (.var n)=(match Jj s n with|none=>0|some p=>p+1):=rfl;rw[d]
   cases h:Jj s n with
   |none=>simp
   |some p=>exact Ul h
theorem LA(hw:oK s):∀(k j:Nat)(t:T1),Ey s t≤k→Ey s t≤j→HD s k t=HD s j t
 |k,j,.con tx J,_,_=>by cases k <;> cases j <;> rfl
 |k,j,.var n,h,D=>by
   cases d:CK s n with
   |none =>
     have:∀k,HD s k (.var n)=.var n:=λk=>by cases k <;> simp[HD,d]
     rw[this,this]
   |some t =>
     obtain⟨p,F,K⟩:=HZ hw d;have G:Ey s (.var n)=p+1:=by simp[Ey,F]
     rw[G] at h D
     cases k with
     |zero=>omega
     |succ k =>
       cases j with
       |zero=>omega
       |succ j =>
         simp only[HD,d];exact LA hw k j t oM oM
theorem Oo{n:Int}(h:CK s n=none):An s (.var n)=.var n:=by simp[An,HD,h]
theorem G6(s:BT)(tx:lU)(k:Ty):An s (.con tx k)=.con tx k:=rfl
theorem SO{n:Int}{t:T1}(hw:oK s)(h:CK s n=some t):An s (.var n)=An s t:=by
 obtain⟨p,d,D⟩:=HZ hw h;have:=Ul d;unfold An
 conv=>lhs;rw[HD];simp only[h]
 exact LA hw _ _ t oM (by have:=X9 s t;omega)
theorem NT{n:Int}{t:T1}(hw:oK s)(h:CK s n=some t):Ey s t<Ey s (.var n):=by
 obtain⟨p,d,F⟩:=HZ hw h;have D:Ey s (.var n)=p+1:=by simp[Ey,d]
 rw[D];omega
theorem UL{n:Int}{t:T1}(hw:IP s)(h:CK s n=some t):An s (.var n)=An s t:=SO hw.v h
theorem mG{n:Int}{t:T1}(hw:IP s)(h:CK s n=some t):Ey s t<Ey s (.var n):=NT hw.v h
theorem Ov{n:Int}{t:T1}:∀{s:BT},IP s→CK s n=some t→t.bnd
 | [],_,h=>by cases h
 |(k,t0)::s,hw,h=>by
   simp only[CK] at h
   split at h
   · cases h;exact hw.2.2.1
   · exact Ov hw.2.2.2 h
theorem Ec{t:T1}(h:(t.op==0)=true):∃n,t=.var n:=by
 cases t with
 |var n=>exact⟨n,C⟩
 |con _ _=>cases h
theorem EH{t:T1}(h:(t.op==0)=false):∃tx k,t=.con tx k:=by
 cases t with
 |var n=>cases h
 |con tx k=>exact⟨tx,k,C⟩
end Go.SP
namespace Go.SW
open Go.RowKit
section
variable{P:Program}{σ:AW}{w:wO}{ty:tI}
variable {caps:List Operand}{vs:lV}
theorem Uy{f:FuncId}{g:Operand}{args:List Operand}{caps:lV}{D:Array tI}(he:Be P f)(F:ev σ g=some (.func (.func f) #[] caps.toArray))(G:IA σ args=some vs) :
   Enters P σ (.call {callee:=.value g,args:=args.toArray,argTypes:=D}) ty w f (vs++caps).toArray:=λJ _ _ _ _ d=>by
 have h:=Et d G;have e:=he (vs++caps).toArray w;simp[execOp,resolve,d _ _ F,Deferred.ofValue,invoke,h];simpa using e
theorem Rw{f:FuncId}(D:IA σ caps=some vs):AM P σ (.makeFunc (.func f) #[] caps.toArray) ty w (.func (.func f) #[] vs.toArray) w:=λF _ _ _ _ d=>by
 have h:=Et d D;simp[execOp,Instr.makeFunc,h]
end
end Go.SW
namespace Go.SP
open Go.SW Go.RowKit
def B4(b:BT):Nat→Ty→Option Nat
 |k,.nil=>some k
 |0,.var _ _=>none
 |0,.con _ _ _=>none
 |k+1,.var n r=>match An b (.var n) with
   |.var _=>B4 b k r
   |.con _ d=>B4 b k (d.app r)
 |k+1,.con _ d r=>B4 b k (d.app r)
theorem Fc(b:BT):∀(k:Nat)(t:Ty),KN b k t=(B4 b k t).isSome
 |k,.nil=>by cases k <;> rfl
 |0,.var _ _=>rfl
 |0,.con _ _ _=>rfl
 |k+1,.var n r=>by
   simp only[KN,B4]
   cases An b (.var n) with
   |var _=>exact Fc b k r
   |con _ d=>exact Fc b k _
 |k+1,.con _ d r=>by simp only[KN,B4];exact Fc b k _
theorem JE(b:BT):∀(k:Nat)(x y:Ty),B4 b k (x.app y)=(B4 b k x).bind λj=>B4 b j y
 |k,.nil,y=>by cases k <;> rfl
 |0,.var _ _,y=>rfl
 |0,.con _ _ _,y=>rfl
 |k+1,.var n r,y=>by
   simp only[Ty.app,B4]
   cases An b (.var n) with
   |var _=>exact JE b k r y
   |con _ d =>
     simp only;rw[← Ty.app_assoc];exact JE b k _ y
 |k+1,.con _ d r,y=>by
   simp only[Ty.app,B4];rw[← Ty.app_assoc];exact JE b k _ y
theorem F4(b:BT):∀(k:Nat)(x:Ty)(j:Nat),B4 b k x=some j→j≤k
 |k,.nil,j,h=>by cases k <;> (cases h;exact Nat.le_refl _)
 |0,.var _ _,_,h=>by cases h
 |0,.con _ _ _,_,h=>by cases h
 |k+1,.var n r,j,h=>by
   simp only[B4] at h
   split at h
   · have:=F4 b k _ j h;omega
   · have:=F4 b k _ j h;omega
 |k+1,.con _ d r,j,h=>by
   simp only[B4] at h;have:=F4 b k _ j h;omega
theorem J5(b:BT)(k:Nat)(t:T1)(r:Ty):B4 b k (t.cons r)=(B4 b k t.one).bind λj=>B4 b j r:=by rw[← T1.one_app,JE]
theorem JS(b:BT)(k:Nat)(t:T1):B4 b (k+1) t.one=B4 b k (An b t).kids:=by
 cases t with
 |var n =>
   simp only[T1.one,T1.cons,B4]
   cases An b (.var n) with
   |var _=>cases k <;> rfl
   |con _ d=>simp only[Ty.app_nil];rfl
 |con tx d =>
   simp only[T1.one,T1.cons,B4,G6,Ty.app_nil];rfl
theorem Lb(b:BT)(t:T1):B4 b 0 t.one=none:=by cases t <;> rfl
variable {s:BT}
theorem Qg(hw:IP s):∀(k:Nat)(t:T1),t.bnd→(HD s k t).bnd
 |0,t,h=>h
 |k+1,.con _ _,h=>h
 |k+1,.var n,h=>by
   simp only[HD]
   split
   · exact h
   · rename_i t' d;exact Qg hw k t' (Ov hw d)
theorem C2(hw:IP s){t:T1}(h:t.bnd):(An s t).bnd:=Qg hw _ t h
end Go.SP
namespace Go.SP
open Go.SW Go.RowKit
variable {s:BT}{f f':Fq}{fr pr:Int}{Fs:List (wO→Fq→Prop)}{l:lV}{mb nb sb:Nat}{M MI:Nat→Prop}{T:tI}{w':wO}
theorem B9.keep{w:wO}(h:B9 T sb mb s fr pr w f)(d:C6 M w f w' f')(F:Hi w f w' f')(G:¬M sb)(J:¬M mb):B9 T sb mb s fr pr w' f':=by
 obtain⟨D,es,hm,K⟩:=h;exact⟨(d.stp.block sb D.lt G).trans D,es,hm.heap (d.stp.block mb hm.lt J),FQ.mono F s es K⟩
theorem vZ{w:wO}(d:Vl w f)(D:AE w nb l T)(F:f nb=0)(G:AA Fs w f)(hm:Ap Fs):AP ⟨λb=>b=nb,λ_=>False,λ_ _=>True,w,f⟩ w f [⟨nb,l,T,false⟩] [] [] Fs where
 stp:=MM.refl _ _
 old _ _:=rfl
 val:=d
 ent:=Hi.refl _ _
 res:=trivial
 stab _ _ _ _ _ _ _:=trivial
 mi _ h:=h.elim
 blk e h:=by
   rcases List.mem_cons.1 h with rfl|h
   · exact D
   · cases h
 row _ h:=by cases h
 nd:=by simp[CD]
 own b h:=by
   have:b=nb:=by simpa[CD] using h
   subst this;exact⟨F,.inr C,λh=>h⟩
 hnw e h J:=by
   rcases List.mem_cons.1 h with rfl|h
   · cases J
   · cases h
 rnw _ h:=by cases h
 fro _ h:=by cases h
 fac:=G.mem
 mono:=hm.mem
theorem LX{I:wO→Fq→Prop}{w:wO}(F:Vl w f)(G:I w f)(d:EC M I)(hm:∀b,M b→b<w.heap.size∧f b=0)(J:AA Fs w f)(D:Ap Fs):AP ⟨M,M,I,w,f⟩ w f [] [] [] Fs where
 stp:=MM.refl _ _
 old _ _:=rfl
 val:=F
 ent:=Hi.refl _ _
 res:=G
 stab:=d
 mi b h:=⟨(hm b h).1,(hm b h).2,.inr h⟩
 blk _ h:=by cases h
 row _ h:=by cases h
 nd:=List.nodup_nil
 own _ h:=by cases h
 hnw _ h:=by cases h
 rnw _ h:=by cases h
 fro _ h:=by cases h
 fac:=J.mem
 mono:=D.mem
def Ke(nb:Nat)(n:Int)(w:wO)(_:Fq):Prop:=AE w nb [.int .i64 n] 3
theorem Ke.stab{n:Int}(h:MI nb):EC MI (Ke nb n):=λ_ _ _ _ d _ hm=>(hm nb h).trans d
def VisF(P:Program)(d:FuncId)(T:tI)(g:FuncId)(k:Nat):Prop:=∀(w:wO)(f:Fq)(_:Vl w f)(sb mb:Nat)(s:BT)(fr pr:Int)(nb:Nat),B9 T sb mb s fr pr w f→IP s→sb≠nb→mb≠nb→f nb=0→Ke nb (1000-(k:Int)) w f→k≤1000→∀(t:T1)(a:oA)(c:Nat),t.bnd→Ae w f t.kids a c →
 AO P d #[.pointer (some ⟨sb,0,none⟩),tV t a c,.func (.func g) #[] #[.pointer (some ⟨nb,0,none⟩)]] w (CY (α:=Int) (λ_=>.bool (B4 s k t.one).isSome) (λx=>∀j,B4 s k t.one=some j→x=1000-(j:Int)) (λb=>b=nb) (λx=>Ke nb x) (λ_=>[]) w f)
end Go.SP
namespace Go.SW
open Go.RowKit
variable {Q:AQ}{nw:Bool}{X:Cx}{f:Fq}{Fs:List (wO→Fq→Prop)}{ds:List Deferred}{B:List FB}{fs:List Fr}{H H':List HB}{l:lV}{b i n:Nat}{T:tI}
theorem AP.give{w:wO}{R:List RB}(h:AP X w f H R B Fs)(K:GP H i=some ⟨b,l,T,nw⟩)(W:Kb H i=some H') :
   AP {X with MI:=λk=>X.MI k∨k=b,I:=λw f=>X.I w f∧AE w b l T} w f H' R B Fs:=by
 have F:AE w b l T:=h.blk _ (BH K);have G:=h.own b (List.mem_append.2 (.inl (List.mem_map.2 ⟨_,BH K,C⟩)));have d:=Lp W;have O:(H.map HB.b++IV R).Nodup:=h.nd;have U:b∉CD H' R:=LC (L:=IV R) K W O;have D:(CD H' R).Sublist (CD H R):=List.Sublist.append (d.map _) (List.Sublist.refl _)
 exact {h with
         res:=⟨h.res,F⟩,
         stab:=λw1 f1 w2 f2 Y hF Z=>⟨h.stab w1 f1 w2 f2 Y.1 hF λk hm=>Z k (.inl hm),(Z b (.inr C)).trans Y.2⟩,
         mi:=λk J=>by
           rcases J with J|rfl
           · exact h.mi k J
           · exact⟨F.lt,G.1,G.2.1⟩,
         blk:=λe he=>h.blk e (d.subset he),nd:=D.nodup h.nd,
         own:=λk J=>⟨(h.own k (D.subset J)).1,(h.own k (D.subset J)).2.1,λhm=>by
           rcases hm with hm|rfl
           · exact (h.own k (D.subset J)).2.2 hm
           · exact U J⟩,
         hnw:=λe he=>h.hnw e (d.subset he)}
theorem vL{P:Program}{R:List RB}{σ:AW}{k:Kt}(i:Nat)(d:GP H i=some ⟨b,l,T,nw⟩)(D:Kb H i=some H')
   (h:Aw P n Q ds {X with MI:=λk=>X.MI k∨k=b,I:=λw f=>X.I w f∧AE w b l T} R B Fs k fs σ H'):Aw P n Q ds X R B Fs k fs σ H:=λw f F=>h w f (F.give d D)
end Go.SW
namespace Go.SW
open Go.RowKit
variable {Q:AQ}{X:Cx}{f:Fq}{Fs:List (wO→Fq→Prop)}{ds:List Deferred}{B:List FB}{fs:List Fr}{H:List HB}{b n:Nat}{w':wO}
theorem Gj.fle{w:wO}(h:Gj b w w')(d:f b=0):Hi w f w' f:=λk=>⟨Nat.le_refl _,λo D=>D2 (h.block k (λe=>by rw[e,d] at D;omega)) o⟩
theorem mxi{P:Program}{R:List RB}{σ:AW}{k:Kt}{α:Type}(d:α→wO→Fq→Prop)(G:∀w f,X.I w f→∃x,d x w f)(D:∀x,EC X.MI (d x))
   (h:∀x,Aw P n Q ds {X with I:=d x} R B Fs k fs σ H):Aw P n Q ds X R B Fs k fs σ H:=λw f F=>by
 obtain⟨x,J⟩:=G w f F.res;exact h x w f {F with res:=J,stab:=D x}
end Go.SW
namespace Go.SP
open Go.SW Go.RowKit
variable {s:BT}{j k:Nat}
theorem Lo{x:Int}:∀(k:Nat)(a b:Ty)(j:Nat),B4 s k a=some j→CL s x k (a.app b)=(CL s x k a&&CL s x j b)
 |k,.nil,b,j,h=>by
   have e:j=k:=by cases k <;> (cases h;rfl)
   subst e
   cases j <;> simp[Ty.app,CL]
 |0,.var _ _,_,_,h=>by cases h
 |0,.con _ _ _,_,_,h=>by cases h
 |k+1,.var n r,b,j,h=>by
   simp only[Ty.app,B4,CL] at h ⊢
   cases d:An s (.var n) with
   |var m=>rw[d] at h;simp only at h ⊢;rw[Lo k r b j h,Bool.and_assoc]
   |con tx D=>rw[d] at h;simp only at h ⊢;rw[← Ty.app_assoc];exact Lo k _ b j h
 |k+1,.con tx D r,b,j,h=>by
   simp only[Ty.app,B4,CL] at h ⊢;rw[← Ty.app_assoc];exact Lo k _ b j h
theorem Qf{x:Int}{t:T1}{r:Ty}(h:B4 s k t.one=some j):CL s x k (t.cons r)=(CL s x k t.one&&CL s x j r):=by rw[← T1.one_app];exact Lo k t.one r j h
def XR(x:Int):T1→Bool
 |.var m=>!(m==x)
 |.con _ _=>true
theorem JC(s:BT)(x:Int)(k:Nat)(t:T1):CL s x (k+1) t.one=(XR x (An s t)&&CL s x k (An s t).kids):=by
 cases t with
 |var n =>
   simp only[T1.one,T1.cons,CL]
   cases An s (.var n) with
   |var m=>cases k <;> simp[XR,T1.kids,CL]
   |con tx d=>simp[XR,T1.kids,Ty.app_nil]
 |con tx d=>simp[T1.one,T1.cons,CL,G6,XR,T1.kids,Ty.app_nil]
def zV(P:Program)(d:FuncId)(T:tI)(g:FuncId)(k:Nat):Prop:=∀(w:wO)(f:Fq)(_:Vl w f)(sb mb:Nat)(s:BT)(fr pr:Int)(h:Nat)(x:Int),B9 T sb mb s fr pr w f→IP s→AE w h [.int .i64 x] 3→∀(t:T1)(a:oA)(c j:Nat),t.bnd→Ae w f t.kids a c→B4 s k t.one=some j →
 AO P d #[.pointer (some ⟨sb,0,none⟩),tV t a c,.func (.func g) #[] #[.pointer (some ⟨h,0,none⟩)]] w (AF (α:=Unit) (λ_=>.bool (CL s x k t.one)) (λ_=>True) (λ_=>[]) w f)
def Kr(s:BT)(n:Int)(t:T1):Int×BT:=match C8 s n t with
 |.error e=>(e,s)
 |.ok s'=>(0,s')
end Go.SP
namespace Go.SP
open Go.SW Go.RowKit
def oP(T:tI)(sb mb:Nat)(s:BT)(fr pr:Int)(es:List (Int×Value))(w:wO)(f:Fq):Prop:=AE w sb [.map (some mb),.int .i64 fr,.int .i64 pr] T∧BM ED w mb es∧FQ w f s es
variable {s:BT}{fr pr:Int}{es:List (Int×Value)}{mb sb:Nat}{MI:Nat→Prop}{T:tI}
theorem oP.stab(d:MI sb)(D:MI mb):EC MI (oP T sb mb s fr pr es):=λ_ _ _ _ ⟨F,hm,G⟩ J h=>⟨(h sb d).trans F,hm.heap (h mb D),FQ.mono J s es G⟩
theorem XV{n:Int}{t:T1}(h:Hy s t=false):Kr s n t=(4,s):=by simp[Kr,C8,h]
theorem eP{n:Int}{t:T1}(h:Hy s t=true)(d:CL s n 1000 t.one=false):Kr s n t=(11,s):=by simp[Kr,C8,h,d]
theorem fF{n:Int}{t:T1}(h:Hy s t=true)(d:CL s n 1000 t.one=true):Kr s n t=(0,(n,t)::s):=by simp[Kr,C8,h,d]
end Go.SP
namespace Go.SW
open Go.RowKit
variable {Q:AQ}{af:Array Edge}{ag:Bool}{X:Cx}{Fs:List (wO→Fq→Prop)}{ds:List Deferred}{B:List FB}{fs:List Fr}{H:List HB}{l l' vs:lV}{b k n off:Nat}{x:Operand}{g:Option (Nat×Bool)}{pos:String}{T T':tI}{I':wO→Fq→Prop}
theorem lZ{P:Program}{R:List RB}{σ:AW}{all r:List Oper}{ty:tI}{y:Operand}{v:Value}
   (K:gd all σ g=some true) (L:ev σ x=some (.pointer (some ⟨b,off,none⟩))) (O:ev σ y=some v) (U:Hz v=some vs) (W:AL P T=some (ag,k)) (Y:Nat.beq vs.length k=true) (Z:Mp vs=true) (hp:Po l off vs=some l') (D:X.MI b)
   (hb:∀w f,X.I w f→AE w b l T') (hI:∀w f w',X.I w f→AP X w f H R B Fs→Gj b w w'→AE w' b l' T'→I' w' f) (F:EC X.MI I')
   (h:Aw P n Q ds {X with I:=I' } R B Fs (.ops all r) fs σ H):Aw P n Q ds X R B Fs (.ops all (⟨none,.store T x y,ty,pos,af,g⟩::r)) fs σ H:=λw f d =>
 Bv K (A9 L O U W Y (hb w f d.res) Z hp λw' G J=>h w' f (d.chgI D J (hI w f w' d.res d J G) F))
def cutq(P:Program)(n:Nat){α:Type}(p:α→Prop)(s:α→AW)(X:α→Cx)(H:α→List HB)(R:α→List RB)(B:α→List FB)(Fs:α→List (wO→Fq→Prop))(ds:List Deferred)(Q:AQ):AQ :=
 {q:=λe σ d w=>match e with
     |.normal=>∃x,p x∧d=ds∧Le (s x) σ∧∃f,AP (X x) w f (H x) (R x) (B x) (Fs x)
     |e=>Q.q e σ d w,
   p:=Q.p}
section
variable{P:Program}{n:Nat}{Q:AQ}{ds:List Deferred}{X:Cx}{R:List RB}{B:List FB}{Fs:List (wO→Fq→Prop)}{fs:List Fr}{σ:AW}{H:List HB}
theorem RP{c:Code}{α:Type}(p:α→Prop)(s:α→AW)(d:α→Cx)(H':α→List HB)(R':α→List RB)(B':α→List FB)(F':α→List (wO→Fq→Prop))(h:Aw P n (cutq P n p s d H' R' B' F' ds (KT P n Q fs)) ds X R B Fs (.code c) [] σ H)
   (D:∀x,p x→Aw P n Q ds (d x) (R' x) (B' x) (F' x) (.out .normal) fs (s x) (H' x)):Aw P n Q ds X R B Fs (.code c) fs σ H:=λw f F a G=>by
 refine wp_mono (h w f F a G) λe a' w' he=>?_
 cases e with
 |normal =>
   obtain⟨J,K,L,x,O,rfl,U,f',hm⟩:=he;exact⟨s x,_,L.le U,D x O w' f' hm⟩
 |panic c=>exact he
 |outgrown=>exact he
 |ret=>exact he
 |exit i=>exact he
 |goto i=>exact he
theorem Ph{α:Type}{p:α→Prop}{s:α→AW}{d:α→Cx}{H':α→List HB}{R':α→List RB}{B':α→List FB}{F':α→List (wO→Fq→Prop)}(x:α)(h:p x)(D:Le (s x) σ)(F:∀w f,AP X w f H R B Fs→∃f,AP (d x) w f (H' x) (R' x) (B' x) (F' x)):Aw P n (cutq P n p s d H' R' B' F' ds Q) ds X R B Fs (.out .normal) [] σ H :=
 λw f hm=>⟨x,h,C,D,F w f hm⟩
end
end Go.SW
namespace Go.SP
open Go.SW Go.RowKit
def KS(f:BT→Ty→Ty→Except Int (Nat×BT))(b:BT)(x y:T1)(r q:Ty):Except Int (Nat×BT) :=
 match x,y with
 |.var n,.var m=>if n==m then f b r q else (match C8 b n (.var m) with|.error e=>.error e|.ok d=>f d r q)
 |.var n,.con ty h=>(match C8 b n (.con ty h) with|.error e=>.error e|.ok d=>f d r q)
 |.con tx ka,.var m=>(match C8 b m (.con tx ka) with|.error e=>.error e|.ok d=>f d r q)
 |.con tx ka,.con ty h=>if !(tx==ty)||(ka.len:Int) != h.len then .error 11 else f b (ka.app r) (h.app q)
def G9:Nat→BT→Ty→Ty→Except Int (Nat×BT)
 |k,b,.nil,_=>.ok (k,b)
 |0,_,.var _ _,_=>.error 4
 |0,_,.con _ _ _,_=>.error 4
 |k+1,b,.var n r,y=>KS (G9 k) b (An b (.var n)) (An b y.hd) r y.tl
 |k+1,b,.con tx ka r,y=>KS (G9 k) b (.con tx ka) (An b y.hd) r y.tl
def mapE{α β:Type}(g:α→β):Except Int α→Except Int β
 |.error e=>.error e
 |.ok x=>.ok (g x)
def S0{α β:Type}(g:α→Except Int β):Except Int α→Except Int β
 |.error e=>.error e
 |.ok x=>g x
theorem Ti:∀(k:Nat)(b:BT)(x y:Ty),NK k b x y=mapE (·.2) (G9 k b x y):=by
 intro k
 induction k with
 |zero=>intro b x y;cases x <;> rfl
 |succ k d =>
   have h:∀b x y r q,KK (NK k) b x y r q=mapE (·.2) (KS (G9 k) b x y r q):=by
     intro b x y r q
     cases x with
     |var n =>
       cases y with
       |var m =>
         simp only[KK,KS]
         cases (n==m) with
         |true=>simp only[if_true];exact d _ _ _
         |false =>
           simp only[Bool.false_eq_true,if_false]
           cases C8 b n (.var m) with
           |error e=>rfl
           |ok D=>exact d _ _ _
       |con ty F =>
         simp only[KK,KS]
         cases C8 b n (.con ty F) with
         |error e=>rfl
         |ok D=>exact d _ _ _
     |con tx ka =>
       cases y with
       |var m =>
         simp only[KK,KS]
         cases C8 b m (.con tx ka) with
         |error e=>rfl
         |ok D=>exact d _ _ _
       |con ty F =>
         simp only[KK,KS]
         split
         · rfl
         · exact d _ _ _
   intro b x y
   cases x with
   |nil=>rfl
   |var n r=>exact h _ _ _ _ _
   |con tx ka r=>exact h _ _ _ _ _
theorem T1.hd_cons(t:T1)(r:Ty):(t.cons r).hd=t:=by cases t <;> rfl
theorem T1.tl_cons(t:T1)(r:Ty):(t.cons r).tl=r:=by cases t <;> rfl
theorem kK(k:Nat)(b:BT)(x:T1)(r y:Ty):G9 (k+1) b (x.cons r) y=KS (G9 k) b (An b x) (An b y.hd) r y.tl:=by cases x <;> rfl
theorem xG:∀(k:Nat)(b:BT)(x y r q:Ty),x.len=y.len→G9 k b (x.app r) (y.app q)=S0 (λz=>G9 z.1 z.2 r q) (G9 k b x y):=by
 intro k
 induction k with
 |zero =>
   intro b x y r q h
   cases x with
   |nil =>
     have:y=.nil:=Ty.len0 (by simpa[Ty.len] using h.symm);subst this;rfl
   |var n x=>rfl
   |con tx ka x=>rfl
 |succ k d =>
   have G:∀b u v x y r q,x.len=y.len→KS (G9 k) b u v (x.app r) (y.app q)=S0 (λz=>G9 z.1 z.2 r q) (KS (G9 k) b u v x y):=by
     intro b u v x y r q h
     cases u with
     |var n =>
       cases v with
       |var m =>
         simp only[KS]
         cases (n==m) with
         |true=>simp only[if_true];exact d _ _ _ _ _ h
         |false =>
           simp only[Bool.false_eq_true,if_false]
           cases C8 b n (.var m) with
           |error e=>rfl
           |ok J=>exact d _ _ _ _ _ h
       |con ty D =>
         simp only[KS]
         cases C8 b n (.con ty D) with
         |error e=>rfl
         |ok J=>exact d _ _ _ _ _ h
     |con tx ka =>
       cases v with
       |var m =>
         simp only[KS]
         cases C8 b m (.con tx ka) with
         |error e=>rfl
         |ok J=>exact d _ _ _ _ _ h
       |con ty D =>
         simp only[KS]
         split
         · rfl
         · rename_i K
           have L:ka.len=D.len:=by
             simp only[Bool.or_eq_true,not_or,bne_iff_ne,ne_eq,Decidable.not_not] at K;omega
           rw[← Ty.app_assoc,← Ty.app_assoc];exact d _ _ _ _ _ (by rw[Ty.len_app,Ty.len_app,L,h])
   intro b x y r q h
   cases x with
   |nil =>
     have:y=.nil:=Ty.len0 (by simpa[Ty.len] using h.symm);subst this;rfl
   |var n x =>
     obtain⟨u,y,rfl⟩:=Ty.cases1 y (by rw[← h];simp[Ty.len]);have F:(u.cons y).app q=u.cons (y.app q):=by cases u <;> rfl
     rw[F];show KS (G9 k) b (An b (.var n)) (An b (u.cons (y.app q)).hd) (x.app r) (u.cons (y.app q)).tl=S0 _ (KS (G9 k) b (An b (.var n)) (An b (u.cons y).hd) x (u.cons y).tl);rw[T1.hd_cons,T1.tl_cons,T1.hd_cons,T1.tl_cons];exact G _ _ _ _ _ _ _ (by rw[T1.len_cons] at h;simpa[Ty.len] using h)
   |con tx ka x =>
     obtain⟨u,y,rfl⟩:=Ty.cases1 y (by rw[← h];simp[Ty.len]);have F:(u.cons y).app q=u.cons (y.app q):=by cases u <;> rfl
     rw[F];show KS (G9 k) b (.con tx ka) (An b (u.cons (y.app q)).hd) (x.app r) (u.cons (y.app q)).tl=S0 _ (KS (G9 k) b (.con tx ka) (An b (u.cons y).hd) x (u.cons y).tl);rw[T1.hd_cons,T1.tl_cons,T1.hd_cons,T1.tl_cons];exact G _ _ _ _ _ _ _ (by rw[T1.len_cons] at h;simpa[Ty.len] using h)
theorem S2(k:Nat)(b:BT)(x y:T1)(r q:Ty)(h:r.len=q.len):G9 k b (x.cons r) (y.cons q)=S0 (λz=>G9 z.1 z.2 r q) (G9 k b x.one y.one):=by
 rw[← T1.one_app,← T1.one_app];exact xG k b x.one y.one r q (by unfold T1.one;rw[T1.len_cons,T1.len_cons])
theorem K1(k:Nat)(b:BT)(x y:T1):G9 (k+1) b x.one y.one=KS (G9 k) b (An b x) (An b y) .nil .nil:=by
 unfold T1.one;rw[kK,T1.hd_cons,T1.tl_cons]
theorem jH(b:BT)(x y:T1):G9 0 b x.one y.one=.error 4:=by cases x <;> rfl
variable {s:BT}
theorem NH(hw:oK s):∀(k:Nat)(t:T1)(n:Int),Ey s t≤k→HD s k t=.var n→CK s n=none
 |0,.con _ _,_,_,h=>by cases h
 |0,.var m,n,D,h=>by
   cases h
   cases d:CK s m with
   |none=>rfl
   |some t=>have:=NT hw d;omega
 |k+1,.con _ _,_,_,h=>by cases h
 |k+1,.var m,n,D,h=>by
   simp only[HD] at h
   cases d:CK s m with
   |none=>rw[d] at h;cases h;exact d
   |some t =>
     rw[d] at h;exact NH hw k t n (by have:=NT hw d;omega) h
theorem Ob(hw:oK s){t:T1}{n:Int}(h:An s t=.var n):CK s n=none:=NH hw _ t n (by have:=X9 s t;omega) h
theorem G5(hw:IP s){t:T1}{n:Int}(h:An s t=.var n):CK s n=none:=Ob hw.v h
theorem Vc(hw:oK s)(t:T1):An s (An s t)=An s t:=by
 cases h:An s t with
 |con tx k=>exact G6 s tx k
 |var n=>exact Oo (Ob hw h)
theorem PQ(hw:IP s)(t:T1):An s (An s t)=An s t:=Vc hw.v t
theorem Xq{s':BT}(hw:IP s){n:Int}{t:T1}(D:CK s n=none)(d:An s t=t)(F:t.bnd)(h:C8 s n t=.ok s'):IP s':=by
 unfold C8 at h
 split at h
 · split at h
   · rename_i J G
     cases h
     refine⟨D,λm hm=>?_,F,hw⟩;subst hm;refine⟨λe=>?_,G5 hw d⟩;have:=JC s n 999 (.var m);rw[G,d,e] at this;simp[XR] at this
   · cases h
 · cases h
def rK(P:Program)(d:FuncId)(T:tI)(k:Nat):Prop:=∀(w:wO)(f:Fq)(_:Vl w f)(sb mb:Nat)(s:BT)(fr:Int),B9 T sb mb s fr (10000-(k:Int)) w f→(f sb=0∧f mb=0)→sb≠mb→IP s→k≤10000→∀(t u:T1)(a:oA)(c:Nat)(a2:oA)(c2:Nat),t.bnd→u.bnd→Ae w f t.kids a c→Ae w f u.kids a2 c2 →
 AO P d #[.pointer (some ⟨sb,0,none⟩),tV t a c,tV u a2 c2] w (CY (α:=Int×BT×Int) (λx=>.int .i64 x.1) (λx=>(∀z,G9 k s t.one u.one=.ok z→x.1=0∧x.2.1=z.2∧x.2.2=10000-(z.1:Int)∧IP z.2)∧∀e,G9 k s t.one u.one=.error e→x.1=e∧e≠0) (MO sb mb) (λx=>B9 T sb mb x.2.1 fr x.2.2) (λ_=>[]) w f)
theorem un_le:∀(k:Nat)(b:BT)(x y:Ty)(z:Nat×BT),G9 k b x y=.ok z→z.1≤k:=by
 intro k
 induction k with
 |zero=>intro b x y z h;cases x <;> cases h;exact Nat.le_refl _
 |succ k D =>
   have d:∀b u v r q z,KS (G9 k) b u v r q=.ok z→z.1≤k:=by
     intro b u v r q z h;unfold KS at h
     repeat' split at h
     all_goals first|exact D _ _ _ _ h|cases h
   intro b x y z h
   cases x with
   |nil=>cases h;exact Nat.le_refl _
   |var n r=>have:=d _ _ _ _ _ _ h;omega
   |con tx ka r=>have:=d _ _ _ _ _ _ h;omega
end Go.SP
namespace Go.SP
variable {s:BT}
theorem WR{n:Int}{t:T1}{e:Int}(h:C8 s n t=.error e):e≠0:=by
 unfold C8 at h
 split at h
 · split at h
   · cases h
   · cases h;decide
 · cases h;decide
end Go.SP
namespace Go.SP
open Go.SW Go.RowKit
theorem GN(s:BT)(k:Nat):Bg s k .nil=.nil:=by cases k <;> rfl
variable {s:BT}{j k:Nat}
theorem PH:∀(k:Nat)(x:Ty)(j:Nat),B4 s k x=some j→∀m,k-j≤m→Bg s m x=Bg s k x:=by
 intro k
 induction k using Nat.strongRecOn with
 |_ k L =>
   intro x j h m hm
   have key:∀(F d:Nat)(D r:Ty),F<k→B4 s F (D.app r)=some j→F-j≤d→Bg s d D=Bg s F D∧Bg s d r=Bg s F r:=by
     intro F d D r Q G U;rw[JE] at G
     cases J:B4 s F D with
     |none=>rw[J] at G;cases G
     |some j1 =>
       rw[J] at G;have G:B4 s j1 r=some j:=G;have W:=F4 s _ _ _ J;have Y:=F4 s _ _ _ G;exact⟨L F Q D j1 J d oM,(L j1 oM r j G d oM).trans (L j1 oM r j G F oM).symm⟩
   cases x with
   |nil=>rw[GN,GN]
   |var n r =>
     cases k with
     |zero=>cases h
     |succ k =>
       simp only[B4] at h
       cases K:An s (.var n) with
       |var q =>
         rw[K] at h;have O:=F4 s _ _ _ h;obtain⟨m,rfl⟩:∃d,m=d+1:=⟨m-1,oM⟩;simp only[Bg,K];rw[(key k m .nil r (by omega) h (by omega)).2]
       |con tx D =>
         rw[K] at h;have O:=F4 s _ _ _ h;obtain⟨m,rfl⟩:∃d,m=d+1:=⟨m-1,oM⟩;simp only[Bg,K];have:=key k m D r oM h oM;rw[this.1,this.2]
   |con tx D r =>
     cases k with
     |zero=>cases h
     |succ k =>
       simp only[B4] at h;have O:=F4 s _ _ _ h;obtain⟨m,rfl⟩:∃d,m=d+1:=⟨m-1,oM⟩;simp only[Bg];have:=key k m D r oM h oM;rw[this.1,this.2]
theorem O0(k:Nat)(t:T1):(Bg s (k+1) t.one).hd=(match An s t with|.var m=>.var m|.con tx d=>.con tx (Bg s k d)):=by
 cases t with
 |var n =>
   simp only[T1.one,T1.cons,Bg]
   cases An s (.var n) <;> rfl
 |con tx d=>rw[G6];rfl
theorem Yc{t:T1}{r:Ty}{j2:Nat}(h:B4 s k t.one=some j)(D:B4 s j r=some j2):Bg s k (t.cons r)=(Bg s k t.one).hd.cons (Bg s j r):=by
 cases k with
 |zero=>rw[Lb] at h;cases h
 |succ k =>
   have G:j≤k:=by rw[JS] at h;exact F4 s _ _ _ h
   have d:=PH j r j2 D k oM;rw[O0]
   cases t with
   |var n =>
     simp only[T1.cons,Bg]
     cases An s (.var n) with
     |var m=>simp only[T1.cons];rw[d]
     |con tx F=>simp only[T1.cons];rw[d]
   |con tx F=>rw[G6];simp only[T1.cons,Bg];rw[d]
theorem Y9(hw:IP s):∀(k:Nat)(x:Ty),x.bnd→(Bg s k x).bnd∧(Bg s k x).len≤x.len:=by
 intro k
 induction k with
 |zero=>intro x _;cases x <;> exact⟨tQ,Nat.zero_le _⟩
 |succ k D =>
   intro x d
   cases x with
   |nil=>exact⟨tQ,Nat.le_refl _⟩
   |var n r =>
     have F:=C2 hw (t:=.var n) ⟨⟨Nat.zero_le _,Nat.zero_le _⟩,tQ⟩;have G:=D r d;simp only[Bg]
     cases K:An s (.var n) with
     |var m=>exact⟨G.1,by simp only[Ty.len];omega⟩
     |con tx J =>
       rw[K] at F;have h:=D J F.2;exact⟨⟨⟨Nat.le_trans h.2 F.1.1,F.1.2⟩,h.1,G.1⟩,by simp only[Ty.len];omega⟩
   |con tx J r =>
     have G:=D r d.2.2;have h:=D J d.2.1;exact⟨⟨⟨Nat.le_trans h.2 d.1.1,d.1.2⟩,h.1,G.1⟩,by simp only[Bg,Ty.len];omega⟩
theorem F7{t:T1}(h:t.bnd):t.one.bnd:=T1.bnd_cons.2 ⟨h,tQ⟩
theorem gU{x:Ty}(h:x.bnd):x.hd.bnd:=by
 cases x with
 |nil=>exact⟨⟨Nat.zero_le _,Nat.zero_le _⟩,tQ⟩
 |var n r=>exact⟨⟨Nat.zero_le _,Nat.zero_le _⟩,tQ⟩
 |con tx k r=>exact⟨h.1,h.2.1⟩
theorem fN(hw:IP s){t:T1}(h:t.bnd)(k:Nat):(Bg s k t.one).hd.bnd:=gU (Y9 hw k _ (F7 h)).1
def qY(P:Program)(d:FuncId)(T:tI)(k:Nat):Prop:=∀(w:wO)(f:Fq)(_:Vl w f)(sb mb:Nat)(s:BT)(fr pr:Int),B9 T sb mb s fr pr w f→IP s→∀(t:T1)(a:oA)(c j:Nat),t.bnd→Ae w f t.kids a c→B4 s k t.one=some j →
 AO P d #[.pointer (some ⟨sb,0,none⟩),tV t a c] w (AF (α:=oA×Nat) (λx=>tV (Bg s k t.one).hd x.1 x.2) (λ_=>True) (λx=>[λw f=>Ae w f (Bg s k t.one).hd.kids x.1 x.2]) w f)
end Go.SP
namespace Go.SP
open Go.SW Go.RowKit
variable {f:Fq}{i:Nat}{a:oA}{w:wO}
theorem Ae.get{t:T1}:∀{k:Ty}{b off i:Nat},IN w f k b off→k.get i=some t→∃ka kc,Cs w f b (off+i*4) (tC t ka kc)∧Ae w f t.kids ka kc
 |k,b,off,0,h,d=>by
   obtain⟨t2,r,rfl⟩:∃t r,k=T1.cons t r:=by
     cases k with
     |nil=>cases d
     |var n r=>exact⟨.var n,r,C⟩
     |con tx q r=>exact⟨.con tx q,r,C⟩
   have e:t2=t:=by cases t2 <;> (cases d;rfl)
   subst e;obtain⟨b2,D,ka,kc,F,J,K,_⟩:=Bn.head (a:=some ⟨b,off,none⟩) (i:=0) (.inr ⟨b,off,C,by simpa using h⟩)
   cases F
   exact⟨ka,kc,by simpa using J,K⟩
 |k,b,off,i+1,h,d=>by
   obtain⟨t2,r,rfl⟩:∃t r,k=T1.cons t r:=by
     cases k with
     |nil=>cases d
     |var n r=>exact⟨.var n,r,C⟩
     |con tx q r=>exact⟨.con tx q,r,C⟩
   have e:r.get i=some t:=by cases t2 <;> exact d
   obtain⟨b2,D,ka,kc,F,_,_,L⟩:=Bn.head (a:=some ⟨b,off,none⟩) (i:=0) (.inr ⟨b,off,C,by simpa using h⟩);rcases L with rfl|⟨b3,G,O,Q⟩
   · cases e
   · cases O
     obtain⟨ka,kc,U,h8⟩:=Ae.get Q e;exact⟨ka,kc,by rw[show off+(i+1)*4=off+(0+1)*4+i*4 by omega];exact U,h8⟩
theorem Ae.nth{t:T1}{k:Ty}{c:Nat}(h:Ae w f k a c)(d:k.get i=some t):∃b off ka kc,a=some ⟨b,off,none⟩∧Cs w f b (off+i*4) (tC t ka kc)∧Ae w f t.kids ka kc:=by
 rcases h.2 with rfl|⟨b,off,D,F⟩
 · cases d
 · obtain⟨ka,kc,G,J⟩:=Ae.get F d
   exact⟨b,off,ka,kc,D,G,J⟩
theorem FA{t:T1}:∀{k:Ty}{i:Nat},k.bnd→k.get i=some t→t.bnd
 |.nil,_,_,h=>by cases h
 |.var n r,0,_,h=>by cases h;exact⟨⟨Nat.zero_le _,Nat.zero_le _⟩,tQ⟩
 |.con tx q r,0,d,h=>by cases h;exact⟨d.1,d.2.1⟩
 |.var n r,i+1,d,h=>FA (k:=r) d h
 |.con tx q r,i+1,d,h=>FA (k:=r) d.2.2 h
theorem Me{k:Ty}(h:i<k.len):∃t,k.get i=some t:=by
 induction k generalizing i with
 |nil=>simp[Ty.len] at h
 |var n r d=>cases i with
   |zero=>exact⟨_,C⟩
   |succ i=>exact d (by simp only[Ty.len] at h;omega)
 |con tx q r _ d=>cases i with
   |zero=>exact⟨_,C⟩
   |succ i=>exact d (by simp only[Ty.len] at h;omega)
theorem dZ{k:Ty}(h:k.len≤i):k.get i=none:=by
 induction k generalizing i with
 |nil=>rfl
 |var n r d=>cases i with
   |zero=>simp[Ty.len] at h
   |succ i=>exact d (by simp only[Ty.len] at h;omega)
 |con tx q r _ d=>cases i with
   |zero=>simp[Ty.len] at h
   |succ i=>exact d (by simp only[Ty.len] at h;omega)
theorem P4(l:List Int)(y:Ty)(t:T1)(r:Ty):Dw l y (t.cons r)=(Co t l y).cons (Dw l y r):=by
 cases t with
 |var n =>
   simp only[T1.cons,Dw,Co,T1.one]
   cases (Du l n).bind y.get with
   |none=>rfl
   |some t=>cases t <;> rfl
 |con tx k=>rfl
theorem H6{l:List Int}{y:Ty}(h:y.bnd):∀x:Ty,x.bnd→(Dw l y x).bnd∧(Dw l y x).len=x.len
 |.nil,_=>⟨tQ,C⟩
 |.var n r,d=>by
   have D:=H6 (l:=l) h r d;simp only[Dw]
   cases G:(Du l n).bind y.get with
   |none=>exact⟨D.1,by simp only[Ty.len];omega⟩
   |some t =>
     obtain⟨i,_,J⟩:=Option.bind_eq_some_iff.1 G;exact⟨T1.bnd_cons.2 ⟨FA h J,D.1⟩,by rw[T1.len_cons];simp only[Ty.len];omega⟩
 |.con tx k r,d=>by
   have D:=H6 (l:=l) h r d.2.2;have F:=H6 (l:=l) h k d.2.1;exact⟨⟨⟨by rw[F.2];exact d.1.1,d.1.2⟩,F.1,D.1⟩,by simp only[Dw,Ty.len];omega⟩
theorem IY{l:List Int}{y:Ty}(d:y.bnd){t:T1}(h:t.bnd):(Co t l y).bnd:=gU (H6 d _ (F7 h)).1
theorem Oe{l:List Int}{y:Ty}{n:Int}:Co (.var n) l y=((Du l n).bind y.get).getD (.var n):=by
 simp only[Co,T1.one,T1.cons,Dw]
 cases (Du l n).bind y.get with
 |none=>rfl
 |some t=>cases t <;> rfl
theorem dO{l:List Int}{y:Ty}{tx:lU}{k:Ty}:Co (.con tx k) l y=.con tx (Dw l y k):=rfl
def qE(P:Program)(d:FuncId)(m:Nat):Prop:=∀(w:wO)(f:Fq)(_:Vl w f)(l:List Int)(h:oA)(lc:Nat)(y:Ty)(D:oA)(F:Nat),l.length≤1000000→y.len≤200000→y.bnd→B7 w f l h lc→Ae w f y D F→∀(t:T1)(a:oA)(c:Nat),t.kids.size<m→t.bnd→Ae w f t.kids a c →
 AO P d #[tV t a c,.slice h l.length lc,.slice D y.len F] w (AF (α:=oA×Nat) (λx=>tV (Co t l y) x.1 x.2) (λ_=>True) (λx=>[λw f=>Ae w f (Co t l y).kids x.1 x.2]) w f)
end Go.SP
namespace Go.SW
open Go.RowKit
section
variable{X:Cx}{w w':wO}{f f':Fq}{H:List HB}{R:List RB}{B:List FB}{Fs:List (wO→Fq→Prop)}
variable {I':wO→Fq→Prop}
theorem AP.callJ{MI':Nat→Prop}(h:AP X w f H R B Fs)(he:C6 X.MI w f w' f')(L:I' w' f')(J:EC MI' I')(F:∀b,MI' b→X.MI b∨(w.heap.size≤b∧b<w'.heap.size∧f' b=0)):AP {X with MI:=MI',I:=I' } w' f' H R B Fs :=
 have G:AP {X with I:=λ_ _=>True} w' f' H R B Fs:=h.callI he tQ (λ_ _ _ _ _ _ _=>trivial)
 {G with
   res:=L,stab:=J,
   mi:=λb D=>by
     rcases F b D with D|⟨K,O,U⟩
     · exact G.mi b D
     · exact⟨O,U,.inl (Nat.le_trans h.stp.size K)⟩,
   own:=λb D=>⟨(G.own b D).1,(G.own b D).2.1,λhm=>by
     rcases F b hm with hm|⟨K,_,_⟩
     · exact (G.own b D).2.2 hm
     · exact Nat.lt_irrefl _ (Nat.lt_of_lt_of_le (h.lt D) K)⟩}
end
def NG{α:Type}(val:α→Value)(q:α→Prop)(M:Nat→Prop)(MI':α→Nat→Prop)(I':α→wO→Fq→Prop)(F':α→List (wO→Fq→Prop))(w:wO)(f:Fq)(v:Value)(w':wO):Prop:=∃x f',v=val x∧q x∧C6 M w f w' f'∧(∀b,MI' x b→M b∨(w.heap.size≤b∧b<w'.heap.size∧f' b=0))∧I' x w' f'∧AA (F' x) w' f'
section
variable{P:Program}{n:Nat}{Q:AQ}{ds:List Deferred}{X:Cx}{R:List RB}{B:List FB}{Fs:List (wO→Fq→Prop)}{fs:List Fr}{σ:AW}{H:List HB}
variable{all r:List Oper}{ty T:tI}{pos:String}{af:Array Edge}{g:Option (Nat×Bool)}{d:Nat}{x y:Operand}
variable {args:Array Value}{nw:Bool}{fid:FuncId}{XX:List PanicEntry→wO→Prop}{xs zl:lV}{bytes cs k:Nat}{Ts e:tI}
theorem iY{op:Op}{α:Type}{val:α→Value}{q:α→Prop}{MI':α→Nat→Prop}{I':α→wO→Fq→Prop}{F':α→List (wO→Fq→Prop)}
   (J:gd all σ g=some true) (hd:Nat.blt d n=true) (he:∀w,Enters P σ op ty w fid args)
   (K:∀w f,AP X w f H R B Fs→BB P fid args w (NG val q X.MI MI' I' F' w f) XX) (D:∀x,EC (MI' x) (I' x)) (hm:∀x,Ap (F' x))
   (L:∀w f c w',AP X w f H R B Fs→XX c w'→Q.p c σ ds w')
   (h:∀x,q x→Aw P n Q ds {X with MI:=MI' x,I:=I' x} R B (F' x++Fs) (.ops all r) fs (AD σ d (val x)) H):Aw P n Q ds X R B Fs (.ops all (⟨some d,op,ty,pos,af,g⟩::r)) fs σ H:=λw f F=>by
 refine Bv J (Cc hd (he w) (K w f F) ?_ ?_)
 · rintro v w' ⟨x,f',rfl,O,U,G,W,Y⟩
   exact h x O w' f' ((F.callJ U W (D x) G).more (B':=[]) (λ_ h=>by cases h) Y.mem (hm x).mem)
 · intro c w' Z
   rw[M8];exact L w f c w' F Z
theorem ZP{size:Nat}{a:oA}{c src:Nat}{news:lV}{MI':oA→Nat→Prop}{I':oA→Nat→wO→Fq→Prop}(j:Nat)(hg:gd all σ g=some true)(hd:Nat.blt d n=true)(hT:Kc P T=some (e,size,bytes,zl))(L:Nat.beq zl.length size=true)(O:Nat.blt 0 size=true)
   (hs:ev σ x=some (.slice a k c)) (hx:ev σ y=some (.slice (some ⟨src,0,none⟩) 1 cs)) (hH:GP H j=some ⟨src,news,Ts,nw⟩) (hl:Nat.beq news.length size=true) (h1:Mp news=true) (U:(k+1)*bytes≤140737488355328) (W:k+1≤9223372036854775807)
   (J:∀w f,X.I w f→BO w e size a c k xs) (K:∀b,rb a=some b→X.MI b) (Y:∀a' b,MI' a' b→X.MI b∨rb a'=some b) (hI:∀w f w' a' c',X.I w f→AP X w f H R B Fs→BO w' e size a' c' (k+1) (xs++news)→EO a w a' w'→I' a' c' w' f) (Z:∀a' c',EC (MI' a') (I' a' c'))
   (h:∀a' c',Aw P n Q ds {X with MI:=MI' a',I:=I' a' c' } R B Fs (.ops all r) fs (AD σ d (.slice a' (k+1) c')) H) :
   Aw P n Q ds X R B Fs (.ops all (⟨some d,.call {callee:=.builtin .append,args:=#[x,y],argTypes:=#[T,T]},ty,pos,af,g⟩::r)) fs σ H:=λw f G =>
 Bv hg (Cm hd hT L O hs hx (J w f G.res) (G.blk _ (BH hH)) hl h1 U W λa' c' w' hr F=>h a' c' w' f (G.callJ ⟨⟨F.os,F.tape,F.output,F.size,λb D hm=>F.block b D λe=>hm (K b e.symm)⟩,λ_ _=>C,λb D=>G.val b (Nat.le_trans F.size D)⟩ (hI w f w' a' c' G.res G hr F) (Z a' c') λb D=>by
   rcases Y a' b D with D|D
   · exact .inl D
   · rcases F.own with ho|ho
     · exact .inl (K b (ho.symm.trans D))
     · have e:b=w.heap.size:=Option.some.inj (D.symm.trans ho)
       subst e;exact .inr ⟨Nat.le_refl _,hr.lt D,G.val _ (Nat.le_refl _)⟩))
end
variable {b:Nat}{M:Nat→Prop}
theorem C6.done{w w':wO}{f f':Fq}(h:C6 M w f w' f')(F:w.heap.size≤b)(G:b<w'.heap.size)(n:Nat):C6 M w f w' (λk=>if k=b then n else f' k) :=
 ⟨h.stp,λk D=>by show (if k=b then n else f' k)=f k;rw[if_neg (by omega)];exact h.old k D,λk D=>by show (if k=b then n else f' k)=0;rw[if_neg (by omega)];exact h.val k D⟩
end Go.SW
namespace Go.SP
open Go.SW Go.RowKit
def Hq(l:List Int):List (Int×Value):=l.reverse.map λn=>(n,.bool true)
theorem Ri(n:Int):∀l:List Int,EF (l.map λn=>(n,Value.bool true)) n=if l.contains n then some (.bool true) else none
 | []=>rfl
 |k::l=>by
   have:=Ri n l;simp only[List.map,EF,List.contains_cons]
   by_cases h:n=k
   · subst h;simp
   · have e:(n==k)=false:=by simpa using h
     rw[e,this];simp
theorem Vp(n:Int)(l:List Int):EF (Hq l) n=if l.contains n then some (.bool true) else none:=by
 unfold Hq;rw[Ri];simp
theorem SJ:∀l:List Int,l.Nodup→Kq (l.map λn=>(n,Value.bool true))
 | [],_=>trivial
 |k::l,h=>by
   have D:=List.nodup_cons.1 h;refine⟨?_,SJ l D.2⟩;rw[Ri,if_neg];simpa using D.1
theorem Ll{l:List Int}(h:l.Nodup):Kq (Hq l):=SJ _ ((List.reverse_perm l).nodup_iff.2 h)
def Pg(ob mb:Nat)(a:oA)(b:Nat):Prop:=b=ob∨b=mb∨rb a=some b
structure EL(T:tI)(ob mb:Nat)(sl:Value)(lm:List Int)(a:oA)(c:Nat)(l:List Int)(w:wO)(f:Fq):Prop where
 blk:AE w ob [sl] T
 map:BM ED w mb (Hq lm)
 row:BO w 3 1 a c l.length (l.map λn=>.int .i64 n)
 ne:ob≠mb∧rb a≠some ob∧rb a≠some mb
 nd:lm.Nodup
theorem EL.stab{T:tI}{ob mb:Nat}{sl:Value}{lm:List Int}{a:oA}{c:Nat}{l:List Int}:EC (Pg ob mb a) (EL T ob mb sl lm a c l):=λ_ _ _ _ h K D =>
 ⟨(D ob (.inl C)).trans h.blk,h.map.heap (D mb (.inr (.inl C))),⟨h.row.1,h.row.2.imp id λ⟨b,q,F,G,J⟩=>⟨b,q,F,(D b (.inr (.inr (by rw[F];rfl)))).trans G,J⟩⟩,h.ne,h.nd⟩
abbrev QN(T:tI)(ob mb:Nat)(a:oA)(c:Nat)(l:List Int):wO→Fq→Prop:=EL T ob mb (.slice a l.length c) l a c l
variable {b:Nat}{M:Nat→Prop}{w0:wO}
theorem EL.lt{T:tI}{ob mb:Nat}{sl:Value}{lm:List Int}{a:oA}{c:Nat}{l:List Int}{w:wO}{f:Fq}(h:EL T ob mb sl lm a c l w f)(D:Pg ob mb a b):b<w.heap.size:=by
 rcases D with rfl|rfl|D
 · exact h.blk.lt
 · exact h.map.lt
 · exact h.row.lt D
theorem Zl(t:T1)(r:Ty)(l:List Int):CI (t.cons r) l=CI r (CI t.one l):=by cases t <;> rfl
theorem Jw:∀(x:Ty)(l:List Int),(CI x l).length≤x.size+l.length
 |.nil,l=>by simp[CI]
 |.var n r,l=>by
   have:=Jw r (if l.contains n then l else l++[n]);simp only[CI,Ty.size]
   split at this <;> simp_all <;> omega
 |.con tx k r,l=>by
   have h:=Jw k l;have D:=Jw r (CI k l);simp only[CI,Ty.size];omega
def pZ(P:Program)(fid:FuncId)(T:tI)(m:Nat):Prop:=∀(w:wO)(f:Fq)(_:Vl w f)(ob mb:Nat)(a:oA)(c:Nat)(l:List Int),QN T ob mb a c l w f→(∀b,Pg ob mb a b→f b=0)→∀(t:T1)(h:oA)(D:Nat),t.kids.size<m→t.kids.size+1+l.length≤1000000→t.bnd→Ae w f t.kids h D →
 AO P fid #[tV t h D,.map (some mb),.pointer (some ⟨ob,0,none⟩)] w (NG (α:=oA×Nat) (λ_=>.tuple #[]) (λ_=>True) (Pg ob mb a) (λx=>Pg ob mb x.1) (λx=>QN T ob mb x.1 x.2 (CI t.one l)) (λ_=>[]) w f)
theorem EL.int{T:tI}{ob mb:Nat}{sl:Value}{lm:List Int}{a:oA}{c:Nat}{l:List Int}{w:wO}{f0 f:Fq}(h:EL T ob mb sl lm a c l w f)(J:C6 M w0 f0 w f)(L:∀b,rb a=some b→w0.heap.size≤b):∃f',C6 M w0 f0 w f'∧B7 w f' l a c:=by
 obtain⟨W,⟨F,Y,hz⟩|⟨b,q,F,K,G,_,Z,O⟩⟩:=h.row
 · exact⟨f,J,oM,.inl (by cases l with|nil=>rfl|cons _ _=>simp at hz)⟩
 · refine⟨λk=>if k=b then l.length else f k,J.done (L b (by rw[F];rfl)) K.lt _,G,.inr ⟨b,0,F,λj v D=>?_⟩⟩
   have U:j<l.length:=by have:=(List.getElem?_eq_some_iff.1 D).1;simpa using this
   refine⟨?_,?_⟩
   · show 0+j<(if b=b then l.length else f b)
     rw[if_pos C];omega
   · rw[Nat.zero_add,K.cell]
     rw[← O,List.getElem?_take] at D
     split at D
     · exact D
     · cases D
end Go.SP
namespace Go.SP
open Go.SW Go.RowKit
theorem Xu(n:Int)(l:List Int):(EF (Hq l) n).getD (.bool false)=.bool (l.contains n):=by
 rw[Vp];cases l.contains n <;> rfl
theorem Xy{n:Int}{l:List Int}(h:l.contains n=false):EF (Hq l) n=none:=by rw[Vp,h];rfl
theorem Qm(n:Int)(l:List Int):Hq (l++[n])=(n,.bool true)::Hq l:=by simp[Hq]
section
variable{T:tI}{ob mb:Nat}{sl sl':Value}{lm l:List Int}{a a':oA}{c c':Nat}{w w':wO}{f f':Fq}{n:Int}
theorem EL.app(h:EL T ob mb sl lm a c l w f)(F:BO w' 3 1 a' c' (l.length+1) (l.map (λn=>Value.int .i64 n)++[.int .i64 n]))(D:EO a w a' w'):EL T ob mb sl lm a' c' (l++[n]) w' f' where
 blk:=h.blk.grow D (λe=>h.ne.2.1 e.symm)
 map:=h.map.heap (D.block mb h.map.lt (λe=>h.ne.2.2 e.symm))
 row:=by simpa using F
 ne:=⟨h.ne.1,λe=>D.own.elim (λo=>h.ne.2.1 (o.symm.trans e)) (λo=>absurd h.blk.lt (by rw[← Option.some.inj (o.symm.trans e)];exact Nat.lt_irrefl _)),λe=>D.own.elim (λo=>h.ne.2.2 (o.symm.trans e)) (λo=>absurd h.map.lt (by rw[← Option.some.inj (o.symm.trans e)];exact Nat.lt_irrefl _))⟩
 nd:=h.nd
variable {xs:lV}{b:Nat}{e:tI}
theorem BO.chgB{size:Nat}{a:oA}{c n:Nat}(h:BO w e size a c n xs)(G:Gj b w w')(D:rb a≠some b):BO w' e size a c n xs :=
 ⟨h.1,h.2.imp id λ⟨g,q,F,J,K⟩=>⟨g,q,F,(G.block g (λe=>D (by rw[F,← e];rfl))).trans J,K⟩⟩
theorem EL.mapped{q:List Int}(h:EL T ob mb sl l a c q w f)(D:Gj mb w w')(hm:BM ED w' mb ((n,.bool true)::Hq l))(G:l.contains n=false):EL T ob mb sl (l++[n]) a c q w' f' where
 blk:=(D.block ob h.ne.1).trans h.blk
 map:=by rw[Qm];exact hm
 row:=BO.chgB h.row D h.ne.2.2
 ne:=h.ne
 nd:=by
   have J:n∉l:=by simpa using G
   exact List.nodup_append.2 ⟨h.nd,List.nodup_cons.2 ⟨by simp,List.nodup_nil⟩,λx K y F e=>by simp at F;subst F;subst e;exact J K⟩
theorem EL.store(h:EL T ob mb sl lm a c l w f)(D:Gj ob w w')(F:AE w' ob [sl'] T):EL T ob mb sl' lm a c l w' f' where
 blk:=F
 map:=h.map.heap (D.block mb (λe=>h.ne.1 e.symm))
 row:=BO.chgB h.row D h.ne.2.1
 ne:=h.ne
 nd:=h.nd
end
variable {b:Nat}
theorem Pg.or{ob mb:Nat}{a a':oA}(h:Pg ob mb a' b):Pg ob mb a b∨rb a'=some b:=h.elim (λh=>.inl (.inl h)) λh=>h.elim (λh=>.inl (.inr (.inl h))) .inr
theorem T7(n:Int)(l:List Int):CI (T1.var n).one l=if l.contains n then l else l++[n]:=rfl
theorem cI(tx:lU)(k:Ty)(l:List Int):CI (T1.con tx k).one l=CI k l:=rfl
end Go.SP
namespace Go.SW
open Go.RowKit
section
variable{P:Program}{σ:AW}{w:wO}{ty T T':tI}{x y:Operand}
variable {t':tI}
theorem kW{t:tI}{k:IntKind}{a b:Int}(m:Int)(D:ev σ x=some (.int k a))(F:ev σ y=some (.int k b))(G:b≠0)(h:k.wrap (a.tdiv b)=m):AM P σ (.binOp .quo t x y t') ty w (.int k m) w :=
 λJ _ _ _ _ d=>by simp[execOp,d _ _ D,d _ _ F,eqGuard,binOp,Op.intDiv,G,h]
theorem oV{t:tI}{k:IntKind}{a b:Int}(m:Int)(D:ev σ x=some (.int k a))(F:ev σ y=some (.int k b))(G:b≠0)(h:a.tmod b=m):AM P σ (.binOp .rem t x y t') ty w (.int k m) w :=
 λJ _ _ _ _ d=>by simp[execOp,d _ _ D,d _ _ F,eqGuard,binOp,Op.intDiv,G,h]
theorem wU{k:IntKind}{n:Int}{l:lU}(J:ev σ x=some (.int k n))(D:wX P T T'=true)(h:Utf8.encode n=⟨l.toArray⟩):AM P σ (.convert T T' x) ty w (S l) w:=by
 unfold wX at D
 cases F:P.underlying T with
 |none=>rw[F] at D;cases D
 |some s =>
   cases hd:P.underlying T' with
   |none=>rw[F,hd] at D;cases D
   |some d =>
     rw[F,hd] at D
     cases d <;> simp at D
     exact λK _ _ _ _ G=>by
       simp[execOp,G _ _ J,convert,run_underlying F,run_underlying hd,Conv.intToString,h,S]
end
variable {Q:AQ}{X:Cx}{f:Fq}{Fs:List (wO→Fq→Prop)}{ds:List Deferred}{B:List FB}{fs:List Fr}{H H':List HB}{l:lV}{b i n:Nat}{w':wO}
theorem AP.toRow{w:wO}{R:List RB}{T:tI}(h:AP X w f H R B Fs)(W:GP H i=some ⟨b,l,T,true⟩)(hs:Kb H i=some H')(size c:Nat)(Y:l.length=c*size)(hc:c≤maxLen):AP X w f H' (⟨T,size,some ⟨b,0,none⟩,c,c,l⟩::R) B Fs:=by
 have J:AE w b l T:=h.blk _ (BH W);have K:b∈CD H R:=List.mem_append.2 (.inl (List.mem_map.2 ⟨_,BH W,C⟩));have O:=h.own b K;have D:=Lp hs;have Z:(H.map HB.b++IV R).Nodup:=h.nd;have hbR:b∉CD H' R:=LC (L:=IV R) W hs Z;have U:(CD H' R).Sublist (CD H R):=List.Sublist.append (D.map _) (List.Sublist.refl _)
 have hp:∀k,k∈CD H' (⟨T,size,some ⟨b,0,none⟩,c,c,l⟩::R)→k=b∨k∈CD H' R:=λk F=>by
   have d:k∈H'.map HB.b++b::R.filterMap (λr=>rb r.a):=F;rcases List.mem_append.1 d with d | d
   · exact .inr (List.mem_append.2 (.inl d))
   · rcases List.mem_cons.1 d with rfl|d
     · exact .inl C
     · exact .inr (List.mem_append.2 (.inr d))
 exact {h with
         blk:=λe he=>h.blk e (D.subset he),
         row:=λr G=>by
           rcases List.mem_cons.1 G with rfl|G
           · exact⟨Y,.inr ⟨b,l,C,J,Nat.le_refl _,hc,Y,by rw[← Y];exact List.take_length⟩⟩
           · exact h.row r G,
         nd:=by
           show (H'.map HB.b++b::R.filterMap (λr=>rb r.a)).Nodup;exact List.perm_middle.nodup_iff.2 (List.nodup_cons.2 ⟨hbR,U.nodup h.nd⟩),
         own:=λk F=>by
           rcases hp k F with rfl|F
           · exact O
           · exact h.own k (U.subset F),
         hnw:=λe he=>h.hnw e (D.subset he),
         rnw:=λr G k F=>by
           rcases List.mem_cons.1 G with rfl|G
           · cases F;exact h.hnw _ (BH W) C
           · exact h.rnw r G k F}
theorem iP{P:Program}{R:List RB}{σ:AW}{k:Kt}{T:tI}(i size c:Nat)(d:GP H i=some ⟨b,l,T,true⟩)(D:Kb H i=some H')(F:Nat.beq l.length (c*size)=true)(G:c≤maxLen)
   (h:Aw P n Q ds X (⟨T,size,some ⟨b,0,none⟩,c,c,l⟩::R) B Fs k fs σ H'):Aw P n Q ds X R B Fs k fs σ H:=λw f J=>h w f (J.toRow d D size c (Nat.eq_of_beq_eq_true F) G)
theorem Below.exm{w:wO}(h:Below w.heap.size w w')(d:∀b,w.heap.size≤b→f b=0)(M:Nat→Prop):C6 M w f w' f:=⟨⟨h.os,h.tape,h.output,h.size,λk D _=>h.block k D⟩,λ_ _=>C,λb F=>d b (Nat.le_trans h.size F)⟩
end Go.SW
namespace Go.SP
open Go.SW Go.RowKit
def Pn(vs:List Int)(t:T1):lU:=(Dv vs t.one).drop 1
theorem LR(vs:List Int)(t:T1)(r:Ty):Dv vs (t.cons r)=32::(Pn vs t++Dv vs r):=by
 cases t with
 |var n=>simp[Pn,T1.one,T1.cons,Dv]
 |con tx k=>cases k <;> simp[Pn,T1.one,T1.cons,Dv]
theorem aO(vs:List Int)(n:Int):Pn vs (.var n)=(match Du vs n with|some i=>D4 i|none=>[]):=by
 simp[Pn,T1.one,T1.cons,Dv] <;> cases Du vs n <;> rfl
theorem W4(vs:List Int)(tx:lU):Pn vs (.con tx .nil)=tx:=by simp[Pn,T1.one,T1.cons,Dv]
theorem dV(vs:List Int)(tx:lU)(k:Ty)(h:k.len≠0):Pn vs (.con tx k)=[40]++(tx++Dv vs k)++[41]:=by
 cases k with
 |nil=>exact absurd C h
 |var n r=>simp[Pn,T1.one,T1.cons,Dv]
 |con tx k r=>simp[Pn,T1.one,T1.cons,Dv]
theorem Uz(s:lU)(l:List lU)(x:lU):Lib.joinTail s (l++[x])=Lib.joinTail s l++(s++x):=by simp[Lib.joinTail]
theorem OG:∀k n,(Wa k n).length≤k
 |0,_=>Nat.le_refl _
 |k+1,n=>by
   unfold Wa
   split
   · simp
   · have:=OG k (n / 10);simp;omega
theorem Wm(i:Nat):(D4 i).length≤22:=by
 unfold D4
 split
 · simp
 · have:=OG 20 (i / 26);simp;omega
theorem Lh(vs:List Int):∀x:Ty,x.bnd→(Dv vs x).length≤x.size*1000100
 |.nil,_=>by simp[Dv]
 |.var n r,h=>by
   have F:=Lh vs r h;rw[show Ty.var n r=(T1.var n).cons r from C,LR,T1.size_cons,aO]
   have d:(match Du vs n with|some i=>D4 i|none=>[]).length≤22:=by
     cases Du vs n with
     |none=>simp
     |some i=>exact Wm i
   simp only[List.length_cons,List.length_append,T1.kids,Ty.size] at d ⊢;omega
 |.con tx k r,h=>by
   have F:=Lh vs r h.2.2;have d:=Lh vs k h.2.1;have J:=h.1.2;rw[show Ty.con tx k r=(T1.con tx k).cons r from C,LR,T1.size_cons]
   have G:(Pn vs (.con tx k)).length≤tx.length+k.size*1000100+2:=by
     by_cases D:k.len=0
     · obtain rfl:=Ty.len0 D
       rw[W4];exact Nat.le_trans (Nat.le_add_right _ _) (Nat.le_add_right _ _)
     · rw[dV vs tx k D];simp;omega
   simp only[List.length_cons,List.length_append,T1.kids] at G ⊢;omega
theorem Vu(i:Nat):Utf8.encode (97+((i % 26:Nat):Int))=⟨[UInt8.ofNat (97+i % 26)].toArray⟩:=by
 have h:∀j,j<26→Utf8.encode (97+((j:Nat):Int))=⟨[UInt8.ofNat (97+j)].toArray⟩:=dC;exact h _ (Nat.mod_lt _ oM)
theorem Qx:∀(k n:Nat),n<10 ^ (k+1)→Wa (k+1) n=Lib.decDigits n
 |0,n,h=>by
   have:n<10:=by simpa using h
   rw[Lib.decDigits,Wa,if_pos this,dif_pos this]
 |k+1,n,h=>by
   rw[Lib.decDigits,Wa]
   by_cases d:n<10
   · rw[if_pos d,dif_pos d]
   · rw[if_neg d,dif_neg d,Qx k (n / 10) (by rw[Nat.pow_succ] at h;omega)]
def Mb(vs:List Int)(es:List (Int×Value)):Prop:=Kq es∧∀n,EF es n=(Du vs n).map λi=>S (D4 i)
variable {es:List (Int×Value)}
theorem Mb.get{vs:List Int}(h:Mb vs es)(n:Int):(EF es n).getD (S [])=S (Pn vs (.var n)):=by
 rw[h.2,aO]
 cases Du vs n <;> rfl
def pR(P:Program)(d:FuncId)(m:Nat):Prop:=∀(w:wO)(f:Fq)(_:Vl w f)(mb:Nat)(vs:List Int)(es:List (Int×Value)),BM ED w mb es→Mb vs es→∀(t:T1)(a:oA)(c:Nat),t.kids.size<m→t.kids.size≤1000000→t.bnd→Ae w f t.kids a c →
 AO P d #[tV t a c,.map (some mb)] w (AF (α:=Unit) (λ_=>S (Pn vs t)) (λ_=>True) (λ_=>[]) w f)
end Go.SP
namespace Go.SP
open Go.SW Go.RowKit
theorem Su(x n:Int):∀l:List Int,Du (l++[n]) x=(match Du l x with|some j=>some j|none=>if n==x then some l.length else none)
 | []=>by simp[Du]
 |k::l=>by
   have h:=Su x n l;simp only[List.cons_append,Du]
   by_cases d:(k==x)=true
   · rw[if_pos d,if_pos d]
   · rw[if_neg d,if_neg d,h]
     cases Du l x with
     |some j=>rfl
     |none=>by_cases D:(n==x)=true <;> simp[D]
theorem Mb.nil:Mb [] []:=⟨tQ,λ_=>C⟩
variable {f:Fq}{es:List (Int×Value)}{l:lV}{b i m mb sb:Nat}
theorem Mb.snoc{l:List Int}(h:Mb l es){n:Int}(D:l.contains n=false):EF es n=none∧Mb (l++[n]) ((n,S (D4 l.length))::es):=by
 have F:EF es n=none:=by rw[h.2,Oc D];rfl
 refine⟨F,⟨F,h.1⟩,λx=>?_⟩;rw[Su];simp only[EF]
 by_cases d:x=n
 · subst d;rw[Oc D];simp
 · have G:(x==n)=false:=by simpa using d
   have J:(n==x)=false:=by simpa using λe:n=x=>d e.symm
   rw[G,J,h.2]
   cases Du l x <;> simp
theorem HY:∀(x:Ty)(l:List Int),l.Nodup→(CI x l).Nodup
 |.nil,_,h=>h
 |.var n r,l,h=>by
   simp only[CI];apply HY r
   split
   · exact h
   · rename_i D
     have F:n∉l:=by simpa using D
     exact List.nodup_append.2 ⟨h,List.nodup_cons.2 ⟨by simp,List.nodup_nil⟩,λx G y d e=>by simp at d;subst d;subst e;exact F G⟩
 |.con tx k r,l,h=>HY r _ (HY k l h)
theorem UT{l:List Int}(h:l.Nodup){n:Int}(D:l[i]?=some n):(l.take i).contains n=false:=by
 have d:=(List.getElem?_eq_some_iff.1 D).1;have e:l=l.take i++l.drop i:=(List.take_append_drop i l).symm
 have hd:n∈l.drop i:=by
   rw[List.drop_eq_getElem_cons d,(List.getElem?_eq_some_iff.1 D).2];exact .head _
 rw[e] at h;have:=(List.nodup_append.1 h).2.2;have F:n∉l.take i:=λhm=>this n hm n hd C;simpa using F
theorem G2(t:T1):(Ao t).length≤t.kids.size+1:=by
 have:=Jw t.one [];have e:t.one.size=t.kids.size+0+1:=T1.size_cons t .nil;rw[e] at this;simpa[Ao] using this
theorem B9.new{T:tI}{w:wO}(d:AE w sb [.map (some mb),.int .i64 0,.int .i64 0] T)(h:BM ED w mb []):B9 T sb mb [] 0 0 w f:=⟨d,[],h,C⟩
theorem vR{w:wO}{T:tI}(h:AE w b l T)(hm:BM ED w m es):b≠m:=λe=>by
 subst e;obtain⟨es,c,d,_⟩:=hm;have D:=h.symm.trans d
 cases D
structure Ad where
 cb:Nat
 sb:Nat
 mb:Nat
 km:Nat
 dm:Nat
 rm:Nat
def B2(A:Ad)(b:Nat):Prop:=b=A.cb∨b=A.sb∨b=A.mb∨b=A.km∨b=A.dm∨b=A.rm
structure Ad.ok(A:Ad):Prop where
 cs:A.cb≠A.sb
 cm:A.cb≠A.mb∧A.cb≠A.km∧A.cb≠A.dm∧A.cb≠A.rm
 sm:A.sb≠A.mb∧A.sb≠A.km∧A.sb≠A.dm∧A.sb≠A.rm
 mm:A.mb≠A.km∧A.mb≠A.dm∧A.mb≠A.rm∧A.km≠A.dm∧A.km≠A.rm∧A.dm≠A.rm
def iZ(m:Mk)(aa:oA)(ac:Nat)(oa:oA)(oc:Nat)(va:oA)(vc:Nat):lV:=.slice aa m.args.len ac::(tC m.out oa oc++[.slice va m.vars.length vc])
def BN(w:wO)(f:Fq):List (lU×Mk)→List (lU×Value)→Prop
 | [],es=>es=[]
 |(k,m)::l,es=>∃aa ac oa oc va vc h,es=(k,.agg (iZ m aa ac oa oc va vc).toArray)::h∧Ae w f m.args aa ac∧Ae w f m.out.kids oa oc∧B7 w f m.vars va vc∧BN w f l h
variable {A:Ad}{s:BT}{f f':Fq}{b:Nat}{a:oA}{TS:tI}{w w':wO}
theorem BN.mono(F:Hi w f w' f'):∀(l:List (lU×Mk))(es:List (lU×Value)),BN w f l es→BN w' f' l es
 | [],_,h=>h
 |(_,_)::l,_,⟨aa,ac,oa,oc,va,vc,D,G,J,K,L,O⟩=>⟨aa,ac,oa,oc,va,vc,D,G,Ae.mono _ _ _ _ J F,Ae.mono _ _ _ _ K F,B7.mono _ _ _ _ L F,BN.mono F l D O⟩
theorem BN.look{n:lU}:∀{l:List (lU×Mk)}{es:List (lU×Value)},BN w f l es→(Bo l n=none→EF es n=none)∧∀m,Bo l n=some m→∃aa ac oa oc va vc,EF es n=some (.agg (iZ m aa ac oa oc va vc).toArray)∧Ae w f m.args aa ac∧Ae w f m.out.kids oa oc∧B7 w f m.vars va vc
 | [],es,h=>by
   have h:es=[]:=h;subst h;exact⟨λ_=>C,λt h=>by cases h⟩
 |(k,m)::l,es,⟨aa,ac,oa,oc,va,vc,F,G,J,K,L,O⟩=>by
   subst G;have U:=BN.look (n:=n) O;simp only[Bo,EF]
   by_cases D:k=n
   · subst D
     refine⟨λh=>by simp at h,λt' h=>?_⟩;simp at h;subst h;exact⟨aa,ac,oa,oc,va,vc,by simp,J,K,L⟩
   · have W:(k==n)=false:=by simpa using D
     have Y:(n==k)=false:=by simpa using λe:n=k=>D e.symm
     rw[W,Y];simpa using U
structure Aq(T TS:tI)(A:Ad)(s:CS)(w:wO)(f:Fq):Prop where
 blk:AE w A.cb [.pointer (some ⟨A.sb,0,none⟩),.map (some A.km),.map (some A.dm),.map (some A.rm),.int .i64 s.vars] T
 sol:∃pr,B9 TS A.sb A.mb s.sol s.fresh pr w f
 cons:∃es,BM Ck w A.km es∧BN w f s.cons es
 datas:BM Ck w A.dm (s.datas.map λp=>(p.1,.int .i64 p.2))
 roots:BM Ck w A.rm (s.roots.map λk=>(k,.bool true))
theorem Aq.stab{T:tI}{s:CS}:EC (B2 A) (Aq T TS A s):=λw f w' f' h F D =>
 ⟨(
   D _ (.inl C)).trans h.blk,let ⟨pr,G⟩:=h.sol;⟨pr,B9.stab (MI:=MO A.sb A.mb) (.inl C) (.inr C) _ _ _ _ G F λb hm=>D b (hm.elim (λe=>.inr (.inl e)) λe=>.inr (.inr (.inl e)))⟩,
   let ⟨es,J,K⟩:=h.cons;⟨es,J.heap (D _ (.inr (.inr (.inr (.inl C))))),BN.mono F _ _ K⟩,h.datas.heap (D _ (.inr (.inr (.inr (.inr (.inl C)))))),h.roots.heap (D _ (.inr (.inr (.inr (.inr (.inr C))))))⟩
theorem Aq.lt{T:tI}{s:CS}(h:Aq T TS A s w f)(D:B2 A b):b<w.heap.size:=by
 rcases D with rfl|rfl|rfl|rfl|rfl|rfl
 · exact h.blk.lt
 · obtain⟨_,F⟩:=h.sol;exact F.1.lt
 · obtain⟨_,_,_,hm,_⟩:=h.sol;exact hm.lt
 · obtain⟨_,hm,_⟩:=h.cons;exact hm.lt
 · exact h.datas.lt
 · exact h.roots.lt
structure D1(s:CS):Prop where
 sol:IP s.sol
 cons:∀k m,Bo s.cons k=some m→m.args.len≤200000∧m.args.bnd∧m.out.bnd∧m.vars.length≤200000
 dc:Kq (s.cons.map λp=>(p.1,Value.bool true))
 dd:Kq (s.datas.map λp=>(p.1,Value.int .i64 p.2))
 dr:Kq (s.roots.map λk=>(k,Value.bool true))
 fr:0≤s.fresh
def AV(w:wO)(f:Fq):By→oA→Prop
 | [],a=>a=none
 |b::e,a=>∃k h D va vc F,a=some ⟨k,0,none⟩∧Cs w f k 0 (S b.name::(tC b.t h D++[.slice va b.all.length vc,.pointer F]))∧Ae w f b.t.kids h D∧B7 w f b.all va vc∧AV w f e F
theorem AV.mono'(D:Hi w f w' f'):∀(e:By)(a:oA),AV w f e a→AV w' f' e a
 | [],_,h=>h
 |_::e,_,⟨k,G,J,va,vc,F,K,L,O,U,W⟩=>⟨k,G,J,va,vc,F,K,L.mono D,Ae.mono _ _ _ _ O D,B7.mono _ _ _ _ U D,AV.mono' D e F W⟩
theorem AV.mono{e:By}:Ea (λw f=>AV w f e a):=λ_ _ _ _ h D=>AV.mono' D e a h
def FN(e:By):Prop:=∀b,b∈e→b.t.bnd∧b.all.length≤1000000
def trI(T:tI)(e:Er):List PanicEntry:=[{v:=.iface T (.agg #[.int .i64 e.1,.int .i64 e.2.1,.int .i64 e.2.2]),recovered:=false}]
def PanE(T:tI)(M:Nat→Prop)(q:Er→Prop)(w:wO)(f:Fq)(c:List PanicEntry)(w':wO):Prop:=∃er f',c=trI T er∧q er∧C6 M w f w' f'
abbrev XC(T TS:tI)(A:Ad)(s:CS)(w:wO)(f:Fq):Cx:=⟨B2 A,B2 A,Aq T TS A s,w,f⟩
theorem L2{T:tI}{s:CS}{Fs:List (wO→Fq→Prop)}(F:Vl w f)(h:Aq T TS A s w f)(G:∀b,B2 A b→f b=0)(J:AA Fs w f)(hm:Ap Fs):AP (XC T TS A s w f) w f [] [] [] Fs :=
 LX (M:=B2 A) F h Aq.stab (λb D=>⟨h.lt D,G b D⟩) J hm
theorem XD:∀(k:Nat)(x:Ty)(j:Nat),B4 s k x=some j→(Bg s k x).size+j≤k:=by
 intro k
 induction k using Nat.strongRecOn with
 |_ k L =>
   intro x j h
   have key:∀(D:Nat)(F r:Ty),D<k→B4 s D (F.app r)=some j→(Bg s D F).size+(Bg s D r).size+j≤D:=by
     intro D F r O G;rw[JE] at G
     cases J:B4 s D F with
     |none=>rw[J] at G;cases G
     |some j1 =>
       rw[J] at G;have G:B4 s j1 r=some j:=G;have U:=F4 s _ _ _ J;have W:=L D O F j1 J;have Y:=L j1 oM r j G;rw[PH j1 r j G D (by omega)];omega
   cases x with
   |nil=>rw[GN];cases k <;> (cases h;simp[Ty.size])
   |var n r =>
     cases k with
     |zero=>cases h
     |succ k =>
       simp only[B4] at h
       cases K:An s (.var n) with
       |var q =>
         rw[K] at h;have:=key k .nil r oM h;simp only[Bg,K,Ty.size];rw[GN] at this;simp only[Ty.size] at this;omega
       |con tx F =>
         rw[K] at h;have:=key k F r oM h;simp only[Bg,K,Ty.size];omega
   |con tx F r =>
     cases k with
     |zero=>cases h
     |succ k =>
       simp only[B4] at h;have:=key k F r oM h;simp only[Bg,Ty.size];omega
theorem bE(s:BT)(k:Nat)(t:T1):Bg s (k+1) t.one=(Bg s (k+1) t.one).hd.one:=by
 cases t with
 |var n =>
   simp only[T1.one,T1.cons,Bg]
   cases An s (.var n) <;> (simp only[GN];rfl)
 |con tx h=>simp only[T1.one,T1.cons,Bg,GN];rfl
theorem KF{t u:T1}(h:Dy s t=some u):u.kids.size+1≤1000:=by
 unfold Dy at h
 split at h
 · rename_i D
   rw[Hy,Fc] at D;obtain⟨j,F⟩:=Option.isSome_iff_exists.1 D;have J:=XD 1000 t.one j F;have G:=bE s 999 t
   cases h
   have K:(Bg s 1000 t.one).size=(Bg s 1000 t.one).hd.kids.size+0+1:=(congrArg Ty.size G).trans (T1.size_cons _ .nil);omega
 · cases h
theorem My(hw:IP s){t u:T1}(D:t.bnd)(h:Dy s t=some u):u.bnd:=by
 unfold Dy at h
 split at h
 · cases h;exact fN hw D 1000
 · cases h
end Go.SP
namespace Go.SW
open Go.RowKit Go.SP
variable {args:Array Value}{f f':Fq}{fid:FuncId}{M:Nat→Prop}{w w':wO}
theorem AP.exmI{X:Cx}{H:List HB}{R:List RB}{B:List FB}{Fs:List (wO→Fq→Prop)}(h:AP X w f H R B Fs)(D:∀b,M b→X.MI b)(he:C6 M w f w' f'):C6 X.M X.w0 X.f0 w' f' :=
 (h.callI (I':=λ_ _=>True) (he.mono D) tQ (λ_ _ _ _ _ _ _=>trivial)).exm
section
variable{P:Program}{n:Nat}{Q:AQ}{ds:List Deferred}{X:Cx}{R:List RB}{B:List FB}{Fs:List (wO→Fq→Prop)}{fs:List Fr}{σ:AW}{H:List HB}
variable{all r:List Oper}{ty T:tI}{pos:String}{af:Array Edge}{g:Option (Nat×Bool)}{d:Nat}
theorem DC{op:Op}{α:Type}{val:α→Value}{q:α→Prop}{I':α→wO→Fq→Prop}{F':α→List (wO→Fq→Prop)}{pe:Er→Prop}
   (L:gd all σ g=some true) (hd:Nat.blt d n=true) (he:∀w,Enters P σ op ty w fid args) (O:∀b,M b→X.MI b)
   (U:∀w f,AP X w f H R B Fs→BB P fid args w (CY val q X.MI I' F' w f) (PanE T M pe w f)) (D:∀x,EC X.MI (I' x)) (hm:∀x,Ap (F' x))
   (W:∀er w' f',pe er→C6 X.M X.w0 X.f0 w' f'→Q.p (trI T er) σ ds w')
   (h:∀x,q x→Aw P n Q ds {X with I:=I' x} R B (F' x++Fs) (.ops all r) fs (AD σ d (val x)) H):Aw P n Q ds X R B Fs (.ops all (⟨some d,op,ty,pos,af,g⟩::r)) fs σ H :=
 JK (XX:=λc w'=>∃er f',c=trI T er∧pe er∧C6 X.M X.w0 X.f0 w' f') L hd he (λw f K=>(U w f K).mono (λ_ _ h=>h) λ_ _ ⟨er,f',F,G,J⟩=>⟨er,f',F,G,K.exmI O J⟩) D hm (λ_ _ _ _ _ ⟨er,f',F,G,J⟩=>F▸W er _ f' G J) h
theorem Pq{op:Op}{pe:Er→Prop}
   (D:gd all σ g=some true) (hd:Nat.blt d n=true) (he:∀w,Enters P σ op ty w fid args) (F:∀b,M b→X.MI b)
   (G:∀w f,AP X w f H R B Fs→BB P fid args w (λ_ _=>False) (PanE T M pe w f))
   (J:∀er w' f',pe er→C6 X.M X.w0 X.f0 w' f'→Q.p (trI T er) σ ds w'):Aw P n Q ds X R B Fs (.ops all (⟨some d,op,ty,pos,af,g⟩::r)) fs σ H :=
 DC (α:=Unit) (val:=λ_=>.tuple #[]) (q:=λ_=>False) (I':=λ_ _ _=>True) (F':=λ_=>[]) D hd he F (λw f K=>(G w f K).mono (λ_ _ h=>h.elim) λ_ _ h=>h) (λ_ _ _ _ _ _ _ _=>trivial) (λ_=>trivial) J (λ_ h=>h.elim)
end
end Go.SW
namespace Go.SP
open Go.SW Go.RowKit
variable {A:Ad}{f f':Fq}{fr pr:Int}{M:Nat→Prop}{TS:tI}{w w' w0:wO}
theorem MO.c:∀b,MO A.sb A.mb b→B2 A b:=λ_ h=>h.elim (λe=>.inr (.inl e)) λe=>.inr (.inr (.inl e))
theorem Aq.solved{T:tI}{s:CS}(h:Aq T TS A s w f)(D:A.ok)(J:Vl w f)(hz:∀b,MO A.sb A.mb b→f b=0)(F:C6 (MO A.sb A.mb) w f w' f'){s':BT}(K:B9 TS A.sb A.mb s' fr pr w' f'):Aq T TS A {s with sol:=s',fresh:=fr} w' f' where
 blk:=(F.stp.block _ (h.lt (.inl C)) (λe=>e.elim D.cs D.cm.1)).trans h.blk
 sol:=⟨pr,K⟩
 cons:=let ⟨es,G,L⟩:=h.cons;⟨es,G.heap (F.stp.block _ G.lt (λe=>e.elim (λe=>D.sm.2.1 e.symm) (λe=>D.mm.1 e.symm))),BN.mono (F.fle J hz) _ _ L⟩
 datas:=h.datas.heap (F.stp.block _ h.datas.lt (λe=>e.elim (λe=>D.sm.2.2.1 e.symm) (λe=>D.mm.2.1 e.symm)))
 roots:=h.roots.heap (F.stp.block _ h.roots.lt (λe=>e.elim (λe=>D.sm.2.2.2 e.symm) (λe=>D.mm.2.2.1 e.symm)))
theorem jC{P:Program}{n:Nat}{Q:AQ}{ds:List Deferred}{f0:Fq}{T:tI}{s:CS}{R:List RB}{B:List FB}{Fs:List (wO→Fq→Prop)}{fs:List Fr}{σ:AW}{H:List HB}{k:Kt}
   (h:∀pr,Aw P n Q ds ⟨M,B2 A,λw f=>Aq T TS A s w f∧B9 TS A.sb A.mb s.sol s.fresh pr w f,w0,f0⟩ R B Fs k fs σ H):Aw P n Q ds ⟨M,B2 A,Aq T TS A s,w0,f0⟩ R B Fs k fs σ H :=
 mxi (X:=⟨M,B2 A,Aq T TS A s,w0,f0⟩) (λpr w f=>Aq T TS A s w f∧B9 TS A.sb A.mb s.sol s.fresh pr w f) (λw f h=>let ⟨pr,G⟩:=h.sol;⟨pr,h,G⟩) (λpr w f w' f' h D F=>⟨Aq.stab w f w' f' h.1 D F,B9.stab (MI:=MO A.sb A.mb) (.inl C) (.inr C) _ _ _ _ h.2 D λb hm=>F b (MO.c b hm)⟩) h
end Go.SP
namespace Go.SP
open Go.SW Go.RowKit
def DY(fr:Int):Nat→Ty
 |0=>.nil
 |n+1=>.var (fr+1) (DY (fr+1) n)
theorem Fm:∀(n:Nat)(fr:Int),(DY fr n).len=n
 |0,_=>rfl
 |n+1,fr=>by simp only[DY,Ty.len];rw[Fm n]
theorem Ie:∀(n:Nat)(fr:Int),(DY fr n).bnd
 |0,_=>trivial
 |n+1,fr=>Ie n (fr+1)
theorem M6:∀(n:Nat)(fr:Int),DY fr (n+1)=(DY fr n).snoc (.var (fr+n+1))
 |0,fr=>by simp[DY,Ty.snoc,Ty.app,T1.one,T1.cons]
 |n+1,fr=>by
   have:=M6 n (fr+1);rw[DY,this];show _=Ty.var _ _
   congr 2
   simp;omega
theorem BC:∀(l:List Int)(s:CS),Bx l s=(DY s.fresh l.length,{s with fresh:=s.fresh+l.length})
 | [],s=>by simp[Bx,DY]
 |_::l,s=>by
   have h:=BC l (A5 s).2;simp only[Bx,T1.cons,DY,List.length_cons];rw[h];simp only[A5,T1.cons];have e:s.fresh+1+(l.length:Int)=s.fresh+((l.length+1:Nat):Int):=oM;rw[e]
theorem D1.fresh{s:CS}(h:D1 s){n:Int}(d:0≤n):D1 {s with fresh:=n}:={h with fr:=d}
end Go.SP
namespace Go.SP
open Go.SW Go.RowKit
variable {Q:AQ}{σ:AW}{A:Ad}{f:Fq}{Fs:List (wO→Fq→Prop)}{ds:List Deferred}{B:List FB}{fs:List Fr}{H:List HB}{n:Nat}{M:Nat→Prop}{P:Program}{T TS:tI}{w w0:wO}
theorem BN.keys{n:lU}:∀{l:List (lU×Mk)}{es:List (lU×Value)},BN w f l es→(EF (l.map λp=>(p.1,Value.bool true)) n=none→EF es n=none)
 | [],es,h,_=>by have h:es=[]:=h;subst h;rfl
 |(k,m)::l,es,⟨_,_,_,_,_,_,D,F,_,_,_,G⟩,d=>by
   subst F;simp only[List.map,EF] at d ⊢
   split at d
   · cases d
   · rename_i J;rw[if_neg J];exact BN.keys G d
theorem BN.dis:∀{l:List (lU×Mk)}{es:List (lU×Value)},BN w f l es→Kq (l.map λp=>(p.1,Value.bool true))→Kq es
 | [],es,h,_=>by have h:es=[]:=h;subst h;trivial
 |(k,m)::l,es,⟨_,_,_,_,_,_,D,F,_,_,_,d⟩,hd=>by
   subst F;exact⟨BN.keys d hd.1,BN.dis d hd.2⟩
theorem mxk{f0:Fq}{s:CS}{R:List RB}{k:Kt}
   (h:∀es,Aw P n Q ds ⟨M,B2 A,λw f=>Aq T TS A s w f∧BM Ck w A.km es∧BN w f s.cons es,w0,f0⟩ R B Fs k fs σ H):Aw P n Q ds ⟨M,B2 A,Aq T TS A s,w0,f0⟩ R B Fs k fs σ H :=
 mxi (X:=⟨M,B2 A,Aq T TS A s,w0,f0⟩) (λes w f=>Aq T TS A s w f∧BM Ck w A.km es∧BN w f s.cons es) (λw f h=>let ⟨es,F,G⟩:=h.cons;⟨es,h,F,G⟩) (λes w f w' f' h d D=>⟨Aq.stab w f w' f' h.1 d D,h.2.1.heap (D _ (.inr (.inr (.inr (.inl C))))),BN.mono d _ _ h.2.2⟩) h
end Go.SP
namespace Go.SW
open Go.RowKit Go.SP
variable {Q:AQ}{σ:AW}{X:Cx}{Fs:List (wO→Fq→Prop)}{ds:List Deferred}{B:List FB}{fs:List Fr}{H:List HB}{n:Nat}{P:Program}
theorem Ud{R:List RB}{k:Kt}{r:RB}(φ:wO→Fq→Prop)(hm:Ea φ)(F:∀w f,AP X w f H (r::R) B Fs→∃f',AP X w f' H R B Fs∧φ w f')
   (h:Aw P n Q ds X R B (φ::Fs) k fs σ H):Aw P n Q ds X (r::R) B Fs k fs σ H:=λw f G=>by
 obtain⟨f',d,D⟩:=F w f G;exact h w f' (d.more (B':=[]) (F':=[φ]) (λ_ h=>by cases h) (AA.mem ⟨D,tQ⟩) (Ap.mem ⟨hm,tQ⟩))
end Go.SW
namespace Go.SP
open Go.SW Go.RowKit
variable {X:Cx}{f:Fq}{Fs:List (wO→Fq→Prop)}{B:List FB}{H:List HB}{xs:lV}{m:Nat}{a:oA}{e:tI}{w:wO}
theorem El{R:List RB}{c:Nat}{k:Ty}(D:AP X w f H (⟨e,4,a,c,m,xs⟩::R) B Fs)(F:AU w f k xs):∃f',AP X w f' H R B Fs∧Ae w f' k a c:=by
 rcases Nat.eq_zero_or_pos k.len with d|d
 · obtain rfl:=Ty.len0 d
   exact⟨f,D.less (List.Sublist.refl _) (List.sublist_cons_self _ _) (λ_ h=>h) (λ_ h=>h),Ae.nil _ _ _ _⟩
 · exact OY D F d
theorem Ns{R:List RB}{c:Nat}{l:List Int}(D:AP X w f H (⟨3,1,a,c,l.length,l.map λn=>.int .i64 n⟩::R) B Fs):∃f',AP X w f' H R B Fs∧B7 w f' l a c:=by
 have J:=D.row _ (.head _);rcases J.2 with ⟨_,_,hz⟩|⟨b,q,G,K,F,_,L,O⟩
 · simp only at hz
   exact⟨f,D.less (List.Sublist.refl _) (List.sublist_cons_self _ _) (λ_ h=>h) (λ_ h=>h),oM,.inl (by cases l with|nil=>rfl|cons _ _=>simp at hz)⟩
 · simp only at G
   subst G;obtain⟨f',d⟩:=D.done (i:=0) C C;refine⟨f',d.less (List.Sublist.refl _) (List.Sublist.refl _) (λ_ h=>.tail _ h) (λ_ h=>h),F,.inr ⟨b,0,C,d.fro _ (.head _)⟩⟩
end Go.SP
namespace Go.SW
open Go.RowKit Go.SP
section
variable{κ:Type}[BEq κ]{K:Key κ}[LawfulBEq κ]
theorem PN(x:κ):∀(es:List MapEntry)(l:List (κ×Value))(i:Nat)(v:Value),es.map (λe=>(e.key,e.val))=l.map (λp=>(K.enc p.1,p.2))→Ms x l=some v →
   ∃j e,Instr.findNow K.desc (K.enc x) es i=some (some (i+j,v))∧es[j]?=some e∧e.key=K.enc x∧e.val=v
 | [],[],i,v,_,h=>by cases h
 | [],_::_,_,_,h,_=>by simp at h
 |_::_,[],_,_,h,_=>by simp at h
 |e::es,p::l,i,v,h,D=>by
   simp only[List.map_cons,List.cons.injEq,Prod.mk.injEq] at h;obtain⟨⟨G,J⟩,O⟩:=h;have U:Instr.sameNow K.desc (K.enc x) e.key=some (x==p.1):=by rw[G];exact K.same x p.1
   obtain⟨L,pv⟩:=p;unfold Instr.findNow;unfold Ms at D;rw[U]
   cases F:x==L with
   |true =>
     rw[F] at D;have D:pv=v:=by simpa using D
     have he:x=L:=by simpa using F
     subst he;exact⟨0,e,by simp[J,D],C,G,J.trans D⟩
   |false =>
     rw[F] at D;obtain⟨j,W,Y,Z,h3⟩:=PN x es l (i+1) v O (by simpa using D);exact⟨j+1,W,by simp only[Y];congr 3;omega,Z,h3⟩
variable{P:Program}{n:Nat}{Q:AQ}{ds:List Deferred}{X:Cx}{R:List RB}{B:List FB}{Fs:List (wO→Fq→Prop)}{fs:List Fr}{σ:AW}{H:List HB}{w:wO}
variable{all r:List Oper}{ty T k e:tI}{pos:String}{af:Array Edge}{g:Option (Nat×Bool)}{d m:Nat}{x y z:Operand}{a:κ}{l:List (κ×Value)}
theorem VA{v:Value}(hT:FT P T=some (k,e))(Y:P.underlying k=some K.desc)(J:Instr.sameBits 10000 (K.enc a) (K.enc a)=true)(hm:BM K w m l)(hd:Kq l)(hn:EF l a=some v):∃w',(Instr.mapUpdate T (.map (some m)) (K.enc a) v).run P w=.ok () w'∧BM K w' m l∧Gj m w w':=by
 have hu:=JP hT;obtain⟨es,c,Z,h2⟩:=id hm;obtain⟨j,e',hj,he,h,L⟩:=PN (K:=K) a es l.reverse 0 v h2 (by rw[RE a l hd];exact hn);have D:(getObj m).run P w=.ok (.map es.toArray c) w:=by simp[getObj,Sem.run,Z]
 have O:=hm.lt;have U:=λb=>K.chk P k w a b Y
 have F:∀o,(setObj m o).run P w=.ok () {w with heap:=w.heap.setIfInBounds m o}:=λo=>by
   simp[setObj,Sem.run,Z]
 rw[Nat.zero_add] at hj;refine⟨{w with heap:=w.heap.setIfInBounds m (.map (es.toArray.modify j λe=>{e with key:=K.enc a,val:=v}) c)},?_,?_,?_⟩
 · simp only[Instr.mapUpdate,Sem.run_bind,run_underlying hu,Result.andThen_ok,D]
   simp only[U,Result.andThen_ok,Instr.findKey,Sem.run_bind,run_underlying Y,hj];simp only[Sem.run_pure,Result.andThen_ok,List.getElem?_toArray,he,Option.map_some,Option.getD_some,h,Instr.keyThatStays,J,if_true];exact F _
 · refine⟨es.modify j λe=>{e with key:=K.enc a,val:=v},c,?_,?_⟩
   · rw[show (es.modify j λe=>{e with key:=K.enc a,val:=v}).toArray=es.toArray.modify j λe=>{e with key:=K.enc a,val:=v} from Array.ext' (by simp)]
     simp[O]
   · rw[← h2]
     apply List.ext_getElem?;intro i;rw[List.getElem?_map,List.getElem?_map,List.getElem?_modify]
     by_cases G:j=i
     · subst G
       rw[he];simp[h,L]
     · simp[G]
 · refine⟨C,C,C,by simp,λi W=>?_⟩
   show (w.heap.setIfInBounds m _)[i]?=_;rw[Array.getElem?_setIfInBounds_ne (λe=>W e.symm)]
variable {I':wO→Fq→Prop}
theorem mupS{v:Value}(U:gd all σ g=some true)(W:ev σ x=some (.map (some m)))(Y:ev σ y=some (K.enc a))(hz:ev σ z=some v)(Z:FT P T=some (k,e))(hk:P.underlying k=some K.desc)(G:Instr.sameBits 10000 (K.enc a) (K.enc a)=true)(J:X.MI m)(hd:Kq l)(hn:EF l a=some v)
   (hm:∀w f,X.I w f→BM K w m l) (hI:∀w f w',X.I w f→AP X w f H R B Fs→Gj m w w'→BM K w' m l→I' w' f) (L:EC X.MI I')
   (h:Aw P n Q ds {X with I:=I' } R B Fs (.ops all r) fs σ H):Aw P n Q ds X R B Fs (.ops all (⟨none,.mapUpdate T x y z,ty,pos,af,g⟩::r)) fs σ H:=λw f F=>by
 obtain⟨w',h1,h2,O⟩:=VA (v:=v) Z hk G (hm w f F.res) hd hn;refine Bv U (Js (w':=w') (λρ _ _ _ _ D=>?_) (h w' f (F.chgI J O (hI w f w' F.res F O h2) L)));simp only[execOp,D _ _ W,D _ _ Y,D _ _ hz];rw[Sem.run_bind,h1];rfl
omit [LawfulBEq κ] in
theorem eY(O:gd all σ g=some true)(hd:Nat.blt d n=true)
   (h:∀m,¬X.MI m→Aw P n Q ds {X with MI:=λb=>X.MI b∨b=m,I:=λw f=>X.I w f∧BM K w m []} R B Fs (.ops all r) fs (AD σ d (.map (some m))) H):Aw P n Q ds X R B Fs (.ops all (⟨some d,.makeMap T none,ty,pos,af,g⟩::r)) fs σ H:=λw f G=>by
 refine Bv O (Ab (v:=.map (some w.heap.size)) (w':=w.alloc (.map #[] 0)) hd (λρ _ _ _ _ U=>by simp[execOp,Instr.makeMap]) (h w.heap.size (λhm=>Nat.lt_irrefl _ (G.mi _ hm).1) _ f ?_));have F:AP X (w.alloc (.map #[] 0)) f H R B Fs:=G.call0 (C6.of_ext (JU w _) G.val);have J:∀b,b∈CD H R→b≠w.heap.size:=λb D e=>Nat.lt_irrefl _ (e▸G.lt D)
 exact {F with
         res:=⟨F.res,[],0,heap_alloc_new w _,C⟩,
         stab:=λW f1 Y f2 L Z D=>⟨F.stab W f1 Y f2 L.1 Z λb hm=>D b (.inl hm),L.2.heap (D _ (.inr C))⟩,
         mi:=λb D=>by
           rcases D with D|rfl
           · exact F.mi b D
           · exact⟨by rw[GW];omega,G.val _ (Nat.le_refl _),.inl G.stp.size⟩,
         own:=λb D=>⟨(F.own b D).1,(F.own b D).2.1,λhm=>by
           rcases hm with hm|rfl
           · exact (F.own b D).2.2 hm
           · exact J _ D C⟩}
end
end Go.SW
namespace Go.SP
open Go.SW Go.RowKit
def L1(T TS:tI)(A:Ad)(s:CS)(m:Nat)(l:List Int)(w:wO)(f:Fq):Prop:=Aq T TS A s w f∧BM ED w m (Hq l)
variable {A:Ad}{f:Fq}{mb:Nat}{M:Nat→Prop}{TS:tI}{w' w0:wO}
theorem L1.stab{T:tI}{s:CS}{m:Nat}{l:List Int}:EC (λb=>B2 A b∨b=m) (L1 T TS A s m l):=λw f w' f' h F D =>
 ⟨Aq.stab w f w' f' h.1 F λb hm=>D b (.inl hm),h.2.heap (D _ (.inr C))⟩
theorem Aq.chg{T:tI}{s:CS}{m:Nat}{w:wO}(h:Aq T TS A s w f)(D:Gj m w w')(hm:¬B2 A m)(F:f m=0):Aq T TS A s w' f :=
 Aq.stab w f w' f h (Gj.fle D F) λb G=>D.block b λe=>hm (e▸G)
theorem Pt(l:List Int)(v n:Int):(l++[v]).contains n=(l.contains n||v==n):=by
 cases h:(v==n) with
 |true =>
   have:v=n:=by simpa using h
   subst this;simp
 |false =>
   have:¬v=n:=by simpa using h
   simp;intro D;exact absurd D.symm this
theorem sbI(n:Int):Instr.sameBits 10000 (ED.enc n) (ED.enc n)=true:=by
 show Instr.sameBits 10000 (.int .i64 n) (.int .i64 n)=true;simp[Instr.sameBits]
theorem La(l:List Int)(v n:Int)(q:List Int)(b:Bool):(((if l.contains v then l else l++[v]).contains n||q.contains n)||b)=((l.contains n||(v::q).contains n)||b):=by
 have D:(v::q).contains n=((v==n)||q.contains n):=by
   rw[List.contains_cons];congr 1
   cases h:(v==n) with
   |true =>
     have:v=n:=by simpa using h
     subst this;simp
   |false =>
     have:¬v=n:=by simpa using h
     simpa using λe:n=v=>this e.symm
 rw[D]
 split
 · rename_i F
   cases G:(v==n) with
   |true =>
     have:v=n:=by simpa using G
     subst this;rw[F];simp
   |false=>simp
 · rw[Pt,Bool.or_assoc (l.contains n)]
theorem PV{l:List Int}{v:Int}(h:l.Nodup):(if l.contains v then l else l++[v]).Nodup:=by
 split
 · exact h
 · rename_i D
   refine List.nodup_append.2 ⟨h,List.pairwise_singleton _ _,λa F b G e=>?_⟩;obtain rfl:b=v:=by simpa using G
   subst e;exact D (by simpa using F)
theorem frUp{P:Program}{n:Nat}{Q:AQ}{ds:List Deferred}{f0:Fq}{T:tI}{s:CS}{R:List RB}{B:List FB}{Fs:List (wO→Fq→Prop)}{fs:List Fr}{σ:AW}{H:List HB}
   {all r:List Oper} {ty O k e:tI} {pos:String} {af:Array Edge} {g:Option (Nat×Bool)} {x y z:Operand} {l:List Int} {v:Int} (U:gd all σ g=some true) (W:ev σ x=some (.map (some mb))) (Y:ev σ y=some (.int .i64 v)) (hz:ev σ z=some (.bool true))
   (Z:FT P O=some (k,e)) (hk:P.underlying k=some (.int .i64)) (D:¬B2 A mb) (F:l.Nodup)
   (h:Aw P n Q ds ⟨M,λb=>B2 A b∨b=mb,L1 T TS A s mb (if l.contains v then l else l++[v]),w0,f0⟩ R B Fs (.ops all r) fs σ H) :
   Aw P n Q ds ⟨M,λb=>B2 A b∨b=mb,L1 T TS A s mb l,w0,f0⟩ R B Fs (.ops all (⟨none,.mapUpdate O x y z,ty,pos,af,g⟩::r)) fs σ H:=by
 cases G:l.contains v with
 |true =>
   rw[G] at h;exact mupS (K:=ED) (a:=v) (l:=Hq l) (I':=L1 T TS A s mb l) U W Y hz Z hk (sbI v) (.inr C) (Ll F) (by rw[Vp,G];rfl) (λw f h=>h.2) (λw f w2 h J L hm=>⟨h.1.chg L D (J.mi mb (.inr C)).2.1,hm⟩) L1.stab h
 |false =>
   rw[G] at h;exact iS (K:=ED) (a:=v) (l:=Hq l) (I':=L1 T TS A s mb (l++[v])) U W Y hz Z hk (.inr C) (Ll F) (Xy G) (λw f h=>h.2) (λw f w2 h J L hm=>⟨h.1.chg L D (J.mi mb (.inr C)).2.1,by rw[Qm];exact hm⟩) L1.stab h
theorem FN.cons{e:By}(h:FN e){b:Bd}(F:b.t.bnd)(G:b.all.length≤1000000):FN (b::e):=λb2 D=>by
 rcases List.mem_cons.1 D with rfl|D
 · exact⟨F,G⟩
 · exact h b2 D
theorem Nd.len_le:∀x:Nd,x.len≤x.size
 |.nil=>Nat.le_refl _
 |.cons _ _ _ _ _ k r=>by have:=Nd.len_le r;simp only[Nd.len,Nd.size];omega
theorem Nd.cases1(x:Nd)(h:0<x.len):∃op ln co tx nm k r,x=.cons op ln co tx nm k r:=by
 cases x with
 |nil=>simp[Nd.len] at h
 |cons op ln co tx nm k r=>exact⟨op,ln,co,tx,nm,k,r,C⟩
theorem Nd.len0{x:Nd}(h:x.len=0):x=.nil:=by
 cases x with
 |nil=>rfl
 |cons=>simp[Nd.len] at h
def Nd.wfm:Nd→Nat→Prop
 |.nil,m=>m=0∨m=1∨m=9
 |.cons op _ _ _ _ k r,m =>
   let X:Prop:=(1≤op∧op≤5)∨(op=6∧k.wfm 0)∨(op=7∧k.wfm 4)∨((op=8∨op=12)∧0<k.len∧k.wfm 0)∨((op=9∨op=10)∧k.wfm 6)∨(op=11∧k.wfm 7)∨(op=13∧k.wfm 0)∨((op=14∨op=15)∧k.wfm 5)∨((op=16∨op=17)∧k.wfm 3)
   match m with
   |0=>X∧r.wfm 0
   |1=>k.wfm 8∧r.wfm 1
   |2=>r.wfm 3
   |3=>X
   |4=>(r=.nil∧X)∨(r≠.nil∧r.wfm 4)
   |5=>X∧0<r.len∧r.wfm 1
   |6=>X∧r.wfm 3
   |7=>X∧r.wfm 6
   |8=>((21≤op∧op≤27)∧k.wfm 9)∧r.wfm 3
   |9=>((21≤op∧op≤27)∧k.wfm 9)∧r.wfm 9
   |_=>False
def G7(op:Int)(k:Nd):Prop:=(1≤op∧op≤5)∨(op=6∧k.wfm 0)∨(op=7∧k.wfm 4)∨((op=8∨op=12)∧0<k.len∧k.wfm 0)∨((op=9∨op=10)∧k.wfm 6)∨(op=11∧k.wfm 7)∨(op=13∧k.wfm 0)∨((op=14∨op=15)∧k.wfm 5)∨((op=16∨op=17)∧k.wfm 3)
section
variable{op ln co nm:Int}{tx:lU}{k r:Nd}
theorem wM:(Nd.cons op ln co tx nm k r).wfm 0↔G7 op k∧r.wfm 0:=Iff.rfl
theorem wfm1:(Nd.cons op ln co tx nm k r).wfm 1↔k.wfm 8∧r.wfm 1:=Iff.rfl
theorem wfm8:(Nd.cons op ln co tx nm k r).wfm 8↔((21≤op∧op≤27)∧k.wfm 9)∧r.wfm 3:=Iff.rfl
theorem XZ:(Nd.cons op ln co tx nm k r).wfm 3↔G7 op k:=Iff.rfl
theorem wfm4:(Nd.cons op ln co tx nm k r).wfm 4↔(r=.nil∧G7 op k)∨(r≠.nil∧r.wfm 4):=Iff.rfl
theorem wfm6:(Nd.cons op ln co tx nm k r).wfm 6↔G7 op k∧r.wfm 3:=Iff.rfl
end
abbrev nV(op ln co:Int)(tx:lU)(nm:Int)(k:Nd)(d:oA)(nc:Nat):Value:=.agg #[.int .i64 op,.int .i64 ln,.int .i64 co,S tx,.int .i64 nm,.slice d k.len nc]
def bV(P:Program)(d:FuncId)(n:Nat):Prop:=∀(w:wO)(f:Fq)(_:Vl w f)(op ln co nm:Int)(tx:lU)(kids:Nd)(h:oA)(nc:Nat),kids.size<n→kids.size≤1000000→AJ w f kids h nc →
 AO P d #[nV op ln co tx nm kids h nc] w (AF (α:=Unit) (λ_=>.bool (Ct n op kids)) (λ_=>True) (λ_=>[]) w f)
end Go.SP
namespace Go.SW
open Go.RowKit
variable {σ':AW}{vs:lV}{d:Nat}{x0 x1 x10 x2 x3 x4 x5 x6 x7 x8 x9:Value}{a0 a1 a10 a11 a12 a13 a14 a15 a16 a2 a3 a4 a5 a6 a7 a8 a9:wO→Fq→Prop}
theorem lE{σ:AW}(h:Le σ' σ:=by (repeat (first|exact Kk _|refine A2 ?_ rfl))):Le σ' σ:=h
theorem lu1{σ:AW}{a0:Nat}(h:σ a0=some x0):Le (AD e0 a0 x0) σ:=A2 (Kk _) h
@[reducible] def E2(a0:Nat)(x0:Value)(a1:Nat)(x1:Value):AW:=AD (AD e0 a0 x0) a1 x1
theorem lu3{σ:AW}{a0 a1 a2:Nat}(h:σ a0=some x0)(D:σ a1=some x1)(F:σ a2=some x2):Le (AD (AD (AD e0 a0 x0) a1 x1) a2 x2) σ:=A2 (A2 (A2 (Kk _) h) D) F
@[reducible] def E3(a0:Nat)(x0:Value)(a1:Nat)(x1:Value)(a2:Nat)(x2:Value):AW:=AD (AD (AD e0 a0 x0) a1 x1) a2 x2
theorem lu4{σ:AW}{a0 a1 a2 a3:Nat}(h:σ a0=some x0)(D:σ a1=some x1)(F:σ a2=some x2)(G:σ a3=some x3):Le (AD (AD (AD (AD e0 a0 x0) a1 x1) a2 x2) a3 x3) σ:=A2 (A2 (A2 (A2 (Kk _) h) D) F) G
@[reducible] def E4(a0:Nat)(x0:Value)(a1:Nat)(x1:Value)(a2:Nat)(x2:Value)(a3:Nat)(x3:Value):AW:=AD (AD (AD (AD e0 a0 x0) a1 x1) a2 x2) a3 x3
theorem lu5{σ:AW}{a0 a1 a2 a3 a4:Nat}(h:σ a0=some x0)(D:σ a1=some x1)(F:σ a2=some x2)(G:σ a3=some x3)(J:σ a4=some x4):Le (AD (AD (AD (AD (AD e0 a0 x0) a1 x1) a2 x2) a3 x3) a4 x4) σ:=A2 (A2 (A2 (A2 (A2 (Kk _) h) D) F) G) J
@[reducible] def E5(a0:Nat)(x0:Value)(a1:Nat)(x1:Value)(a2:Nat)(x2:Value)(a3:Nat)(x3:Value)(a4:Nat)(x4:Value):AW:=AD (AD (AD (AD (AD e0 a0 x0) a1 x1) a2 x2) a3 x3) a4 x4
@[reducible] def E6(a0:Nat)(x0:Value)(a1:Nat)(x1:Value)(a2:Nat)(x2:Value)(a3:Nat)(x3:Value)(a4:Nat)(x4:Value)(a5:Nat)(x5:Value):AW:=AD (AD (AD (AD (AD (AD e0 a0 x0) a1 x1) a2 x2) a3 x3) a4 x4) a5 x5
theorem lu7{σ:AW}{a0 a1 a2 a3 a4 a5 a6:Nat}(h:σ a0=some x0)(D:σ a1=some x1)(F:σ a2=some x2)(G:σ a3=some x3)(J:σ a4=some x4)(K:σ a5=some x5)(L:σ a6=some x6):Le (AD (AD (AD (AD (AD (AD (AD e0 a0 x0) a1 x1) a2 x2) a3 x3) a4 x4) a5 x5) a6 x6) σ:=A2 (A2 (A2 (A2 (A2 (A2 (A2 (Kk _) h) D) F) G) J) K) L
@[reducible] def E7(a0:Nat)(x0:Value)(a1:Nat)(x1:Value)(a2:Nat)(x2:Value)(a3:Nat)(x3:Value)(a4:Nat)(x4:Value)(a5:Nat)(x5:Value)(a6:Nat)(x6:Value):AW:=AD (AD (AD (AD (AD (AD (AD e0 a0 x0) a1 x1) a2 x2) a3 x3) a4 x4) a5 x5) a6 x6
theorem lu8{σ:AW}{a0 a1 a2 a3 a4 a5 a6 a7:Nat}(h:σ a0=some x0)(D:σ a1=some x1)(F:σ a2=some x2)(G:σ a3=some x3)(J:σ a4=some x4)(K:σ a5=some x5)(L:σ a6=some x6)(O:σ a7=some x7):Le (AD (AD (AD (AD (AD (AD (AD (AD e0 a0 x0) a1 x1) a2 x2) a3 x3) a4 x4) a5 x5) a6 x6) a7 x7) σ:=A2 (A2 (A2 (A2 (A2 (A2 (A2 (A2 (Kk _) h) D) F) G) J) K) L) O
@[reducible] def E8(a0:Nat)(x0:Value)(a1:Nat)(x1:Value)(a2:Nat)(x2:Value)(a3:Nat)(x3:Value)(a4:Nat)(x4:Value)(a5:Nat)(x5:Value)(a6:Nat)(x6:Value)(a7:Nat)(x7:Value):AW:=AD (AD (AD (AD (AD (AD (AD (AD e0 a0 x0) a1 x1) a2 x2) a3 x3) a4 x4) a5 x5) a6 x6) a7 x7
theorem pQ{σ:AW}{a0 a1 a2 a3 a4 a5 a6 a7 a8:Nat}(h:σ a0=some x0)(D:σ a1=some x1)(F:σ a2=some x2)(G:σ a3=some x3)(J:σ a4=some x4)(K:σ a5=some x5)(L:σ a6=some x6)(O:σ a7=some x7)(h8:σ a8=some x8):Le (AD (AD (AD (AD (AD (AD (AD (AD (AD e0 a0 x0) a1 x1) a2 x2) a3 x3) a4 x4) a5 x5) a6 x6) a7 x7) a8 x8) σ:=A2 (A2 (A2 (A2 (A2 (A2 (A2 (A2 (A2 (Kk _) h) D) F) G) J) K) L) O) h8
@[reducible] def E9(a0:Nat)(x0:Value)(a1:Nat)(x1:Value)(a2:Nat)(x2:Value)(a3:Nat)(x3:Value)(a4:Nat)(x4:Value)(a5:Nat)(x5:Value)(a6:Nat)(x6:Value)(a7:Nat)(x7:Value)(a8:Nat)(x8:Value):AW:=AD (AD (AD (AD (AD (AD (AD (AD (AD e0 a0 x0) a1 x1) a2 x2) a3 x3) a4 x4) a5 x5) a6 x6) a7 x7) a8 x8
@[reducible] def E10(a0:Nat)(x0:Value)(a1:Nat)(x1:Value)(a2:Nat)(x2:Value)(a3:Nat)(x3:Value)(a4:Nat)(x4:Value)(a5:Nat)(x5:Value)(a6:Nat)(x6:Value)(a7:Nat)(x7:Value)(a8:Nat)(x8:Value)(a9:Nat)(x9:Value):AW:=AD (AD (AD (AD (AD (AD (AD (AD (AD (AD e0 a0 x0) a1 x1) a2 x2) a3 x3) a4 x4) a5 x5) a6 x6) a7 x7) a8 x8) a9 x9
theorem lu11{σ:AW}{a0 a1 a2 a3 a4 a5 a6 a7 a8 a9 a10:Nat}(D:σ a0=some x0)(F:σ a1=some x1)(G:σ a2=some x2)(J:σ a3=some x3)(K:σ a4=some x4)(L:σ a5=some x5)(O:σ a6=some x6)(Q:σ a7=some x7)(h8:σ a8=some x8)(U:σ a9=some x9)(h:σ a10=some x10):Le (AD (AD (AD (AD (AD (AD (AD (AD (AD (AD (AD e0 a0 x0) a1 x1) a2 x2) a3 x3) a4 x4) a5 x5) a6 x6) a7 x7) a8 x8) a9 x9) a10 x10) σ:=A2 (A2 (A2 (A2 (A2 (A2 (A2 (A2 (A2 (A2 (A2 (Kk _) D) F) G) J) K) L) O) Q) h8) U) h
@[reducible] def E11(a0:Nat)(x0:Value)(a1:Nat)(x1:Value)(a2:Nat)(x2:Value)(a3:Nat)(x3:Value)(a4:Nat)(x4:Value)(a5:Nat)(x5:Value)(a6:Nat)(x6:Value)(a7:Nat)(x7:Value)(a8:Nat)(x8:Value)(a9:Nat)(x9:Value)(a10:Nat)(x10:Value):AW:=AD (AD (AD (AD (AD (AD (AD (AD (AD (AD (AD e0 a0 x0) a1 x1) a2 x2) a3 x3) a4 x4) a5 x5) a6 x6) a7 x7) a8 x8) a9 x9) a10 x10
@[reducible] def E12(a0:Nat)(x0:Value)(a1:Nat)(x1:Value)(a2:Nat)(x2:Value)(a3:Nat)(x3:Value)(a4:Nat)(x4:Value)(a5:Nat)(x5:Value)(a6:Nat)(x6:Value)(a7:Nat)(x7:Value)(a8:Nat)(x8:Value)(a9:Nat)(x9:Value)(a10:Nat)(x10:Value)(a11:Nat)(h:Value):AW:=AD (AD (AD (AD (AD (AD (AD (AD (AD (AD (AD (AD e0 a0 x0) a1 x1) a2 x2) a3 x3) a4 x4) a5 x5) a6 x6) a7 x7) a8 x8) a9 x9) a10 x10) a11 h
theorem zI{σ:AW}{a0 a1 a2 a3 a4 a5 a6 a7 a8 a9 a10 a11 a12 a13 a14 a15:Nat}{h D F G J:Value}(Y:σ a0=some x0)(Z:σ a1=some x1)(h2:σ a2=some x2)(h3:σ a3=some x3)(h4:σ a4=some x4)(h5:σ a5=some x5)(h6:σ a6=some x6)(h7:σ a7=some x7)(h8:σ a8=some x8)(h9:σ a9=some x9)(K:σ a10=some x10)(L:σ a11=some h)(O:σ a12=some D)(Q:σ a13=some F)(U:σ a14=some G)(W:σ a15=some J):Le (AD (AD (AD (AD (AD (AD (AD (AD (AD (AD (AD (AD (AD (AD (AD (AD e0 a0 x0) a1 x1) a2 x2) a3 x3) a4 x4) a5 x5) a6 x6) a7 x7) a8 x8) a9 x9) a10 x10) a11 h) a12 D) a13 F) a14 G) a15 J) σ:=A2 (A2 (A2 (A2 (A2 (A2 (A2 (A2 (A2 (A2 (A2 (A2 (A2 (A2 (A2 (A2 (Kk _) Y) Z) h2) h3) h4) h5) h6) h7) h8) h9) K) L) O) Q) U) W
@[reducible] def yZ(a0:Nat)(x0:Value)(a1:Nat)(x1:Value)(a2:Nat)(x2:Value)(a3:Nat)(x3:Value)(a4:Nat)(x4:Value)(a5:Nat)(x5:Value)(a6:Nat)(x6:Value)(a7:Nat)(x7:Value)(a8:Nat)(x8:Value)(a9:Nat)(x9:Value)(a10:Nat)(x10:Value)(a11:Nat)(h:Value)(a12:Nat)(D:Value)(a13:Nat)(F:Value)(a14:Nat)(G:Value)(a15:Nat)(J:Value):AW:=AD (AD (AD (AD (AD (AD (AD (AD (AD (AD (AD (AD (AD (AD (AD (AD e0 a0 x0) a1 x1) a2 x2) a3 x3) a4 x4) a5 x5) a6 x6) a7 x7) a8 x8) a9 x9) a10 x10) a11 h) a12 D) a13 F) a14 G) a15 J
theorem mR{α:Type}{F' Fs:List α}(F:List Nat)(h:F.map (nth Fs)=F'.map some:=by rfl):∀φ,φ∈F'→φ∈Fs:=λφ D=>by
 have J:some φ∈F.map (nth Fs):=by rw[h];exact List.mem_map.2 ⟨φ,D,C⟩
 obtain⟨i,_,G⟩:=List.mem_map.1 J;rw[Ev] at G;exact List.mem_of_getElem? G
theorem sK{α:Type}{a:α}{l D:List α}(h:l.Sublist D):(a::l).Sublist (a::D):=.cons_cons _ h
theorem sD{α:Type}{a:α}{l D:List α}(h:l.Sublist D):l.Sublist (a::D):=.cons _ h
theorem sZ{α:Type}:([]:List α).Sublist []:=.slnil
theorem sR{α:Type}{l:List α}:l.Sublist l:=List.Sublist.refl _
theorem nE{α:Type _}{p:α→Prop}:∀e,e∈([]:List α)→p e:=λ_ h=>by cases h
theorem DG{α:Sort _}{β:α→Sort _}{h:(a:α)→β a→Sort _}{D:(a:α)→(b:β a)→h a b→Sort _}:∀(a:α)(b:β a)(c:h a b)(_:D a b c),True:=λ_ _ _ _=>trivial
@[reducible] def rd:List Nat→OT→OT
 | [],t=>t
 |i::l,t=>.rd i (rd l t)
section
variable{X:Cx}{w:wO}{f:Fq}{H:List HB}{R:List RB}{B:List FB}{Fs:List (wO→Fq→Prop)}
theorem AP.mz(h:AP X w f H R B Fs):∀b,X.MI b→f b=0:=λb D=>(h.mi b D).2.1
theorem AP.f0(h:AP X w f H R B (a0::Fs)):a0 w f:=h.fac _ (List.mem_of_getElem? (i:=0) C)
theorem AP.f1(h:AP X w f H R B (a0::a1::Fs)):a1 w f:=h.fac _ (List.mem_of_getElem? (i:=1) C)
theorem AP.f2(h:AP X w f H R B (a0::a1::a2::Fs)):a2 w f:=h.fac _ (List.mem_of_getElem? (i:=2) C)
theorem AP.f3(h:AP X w f H R B (a0::a1::a2::a3::Fs)):a3 w f:=h.fac _ (List.mem_of_getElem? (i:=3) C)
theorem AP.f4(h:AP X w f H R B (a0::a1::a2::a3::a4::Fs)):a4 w f:=h.fac _ (List.mem_of_getElem? (i:=4) C)
theorem AP.f5(h:AP X w f H R B (a0::a1::a2::a3::a4::a5::Fs)):a5 w f:=h.fac _ (List.mem_of_getElem? (i:=5) C)
theorem AP.f6(h:AP X w f H R B (a0::a1::a2::a3::a4::a5::a6::Fs)):a6 w f:=h.fac _ (List.mem_of_getElem? (i:=6) C)
theorem AP.f7(h:AP X w f H R B (a0::a1::a2::a3::a4::a5::a6::a7::Fs)):a7 w f:=h.fac _ (List.mem_of_getElem? (i:=7) C)
theorem AP.f8(h:AP X w f H R B (a0::a1::a2::a3::a4::a5::a6::a7::a8::Fs)):a8 w f:=h.fac _ (List.mem_of_getElem? (i:=8) C)
theorem AP.f9(h:AP X w f H R B (a0::a1::a2::a3::a4::a5::a6::a7::a8::a9::Fs)):a9 w f:=h.fac _ (List.mem_of_getElem? (i:=9) C)
theorem AP.f10(h:AP X w f H R B (a0::a1::a2::a3::a4::a5::a6::a7::a8::a9::a10::Fs)):a10 w f:=h.fac _ (List.mem_of_getElem? (i:=10) C)
theorem AP.f12(h:AP X w f H R B (a0::a1::a2::a3::a4::a5::a6::a7::a8::a9::a10::a11::a12::Fs)):a12 w f:=h.fac _ (List.mem_of_getElem? (i:=12) C)
theorem AP.f13(h:AP X w f H R B (a0::a1::a2::a3::a4::a5::a6::a7::a8::a9::a10::a11::a12::a13::Fs)):a13 w f:=h.fac _ (List.mem_of_getElem? (i:=13) C)
theorem AP.f16(h:AP X w f H R B (a0::a1::a2::a3::a4::a5::a6::a7::a8::a9::a10::a11::a12::a13::a14::a15::a16::Fs)):a16 w f:=h.fac _ (List.mem_of_getElem? (i:=16) C)
theorem AP.f17{D:wO→Fq→Prop}(h:AP X w f H R B (a0::a1::a2::a3::a4::a5::a6::a7::a8::a9::a10::a11::a12::a13::a14::a15::a16::D::Fs)):D w f:=h.fac _ (List.mem_of_getElem? (i:=17) C)
theorem AP.b0{a0:FB}(h:AP X w f H R (a0::B) Fs):Cs w f a0.b a0.off a0.l:=h.fro _ (List.mem_of_getElem? (i:=0) C)
theorem AP.b1{a0 a1:FB}(h:AP X w f H R (a0::a1::B) Fs):Cs w f a1.b a1.off a1.l:=h.fro _ (List.mem_of_getElem? (i:=1) C)
theorem AP.b2{a0 a1 a2:FB}(h:AP X w f H R (a0::a1::a2::B) Fs):Cs w f a2.b a2.off a2.l:=h.fro _ (List.mem_of_getElem? (i:=2) C)
theorem AP.b3{a0 a1 a2 a3:FB}(h:AP X w f H R (a0::a1::a2::a3::B) Fs):Cs w f a3.b a3.off a3.l:=h.fro _ (List.mem_of_getElem? (i:=3) C)
theorem AP.b4{a0 a1 a2 a3 a4:FB}(h:AP X w f H R (a0::a1::a2::a3::a4::B) Fs):Cs w f a4.b a4.off a4.l:=h.fro _ (List.mem_of_getElem? (i:=4) C)
theorem AP.b5{a0 a1 a2 a3 a4 a5:FB}(h:AP X w f H R (a0::a1::a2::a3::a4::a5::B) Fs):Cs w f a5.b a5.off a5.l:=h.fro _ (List.mem_of_getElem? (i:=5) C)
theorem AP.b6{a0 a1 a2 a3 a4 a5 a6:FB}(h:AP X w f H R (a0::a1::a2::a3::a4::a5::a6::B) Fs):Cs w f a6.b a6.off a6.l:=h.fro _ (List.mem_of_getElem? (i:=6) C)
theorem AP.b7{a0 a1 a2 a3 a4 a5 a6 a7:FB}(h:AP X w f H R (a0::a1::a2::a3::a4::a5::a6::a7::B) Fs):Cs w f a7.b a7.off a7.l:=h.fro _ (List.mem_of_getElem? (i:=7) C)
theorem AP.k0{a0:HB}(h:AP X w f (a0::H) R B Fs):AE w a0.b a0.l a0.T:=h.blk _ (List.mem_of_getElem? (i:=0) C)
theorem om0{a0:HB}{H:List HB}:a0∈a0::H:=List.mem_of_getElem? (i:=0) C
theorem AP.k1{a0 a1:HB}(h:AP X w f (a0::a1::H) R B Fs):AE w a1.b a1.l a1.T:=h.blk _ (List.mem_of_getElem? (i:=1) C)
theorem qC{a0 a1:HB}{H:List HB}:a1∈a0::a1::H:=List.mem_of_getElem? (i:=1) C
theorem AP.k2{a0 a1 a2:HB}(h:AP X w f (a0::a1::a2::H) R B Fs):AE w a2.b a2.l a2.T:=h.blk _ (List.mem_of_getElem? (i:=2) C)
theorem WK{a0 a1 a2:HB}{H:List HB}:a2∈a0::a1::a2::H:=List.mem_of_getElem? (i:=2) C
theorem AP.k3{a0 a1 a2 a3:HB}(h:AP X w f (a0::a1::a2::a3::H) R B Fs):AE w a3.b a3.l a3.T:=h.blk _ (List.mem_of_getElem? (i:=3) C)
theorem WE{a0 a1 a2 a3:HB}{H:List HB}:a3∈a0::a1::a2::a3::H:=List.mem_of_getElem? (i:=3) C
theorem AP.k4{a0 a1 a2 a3 a4:HB}(h:AP X w f (a0::a1::a2::a3::a4::H) R B Fs):AE w a4.b a4.l a4.T:=h.blk _ (List.mem_of_getElem? (i:=4) C)
theorem fY{a0 a1 a2 a3 a4:HB}{H:List HB}:a4∈a0::a1::a2::a3::a4::H:=List.mem_of_getElem? (i:=4) C
theorem om5{a0 a1 a2 a3 a4 a5:HB}{H:List HB}:a5∈a0::a1::a2::a3::a4::a5::H:=List.mem_of_getElem? (i:=5) C
end
section
variable{P:Program}{σ:AW}{ty:tI}
theorem eC{f:FuncId}{g:Operand}{args:List Operand}{h:Array tI}(he:Be P f)(D:ev σ g=some (.func (.func f) #[] #[]))(F:IA σ args=some vs) :
   ∀w,Enters P σ (.call {callee:=.value g,args:=args.toArray,argTypes:=h}) ty w f vs.toArray:=λ_=>Ar he D F
theorem Cy{fn:Func}{v:Value}{X:Cx}{H:List HB}{R:List RB}{B:List FB}{Fs:List (wO→Fq→Prop)}(D:fn.results=#[.tmp d])(h:σ d=some v):∀w f,AP X w f H R B Fs→U0 P fn σ w v:=λ_ _ _=>A3 D (Ak h)
end
section
variable{P:Program}{n:Nat}{Q:AQ}{ds:List Deferred}{X:Cx}{R:List RB}{B:List FB}{Fs:List (wO→Fq→Prop)}{fs:List Fr}{σ:AW}{H Hk:List HB}{l:List Oper}
variable {top:Bool}{f:Fq}{B0:List FB}{L:lV}{i id:Nat}{R0:Value→wO→Prop}{w w0:wO}{J:wO→Prop}
theorem Ca(G:List Nat)(hm:P.follows .mixedOrders=true)(t:OT)(K:MF H G=some Hk)(D:(t.ok l.toArray true (Array.replicate l.length false)&&(t.even true l.length&&Region.noSelect l.toArray))=true) 
   (h:CE P n (KT P n Q fs) ds X R B Fs l Hk B (λ_=>True) true t σ H) (F:PI Q:=by exact λ_ _ _ _ _ h=>h):Aw P n Q ds X R B Fs (.code (.region id l.toArray true)) fs σ H:=by
 simp only[Bool.and_eq_true] at D;exact IQ (λ_=>True) (λ_ _ _ _=>trivial) G hm t K D.1 D.2.1 D.2.2 F h
theorem Am{k:OT}(D:List Nat)(F:MF H D=some Hk)(h:CE P n Q ds X R B0 Fs l Hk B0 (λ_=>True) true k σ H):Aw P n (TQ P n l Q (Kp Hk B0 (λ_=>True)) k) ds X R B0 Fs (.out .normal) [] σ H :=
 AS D (λ_ _ _ _=>trivial) F (λ_ h=>h) h
theorem Cj{k:Kt}(φ:wO→Fq→Prop)(F:∀w f,AP X w f H R B Fs→φ w f)(hm:Ea φ)(h:Aw P n Q ds X R B (φ::Fs) k fs σ H):Aw P n Q ds X R B Fs k fs σ H:=λw f D =>
 h w f (D.more (B':=[]) (F':=[φ]) (λ_ h=>by cases h) (AA.mem ⟨F w f D,tQ⟩) (Ap.mem ⟨hm,tQ⟩))
variable{all r:List Oper}{ty T:tI}{pos:String}{af:Array Edge}{g:Option (Nat×Bool)}{d:Nat}{op:Op}{fid:FuncId}{args:Array Value}
theorem Db{c:Value}(F:gd all σ g=some true)(hd:Nat.blt d n=true)(he:∀w,Enters P σ op ty w fid args)(G:∀w f,AP X w f H R B Fs→AO P fid args w λv w'=>v=c∧AT w w')
   (h:Aw P n Q ds X R B Fs (.ops all r) fs (AD σ d c) H):Aw P n Q ds X R B Fs (.ops all (⟨some d,op,ty,pos,af,g⟩::r)) fs σ H :=
 BV (α:=Unit) (val:=λ_=>c) (q:=λ_=>True) (F':=λ_=>[]) F hd he (λw f D=>(G w f D).mono λ_ _ ⟨K,O⟩=>⟨(),f,K,tQ,C6.of_ext O D.val,tQ⟩) (λ_=>trivial) (λ_ _=>h)
theorem B3{val:Unit→Value}{q:Unit→Prop}(D:gd all σ g=some true)(hd:Nat.blt d n=true)(he:∀w,Enters P σ op ty w fid args)(F:∀w f,AP X w f H R B Fs→AO P fid args w (AF val q (λ_=>[]) w f))
   (h:Aw P n Q ds X R B Fs (.ops all r) fs (AD σ d (val ())) H):Aw P n Q ds X R B Fs (.ops all (⟨some d,op,ty,pos,af,g⟩::r)) fs σ H:=BV D hd he F (λ_=>trivial) (λ_ _=>h)
theorem Ah{k:OT}{x:Oper}(D:nth l i=some x)(h:Aw P n (TQ P n l Q (Kp Hk B0 J) k) ds X R B Fs (.ops l [x]) [] σ H):CE P n Q ds X R B Fs l Hk B0 J top (.br i k .fin) σ H:=Bj D h mtn
theorem Dq{fn:Func}{c:Code}(Fs:List (wO→Fq→Prop))(D:P.funcs[fid]?=some fn)(F:fn.body=some c)(G:fn.ntmps=n)(K:Nat.ble L.length n=true)(O:AP (X0 w f) w f [] [] [] Fs)
   (h:Aw P n (Ep P fn R0 λ_ _=>False) [] (X0 w f) [] [] Fs (.code c) [] (Ho L 0) []):AO P fid L.toArray w R0:=Hm D F G K O h
theorem VS{fn:Func}{v:Value}{val:Unit→Value}{f0:Fq}(h:∀w f,AP (X0 w0 f0) w f H R B Fs→U0 P fn σ w v)(he:v=val ()):Aw P n (Ep P fn (AF val (λ_=>True) (λ_=>[]) w0 f0) λ_ _=>False) [] (X0 w0 f0) R B Fs (.out .ret) [] σ H:=AK h (λ_ f D=>⟨(),f,he,tQ,D.exm,tQ⟩)
end
theorem oE{α:Type}{p:α→Prop}{a:α}(h:p a):∀e,e∈[a]→p e:=λe he=>by
 cases he with
 |head=>exact h
 |tail _ h=>cases h
end Go.SW
namespace Go.SW
open Go.RowKit Go.SP
variable {f:Fq}{co ln nm:Int}{j:Nat}{r:Nd}{w:wO}{φ:wO→Fq→Prop}
theorem AP.fn{X:Cx}{H:List HB}{R:List RB}{B:List FB}{Fs:List (wO→Fq→Prop)}(h:AP X w f H R B Fs)(d:nth Fs j=some φ):φ w f:=h.fac _ (by rw[Ev] at d;exact List.mem_of_getElem? d)
section
variable{P:Program}{n:Nat}{Q:AQ}{ds:List Deferred}{X:Cx}{R:List RB}{B:List FB}{Fs:List (wO→Fq→Prop)}{fs:List Fr}{σ:AW}{H:List HB}{k:Kt}{na:oA}{i c:Nat}
theorem H4{op:Int}{tx:lU}{q:Nd}(j:Nat)(d:nth Fs j=some (λw f=>Bc w f na i (.cons op ln co tx nm q r)))
   (h:∀x:Nat×Nat×oA×Nat,na=some ⟨x.1,x.2.1,none⟩→Aw P n Q ds X R (⟨x.1,x.2.1+i*6,Kd op ln co tx nm x.2.2.1 q.len x.2.2.2⟩::B) ((λw f=>AJ w f q x.2.2.1 x.2.2.2)::(λw f=>Bc w f na (i+1) r)::Fs) k fs σ H):Aw P n Q ds X R B Fs k fs σ H :=
 Ja (α:=Nat×Nat×oA×Nat) (λx=>na=some ⟨x.1,x.2.1,none⟩) (λ_=>[_]) (λ_=>[_,_]) (λ_ _ D=>let ⟨b,off,ka,kc,F,G,J,K⟩:=Bc.head (D.fn d);⟨(b,off,ka,kc),F,oE G,AA.mem ⟨J,K,tQ⟩⟩) (λ_=>Ap.mem ⟨AJ.mono,Bc.mono,tQ⟩) h
theorem mna{x:Nd}(j:Nat)(d:nth Fs j=some (λw f=>AJ w f x na c))(h:Aw P n Q ds X R B ((λw f=>Bc w f na 0 x)::Fs) k fs σ H):Aw P n Q ds X R B Fs k fs σ H:=Cj _ (λ_ _ D=>AJ.at (D.fn d)) Bc.mono h
theorem dB{x y:Nd}(j:Nat)(d:nth Fs j=some (λw f=>AJ w f x na c))(e:x=y)(h:Aw P n Q ds X R B ((λw f=>Bc w f na 0 y)::Fs) k fs σ H):Aw P n Q ds X R B Fs k fs σ H:=Cj _ (λ_ _ D=>by rw[← e];exact AJ.at (D.fn d)) Bc.mono h
theorem Te{t:T1}{r:Ty}(j:Nat)(d:nth Fs j=some (λw f=>Bn w f na i (t.cons r)))
   (h:∀x:Nat×Nat×oA×Nat,na=some ⟨x.1,x.2.1,none⟩→Aw P n Q ds X R (⟨x.1,x.2.1+i*4,tC t x.2.2.1 x.2.2.2⟩::B) ((λw f=>Ae w f t.kids x.2.2.1 x.2.2.2)::(λw f=>Bn w f na (i+1) r)::Fs) k fs σ H):Aw P n Q ds X R B Fs k fs σ H :=
 Ja (α:=Nat×Nat×oA×Nat) (λx=>na=some ⟨x.1,x.2.1,none⟩) (λ_=>[_]) (λ_=>[_,_]) (λ_ _ D=>let ⟨b,off,ka,kc,F,G,J,K⟩:=Bn.head (D.fn d);⟨(b,off,ka,kc),F,oE G,AA.mem ⟨J,K,tQ⟩⟩) (λ_=>Ap.mem ⟨Ae.mono,Bn.mono,tQ⟩) h
theorem pH{l:List Int}{v:Int}(j:Nat)(d:nth Fs j=some (λw f=>B7 w f l na c))(D:l[i]?=some v)
   (h:∀x:Nat×Nat,na=some ⟨x.1,x.2,none⟩→Aw P n Q ds X R (⟨x.1,x.2+i*1,[.int .i64 v]⟩::B) Fs k fs σ H):Aw P n Q ds X R B Fs k fs σ H :=
 Ja (α:=Nat×Nat) (λx=>na=some ⟨x.1,x.2,none⟩) (λ_=>[_]) (λ_=>[]) (λ_ _ F=>let ⟨b,off,G,J⟩:=B7.get (F.fn d) D;⟨(b,off),G,oE J,nE⟩) (λ_=>Ap.mem tQ) h
end
end Go.SW
namespace Go.SW
open Go.RowKit
open Go.SP (RY)
def Sr(T:tI)(q:Int×Int→Prop)(w:wO)(f:Fq)(c:List PanicEntry)(w':wO):Prop:=∃e f',c=RY T e∧q e∧C6 (λ_=>False) w f w' f'
def cA{α:Type}(e:tI)(size:Nat)(n:α→Nat)(xs:α→lV)(q:α→Prop)(F':α→List (wO→Fq→Prop))(w:wO)(f:Fq)(v:Value)(w':wO):Prop :=
 ∃x a c f',v=.slice a (n x) c∧q x∧C6 (λ_=>False) w f w' f'∧BO w' e size a c (n x) (xs x)∧(∀b,rb a=some b→w.heap.size≤b∧f' b=0)∧AA (F' x) w' f'
variable {f f':Fq}{pe:Int×Int→Prop}{xs:lV}{w w':wO}
theorem AP.addRow{X:Cx}{H:List HB}{R:List RB}{B:List FB}{Fs:List (wO→Fq→Prop)}(h:AP X w f H R B Fs)(Y:C6 (λ_=>False) w f w' f'){e:tI}{size c n:Nat}{a:oA}
   (U:BO w' e size a c n xs) (G:∀b,rb a=some b→w.heap.size≤b∧f' b=0):AP X w' f' H (⟨e,size,a,c,n,xs⟩::R) B Fs:=by
 have D:=h.call0 Y
 cases J:rb a with
 |none =>
   have K:CD H (⟨e,size,a,c,n,xs⟩::R)=CD H R:=by simp only[CD,List.filterMap_cons,J]
   exact {D with
     row:=λr hm=>by rcases List.mem_cons.1 hm with rfl|hm;exact U;exact D.row r hm,
     nd:=by rw[K];exact D.nd,
     own:=by rw[K];exact D.own,
     rnw:=λr hm b G=>by rcases List.mem_cons.1 hm with rfl|hm;(rw[J] at G;cases G);exact D.rnw r hm b G}
 |some b =>
   obtain⟨Z,hz⟩:=G b J;have K:CD H (⟨e,size,a,c,n,xs⟩::R)=H.map (·.b)++b::(R.filterMap λr=>rb r.a):=by simp only[CD,List.filterMap_cons,J]
   have W:(H.map (·.b)++b::(R.filterMap λr=>rb r.a)).Perm (b::CD H R):=List.perm_middle;have L:X.w0.heap.size≤b:=Nat.le_trans h.stp.size Z
   exact {D with
     row:=λr hm=>by rcases List.mem_cons.1 hm with rfl|hm;exact U;exact D.row r hm,
     nd:=by rw[K];exact W.nodup_iff.2 (List.nodup_cons.2 ⟨λhm=>by have:=h.lt hm;omega,D.nd⟩),
     own:=λk O=>by
       rw[K] at O;rcases List.mem_cons.1 (W.mem_iff.1 O) with rfl|O
       · exact⟨hz,.inl L,λhm=>by have:=(h.mi _ hm).1;omega⟩
       · exact D.own k O,
     rnw:=λr hm b' F=>by
       rcases List.mem_cons.1 hm with rfl|hm
       · rw[J] at F;cases F;exact L
       · exact D.rnw r hm b' F }
section
variable{P:Program}{n:Nat}{Q:AQ}{ds:List Deferred}{X:Cx}{R:List RB}{B:List FB}{Fs:List (wO→Fq→Prop)}{fs:List Fr}{σ:AW}{H:List HB}
variable{all r:List Oper}{ty T:tI}{pos:String}{af:Array Edge}{g:Option (Nat×Bool)}{d:Nat}{op:Op}{fid:FuncId}{args:Array Value}{α:Type}
theorem JY{val:α→Value}{q:α→Prop}{F':α→List (wO→Fq→Prop)}
   (J:gd all σ g=some true) (hd:Nat.blt d n=true) (he:∀w,Enters P σ op ty w fid args)
   (K:∀w f,AP X w f H R B Fs→BB P fid args w (AF val q F' w f) (Sr T pe w f)) (hm:∀x,Ap (F' x))
   (L:∀e w' f',pe e→C6 X.M X.w0 X.f0 w' f'→Q.p (RY T e) σ ds w')
   (h:∀x,q x→Aw P n Q ds X R B (F' x++Fs) (.ops all r) fs (AD σ d (val x)) H):Aw P n Q ds X R B Fs (.ops all (⟨some d,op,ty,pos,af,g⟩::r)) fs σ H:=λw f D=>by
 refine Bv J (Cc hd (he w) (K w f D) ?_ ?_)
 · rintro v w' ⟨x,f',rfl,F,G,O⟩
   exact h x F w' f' ((D.call0 G).more (B':=[]) (λ_ h=>by cases h) O.mem (hm x).mem)
 · rintro c w' ⟨e,f',rfl,F,G⟩
   rw[M8];exact L e w' f' F (D.call0 G).exm
theorem xH(D:gd all σ g=some true)(hd:Nat.blt d n=true)(he:∀w,Enters P σ op ty w fid args)
   (F:∀w f,AP X w f H R B Fs→BB P fid args w (λ_ _=>False) (Sr T pe w f))
   (G:∀e w' f',pe e→C6 X.M X.w0 X.f0 w' f'→Q.p (RY T e) σ ds w'):Aw P n Q ds X R B Fs (.ops all (⟨some d,op,ty,pos,af,g⟩::r)) fs σ H :=
 JY (α:=Unit) (val:=λ_=>.tuple #[]) (q:=λ_=>False) (F':=λ_=>[]) D hd he (λw f J=>(F w f J).mono (λ_ _ h=>h.elim) λ_ _ h=>h) (λ_=>trivial) G (λ_ h=>h.elim)
theorem YI{e:tI}{size:Nat}{m:α→Nat}{xs:α→lV}{q:α→Prop}{F':α→List (wO→Fq→Prop)}
   (J:gd all σ g=some true) (hd:Nat.blt d n=true) (he:∀w,Enters P σ op ty w fid args)
   (K:∀w f,AP X w f H R B Fs→BB P fid args w (cA e size m xs q F' w f) (Sr T pe w f)) (hm:∀x,Ap (F' x))
   (L:∀e w' f',pe e→C6 X.M X.w0 X.f0 w' f'→Q.p (RY T e) σ ds w')
   (h:∀x a c,q x→Aw P n Q ds X (⟨e,size,a,c,m x,xs x⟩::R) B (F' x++Fs) (.ops all r) fs (AD σ d (.slice a (m x) c)) H):Aw P n Q ds X R B Fs (.ops all (⟨some d,op,ty,pos,af,g⟩::r)) fs σ H:=λw f D=>by
 refine Bv J (Cc hd (he w) (K w f D) ?_ ?_)
 · rintro v w' ⟨x,a,c,f',rfl,F,G,O,U,W⟩
   exact h x a c F w' f' ((D.addRow G O U).more (B':=[]) (λ_ h=>by cases h) W.mem (hm x).mem)
 · rintro c w' ⟨e,f',rfl,F,G⟩
   rw[M8];exact L e w' f' F (D.call0 G).exm
end
end Go.SW
namespace Go.SP
open Go.SW Go.RowKit
def Zf(w:wO)(f:Fq):Fo→Nat→Nat→Prop
 |.nil,_,_=>True
 |.cons t k r,b,off=>(∃a c,Cs w f b off [.int .i64 t.k,.int .i64 t.ln,.int .i64 t.co,.int .i64 t.nm,S t.tx,.slice a k.len c]∧k.len≤c∧(k=.nil∨∃D h,a=some ⟨D,h,none⟩∧Zf w f k D h))∧Zf w f r b (off+6)
def Cv(w:wO)(f:Fq)(k:Fo)(a:oA)(c:Nat):Prop:=k.len≤c∧(k=.nil∨∃b off,a=some ⟨b,off,none⟩∧Zf w f k b off)
variable {f f':Fq}{co ln nm:Int}{xs ys:lV}{b:Nat}{w w':wO}
theorem Zf.mono(D:Hi w f w' f'):∀(k:Fo)(b off:Nat),Zf w f k b off→Zf w' f' k b off
 |.nil,_,_,_=>trivial
 |.cons _ k r,b,off,⟨⟨a,c,G,J,K⟩,L⟩=>⟨⟨a,c,G.mono D,J,K.imp id λ⟨F,h,O,U⟩=>⟨F,h,O,Zf.mono D k F h U⟩⟩,Zf.mono D r b _ L⟩
theorem Cv.mono{k:Fo}{a:oA}{c:Nat}:Ea (λw f=>Cv w f k a c):=λ_ _ _ _ h D=>⟨h.1,h.2.imp id λ⟨b,off,F,G⟩=>⟨b,off,F,Zf.mono D k b off G⟩⟩
theorem Cv.nil(w:wO)(f:Fq)(a:oA)(c:Nat):Cv w f .nil a c:=⟨Nat.zero_le _,.inl C⟩
def Dj(w:wO)(f:Fq)(a:oA)(i:Nat)(r:Fo):Prop:=r=.nil∨∃b off,a=some ⟨b,off,none⟩∧Zf w f r b (off+i*6)
theorem Dj.mono{a:oA}{i:Nat}{r:Fo}:Ea (λw f=>Dj w f a i r):=λ_ _ _ _ h D=>h.imp id λ⟨b,off,F,G⟩=>⟨b,off,F,Zf.mono D r b _ G⟩
theorem Cv.at{k:Fo}{a:oA}{c:Nat}(h:Cv w f k a c):Dj w f a 0 k:=h.2.imp id λ⟨b,off,D,F⟩=>⟨b,off,D,by simpa using F⟩
def iT(t:AB)(a:oA)(n c:Nat):lV:=[.int .i64 t.k,.int .i64 t.ln,.int .i64 t.co,.int .i64 t.nm,S t.tx,.slice a n c]
abbrev fV(t:AB)(a:oA)(n c:Nat):Value:=.agg #[.int .i64 t.k,.int .i64 t.ln,.int .i64 t.co,.int .i64 t.nm,S t.tx,.slice a n c]
theorem Dj.head{a:oA}{i:Nat}{t:AB}{k r:Fo}(h:Dj w f a i (.cons t k r)):∃b off ka kc,a=some ⟨b,off,none⟩∧Cs w f b (off+i*6) (iT t ka k.len kc)∧Cv w f k ka kc∧Dj w f a (i+1) r:=by
 rcases h with h|⟨b,off,D,⟨ka,kc,F,G⟩,J⟩
 · cases h
 · exact⟨b,off,ka,kc,D,F,G,.inr ⟨b,off,D,by rw[show off+(i+1)*6=off+i*6+6 by omega];exact J⟩⟩
theorem Dj.rest{a:oA}{t:AB}{k r:Fo}{c:Nat}(h:Cv w f (.cons t k r) a c):Cv w f r (E1 a c 6) (c-1):=by
 obtain⟨F,D⟩:=h;simp only[Fo.len] at F;refine⟨oM,?_⟩;rcases D with D|⟨b,off,rfl,K,G⟩
 · cases D
 · by_cases J:c=1
   · left
     cases r with
     |nil=>rfl
     |cons _ _ _=>simp only[Fo.len] at F;omega
   · exact .inr ⟨b,off+1*6,by unfold E1;rw[if_neg J];rfl,G⟩
def BJ(w:wO)(f:Fq):Nd→lV→Prop
 |.nil,xs=>xs=[]
 |.cons op ln co tx nm k r,xs=>∃a c xs',xs=Kd op ln co tx nm a k.len c++xs'∧AJ w f k a c∧BJ w f r xs'
theorem BJ.mono'(D:Hi w f w' f'):∀(k:Nd)(xs:lV),BJ w f k xs→BJ w' f' k xs
 |.nil,_,h=>h
 |.cons _ _ _ _ _ _ r,_,⟨a,c,xs',F,G,J⟩=>⟨a,c,xs',F,AJ.mono _ _ _ _ G D,BJ.mono' D r xs' J⟩
theorem BJ.mono{k:Nd}:Ea (λw f=>BJ w f k xs):=λ_ _ _ _ h D=>BJ.mono' D k xs h
theorem BJ.app{y:Nd}(D:BJ w f y ys):∀{x:Nd}{xs:lV},BJ w f x xs→BJ w f (x.app y) (xs++ys)
 |.nil,xs,h=>by have h:xs=[]:=h;subst h;exact D
 |.cons _ _ _ _ _ _ r,_,⟨a,c,xs',F,G,J⟩=>⟨a,c,xs'++ys,by rw[F,List.append_assoc],G,BJ.app D J⟩
theorem BJ.one{op:Int}{tx:lU}{k:Nd}{a:oA}{c:Nat}(h:AJ w f k a c):BJ w f (.cons op ln co tx nm k .nil) (Kd op ln co tx nm a k.len c):=⟨a,c,[],by simp,h,C⟩
theorem BJ.len:∀{k:Nd}{xs:lV},BJ w f k xs→xs.length=k.len*6
 |.nil,xs,h=>by have h:xs=[]:=h;subst h;rfl
 |.cons _ _ _ _ _ _ r,_,⟨a,c,xs',D,G,F⟩=>by subst D;have:=BJ.len F;simp[Nd.len,Kd,this];omega
theorem BJ.toG:∀{k:Nd}{xs:lV}{off:Nat},BJ w f k xs→Cs w f b off xs→Q9 w f k b off
 |.nil,_,_,_,_=>trivial
 |.cons _ _ _ _ _ k r,_,off,⟨a,c,xs',D,F,G⟩,h=>by
   subst D;exact⟨⟨a,c,Cs.le h,F⟩,BJ.toG G (Cs.drop h)⟩
theorem BJ.toF{c:Nat}{k:Nd}(h:BJ w f k xs)(D:Cs w f b 0 xs)(F:k.len≤c):AJ w f k (some ⟨b,0,none⟩) c:=⟨F,.inr ⟨b,0,C,BJ.toG h D⟩⟩
theorem K9{X:Cx}{H:List HB}{R:List RB}{B:List FB}{Fs:List (wO→Fq→Prop)}{e:tI}{a:oA}{c m:Nat}{k:Nd}(F:AP X w f H (⟨e,6,a,c,m,xs⟩::R) B Fs)(J:BJ w f k xs):∃f',AP X w f' H R B Fs∧AJ w f' k a c:=by
 have K:=F.row _ (.head _);have hlen:=BJ.len J;have hm:m=k.len:=by have:=K.1;simp only at this;omega
 rcases K.2 with ⟨_,_,h⟩|⟨b,l,L,_,G,_⟩
 · simp only at h
   have O:k=.nil:=by
     cases k with
     |nil=>rfl
     |cons _ _ _ _ _ _ _=>simp only[Nd.len] at hm;omega
   exact⟨f,F.less (List.Sublist.refl _) (List.sublist_cons_self _ _) (λ_ h=>h) (λ_ h=>h),by rw[O];exact⟨Nat.zero_le _,.inl C⟩⟩
 · simp only at L G
   subst L;obtain⟨f',D⟩:=(F.more (B':=[]) (F':=[λw f=>BJ w f k xs]) (λ_ h=>by cases h) (AA.mem ⟨J,tQ⟩) (Ap.mem ⟨BJ.mono,tQ⟩)).done (i:=0) C C;exact⟨f',D.less (List.Sublist.refl _) (List.Sublist.refl _) (λe he=>.tail _ he) (λφ h=>.tail _ h),BJ.toF (D.fact (i:=0) C) (D.fro _ (.head _)) oM⟩
end Go.SP
namespace Go.SP
open Go.SW Go.RowKit
theorem Nd.app_len:∀x y:Nd,(x.app y).len=x.len+y.len
 |.nil,y=>by simp[Nd.app,Nd.len]
 |.cons _ _ _ _ _ _ r,y=>by simp only[Nd.app,Nd.len,Nd.app_len r y];omega
section
variable{m:AB→Fo→R N}{t:AB}{k r:Fo}{a:N}{dn:Nd}{e:Int×Int}
theorem Wq(h:m t k=.ok a):(match Bi m (.cons t k r) with|.error e=>.error e|.ok b=>.ok (dn.app b):R Nd)=(match Bi m r with|.error e=>.error e|.ok b=>.ok ((dn.app a.one).app b)):=by
 simp only[Bi,h]
 cases Bi m r with
 |error e=>rfl
 |ok b=>simp only[Nd.app_assoc];rfl
theorem XK(h:m t k=.error e):(match Bi m (.cons t k r) with|.error e=>.error e|.ok b=>.ok (dn.app b):R Nd)=.error e:=by simp only[Bi,h]
theorem Tq{l:Fo}:Bi m l=(match Bi m l with|.error e=>.error e|.ok b=>.ok (Nd.nil.app b)):=by cases Bi m l <;> rfl
end
theorem Fo.cases1:∀r:Fo,0<r.len→∃t k q,r=.cons t k q
 |.nil,h=>by cases h
 |.cons t k q,_=>⟨t,k,q,C⟩
theorem Fo.len0:∀{r:Fo},r.len=0→r=.nil
 |.nil,_=>rfl
 |.cons _ _ _,h=>by simp[Fo.len] at h
abbrev HM(x:R N)(w:wO)(f:Fq):Value→wO→Prop:=AF (α:=N×oA×Nat) (λy=>nV y.1.op y.1.ln y.1.co y.1.tx y.1.nm y.1.kids y.2.1 y.2.2) (λy=>x=.ok y.1) (λy=>[λw f=>AJ w f y.1.kids y.2.1 y.2.2]) w f
abbrev Iu(T:tI)(x:R N)(w:wO)(f:Fq):List PanicEntry→wO→Prop:=Sr T (λe=>x=.error e) w f
end Go.SP
namespace Go.SP
open Go.SW Go.RowKit
variable {f:Fq}{w w':wO}
theorem cA.fro{T:tI}{q:Nd×lV→Prop}{v:Value}(F:Vl w f)(h:cA T 6 (λx:Nd×lV=>x.1.len) (λx=>x.2) q (λx=>[λw f=>BJ w f x.1 x.2]) w f v w') :
   AF (α:=(Nd×lV)×oA×Nat) (λy=>.slice y.2.1 y.1.1.len y.2.2) (λy=>q y.1) (λy=>[λw f=>AJ w f y.1.1 y.2.1 y.2.2]) w f v w':=by
 obtain⟨x,a,c,f',G,J,K,L,O,U,-⟩:=h;have W:=(AR F (Fs:=[]) tQ tQ).addRow K L O;obtain⟨f2,D,Y⟩:=K9 W U;exact⟨(x,a,c),f2,G,J,D.exm,Y,tQ⟩
end Go.SP
namespace Go.SP
open Go.SW Go.RowKit
variable {lo x:Operand}{w:wO}
theorem GZ{P:Program}{σ:AW}{ty T e:tI}{k len m c:Nat}{a:oA}(D:len=m+1)(F:ev σ x=some (.slice a len c))(h:ev σ lo=some (.int .i64 1))(G:Hl P T=some (e,k)):AM P σ (.slice T x (some lo) none none) ty w (.slice (E1 a c k) m (c-1)) w:=by
 subst D;exact QW F h G
end Go.SP
namespace Go.SP
open Go.SW Go.RowKit
variable {f:Fq}{xs:lV}{w:wO}
theorem BJ.one':∀{k:Nd}{xs:lV},BJ w f k xs→∀v∈xs,v.oneCell'=true
 |.nil,xs,h,v,D=>by have h:xs=[]:=h;subst h;cases D
 |.cons _ _ _ _ _ _ r,_,⟨a,c,xs',F,J,G⟩,v,D=>by
   subst F;rcases List.mem_append.1 D with D|D
   · simp only[Kd,List.mem_cons,List.not_mem_nil,or_false] at D
     rcases D with rfl|rfl|rfl|rfl|rfl|rfl <;> rfl
   · exact BJ.one' G v D
theorem BJ.cons'{nd:N}{r:Nd}{a:oA}{c:Nat}(h:AJ w f nd.kids a c)(D:BJ w f r xs):BJ w f (nd.cons r) (Kd nd.op nd.ln nd.co nd.tx nd.nm a nd.kids.len c++xs):=⟨a,c,xs,C,h,D⟩
theorem Fo.two:∀l:Fo,(∃p h b bk,l=.cons p h (.cons b bk .nil))∨l.len≠2
 |.nil=>.inr (by simp[Fo.len])
 |.cons _ _ .nil=>.inr (by simp[Fo.len])
 |.cons p h (.cons b bk .nil)=>.inl ⟨p,h,b,bk,C⟩
 |.cons _ _ (.cons _ _ (.cons _ _ r))=>.inr (by simp only[Fo.len];omega)
theorem Fo.three:∀l:Fo,(∃p h b bk c D,l=.cons p h (.cons b bk (.cons c D .nil)))∨l.len≠3
 |.nil=>.inr (by simp[Fo.len])
 |.cons _ _ .nil=>.inr (by simp[Fo.len])
 |.cons _ _ (.cons _ _ .nil)=>.inr (by simp[Fo.len])
 |.cons p h (.cons b bk (.cons c D .nil))=>.inl ⟨p,h,b,bk,c,D,C⟩
 |.cons _ _ (.cons _ _ (.cons _ _ (.cons _ _ r)))=>.inr (by simp only[Fo.len];omega)
theorem Fo.single:∀l:Fo,(∃p h,l=.cons p h .nil)∨l.len≠1
 |.nil=>.inr (by simp[Fo.len])
 |.cons p h .nil=>.inl ⟨p,h,C⟩
 |.cons _ _ (.cons _ _ r)=>.inr (by simp only[Fo.len];omega)
section
variable{n:Nat}{ex:AB→Fo→R N}{t:AB}{l:Fo}
theorem fm_fn(h:l.len≠2):Bk n ex t [102,110] l=.error (t.ln,t.co):=by
 unfold Bk;rw[if_pos (by decide)]
 split
 · simp[Fo.len] at h
 · rfl
theorem vS(h:l.len≠3):Bk n ex t [108,101,116] l=.error (t.ln,t.co):=by
 unfold Bk;rw[if_neg (by decide),if_pos (by decide)]
 split
 · simp[Fo.len] at h
 · rfl
theorem yF(h:l.len≠3):Bk n ex t [114,101,99] l=.error (t.ln,t.co):=by
 unfold Bk;rw[if_neg (by decide),if_neg (by decide),if_pos (by decide)]
 split
 · simp[Fo.len] at h
 · rfl
theorem eA{w:lU}(hw:w=[114,97,105,115,101]∨w=[116,114,97,110,115,97,99,116])(h:l.len≠1):Bk n ex t w l=.error (t.ln,t.co):=by
 unfold Bk;rw[if_neg (by rcases hw with rfl|rfl <;> decide),if_neg (by rcases hw with rfl|rfl <;> decide),if_neg (by rcases hw with rfl|rfl <;> decide),if_neg (by rcases hw with rfl|rfl <;> decide),if_neg (by rcases hw with rfl|rfl <;> decide),if_neg (by rcases hw with rfl|rfl <;> decide),if_neg (by rcases hw with rfl|rfl <;> decide),if_pos (by rcases hw with rfl|rfl <;> decide)]
 split
 · simp[Fo.len] at h
 · rfl
end
end Go.SP
namespace Go.SW
open Go.RowKit Go.SP
section
variable{P:Program}{n:Nat}{Q:AQ}{ds:List Deferred}{X:Cx}{R:List RB}{B:List FB}{Fs:List (wO→Fq→Prop)}{fs:List Fr}{σ:AW}{H:List HB}{k:Kt}{na:oA}{i c:Nat}{t:AB}{q r:Fo}
theorem KO(j:Nat)(D:nth Fs j=some (λw f=>Dj w f na i (.cons t q r)))
   (h:∀x:Nat×Nat×oA×Nat,na=some ⟨x.1,x.2.1,none⟩→Aw P n Q ds X R (⟨x.1,x.2.1+i*6,iT t x.2.2.1 q.len x.2.2.2⟩::B) ((λw f=>Cv w f q x.2.2.1 x.2.2.2)::(λw f=>Dj w f na (i+1) r)::Fs) k fs σ H):Aw P n Q ds X R B Fs k fs σ H :=
 Ja (α:=Nat×Nat×oA×Nat) (λx=>na=some ⟨x.1,x.2.1,none⟩) (λ_=>[_]) (λ_=>[_,_]) (λ_ _ F=>let ⟨b,off,ka,kc,G,J,K,L⟩:=Dj.head (F.fn D);⟨(b,off,ka,kc),G,oE J,AA.mem ⟨K,L,tQ⟩⟩) (λ_=>Ap.mem ⟨Cv.mono,Dj.mono,tQ⟩) h
variable {b o:Nat}
theorem Qc(j:Nat)(D:nth Fs j=some (λw f=>Dj w f (some ⟨b,o,none⟩) i (.cons t q r)))
   (h:∀x:oA×Nat,Aw P n Q ds X R (⟨b,o+i*6,iT t x.1 q.len x.2⟩::B) ((λw f=>Cv w f q x.1 x.2)::(λw f=>Dj w f (some ⟨b,o,none⟩) (i+1) r)::Fs) k fs σ H):Aw P n Q ds X R B Fs k fs σ H :=
 KO j D λx e=>by
   obtain⟨F,G,ka,kc⟩:=x
   cases e
   exact h (ka,kc)
theorem Ng{x:Fo}(j:Nat)(D:nth Fs j=some (λw f=>Cv w f x na c))(h:Aw P n Q ds X R B ((λw f=>Dj w f na 0 x)::Fs) k fs σ H):Aw P n Q ds X R B Fs k fs σ H:=Cj _ (λ_ _ F=>Cv.at (F.fn D)) Dj.mono h
theorem xL(j:Nat)(D:nth Fs j=some (λw f=>Cv w f (.cons t q r) na c))(h:Aw P n Q ds X R B ((λw f=>Cv w f r (E1 na c 6) (c-1))::Fs) k fs σ H):Aw P n Q ds X R B Fs k fs σ H:=Cj _ (λ_ _ F=>Dj.rest (F.fn D)) Cv.mono h
end
end Go.SW
namespace Go.SW
open Go.RowKit
def CsW(w:wO)(e:FB):Prop:=∀j v,e.l[j]?=some v→w.cell? ⟨e.b,e.off+j,none⟩=some v
def BK(w:wO):List FB→Prop
 | []=>True
 |e::l=>CsW w e∧BK w l
theorem Fh(w:wO):BK w []:=trivial
variable {σ:AW}{l:lV}{b:Nat}{T:tI}
theorem kB{w:wO}{B:List FB}(h:AE w b l T)(d:BK w B):BK w (⟨b,0,l⟩::B) :=
 ⟨λj v D=>by rw[h.cell,Nat.zero_add];exact D,d⟩
theorem BK.get{w:wO}:∀{B:List FB}{i:Nat}{e:FB},BK w B→nth B i=some e→CsW w e
 |_::_,0,_,h,d=>by cases d;exact h.1
 |_::B,i+1,e,h,d=>BK.get (B:=B) h.2 d
section
variable(P:Program)(n:Nat)(Q:AQ)(ds:List Deferred)(w:wO)(B:List FB)(tb:Zk)
def Stp1(k:Kt)(fs:List Fr)(σ:AW):Prop:=match k with
 |.code c=>Hg P n c (KT P n Q fs) σ ds w
 |.ops all l=>Gt P n all.toArray (KT P n Q fs) l σ ds w
 |.out e=>(KT P n Q fs).q e σ ds w
def ID:Nat→List Nat→Kt→List Fr→AW→Prop
 |0,_,k,fs,σ=>True→Stp1 P n Q ds w k fs σ
 |m+1,D,.code c,fs,σ=>(match c with
   |.skip=>ID m D (.out .normal) fs σ
   |.ret=>ID m D (.out .ret) fs σ
   |.exit i=>ID m D (.out (.exit i)) fs σ
   |.seq a b=>ID m D (.code a) (.sq b::fs) σ
   |.block i a=>ID m D (.code a) (.bk i::fs) σ
   |.region _ ⟨l⟩ false=>ID m D (.ops l l) fs σ
   |.cond x a b=>(match ev σ x with
     |some (.bool true)=>ID m D (.code a) fs σ
     |some (.bool false)=>ID m D (.code b) fs σ
     |_=>False)
   |_=>False)
 |m+1,D,.out e,fs,σ=>(match fs with
   | []=>False
   |.sq y::fs=>(match e with
     |.normal=>ID m D (.code y) fs σ
     |.ret=>ID m D (.out .ret) fs σ
     |.exit i=>ID m D (.out (.exit i)) fs σ
     |_=>False)
   |.bk i::fs=>(match e with
     |.normal=>ID m D (.out .normal) fs σ
     |.ret=>ID m D (.out .ret) fs σ
     |.exit j=>(match Nat.beq j i with
       |true=>ID m D (.out .normal) fs σ
       |false=>ID m D (.out (.exit j)) fs σ)
     |_=>False))
 |m+1,D,.ops all [],fs,σ=>ID m D (.out .normal) fs σ
 |m+1,D,.ops all (⟨dst,op,ty,pos,J,g⟩::r),fs,σ=>(match gd all σ g with
   |none=>False
   |some false=>(match dst with
     |some d=>(match Nat.blt d n with
       |true=>ID m D (.ops all r) fs (AD σ d undef)
       |false=>False)
     |none=>False)
   |some true=>(match dst with
     |none=>False
     |some d=>(match Nat.blt d n with|false=>False|true=>(match op with
       |.load T x=>(match D with
         |h::q::D=>(match ev σ x,rT tb.ti T with
           |some (.pointer (some ⟨b,o,none⟩)),some (a,k)=>(match nth B h with
             |some ⟨F,off,l⟩=>(match a with
               |false=>(match nth l q with
                 |some v=>(F=b∧off+q=o)∧ID m D (.ops all r) fs (AD σ d v)
                 |none=>False)
               |true=>(match Vn l q k with
                 |some vs=>(F=b∧off+q=o)∧ID m D (.ops all r) fs (AD σ d (.agg ⟨vs⟩))
                 |none=>False))
             |none=>False)
           |_,_=>False)
         |_=>False)
       |.indexAddr T x y=>(match ev σ x,ev σ y,Xw tb.sl T with
         |some (.slice (some ⟨b,o,none⟩) len _),some (.int _ i),some (_,k)=>(0≤i∧i<len)∧ID m D (.ops all r) fs (AD σ d (.pointer (some ⟨b,o+i.toNat*k,none⟩)))
         |_,_,_=>False)
       |.index T x y=>(match ev σ x,ev σ y,zB tb.st T with
         |some (.string ⟨⟨s⟩⟩),some (.int _ i),true=>(0≤i∧i<s.length)∧∀c,s[i.toNat]?=some c→ID m D (.ops all r) fs (AD σ d (.int .u8 c.toNat))
         |_,_,_=>False)
       |.binOp .add T x y G=>(match ev σ x,ev σ y with
         |some (.int .i64 a),some (.int .i64 b)=>Q1 (a+b)∧ID m D (.ops all r) fs (AD σ d (.int .i64 (a+b)))
         |_,_=>False)
       |.binOp .sub T x y G=>(match ev σ x,ev σ y with
         |some (.int .i64 a),some (.int .i64 b)=>Q1 (a-b)∧ID m D (.ops all r) fs (AD σ d (.int .i64 (a-b)))
         |_,_=>False)
       |op=>(match pv tb σ op with
         |some v=>ID m D (.ops all r) fs (AD σ d v)
         |none=>False)))))
end
section
variable{P:Program}{n:Nat}{Q:AQ}{ds:List Deferred}{w:wO}{B:List FB}{tb:Zk}
theorem Ft(F:tb.Ok P)(L:BK w B):∀(m:Nat)(O:List Nat)(k:Kt)(fs:List Fr)(σ:AW),ID P n Q ds w B tb m O k fs σ→Stp1 P n Q ds w k fs σ
 |0,_,_,_,_,h=>h tQ
 |m+1,O,.code c,fs,σ,h=>by
   have d:=Ft F L m;unfold ID at h
   split at h
   · exact HU (d _ _ _ _ h)
   · exact JV (d _ _ _ _ h)
   · exact Lk (d _ _ _ _ h)
   · exact BL (d _ _ _ _ h)
   · exact DK (d _ _ _ _ h)
   · exact C4 (d _ _ _ _ h)
   · split at h
     · rename_i D;exact F9 D C (d _ _ _ _ h)
     · rename_i D;exact JT D C (d _ _ _ _ h)
     · exact h.elim
   · exact h.elim
 |m+1,O,.out e,fs,σ,h=>by
   have d:=Ft F L m;unfold ID at h
   split at h
   · exact h.elim
   · split at h
     · exact Dd (d _ _ _ _ h)
     · exact W9 (d _ _ _ _ h)
     · exact Xi (d _ _ _ _ h)
     · exact h.elim
   · split at h
     · exact Jh (d _ _ _ _ h)
     · exact Xs (d _ _ _ _ h)
     · split at h
       · rename_i W
         have e:=Nat.eq_of_beq_eq_true W;subst e;exact PY (d _ _ _ _ h)
       · rename_i W;exact rJ W (d _ _ _ _ h)
     · exact h.elim
 |m+1,O,.ops all [],fs,σ,h=>by
   unfold ID at h;exact Al (Ft F L m _ _ _ _ h)
 |m+1,O,.ops all (⟨dst,op,ty,pos,af,g⟩::r),fs,σ,h=>by
   have d:=Ft F L m;unfold ID at h
   split at h
   · exact h.elim
   · rename_i Y
     split at h
     · split at h
       · rename_i hd;exact O2 Y hd (d _ _ _ _ h)
       · exact h.elim
     · exact h.elim
   · rename_i Y
     refine Bv Y ?_
     split at h
     · exact h.elim
     · split at h
       · exact h.elim
       rename_i hd
       split at h
       · split at h
         · split at h
           · rename_i D J
             split at h
             · rename_i Z
               have hc:=L.get Z
               split at h
               · split at h
                 · rename_i v K
                   obtain⟨⟨rfl,rfl⟩,h⟩:=h;rw[Ev] at K;exact Ab hd (J1 D (Gb F.ti J) (hc _ v K)) (d _ _ _ _ h)
                 · exact h.elim
               · split at h
                 · rename_i vs K
                   obtain⟨⟨rfl,rfl⟩,h⟩:=h;obtain⟨hk,hg2⟩:=Rm K;exact Ab hd (KZ D (Gb F.ti J) hk (λj v hj=>by have:=hc _ v (hg2 j v hj);rwa[← Nat.add_assoc] at this)) (d _ _ _ _ h)
                 · exact h.elim
             · exact h.elim
           · exact h.elim
         · exact h.elim
       · split at h
         · rename_i D G J
           exact Ab hd (O5 D G (Ku F.sl J) h.1) (d _ _ _ _ h.2)
         · exact h.elim
       · split at h
         · rename_i s _ i D G J
           obtain⟨h1,h⟩:=h;have U:i.toNat<s.length:=oM;exact Ab hd (CF D G (Rn F.st J) h1.1 (List.getElem?_eq_getElem U)) (d _ _ _ _ (h _ (List.getElem?_eq_getElem U)))
         · exact h.elim
       · split at h
         · rename_i D G
           exact Ab hd (LV D G h.1) (d _ _ _ _ h.2)
         · exact h.elim
       · split at h
         · rename_i D G
           exact Ab hd (GI D G h.1) (d _ _ _ _ h.2)
         · exact h.elim
       · split at h
         · rename_i v K
           exact Ab hd (QV F K) (d _ _ _ _ h)
         · exact h.elim
theorem gL{all r:List Oper}(fs:List Fr)(D:tb.Ok P)(m:Nat)(d:List Nat)(F:BK w B)(h:ID P n Q ds w B tb m d (.ops all r) fs σ):Gt P n all.toArray (KT P n Q fs) r σ ds w:=Ft D F m d _ fs σ h
theorem gP{c:Code}(fs:List Fr)(D:tb.Ok P)(m:Nat)(d:List Nat)(F:BK w B)(h:ID P n Q ds w B tb m d (.code c) fs σ):Hg P n c (KT P n Q fs) σ ds w:=Ft D F m d _ fs σ h
theorem gQ{e:Exit}(fs:List Fr)(D:tb.Ok P)(m:Nat)(d:List Nat)(F:BK w B)(h:ID P n Q ds w B tb m d (.out e) fs σ):(KT P n Q fs).q e σ ds w:=Ft D F m d _ fs σ h
theorem sL{all:Array Oper}{r:List Oper}{Q:AQ}{b:Bool}(t:Nat)(h:σ t=some (.bool b))(D:b=true→Gt P n all Q r (AD σ t (.bool true)) ds w)(F:b=false→Gt P n all Q r (AD σ t (.bool false)) ds w):Gt P n all Q r σ ds w:=by
 cases b with
 |true=>exact λa d=>D C a (d.le (A2 (le_refl _) h))
 |false=>exact λa d=>F C a (d.le (A2 (le_refl _) h))
theorem sP{c:Code}{Q:AQ}{b:Bool}(t:Nat)(d:σ t=some (.bool b))(h:b=true→Hg P n c Q (AD σ t (.bool true)) ds w)(D:b=false→Hg P n c Q (AD σ t (.bool false)) ds w):Hg P n c Q σ ds w:=by
 cases b with
 |true=>exact NQ (A2 (le_refl _) d) (h C)
 |false=>exact NQ (A2 (le_refl _) d) (D C)
theorem kP{c:Code}{Q:AQ}{b:Bool}(t:Nat)(c':Bool)(d:σ t=some (.bool b))(D:b=c')(h:Hg P n c Q (AD σ t (.bool c')) ds w):Hg P n c Q σ ds w:=by
 subst D;exact NQ (A2 (le_refl _) d) h
end
def cutp(d:AW)(I:wO→Prop)(h:List Deferred)(Q:AQ):AQ :=
 {q:=λe σ ds w=>match e with|.normal=>Le d σ∧ds=h∧I w|e=>Q.q e σ ds w,p:=Q.p}
theorem RC{P:Program}{n:Nat}{Q:AQ}{ds:List Deferred}{w:wO}{x y:Code}(d:AW)(I:wO→Prop)(D:Hg P n x (cutp d I ds Q) σ ds w)(F:∀w',I w'→Hg P n y Q d ds w'):Hg P n (.seq x y) Q σ ds w :=
 BL λa G=>wp_mono (D a G) λe a' w' he=>by
   cases e with
   |normal=>obtain⟨h,J,K,L,rfl,O⟩:=he;exact⟨h,_,K,NQ L (F w' O)⟩
   |panic c=>exact he
   |outgrown=>exact he
   |ret=>exact he
   |exit i=>exact he
   |goto i=>exact he
theorem Qj{d:AW}{I:wO→Prop}{ds:List Deferred}{Q:AQ}{w:wO}(D:Le d σ)(h:I w):(cutp d I ds Q).q .normal σ ds w:=⟨D,C,h⟩
end Go.SW
namespace Go.Proofs.YtplnpgpagkpnmaaGreatDoor
open Go.SW Go.RowKit Go.Proofs.Tryz
theorem N9:Kc prog 84=some (3,1,8,[.int .i64 0]):=kR
theorem WT:Kc prog 88=some (9,1,16,[.string ⟨#[]⟩]):=kR
theorem Cu:Kc prog 119=some (123,4,56,[.int .i64 0,.int .i64 0,.string ⟨#[]⟩,.slice none 0 0]):=kR
theorem jY:WG prog 3 21=some .i32:=kR
theorem Bz:Be prog 42:=Ag func42 kR kR
theorem DA:Be prog 88:=Ag func88 kR kR
theorem GL:Be prog 89:=Ag func89 kR kR
theorem eD:Be prog 94:=Ag func94 kR kR
theorem Mx:Be prog 96:=Ag func96 kR kR
theorem lO:Be prog 100:=Ag func100 kR kR
theorem W8:Be prog 101:=Ag func101 kR kR
theorem WI:Be prog 131:=Ag func131 kR kR
theorem Np:Be prog 132:=Ag func132 kR kR
theorem Xv:Be prog 134:=Ag func134 kR kR
theorem Xt:Be prog 140:=Ag func140 kR kR
theorem nT:Be prog 142:=Ag func142 kR kR
theorem jD:Be prog 143:=Ag func143 kR kR
theorem X5:Be prog 144:=Ag func144 kR kR
theorem RO:Be prog 145:=Ag func145 kR kR
theorem I1:Be prog 166:=Ag func166 kR kR
theorem Q8:Be prog 167:=Ag func167 kR kR
theorem MT:Be prog 174:=Ag func174 kR kR
theorem oN:Be prog 175:=Ag func175 kR kR
theorem nF:Be prog 195:=Ag func195 kR kR
theorem dH:Dh prog 123 0=some 0:=kR
theorem gA:Dh prog 123 1=some 1:=kR
theorem aB:Dh prog 123 2=some 2:=kR
theorem ZD:Dh prog 123 3=some 3:=kR
theorem fZ:Dh prog 222 0=some 0:=kR
theorem fU:Dh prog 222 1=some 1:=kR
theorem eW:Dh prog 222 2=some 2:=kR
theorem pE:wX prog 21 9=true:=kR
theorem Pa:FT prog 192=some (3,4):=kR
theorem cZ:FT prog 197=some (3,9):=kR
theorem Vk:FT prog 220=some (3,123):=kR
theorem Aj:prog.follows .mixedOrders=true:=kR
theorem xD:JR prog 123=some [(0,1),(1,1),(2,1),(3,1)]:=kR
theorem vY:JR prog 222=some [(0,1),(1,1),(2,1)]:=kR
theorem qsl84:Hl prog 84=some (3,1):=kR
theorem qsl88:Hl prog 88=some (9,1):=kR
theorem Oz:Hl prog 119=some (123,4):=kR
theorem Gu:AL prog 3=some (false,1):=kR
theorem qti9:AL prog 9=some (false,1):=kR
theorem TG:AL prog 84=some (false,1):=kR
theorem V1:AL prog 119=some (false,1):=kR
theorem AH:AL prog 123=some (true,4):=kR
theorem UE:AL prog 220=some (false,1):=kR
theorem Pv:prog.underlying 3=some (.int .i64):=kR
theorem uH:prog.underlying 126=some (.pointer 222):=kR
theorem jS:zO prog 4=some (.bool false):=kR
theorem qzo9:zO prog 9=some (.string ⟨#[]⟩):=kR
theorem K2:zO prog 123=some (.agg #[.int .i64 0,.int .i64 0,.string ⟨#[]⟩,.slice none 0 0]):=kR
theorem qzr3:Ff prog 3=some [.int .i64 0]:=kR
theorem qzr9:Ff prog 9=some [.string ⟨#[]⟩]:=kR
theorem zZ:Ff prog 84=some [.slice none 0 0]:=kR
theorem sE:Ff prog 123=some [.int .i64 0,.int .i64 0,.string ⟨#[]⟩,.slice none 0 0]:=kR
theorem tW:Ff prog 222=some [.map none,.int .i64 0,.int .i64 0]:=kR
theorem Ew:Be prog 38:=Ag func38 kR kR
theorem H2:Be prog 40:=Ag func40 kR kR
theorem CB:Be prog 41:=Ag func41 kR kR
theorem Ia:Be prog 43:=Ag func43 kR kR
theorem Wr:Be prog 44:=Ag func44 kR kR
theorem Fx:Be prog 47:=Ag func47 kR kR
theorem V5:Be prog 91:=Ag func91 kR kR
theorem wF:Be prog 92:=Ag func92 kR kR
theorem rY:Be prog 93:=Ag func93 kR kR
theorem yE:Be prog 95:=Ag func95 kR kR
theorem aZ:Be prog 97:=Ag func97 kR kR
theorem vX:Be prog 98:=Ag func98 kR kR
theorem K8:Be prog 99:=Ag func99 kR kR
theorem MV:Be prog 102:=Ag func102 kR kR
theorem Xp:Be prog 136:=Ag func136 kR kR
theorem Nx:Be prog 139:=Ag func139 kR kR
theorem lS:Be prog 141:=Ag func141 kR kR
theorem lY:Be prog 164:=Ag func164 kR kR
theorem QO:Be prog 168:=Ag func168 kR kR
theorem QD:Be prog 169:=Ag func169 kR kR
theorem mI:Be prog 191:=Ag func191 kR kR
theorem aH:Dh prog 121 0=some 0:=kR
theorem cS:Dh prog 121 1=some 1:=kR
theorem cR:Dh prog 121 2=some 3:=kR
theorem Z2:Dh prog 121 4=some 5:=kR
theorem bG:Dh prog 131 0=some 0:=kR
theorem bW:Dh prog 131 1=some 1:=kR
theorem cV:Dh prog 174 0=some 0:=kR
theorem iE:Dh prog 174 1=some 1:=kR
theorem gY:Dh prog 174 2=some 5:=kR
theorem fR:Dh prog 182 0=some 0:=kR
theorem dE:Dh prog 182 1=some 4:=kR
theorem ZC:Dh prog 184 0=some 0:=kR
theorem Z7:Dh prog 184 1=some 1:=kR
theorem eU:Dh prog 184 2=some 6:=kR
theorem LM:FT prog 127=some (9,174):=kR
theorem yK:yX prog 114=true:=kR
theorem wB:JR prog 114=some [(0,2),(2,1)]:=kR
theorem vE:JR prog 182=some [(0,4),(4,1)]:=kR
theorem xW:JR prog 184=some [(0,1),(1,5),(6,1)]:=kR
theorem SE:Hl prog 39=some (121,6):=kR
theorem FH:AL prog 27=some (true,2):=kR
theorem WD:AL prog 39=some (false,1):=kR
theorem vD:AL prog 116=some (false,1):=kR
theorem Bb:AL prog 121=some (true,6):=kR
theorem Hc:AL prog 126=some (false,1):=kR
theorem Mg:AL prog 127=some (false,1):=kR
theorem uA:AL prog 174=some (true,6):=kR
theorem tR:AL prog 182=some (true,5):=kR
theorem Fp:prog.underlying 9=some .string:=kR
theorem xQ:prog.underlying 116=some (.pointer 184):=kR
theorem QB:zO prog 174=some (.agg #[.slice none 0 0,.int .i64 0,.int .i64 0,.string ⟨#[]⟩,.slice none 0 0,.slice none 0 0]):=kR
theorem xJ:Ff prog 114=some [.int .i64 0,.int .i64 0,.int .i64 0]:=kR
theorem vG:Ff prog 121=some [.int .i64 0,.int .i64 0,.int .i64 0,.string ⟨#[]⟩,.int .i64 0,.slice none 0 0]:=kR
theorem vU:Ff prog 174=some [.slice none 0 0,.int .i64 0,.int .i64 0,.string ⟨#[]⟩,.slice none 0 0,.slice none 0 0]:=kR
theorem wQ:Ff prog 182=some [.int .i64 0,.int .i64 0,.string ⟨#[]⟩,.slice none 0 0,.slice none 0 0]:=kR
theorem uB:Ff prog 184=some [.string ⟨#[]⟩,.int .i64 0,.int .i64 0,.string ⟨#[]⟩,.slice none 0 0,.slice none 0 0,.pointer none]:=kR
theorem X4:Kc prog 25=some (103,2,32,[.string ⟨#[]⟩,.string ⟨#[]⟩]):=kR
theorem rZ:Kc prog 175=some (178,6,80,[.string ⟨#[]⟩,.int .i64 0,.int .i64 0,.int .i64 0,.string ⟨#[]⟩,.slice none 0 0]):=kR
theorem aA:Be prog 35:=Ag func35 kR kR
theorem sY:Be prog 36:=Ag func36 kR kR
theorem uS:Be prog 37:=Ag func37 kR kR
theorem NN:Be prog 39:=Ag func39 kR kR
theorem ZU:Be prog 45:=Ag func45 kR kR
theorem uY:Be prog 46:=Ag func46 kR kR
theorem uN:Be prog 85:=Ag func85 kR kR
theorem xS:Be prog 86:=Ag func86 kR kR
theorem rW:Be prog 87:=Ag func87 kR kR
theorem Qz:Be prog 90:=Ag func90 kR kR
theorem kC:Be prog 128:=Ag func128 kR kR
theorem kJ:Be prog 129:=Ag func129 kR kR
theorem Nv:Be prog 130:=Ag func130 kR kR
theorem nX:Be prog 135:=Ag func135 kR kR
theorem Xg:Be prog 137:=Ag func137 kR kR
theorem WW:Be prog 138:=Ag func138 kR kR
theorem aG:Dh prog 103 1=some 1:=kR
theorem aL:Dh prog 114 0=some 0:=kR
theorem dD:Dh prog 114 1=some 2:=kR
theorem iK:Dh prog 131 2=some 2:=kR
theorem iO:Dh prog 131 3=some 3:=kR
theorem ZR:Dh prog 131 4=some 4:=kR
theorem ZQ:Dh prog 172 0=some 0:=kR
theorem cY:Dh prog 172 1=some 1:=kR
theorem aK:Dh prog 172 3=some 3:=kR
theorem ZT:Dh prog 178 0=some 0:=kR
theorem aN:Dh prog 178 2=some 2:=kR
theorem QT:Zz prog 20=true:=kR
theorem NA:FT prog 128=some (9,3):=kR
theorem QI:FT prog 129=some (9,4):=kR
theorem Mi:FT prog 187=some (9,123):=kR
theorem qpl27:JR prog 27=some [(0,1),(1,1)]:=kR
theorem tG:JR prog 103=some [(0,1),(1,1)]:=kR
theorem yA:JR prog 131=some [(0,1),(1,1),(2,1),(3,1),(4,1)]:=kR
theorem tT:JR prog 172=some [(0,1),(1,1),(2,1),(3,1)]:=kR
theorem xO:JR prog 174=some [(0,1),(1,4),(5,1)]:=kR
theorem uR:JR prog 178=some [(0,1),(1,1),(2,4)]:=kR
theorem qsl25:Hl prog 25=some (103,2):=kR
theorem xR:Hl prog 169=some (172,4):=kR
theorem uC:Hl prog 175=some (178,6):=kR
theorem mP:zY prog 114=true:=kR
theorem aW:AL prog 25=some (false,1):=kR
theorem Gc:AL prog 28=some (false,1):=kR
theorem yG:AL prog 114=some (true,3):=kR
theorem OB:AL prog 128=some (false,1):=kR
theorem fE:AL prog 129=some (false,1):=kR
theorem sX:AL prog 172=some (true,4):=kR
theorem Om:AL prog 175=some (false,1):=kR
theorem xA:AL prog 178=some (true,6):=kR
theorem lT:zO prog 3=some (.int .i64 0):=kR
theorem qzr25:Ff prog 25=some [.slice none 0 0]:=kR
theorem qzr27:Ff prog 27=some [.int .i64 0,.int .i64 0]:=kR
theorem zP:Ff prog 28=some [.int .i64 0]:=kR
theorem vA:Ff prog 103=some [.string ⟨#[]⟩,.string ⟨#[]⟩]:=kR
theorem tJ:Ff prog 131=some [.pointer none,.map none,.map none,.map none,.int .i64 0]:=kR
theorem rX:Ff prog 172=some [.string ⟨#[]⟩,.string ⟨#[]⟩,.int .i64 0,.int .i64 0]:=kR
theorem uW:Ff prog 175=some [.slice none 0 0]:=kR
theorem yS:Ff prog 178=some [.string ⟨#[]⟩,.int .i64 0,.int .i64 0,.int .i64 0,.string ⟨#[]⟩,.slice none 0 0]:=kR
theorem PA:Kc prog 39=some (121,6,72,[.int .i64 0,.int .i64 0,.int .i64 0,.string ⟨#[]⟩,.int .i64 0,.slice none 0 0]):=kR
theorem bM:Be prog 30:=Ag func30 kR kR
theorem aQ:Be prog 31:=Ag func31 kR kR
theorem CV:Be prog 32:=Ag func32 kR kR
theorem tB:Be prog 33:=Ag func33 kR kR
theorem vI:Be prog 34:=Ag func34 kR kR
theorem AG:Be prog 73:=Ag func73 kR kR
theorem Hd:Be prog 74:=Ag func74 kR kR
theorem cT:Be prog 75:=Ag func75 kR kR
theorem UX:Be prog 76:=Ag func76 kR kR
theorem iD:Be prog 77:=Ag func77 kR kR
theorem Bm:Be prog 78:=Ag func78 kR kR
theorem tL:Be prog 79:=Ag func79 kR kR
theorem Ny:Be prog 80:=Ag func80 kR kR
theorem KC:Be prog 81:=Ag func81 kR kR
theorem Df:Be prog 82:=Ag func82 kR kR
theorem gN:Be prog 83:=Ag func83 kR kR
theorem Wl:Be prog 84:=Ag func84 kR kR
theorem Is:Be prog 125:=Ag func125 kR kR
theorem Gv:Be prog 126:=Ag func126 kR kR
theorem lF:Be prog 127:=Ag func127 kR kR
theorem kN:Be prog 158:=Ag func158 kR kR
theorem X6:Be prog 159:=Ag func159 kR kR
theorem Rs:Be prog 160:=Ag func160 kR kR
theorem Nl:Be prog 161:=Ag func161 kR kR
theorem R6:Be prog 188:=Ag func188 kR kR
theorem RH:Be prog 189:=Ag func189 kR kR
theorem gC:Dh prog 108 0=some 0:=kR
theorem Z8:Dh prog 162 0=some 0:=kR
theorem Z6:Dh prog 162 1=some 1:=kR
theorem aT:Dh prog 162 2=some 3:=kR
theorem ZL:Dh prog 162 3=some 4:=kR
theorem eX:Dh prog 164 0=some 0:=kR
theorem cE:Dh prog 164 1=some 5:=kR
theorem wV:JR prog 121=some [(0,1),(1,2),(3,1),(4,1),(5,1)]:=kR
theorem Im:Hl prog 110=some (164,6):=kR
theorem mA:zY prog 108=true:=kR
theorem wA:AL prog 108=some (true,2):=kR
theorem rS:AL prog 110=some (false,1):=kR
theorem sW:AL prog 164=some (true,6):=kR
theorem qzr39:Ff prog 39=some [.slice none 0 0]:=kR
theorem tS:Ff prog 108=some [.int .i64 0,.int .i64 0]:=kR
theorem vQ:Ff prog 164=some [.int .i64 0,.int .i64 0,.int .i64 0,.int .i64 0,.string ⟨#[]⟩,.slice none 0 0]:=kR
theorem rP:Kc prog 31=some (58,6,72,[.int .i64 0,.int .i64 0,.int .i64 0,.string ⟨#[]⟩,.int .i64 0,.slice none 0 0]):=kR
theorem qap34:Kc prog 34=some (102,2,32,[.string ⟨#[]⟩,.string ⟨#[]⟩]):=kR
theorem cN:Kc prog 43=some (61,5,48,[.int .i64 0,.int .i64 0,.int .i64 0,.int .i64 0,.string ⟨#[]⟩]):=kR
theorem pX:Kc prog 49=some (63,6,72,[.int .i64 0,.int .i64 0,.int .i64 0,.int .i64 0,.string ⟨#[]⟩,.slice none 0 0]):=kR
theorem HQ:Kc prog 69=some (87,6,96,[.string ⟨#[]⟩,.int .i64 0,.int .i64 0,.string ⟨#[]⟩,.slice none 0 0,.slice none 0 0]):=kR
theorem P2:Kc prog 73=some (75,4,56,[.int .i64 0,.int .i64 0,.string ⟨#[]⟩,.slice none 0 0]):=kR
theorem qap79:Kc prog 79=some (82,6,80,[.string ⟨#[]⟩,.int .i64 0,.int .i64 0,.int .i64 0,.string ⟨#[]⟩,.slice none 0 0]):=kR
theorem ZE:Kc prog 140=some (27,2,16,[.int .i64 0,.int .i64 0]):=kR
theorem GB:nH prog 23 9=some 5:=kR
theorem iH:WG prog 3 5=some .u8:=kR
theorem kZ:WG prog 3 22=some .u64:=kR
theorem eL:WG prog 5 3=some .i64:=kR
theorem nI:WG prog 5 22=some .u64:=kR
theorem WH:WG prog 22 3=some .i64:=kR
theorem L5:Be prog 4:=Ag func4 kR kR
theorem WO:Be prog 5:=Ag func5 kR kR
theorem qG:Be prog 6:=Ag func6 kR kR
theorem qL:Be prog 7:=Ag func7 kR kR
theorem qX:Be prog 8:=Ag func8 kR kR
theorem qent9:Be prog 9:=Ag func9 kR kR
theorem sN:Be prog 10:=Ag func10 kR kR
theorem wC:Be prog 11:=Ag func11 kR kR
theorem gH:Be prog 12:=Ag func12 kR kR
theorem wW:Be prog 13:=Ag func13 kR kR
theorem wS:Be prog 14:=Ag func14 kR kR
theorem CM:Be prog 15:=Ag func15 kR kR
theorem uX:Be prog 16:=Ag func16 kR kR
theorem K6:Be prog 17:=Ag func17 kR kR
theorem Iz:Be prog 18:=Ag func18 kR kR
theorem sO:Be prog 20:=Ag func20 kR kR
theorem J0:Be prog 23:=Ag func23 kR kR
theorem Uw:Be prog 24:=Ag func24 kR kR
theorem Mj:Be prog 25:=Ag func25 kR kR
theorem sA:Be prog 27:=Ag func27 kR kR
theorem IZ:Be prog 28:=Ag func28 kR kR
theorem uP:Be prog 29:=Ag func29 kR kR
theorem fH:Be prog 48:=Ag func48 kR kR
theorem xN:Be prog 49:=Ag func49 kR kR
theorem tM:Be prog 50:=Ag func50 kR kR
theorem Rg:Be prog 53:=Ag func53 kR kR
theorem wL:Be prog 56:=Ag func56 kR kR
theorem Wb:Be prog 59:=Ag func59 kR kR
theorem Rr:Be prog 60:=Ag func60 kR kR
theorem bL:Be prog 61:=Ag func61 kR kR
theorem CG:Be prog 62:=Ag func62 kR kR
theorem xK:Be prog 65:=Ag func65 kR kR
theorem R8:Be prog 66:=Ag func66 kR kR
theorem ZS:Be prog 67:=Ag func67 kR kR
theorem VU:Be prog 68:=Ag func68 kR kR
theorem rU:Be prog 69:=Ag func69 kR kR
theorem Xj:Be prog 103:=Ag func103 kR kR
theorem lI:Be prog 104:=Ag func104 kR kR
theorem Xc:Be prog 106:=Ag func106 kR kR
theorem W6:Be prog 107:=Ag func107 kR kR
theorem RX:Be prog 108:=Ag func108 kR kR
theorem mO:Be prog 109:=Ag func109 kR kR
theorem Rd:Be prog 111:=Ag func111 kR kR
theorem oJ:Be prog 112:=Ag func112 kR kR
theorem mU:Be prog 113:=Ag func113 kR kR
theorem lH:Be prog 115:=Ag func115 kR kR
theorem X2:Be prog 119:=Ag func119 kR kR
theorem oZ:Be prog 148:=Ag func148 kR kR
theorem oR:Dh prog 27 1=some 1:=kR
theorem nG:Dh prog 48 0=some 0:=kR
theorem nJ:Dh prog 48 1=some 1:=kR
theorem jU:Dh prog 48 2=some 2:=kR
theorem lP:Dh prog 56 0=some 0:=kR
theorem jE:Dh prog 58 0=some 0:=kR
theorem mM:Dh prog 58 1=some 1:=kR
theorem kT:Dh prog 58 2=some 3:=kR
theorem mK:Dh prog 58 3=some 4:=kR
theorem oO:Dh prog 58 4=some 5:=kR
theorem kA:Dh prog 61 0=some 0:=kR
theorem jQ:Dh prog 61 1=some 1:=kR
theorem oD:Dh prog 61 2=some 3:=kR
theorem jM:Dh prog 61 3=some 4:=kR
theorem lQ:Dh prog 63 0=some 0:=kR
theorem oT:Dh prog 63 1=some 5:=kR
theorem jV:Dh prog 72 0=some 0:=kR
theorem nO:Dh prog 72 1=some 1:=kR
theorem nK:Dh prog 72 2=some 2:=kR
theorem kD:Dh prog 72 4=some 4:=kR
theorem kX:Dh prog 72 5=some 5:=kR
theorem lN:Dh prog 75 0=some 0:=kR
theorem mW:Dh prog 75 1=some 1:=kR
theorem mH:Dh prog 75 2=some 2:=kR
theorem mV:Dh prog 75 3=some 3:=kR
theorem mN:Dh prog 82 0=some 0:=kR
theorem lD:Dh prog 82 2=some 2:=kR
theorem nU:Dh prog 87 0=some 0:=kR
theorem nB:Dh prog 87 1=some 1:=kR
theorem qpl48:JR prog 48=some [(0,1),(1,1),(2,1),(3,2)]:=kR
theorem qpl56:JR prog 56=some [(0,1),(1,2)]:=kR
theorem zU:JR prog 58=some [(0,1),(1,2),(3,1),(4,1),(5,1)]:=kR
theorem qpl61:JR prog 61=some [(0,1),(1,2),(3,1),(4,1)]:=kR
theorem qpl63:JR prog 63=some [(0,5),(5,1)]:=kR
theorem qpl68:JR prog 68=some [(0,1),(1,1),(2,1)]:=kR
theorem qpl72:JR prog 72=some [(0,1),(1,1),(2,1),(3,1),(4,1),(5,2)]:=kR
theorem qpl75:JR prog 75=some [(0,1),(1,1),(2,1),(3,1)]:=kR
theorem qpl78:JR prog 78=some [(0,1),(1,1),(2,4),(6,1)]:=kR
theorem qpl82:JR prog 82=some [(0,1),(1,1),(2,4)]:=kR
theorem qpl87:JR prog 87=some [(0,1),(1,4),(5,1)]:=kR
theorem tH:JR prog 102=some [(0,1),(1,1)]:=kR
theorem Uq:fJ prog 27=true:=kR
theorem qsl23:Hl prog 23=some (5,1):=kR
theorem zW:Hl prog 31=some (58,6):=kR
theorem qsl34:Hl prog 34=some (102,2):=kR
theorem qsl43:Hl prog 43=some (61,5):=kR
theorem ND:Hl prog 49=some (63,6):=kR
theorem N4:Hl prog 69=some (87,6):=kR
theorem qsl70:Hl prog 70=some (78,7):=kR
theorem qsl73:Hl prog 73=some (75,4):=kR
theorem qsl79:Hl prog 79=some (82,6):=kR
theorem hZ:Hl prog 140=some (27,2):=kR
theorem fB:AL prog 4=some (false,1):=kR
theorem qti31:AL prog 31=some (false,1):=kR
theorem pK:AL prog 43=some (false,1):=kR
theorem qti49:AL prog 49=some (false,1):=kR
theorem N5:AL prog 58=some (true,6):=kR
theorem bZ:AL prog 61=some (true,5):=kR
theorem qti63:AL prog 63=some (true,6):=kR
theorem Xx:AL prog 65=some (false,1):=kR
theorem PB:AL prog 69=some (false,1):=kR
theorem qti70:AL prog 70=some (false,1):=kR
theorem qti73:AL prog 73=some (false,1):=kR
theorem DU:AL prog 75=some (true,4):=kR
theorem qti87:AL prog 87=some (true,6):=kR
theorem qun4:prog.underlying 4=some .bool:=kR
theorem qzr5:Ff prog 5=some [.int .u8 0]:=kR
theorem qzr48:Ff prog 48=some [.slice none 0 0,.int .i64 0,.bool false,.int .i64 0,.int .i64 0]:=kR
theorem zG:Ff prog 56=some [.bool false,.int .i64 0,.int .i64 0]:=kR
theorem qzr58:Ff prog 58=some [.int .i64 0,.int .i64 0,.int .i64 0,.string ⟨#[]⟩,.int .i64 0,.slice none 0 0]:=kR
theorem qzr61:Ff prog 61=some [.int .i64 0,.int .i64 0,.int .i64 0,.int .i64 0,.string ⟨#[]⟩]:=kR
theorem qzr63:Ff prog 63=some [.int .i64 0,.int .i64 0,.int .i64 0,.int .i64 0,.string ⟨#[]⟩,.slice none 0 0]:=kR
theorem qzr68:Ff prog 68=some [.slice none 0 0,.int .i64 0,.int .i64 0]:=kR
theorem qzr72:Ff prog 72=some [.pointer none,.slice none 0 0,.slice none 0 0,.slice none 0 0,.int .i64 0,.int .i64 0,.int .i64 0]:=kR
theorem qzr75:Ff prog 75=some [.int .i64 0,.int .i64 0,.string ⟨#[]⟩,.slice none 0 0]:=kR
theorem qzr78:Ff prog 78=some [.string ⟨#[]⟩,.slice none 0 0,.int .i64 0,.int .i64 0,.string ⟨#[]⟩,.slice none 0 0,.int .i64 0]:=kR
theorem qzr82:Ff prog 82=some [.string ⟨#[]⟩,.int .i64 0,.int .i64 0,.int .i64 0,.string ⟨#[]⟩,.slice none 0 0]:=kR
theorem qzr87:Ff prog 87=some [.string ⟨#[]⟩,.int .i64 0,.int .i64 0,.string ⟨#[]⟩,.slice none 0 0,.slice none 0 0]:=kR
theorem wY:Ff prog 102=some [.string ⟨#[]⟩,.string ⟨#[]⟩]:=kR
end Go.Proofs.YtplnpgpagkpnmaaGreatDoor
namespace Go.Proofs.YtplnpgpagkpnmaaGreatDoor
open Go.SW Go.SP Go.RowKit Go.Proofs.Tryz
def gT:Zk:=⟨[(123,3,3),(121,4,5),(164,0,0),(162,3,4),(121,2,3),(121,1,1),(164,1,5),(123,0,0),(121,0,0),(123,1,1),(131,0,0),(162,0,0),(58,0,0),(58,4,5),(162,1,1),(58,2,3),(161,2,2),(123,2,2),(131,1,1),(174,0,0),(182,0,0),(182,1,4),(72,4,4),(72,0,0),(61,1,1),(162,2,3),(27,1,1),(222,0,0),(222,2,2),(184,2,6),(184,1,1),(131,2,2),(131,4,4),(103,1,1),(75,0,0),(75,3,3),(75,2,2),(72,5,5),(63,0,0),(61,0,0),(61,3,4),(63,1,5),(48,2,2),(56,0,0),(108,0,0),(161,1,1),(27,0,0),(360,0,0),(222,1,1),(174,2,5),(174,1,1),(184,0,0),(172,1,1),(172,3,3),(172,0,0),(178,0,0),(178,2,2),(114,0,0),(114,1,2),(131,3,3),(75,1,1),(58,1,1),(87,1,1),(87,0,0),(72,2,2),(82,0,0),(82,2,2),(72,1,1),(48,1,1),(48,0,0),(61,2,3),(58,3,4)],[(119,123,4),(39,121,6),(84,3,1),(110,164,6),(73,75,4),(88,9,1),(31,58,6),(23,5,1),(49,63,6),(175,178,6),(169,172,4),(25,103,2),(69,87,6),(79,82,6),(140,27,2),(43,61,5),(104,162,5),(165,110,1),(70,78,7),(34,102,2)],[9],[],[(3,false,1),(9,false,1),(123,true,4),(27,true,2),(121,true,6),(119,false,1),(164,true,6),(39,false,1),(110,false,1),(75,true,4),(28,false,1),(84,false,1),(31,false,1),(4,false,1),(126,false,1),(58,true,6),(174,true,6),(63,true,6),(116,false,1),(25,false,1),(73,false,1),(87,true,6),(61,true,5),(49,false,1),(162,true,5),(108,true,2),(104,false,1),(182,true,5),(172,true,4),(178,true,6),(114,true,3),(70,false,1),(69,false,1)],[(123,zT),(121,zN),(27,[iV 0,iV 0]),(3,[iV 0]),(75,zT),(164,[iV 0,iV 0,iV 0,iV 0,.string ⟨#[]⟩,.slice none 0 0]),(9,[.string ⟨#[]⟩]),(108,[iV 0,iV 0]),(158,[iV 0,iV 0]),(174,[.slice none 0 0,iV 0,iV 0,.string ⟨#[]⟩,.slice none 0 0,.slice none 0 0]),(58,zN),(28,[iV 0]),(162,[iV 0,iV 0,iV 0,iV 0,.string ⟨#[]⟩]),(114,[iV 0,iV 0,iV 0]),(182,[iV 0,iV 0,.string ⟨#[]⟩,.slice none 0 0,.slice none 0 0]),(184,[.string ⟨#[]⟩,iV 0,iV 0,.string ⟨#[]⟩,.slice none 0 0,.slice none 0 0,.pointer none]),(178,[.string ⟨#[]⟩,iV 0,iV 0,iV 0,.string ⟨#[]⟩,.slice none 0 0]),(172,[.string ⟨#[]⟩,.string ⟨#[]⟩,iV 0,iV 0]),(87,[.string ⟨#[]⟩,iV 0,iV 0,.string ⟨#[]⟩,.slice none 0 0,.slice none 0 0]),(61,[iV 0,iV 0,iV 0,iV 0,.string ⟨#[]⟩]),(39,[.slice none 0 0]),(84,[.slice none 0 0]),(222,[.map none,iV 0,iV 0]),(175,[.slice none 0 0]),(131,[.pointer none,.map none,.map none,.map none,iV 0]),(25,[.slice none 0 0]),(103,[.string ⟨#[]⟩,.string ⟨#[]⟩]),(82,[.string ⟨#[]⟩,iV 0,iV 0,iV 0,.string ⟨#[]⟩,.slice none 0 0]),(68,[.slice none 0 0,iV 0,iV 0]),(72,[.pointer none,.slice none 0 0,.slice none 0 0,.slice none 0 0,iV 0,iV 0,iV 0]),(78,[.string ⟨#[]⟩,.slice none 0 0,iV 0,iV 0,.string ⟨#[]⟩,.slice none 0 0,iV 0]),(102,[.string ⟨#[]⟩,.string ⟨#[]⟩]),(63,[iV 0,iV 0,iV 0,iV 0,.string ⟨#[]⟩,.slice none 0 0]),(48,[.slice none 0 0,iV 0,.bool false,iV 0,iV 0]),(56,[.bool false,iV 0,iV 0]),(5,[.int .u8 0])],[(27,[(0,1),(1,1)]),(123,[(0,1),(1,1),(2,1),(3,1)]),(75,[(0,1),(1,1),(2,1),(3,1)]),(121,[(0,1),(1,2),(3,1),(4,1),(5,1)]),(158,[(0,2)]),(108,[(0,2)]),(162,[(0,1),(1,2),(3,1),(4,1)]),(182,[(0,4),(4,1)]),(184,[(0,1),(1,5),(6,1)]),(174,[(0,1),(1,4),(5,1)]),(87,[(0,1),(1,4),(5,1)]),(222,[(0,1),(1,1),(2,1)]),(114,[(0,2),(2,1)]),(178,[(0,1),(1,1),(2,4)]),(172,[(0,1),(1,1),(2,1),(3,1)]),(131,[(0,1),(1,1),(2,1),(3,1),(4,1)]),(103,[(0,1),(1,1)]),(82,[(0,1),(1,1),(2,4)]),(68,[(0,1),(1,1),(2,1)]),(72,[(0,1),(1,1),(2,1),(3,1),(4,1),(5,2)]),(78,[(0,1),(1,1),(2,4),(6,1)]),(102,[(0,1),(1,1)]),(61,[(0,1),(1,2),(3,1),(4,1)]),(63,[(0,5),(5,1)]),(58,[(0,1),(1,2),(3,1),(4,1),(5,1)]),(48,[(0,1),(1,1),(2,1),(3,2)]),(56,[(0,1),(1,2)])],[(126,222),(116,184)]⟩
theorem iQ:gT.Ok prog:=⟨(aI ZD (aI Z2 (aI eX (aI ZL (aI cR (aI cS (aI cE (aI dH (aI aH (aI gA (aI bG (aI Z8 (aI jE (aI oO (aI Z6 (aI kT (aI Q0 (aI aB (aI bW (aI cV (aI fR (aI dE (aI kD (aI jV (aI jQ (aI aT (aI oR (aI fZ (aI eW (aI eU (aI Z7 (aI iK (aI ZR (aI aG (aI lN (aI mV (aI mH (aI kX (aI lQ (aI kA (aI jM (aI oT (aI jU (aI lP (aI gC (aI EU (aI uT (aI kO (aI fU (aI gY (aI iE (aI ZC (aI cY (aI aK (aI ZQ (aI ZT (aI aN (aI aL (aI dD (aI iO (aI mW (aI mM (aI nB (aI nU (aI nK (aI mN (aI lD (aI nO (aI nJ (aI nG (aI oD (aI mK tQ)))))))))))))))))))))))))))))))))))))))))))))))))))))))))))))))))))))))),(aI Oz (aI SE (aI qsl84 (aI Im (aI qsl73 (aI qsl88 (aI zW (aI qsl23 (aI ND (aI uC (aI xR (aI qsl25 (aI N4 (aI qsl79 (aI hZ (aI qsl43 (aI DV (aI GK (aI qsl70 (aI qsl34 tQ)))))))))))))))))))),(aI Fp tQ),tQ,(aI Gu (aI qti9 (aI AH (aI FH (aI Bb (aI V1 (aI sW (aI WD (aI rS (aI DU (aI Gc (aI TG (aI qti31 (aI fB (aI Hc (aI N5 (aI uA (aI qti63 (aI vD (aI aW (aI qti73 (aI qti87 (aI bZ (aI qti49 (aI DE (aI wA (aI CX (aI tR (aI sX (aI xA (aI yG (aI qti70 (aI PB tQ))))))))))))))))))))))))))))))))),(aI sE (aI vG (aI qzr27 (aI qzr3 (aI qzr75 (aI vQ (aI qzr9 (aI tS (aI rI (aI vU (aI qzr58 (aI zP (aI Dt (aI xJ (aI wQ (aI uB (aI yS (aI rX (aI qzr87 (aI qzr61 (aI qzr39 (aI zZ (aI tW (aI uW (aI tJ (aI qzr25 (aI vA (aI qzr82 (aI qzr68 (aI qzr72 (aI qzr78 (aI wY (aI qzr63 (aI qzr48 (aI zG (aI qzr5 tQ)))))))))))))))))))))))))))))))))))),(aI qpl27 (aI xD (aI qpl75 (aI wV (aI pl158 (aI rM (aI Tc (aI vE (aI xW (aI xO (aI qpl87 (aI vY (aI wB (aI uR (aI tT (aI yA (aI tG (aI qpl82 (aI qpl68 (aI qpl72 (aI qpl78 (aI tH (aI qpl61 (aI qpl63 (aI zU (aI qpl48 (aI qpl56 tQ))))))))))))))))))))))))))),(aI uH (aI xQ tQ))⟩
section
variable{n:Nat}{Q:AQ}{ds:List Deferred}{X:Cx}{R:List RB}{B B0:List FB}{Fs:List (wO→Fq→Prop)}{fs:List Fr}{σ:AW}{H Hk:List HB}{l:List Oper}{J:wO→Prop}{w:wO}
theorem Af{k:Kt}(m:Nat)(d:List Nat)(h:ex prog n Q ds X R B Fs gT m d k fs σ H):Aw prog n Q ds X R B Fs k fs σ H:=go iQ m d h
theorem Bh{t:OT}(m:Nat)(d:List Nat)(h:Vy prog n Q ds X R B Fs gT l Hk B0 J m d t σ H):CE prog n Q ds X R B Fs l Hk B0 J true t σ H:=goT iQ m d h
theorem KP{all r:List Oper}(fs:List Fr)(m:Nat)(d:List Nat)(D:BK w B)(h:ID prog n Q ds w B gT m d (.ops all r) fs σ):Gt prog n all.toArray (KT prog n Q fs) r σ ds w:=gL fs iQ m d D h
theorem Pr{c:Code}(fs:List Fr)(m:Nat)(d:List Nat)(D:BK w B)(h:ID prog n Q ds w B gT m d (.code c) fs σ):Hg prog n c (KT prog n Q fs) σ ds w:=gP fs iQ m d D h
theorem Aa{k:Kt}(m:Nat)(h:ex prog n Q ds X R B Fs gT m [] k fs σ H):Aw prog n Q ds X R B Fs k fs σ H:=go iQ m [] h
theorem AN{t:OT}(m:Nat)(h:Vy prog n Q ds X R B Fs gT l Hk B0 J m [] t σ H):CE prog n Q ds X R B Fs l Hk B0 J true t σ H:=goT iQ m [] h
theorem Ax{all r:List Oper}(fs:List Fr)(m:Nat)(h:ID prog n Q ds w [] gT m [] (.ops all r) fs σ):Gt prog n all.toArray (KT prog n Q fs) r σ ds w:=gL fs iQ m [] (Fh _) h
theorem Ay{c:Code}(fs:List Fr)(m:Nat)(h:ID prog n Q ds w [] gT m [] (.code c) fs σ):Hg prog n c (KT prog n Q fs) σ ds w:=gP fs iQ m [] (Fh _) h
theorem Es{e:Exit}(fs:List Fr)(m:Nat)(h:ID prog n Q ds w [] gT m [] (.out e) fs σ):(KT prog n Q fs).q e σ ds w:=gQ fs iQ m [] (Fh _) h
theorem ggQ{e:Exit}(fs:List Fr)(m:Nat)(d:List Nat)(D:BK w B)(h:ID prog n Q ds w B gT m d (.out e) fs σ):(KT prog n Q fs).q e σ ds w:=gQ fs iQ m d D h
end
theorem W1{l:lU}(h:l≠[]):l[(0:Int).toNat]?=some (Zs l):=by cases l <;> simp_all [Zs]
theorem Cp(w:wO)(t:AB)(F:Value) :
  AO prog 74 #[.agg #[iV t.k,iV t.ln,iV t.co,iV t.nm,S t.tx,F]] w λv w'=>v=.bool (t.k==0)∧AT w w':=by
 have d:=AT.refl w;refine enter func74 C C C<|Ay [] 2 (λ_=>DM C C C λb1 K h D G J=>?_);have d:=d.trans D;exact KP [.sq _] 13 [0,0] (kB h (Fh _)) (y2<|λ_=>Bw (A3 C (Ak C))<|⟨C,d⟩)
theorem FG(w:wO)(t:AB)(F:Value) :
  AO prog 75 #[.agg #[iV t.k,iV t.ln,iV t.co,iV t.nm,S t.tx,F]] w λv w'=>v=.bool (t.k==5)∧AT w w':=by
 have d:=AT.refl w;refine enter func75 C C C<|Ay [] 2 (λ_=>DM C C C λb1 K h D G J=>?_);have d:=d.trans D;exact KP [.sq _] 13 [0,0] (kB h (Fh _)) (y2<|λ_=>Bw (A3 C (Ak C))<|⟨C,d⟩)
theorem Di(w:wO)(t:AB)(J:Value)(s:lU) :
  AO prog 125 #[.agg #[iV t.k,iV t.ln,iV t.co,iV t.nm,S t.tx,J],S s] w λv w'=>v=.bool (t.isWord s)∧AT w w':=by
 have D:=AT.refl w;refine enter func125 C C C<|Ay [] 2 (λ_=>DM C C C λb1 O d F K L=>?_);have D:=D.trans F;refine KP [.sq _] 6 [0,0] (kB d (Fh _)) (y2<|λ_=>Az C (Ar eQ C C) (FG _ ⟨_,_,_,_,_⟩ _) ?_);rintro _ Q ⟨rfl,h⟩;have d:=d.ext h;have D:=D.trans h;have HR:=h.size;refine Ab C (As C)<|sL 7 C (λG=>?_) (λG=>?_);exact KP [.sq _] 10 [0,4] (kB d (Fh _)) (y2<|λ_=>Bw (A3 C (Ak C))<|⟨by simp[AB.isWord,G],D⟩);exact Ax [.sq _] 10 (λ_=>Bw (A3 C (Ak C))<|⟨by simp[AB.isWord,G],D⟩)
theorem CT(w:wO)(n d h:Int) :
  AO prog 126 #[iV n,iV d,iV h] w λv w'=>v=.bool (SP.within n d h)∧AT w w':=by
 have F:=AT.refl w;refine enter func126 C C C<|Ay [] 11 (λ_=>?_)
 ·
  refine sL 10 C (λD=>?_) (λD=>?_)
  rotate_left
  all_goals
   exact Ax [.sq _] 8 (λ_=>Bw (A3 C (Ak C))<|⟨by simp[SP.within,D],F⟩)

theorem Eo(w:wO)(Q:Gl w)(t:AB)(U:Value)(K:t.k=5→t.tx≠[])(hlen:t.tx.length≤100000) :
  AO prog 80 #[.agg #[iV t.k,iV t.ln,iV t.co,iV t.nm,S t.tx,U]] w λv w'=>v=.bool t.isVar∧AT w w':=by
 have h:=AT.refl w;refine enter func80 C C C<|Ay [] 2 (λ_=>DM C C C λb1 w1 d L W Y=>?_);have h:=h.trans L;refine KP [.sq _] 6 [0,0] (kB d (Fh _)) (y2<|λ_=>Az C (Ar eQ C C) (FG _ ⟨_,_,_,_,_⟩ _) ?_);rintro _ w2 ⟨rfl,D⟩;have d:=d.ext D;have h:=h.trans D;have HR:=D.size;refine Ab C (As C)<|sL 5 C (λG=>?_) (λG=>?_);refine KP [.sq _] 6 [0,4] (kB d (Fh _)) (y2<|λ_=>sL 11 C (λJ=>?_) (λJ=>?_));refine KP [.sq _] 3 [0,4] (kB d (Fh _)) (y2<|λ_=>B6 C C C<|Ab C (CF C C JW dC (W1 (K (by simpa using G))))<|Ax [.sq _] 3 (λ_=>sL 18 C (λO=>?_) (λO=>?_)));refine KP [.sq _] 3 [0,4] (kB d (Fh _)) (y2<|λ_=>B6 C C C<|Ab C (Ic C C (by simp;omega))<|B6 C C C<|Ab C (Ic C C (by simp;omega))<|B6 C C C<|Az C (Ar pT C C) (Hw _ (Q.ext h) _ _ dC) ?_);rintro _ w3 ⟨rfl,F⟩;have d:=d.ext F;have h:=h.trans F;have Z:=F.size;refine Ax [.sq _] 6 (λ_=>Bw (A3 C (Ak C))<|⟨?_,h⟩);show _=Value.bool (t.k==5&&(!(t.tx==[95])&&(((Zs t.tx).toNat:Int) != 39&&!Oh t.tx)));rw[G,J,O];rfl;refine Ax [.sq _] 12 (λ_=>Bw (A3 C (Ak C))<|⟨?_,h⟩);show _=Value.bool (t.k==5&&(!(t.tx==[95])&&(((Zs t.tx).toNat:Int) != 39&&!Oh t.tx)));simp[G,J,O];refine Ax [.sq _] 19 (λ_=>Bw (A3 C (Ak C))<|⟨?_,h⟩);show _=Value.bool (t.k==5&&(!(t.tx==[95])&&(((Zs t.tx).toNat:Int) != 39&&!Oh t.tx)));simp[G,J];refine Ax [.sq _] 25 (λ_=>Bw (A3 C (Ak C))<|⟨?_,h⟩);show _=Value.bool (t.k==5&&(!(t.tx==[95])&&(((Zs t.tx).toNat:Int) != 39&&!Oh t.tx)));simp[G]
end Go.Proofs.YtplnpgpagkpnmaaGreatDoor
