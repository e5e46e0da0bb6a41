/- What it rests on, part 2. -/
import Derived.Test.YtelmolopaolbcaaGreatDoorGn1
import Derived.Laws.MakeOwn
import Derived.Lib.Join
import Derived.Lib.ItoaNum
set_option linter.unusedVariables false
set_option linter.unusedSimpArgs false
namespace Go.SW
open Go.RowKit
def P2:List RB→Nat→Option RB
 | [],_=>none
 |x::_,0=>some x
 |_::l,i+1=>P2 l i
def T7:List RB→Nat→RB→Option (List RB)
 | [],_,_=>none
 |_::H,0,e=>some (e::H)
 |x::H,i+1,e=>match T7 H i e with
   |some r=>some (x::r)
   |none=>none
def QY:List RB→Nat→Option (List RB)
 | [],_=>none
 |_::H,0=>some H
 |x::H,i+1=>match QY H i with
   |some r=>some (x::r)
   |none=>none
theorem DG:∀{R:List RB}{i:Nat}{r:RB},P2 R i=some r→r∈R
 | [],_,_,h=>by cases h
 |_::_,0,_,h=>by cases h;exact .head _
 |_::R,i+1,r,h=>.tail _ (DG (R:=R) h)
theorem TF:∀{R R':List RB}{i:Nat},QY R i=some R'→R'.Sublist R
 | [],_,_,h=>by cases h
 |_::_,_,0,h=>by cases h;exact List.sublist_cons_self _ _
 |x::R,R',i+1,h=>by
   unfold QY at h
   cases d:QY R i with
   |none=>rw[d] at h;cases h
   |some r=>rw[d] at h;cases h;exact (TF d).cons_cons x
def Js(R:List RB):List Nat:=R.filterMap λr=>rb r.a
theorem Ug:∀{R R':List RB}{i:Nat}{r r':RB},P2 R i=some r→T7 R i r'=some R'→(∀x,x∈R'→x=r'∨x∈R)∧∀N,(rb r'.a=rb r.a∨∃k,rb r'.a=some k∧k∉N∧k∉Js R)→(N++Js R).Nodup→(N++Js R').Nodup∧(∀b,b∈Js R'→some b=rb r'.a∨b∈Js R)∧∀x,x∈R'→x=r'∨(x∈R∧(rb x.a=none∨rb x.a≠rb r.a))
 | [],_,_,_,_,h,_=>by cases h
 |x::R,R',0,r,r',hg,U=>by
   cases hg;cases U
   refine⟨λy D=>by rcases List.mem_cons.1 D with h|h;exact .inl h;exact .inr (.tail _ h),λN G J=>?_⟩
   have Z:Js (x::R)=(match rb x.a with|some b=>b::Js R|none=>Js R):=by
     unfold Js;rw[List.filterMap_cons];cases rb x.a <;> rfl
   have e2:Js (r'::R)=(match rb r'.a with|some b=>b::Js R|none=>Js R):=by
     unfold Js;rw[List.filterMap_cons];cases rb r'.a <;> rfl
   have K:(N++Js R).Nodup:=by
     rw[Z] at J
     cases F:rb x.a with
     |none=>rw[F] at J;exact J
     |some b=>rw[F] at J;exact (List.Sublist.append (List.Sublist.refl N) (List.sublist_cons_self b _)).nodup J
   have O:∀y,y∈R→rb y.a=none∨rb y.a≠rb x.a:=λy D=>by
     cases d:rb y.a with
     |none=>exact .inl C
     |some b =>
       refine .inr λe=>?_;rw[Z,← e] at J;have h2:=(List.nodup_append.1 J).2.1;exact (List.nodup_cons.1 h2).1 (List.mem_filterMap.2 ⟨y,D,d⟩)
   refine⟨?_,?_,?_⟩
   · rcases G with G|⟨k,G,Y,Q⟩
     · rw[e2,G,← Z];exact J
     · rw[e2,G]
       have hkR':k∉Js R:=λh=>Q (by rw[Z];cases rb x.a with|none=>exact h|some b=>exact .tail _ h)
       exact List.nodup_append.2 ⟨(List.nodup_append.1 K).1,List.nodup_cons.2 ⟨hkR',(List.nodup_append.1 K).2.1⟩,λa ha b d e=>by
         rcases List.mem_cons.1 d with rfl|d
         · exact Y (e▸ha)
         · exact (List.nodup_append.1 K).2.2 a ha b d e⟩
   · intro b d
     rw[e2] at d
     cases hr:rb r'.a with
     |none=>rw[hr] at d;right;rw[Z];cases rb x.a with|none=>exact d|some c=>exact .tail _ d
     |some c =>
       rw[hr] at d;rcases List.mem_cons.1 d with rfl|d
       · exact .inl C
       · right;rw[Z];cases rb x.a with|none=>exact d|some c=>exact .tail _ d
   · intro y D
     rcases List.mem_cons.1 D with h|h
     · exact .inl h
     · exact .inr ⟨.tail _ h,O y h⟩
 |x::R,R',i+1,r,r',hg,U=>by
   unfold T7 at U
   cases hr:T7 R i r' with
   |none=>rw[hr] at U;cases U
   |some R1 =>
     rw[hr] at U;cases U;obtain⟨h1,h2⟩:=Ug (R:=R) hg hr
     refine⟨λy D=>by
       rcases List.mem_cons.1 D with rfl|D
       · exact .inr (.head _)
       · rcases h1 y D with h|h
         · exact .inl h
         · exact .inr (.tail _ h),λN G J=>?_⟩
     have ex:∀L:List RB,Js (x::L)=(match rb x.a with|some b=>b::Js L|none=>Js L):=λL=>by
       unfold Js;rw[List.filterMap_cons];cases rb x.a <;> rfl
     cases F:rb x.a with
     |none =>
       rw[ex,F] at J;obtain⟨a1,a2,a3⟩:=h2 N (by rw[ex,F] at G;exact G) J;refine⟨by rw[ex,F];exact a1,λb d=>by rw[ex,F] at d;rw[ex,F];exact a2 b d,λy D=>?_⟩;rcases List.mem_cons.1 D with rfl|D
       · exact .inr ⟨.head _,.inl F⟩
       · rcases a3 y D with h|h
         · exact .inl h
         · exact .inr ⟨.tail _ h.1,h.2⟩
     |some c =>
       rw[ex,F] at J;simp only at J;have hn':((N++[c])++Js R).Nodup:=by simpa using J
       obtain⟨a1,a2,a3⟩:=h2 (N++[c]) (by
         rw[ex,F] at G;rcases G with G|⟨k,G,Y,Q⟩
         · exact .inl G
         · exact .inr ⟨k,G,λh=>by
             rcases List.mem_append.1 h with h|h
             · exact Y h
             · exact Q (by rw[List.mem_singleton] at h;subst h;exact .head _),λh=>Q (.tail _ h)⟩) hn'
       have hrc:rb r.a≠some c:=λe=>by
         have:c∈Js R:=List.mem_filterMap.2 ⟨r,DG hg,e⟩;exact (List.nodup_append.1 hn').2.2 c (List.mem_append.2 (.inr (.head _))) c this C
       refine⟨by rw[ex,F];simpa using a1,λb d=>?_,λy D=>?_⟩
       · rw[ex,F] at d
         rcases List.mem_cons.1 d with rfl|d
         · right;rw[ex,F];exact .head _
         · rcases a2 b d with h|h
           · exact .inl h
           · right;rw[ex,F];exact .tail _ h
       · rcases List.mem_cons.1 D with rfl|D
         · exact .inr ⟨.head _,.inr (by rw[F];exact λe=>hrc e.symm)⟩
         · rcases a3 y D with h|h
           · exact .inl h
           · exact .inr ⟨.tail _ h.1,h.2⟩
section
variable{X:Cx}{w w':wO}{f:Fq}{H:List HB}{R R':List RB}{B:List FB}{Fs:List (wO→Fq→Prop)}
variable {xs:lV}{b c' i n n':Nat}{a':oA}{e:tI}
theorem AQ.grow{r:RB}{xs':lV}(h:AQ X w f H R B Fs)(Q:P2 R i=some r)(hs:T7 R i ⟨r.e,r.size,a',c',n',xs'⟩=some R')(hr:BX w' r.e r.size a' c' n' xs')(F:Fj r.a w a' w'):AQ X w' f H R' B Fs:=by
 have D:∀b,rb r.a=some b→b∈CO H R:=λb d=>List.mem_append.2 (.inr (List.mem_filterMap.2 ⟨r,DG Q,d⟩))
 have Z:Ii w f w' f:=λk=>⟨Nat.le_refl _,λo G=>by
   have J:k<w.heap.size:=by
     rcases Nat.lt_or_ge k w.heap.size with K|K
     · exact K
     · have:=h.val k K;omega
   exact Dz (F.block k J λe=>by have:=(h.own k (D k e.symm)).1;omega) o⟩
 have hmi:∀k,X.MI k→w'.heap[k]?=w.heap[k]?:=λk J=>F.block k (h.mi k J).1 λe=>(h.own k (D k e.symm)).2.2 J;have O:w.heap.size∉CO H R:=λK=>Nat.lt_irrefl _ (h.lt K);obtain⟨h1,h2⟩:=Ug Q hs
 obtain⟨a1,a2,a3⟩:=h2 (H.map HB.b) (by
   rcases F.own with G|G
   · exact .inl G
   · exact .inr ⟨_,G,λK=>O (List.mem_append.2 (.inl K)),λK=>O (List.mem_append.2 (.inr K))⟩) h.nd
 have U:∀e,e∈H→w'.heap[e.b]?=w.heap[e.b]?:=λe he=>F.block e.b (h.blk e he).lt λK=>by
   exact (List.nodup_append.1 h.nd).2.2 e.b (List.mem_map.2 ⟨e,he,C⟩) e.b (List.mem_filterMap.2 ⟨r,DG Q,K.symm⟩) C
 exact {stp:=⟨F.os.trans h.stp.os,F.tape.trans h.stp.tape,F.output.trans h.stp.output,Nat.le_trans h.stp.size F.size,λk J hm=>(F.block k (Nat.lt_of_lt_of_le J h.stp.size) λe=>by have:=h.rnw r (DG Q) k e.symm;omega).trans (h.stp.block k J hm)⟩,
         old:=h.old,val:=λk J=>h.val k (Nat.le_trans F.size J),ent:=h.ent.trans Z,res:=h.stab _ _ _ _ h.res Z hmi,stab:=h.stab,
         mi:=λk J=>⟨Nat.lt_of_lt_of_le (h.mi k J).1 F.size,(h.mi k J).2⟩,
         blk:=λe he=>(U e he).trans (h.blk e he),
         row:=λx L=>by
           rcases a3 x L with rfl|⟨L,hne⟩
           · exact hr
           · exact (h.row x L).grow F hne,
         nd:=a1,
         own:=λb d=>by
           rcases List.mem_append.1 d with d|d
           · exact h.own b (List.mem_append.2 (.inl d))
           · rcases a2 b d with d|d
             · rcases F.own with G|G
               · exact h.own b (D b (by rw[← G];exact d.symm))
               · have:b=w.heap.size:=Option.some.inj (d.trans G)
                 subst this;exact⟨h.val _ (Nat.le_refl _),.inl h.stp.size,λhm=>Nat.lt_irrefl _ (h.mi _ hm).1⟩
             · exact h.own b (List.mem_append.2 (.inr d)),
         hnw:=h.hnw,
         rnw:=λx L b d=>by
           rcases a3 x L with rfl|⟨L,_⟩
           · rcases F.own with G|G
             · exact h.rnw r (DG Q) b (by rw[← G];exact d)
             · have:b=w.heap.size:=Option.some.inj (d.symm.trans G)
               subst this;exact h.stp.size
           · exact h.rnw x L b d,
         fro:=λx L=>(h.fro x L).mono Z,fac:=λφ Y=>h.mono φ Y _ _ _ _ (h.fac φ Y) Z,mono:=h.mono}
theorem AQ.rowNil(h:AQ X w f H R B Fs)(e:tI)(size:Nat):AQ X w f H (⟨e,size,none,0,0,[]⟩::R) B Fs :=
 {h with
   row:=λr d=>by
     rcases List.mem_cons.1 d with rfl|d
     · exact Gf _ _ _
     · exact h.row r d,
   rnw:=λr d b D=>by
     rcases List.mem_cons.1 d with rfl|d
     · cases D
     · exact h.rnw r d b D}
theorem AQ.done{size c:Nat}(h:AQ X w f H R B Fs)(G:P2 R i=some ⟨e,size,some ⟨b,0,none⟩,c,n,xs⟩)(J:QY R i=some R'):∃f',AQ X w f' H R' (⟨b,0,xs⟩::B) Fs:=by
 have F:=h.row _ (DG G);have O:=h.own b (List.mem_append.2 (.inr (List.mem_filterMap.2 ⟨_,DG G,C⟩)));have hnw:=h.rnw _ (DG G) b C;have hlt:b<w.heap.size:=F.lt C
 let f':Fq:=λk=>if k=b then n*size else f k
 have hF:Ii w f w f':=λk=>by
   show f k≤(if k=b then n*size else f k)∧_
   split
   · rename_i d;subst d;rw[O.1];exact⟨Nat.zero_le _,λo ho=>by omega⟩
   · exact⟨Nat.le_refl _,λ_ _=>C⟩
 have K:∀k,k≠b→f' k=f k:=λk d=>if_neg d;have D:=TF J
 have hbR:b∉CO H R':=by
   have:∀(R R':List RB)(i:Nat)(N:List Nat),P2 R i=some ⟨e,size,some ⟨b,0,none⟩,c,n,xs⟩→QY R i=some R'→(N++Js R).Nodup→b∉N++Js R':=by
     intro R
     induction R with
     |nil=>intro R' i N G;cases G
     |cons x R ih =>
       intro R' i N G J Q
       cases i with
       |zero =>
         cases G;cases J
         have e1:Js (⟨e,size,some ⟨b,0,none⟩,c,n,xs⟩::R)=b::Js R:=rfl;rw[e1] at Q;intro U;rcases List.mem_append.1 U with U|U
         · exact (List.nodup_append.1 Q).2.2 b U b (.head _) C
         · exact (List.nodup_cons.1 (List.nodup_append.1 Q).2.1).1 U
       |succ i =>
         unfold QY at J
         cases F:QY R i with
         |none=>rw[F] at J;cases J
         |some R1 =>
           rw[F] at J;cases J
           have ex:∀L:List RB,Js (x::L)=(match rb x.a with|some b=>b::Js L|none=>Js L):=λL=>by
             unfold Js;rw[List.filterMap_cons];cases rb x.a <;> rfl
           rw[ex] at Q ⊢
           cases Z:rb x.a with
           |none=>rw[Z] at Q;exact ih R1 i N G F Q
           |some k =>
             rw[Z] at Q;have:=ih R1 i (N++[k]) G F (by simpa using Q);simpa using this
   exact this R R' i (H.map HB.b) G J h.nd
 refine⟨f',{stp:=h.stp,old:=λk d=>(K k oM).trans (h.old k d),val:=λk d=>(K k oM).trans (h.val k d),ent:=h.ent.trans hF,res:=h.stab _ _ _ _ h.res hF (λ_ _=>C),stab:=h.stab,
               mi:=λk d=>⟨(h.mi k d).1,(K k (λe=>O.2.2 (e▸d))).trans (h.mi k d).2.1,(h.mi k d).2.2⟩,
               blk:=h.blk,row:=λr F=>h.row r (D.subset F),nd:=(List.Sublist.append (List.Sublist.refl _) (D.filterMap _)).nodup h.nd,
               own:=λk d=>by
                 have hk2:k∈CO H R:=(List.Sublist.append (List.Sublist.refl (H.map (·.b))) (D.filterMap _)).subset d;exact⟨(K k (λe=>hbR (e▸d))).trans (h.own k hk2).1,(h.own k hk2).2⟩,
               hnw:=h.hnw,rnw:=λr F=>h.rnw r (D.subset F),
               fro:=λx Z=>by
                 rcases List.mem_cons.1 Z with rfl|Z
                 · intro j v Y
                   have Y:xs[j]?=some v:=Y;obtain⟨hl,_⟩:=List.getElem?_eq_some_iff.1 Y;rcases F.2 with ⟨h0,_⟩|⟨b',l,ha,U,hnc,_,hll,ht⟩
                   · cases h0
                   · cases ha
                     have hxl:xs.length=n*size:=F.1;have ht:l.take (n*size)=xs:=ht;refine⟨?_,?_⟩
                     · show 0+j<(if b=b then n*size else f b)
                       rw[if_pos C];omega
                     · show w.cell? ⟨b,0+j,none⟩=some v
                       rw[U.cell,Nat.zero_add];rw[← ht,List.getElem?_take] at Y
                       split at Y
                       · exact Y
                       · cases Y
                 · exact (h.fro x Z).mono hF,
               fac:=λφ hφ=>h.mono φ hφ _ _ _ _ (h.fac φ hφ) hF,mono:=h.mono}⟩
end
def AI:List (wO→Fq→Prop)→wO→Fq→Prop
 | [],_,_=>True
 |φ::l,w,f=>φ w f∧AI l w f
def Aw:List (wO→Fq→Prop)→Prop
 | []=>True
 |φ::l=>FU φ∧Aw l
theorem AI.mem:∀{l:List (wO→Fq→Prop)}{w:wO}{f:Fq},AI l w f→∀φ,φ∈l→φ w f
 | [],_,_,_,_,h=>by cases h
 |_::_,_,_,h,φ,D=>by
   rcases List.mem_cons.1 D with rfl|D
   · exact h.1
   · exact AI.mem h.2 φ D
theorem Aw.mem:∀{l:List (wO→Fq→Prop)},Aw l→∀φ,φ∈l→FU φ
 | [],_,_,h=>by cases h
 |_::_,h,φ,D=>by
   rcases List.mem_cons.1 D with rfl|D
   · exact h.1
   · exact Aw.mem h.2 φ D
def B3{α:Type}(val:α→Value)(q:α→Prop)(F':α→List (wO→Fq→Prop))(w:wO)(f:Fq)(v:Value)(w':wO):Prop:=∃x f',v=val x∧q x∧CK (λ_=>False) w f w' f'∧AI (F' x) w' f'
def Fg{α:Type}(val:α→Value)(q:α→Prop)(MI:Nat→Prop)(I':α→wO→Fq→Prop)(F':α→List (wO→Fq→Prop))(w:wO)(f:Fq)(v:Value)(w':wO):Prop:=∃x f',v=val x∧q x∧CK MI w f w' f'∧I' x w' f'∧AI (F' x) w' f'
def Vl(w:wO)(f:Fq):Prop:=∀b,w.heap.size≤b→f b=0
abbrev X0(w:wO)(f:Fq):Cx:=⟨λ_=>False,λ_=>False,λ_ _=>True,w,f⟩
theorem Ci{w:wO}{f:Fq}{Fs:List (wO→Fq→Prop)}(D:Vl w f)(F:AI Fs w f)(hm:Aw Fs):AQ (X0 w f) w f [] [] [] Fs where
 stp:=MW.refl _ _
 old _ _:=rfl
 val:=D
 ent:=Ii.refl _ _
 res:=trivial
 stab _ _ _ _ _ _ _:=trivial
 mi _ h:=h.elim
 blk _ h:=by cases h
 row _ h:=by cases h
 nd:=List.nodup_nil
 own _ h:=by cases h
 hnw _ h:=by cases h
 rnw _ h:=by cases h
 fro _ h:=by cases h
 fac:=F.mem
 mono:=hm.mem
theorem AQ.vl{X:Cx}{w:wO}{f:Fq}{H:List HB}{R:List RB}{B:List FB}{Fs:List (wO→Fq→Prop)}(h:AQ X w f H R B Fs):Vl w f:=h.val
def Lo:List HB→Nat→Option (List HB)
 | [],_=>none
 |_::H,0=>some H
 |x::H,i+1=>match Lo H i with
   |some r=>some (x::r)
   |none=>none
theorem L1:∀{H H':List HB}{i:Nat},Lo H i=some H'→H'.Sublist H
 | [],_,_,h=>by cases h
 |_::_,_,0,h=>by cases h;exact List.sublist_cons_self _ _
 |x::H,H',i+1,h=>by
   unfold Lo at h
   cases D:Lo H i with
   |none=>rw[D] at h;cases h
   |some r=>rw[D] at h;cases h;exact (L1 D).cons_cons x
theorem LR:∀{H H':List HB}{i:Nat}{e:HB}{L:List Nat},Ib H i=some e→Lo H i=some H'→(H.map HB.b++L).Nodup→e.b∉H'.map HB.b++L
 | [],_,_,_,_,h,_,_=>by cases h
 |x::H,H',0,e,L,G,D,J=>by
   cases G;cases D
   exact (List.nodup_cons.1 J).1
 |x::H,H',i+1,e,L,G,D,J=>by
   unfold Lo at D
   cases K:Lo H i with
   |none=>rw[K] at D;cases D
   |some r =>
     rw[K] at D;cases D;have F:(x.b::(H.map HB.b++L)).Nodup:=J;have U:=LR (H:=H) (L:=L) G K (List.nodup_cons.1 F).2;intro Y;have O:e.b∈x.b::(r.map HB.b++L):=Y;rcases List.mem_cons.1 O with h|h
     · exact (List.nodup_cons.1 F).1 (by rw[← h];exact List.mem_append.2 (.inl (List.mem_map.2 ⟨e,BO G,C⟩)))
     · exact U h
section
variable{X:Cx}{w w':wO}{f:Fq}{H H':List HB}{R R':List RB}{B:List FB}{Fs:List (wO→Fq→Prop)}
variable {l:lV}{b i:Nat}
theorem AQ.doneH{T:tI}(h:AQ X w f H R B Fs)(Y:Ib H i=some ⟨b,l,T,true⟩)(hs:Lo H i=some H'):∃f',AQ X w f' H' R (⟨b,0,l⟩::B) Fs:=by
 have F:=h.blk _ (BO Y);have K:=h.own b (List.mem_append.2 (.inl (List.mem_map.2 ⟨_,BO Y,C⟩)));have hnw:=h.hnw _ (BO Y) C;have hlt:b<w.heap.size:=F.lt
 let f':Fq:=λk=>if k=b then l.length else f k
 have Z:Ii w f w f':=λk=>by
   show f k≤(if k=b then l.length else f k)∧_
   split
   · rename_i D;subst D;rw[K.1];exact⟨Nat.zero_le _,λo ho=>by omega⟩
   · exact⟨Nat.le_refl _,λ_ _=>C⟩
 have J:∀k,k≠b→f' k=f k:=λk D=>if_neg D;have G:=L1 hs;have hnd:(H.map HB.b++Js R).Nodup:=h.nd;have hbR:b∉CO H' R:=LR (L:=Js R) Y hs hnd;have O:(CO H' R).Sublist (CO H R):=List.Sublist.append (G.map _) (List.Sublist.refl _);have hnw':X.w0.heap.size≤b:=hnw
 refine⟨f',{stp:=h.stp,old:=λk D=>(J k oM).trans (h.old k D),val:=λk D=>(J k oM).trans (h.val k D),ent:=h.ent.trans Z,res:=h.stab _ _ _ _ h.res Z (λ_ _=>C),stab:=h.stab,
               mi:=λk D=>⟨(h.mi k D).1,(J k (λe=>K.2.2 (e▸D))).trans (h.mi k D).2.1,(h.mi k D).2.2⟩,
               blk:=λe he=>h.blk e (G.subset he),row:=h.row,nd:=O.nodup h.nd,
               own:=λk D=>⟨(J k (λe=>hbR (e▸D))).trans (h.own k (O.subset D)).1,(h.own k (O.subset D)).2⟩,
               hnw:=λe he=>h.hnw e (G.subset he),rnw:=h.rnw,
               fro:=λx hx=>by
                 rcases List.mem_cons.1 hx with rfl|hx
                 · intro j v hj
                   have hj:l[j]?=some v:=hj;obtain⟨hl,_⟩:=List.getElem?_eq_some_iff.1 hj;refine⟨?_,?_⟩
                   · show 0+j<(if b=b then l.length else f b)
                     rw[if_pos C];omega
                   · show w.cell? ⟨b,0+j,none⟩=some v
                     have F:AM w b l T:=F;rw[F.cell,Nat.zero_add,hj]
                 · exact (h.fro x hx).mono Z,
               fac:=λφ U=>h.mono φ U _ _ _ _ (h.fac φ U) Z,mono:=h.mono}⟩
end
section
variable{P:Program}{n:Nat}{Q:AX}{ds:List Deferred}{X:Cx}{R R':List RB}{B:List FB}{Fs:List (wO→Fq→Prop)}{tb:Zt}{fs:List Fr}{σ:Bf}{H:List HB}
variable{all r:List Oper}{ty T:tI}{pos:String}{af:Array Edge}{g:Option (Nat×Bool)}{d:Nat}{x y:Operand}
theorem PA{k:KX}(e:tI)(size:Nat)(h:A3 P n Q ds X (⟨e,size,none,0,0,[]⟩::R) B Fs k fs σ H):A3 P n Q ds X R B Fs k fs σ H:=λw f D=>h w f (D.rowNil e size)
variable {ag nw:Bool}{l news vs xs z zl:lV}{b bytes cs m o off:Nat}{a:oA}{Ts e:tI}
theorem pW{k:KX}{size c:Nat}(i:Nat)(F:P2 R i=some ⟨e,size,some ⟨b,0,none⟩,c,m,xs⟩)(G:QY R i=some R')(h:A3 P n Q ds X R' (⟨b,0,xs⟩::B) Fs k fs σ H):A3 P n Q ds X R B Fs k fs σ H:=λw f J=>by
 obtain⟨f',D⟩:=J.done F G;exact h w f' D
theorem Dc{k:KX}{H':List HB}{T:tI}(i:Nat)(F:Ib H i=some ⟨b,l,T,true⟩)(G:Lo H i=some H')(h:A3 P n Q ds X R (⟨b,0,l⟩::B) Fs k fs σ H'):A3 P n Q ds X R B Fs k fs σ H:=λw f J=>by
 obtain⟨f',D⟩:=J.doneH F G;exact h w f' D
theorem Dq{size:Nat}{c k src:Nat}{R':oA→Nat→List RB}(i j:Nat)(O:gd all σ g=some true)(hd:Nat.blt d n=true)(U:OB P T=some (e,size,bytes,zl))(D:Nat.beq zl.length size=true)(F:Nat.blt 0 size=true)
   (Y:ev σ x=some (.slice a k c)) (Z:ev σ y=some (.slice (some ⟨src,0,none⟩) 1 cs)) (L:P2 R i=some ⟨e,size,a,c,k,xs⟩) (hH:Ib H j=some ⟨src,news,Ts,nw⟩) (hl:Nat.beq news.length size=true) (h1:MV news=true)
   (hS:∀a' c',T7 R i ⟨e,size,a',c',k+1,xs++news⟩=some (R' a' c')) (G:(k+1)*bytes≤140737488355328) (J:k+1≤9223372036854775807)
   (h:∀a' c',A3 P n Q ds X (R' a' c') B Fs (.ops all r) fs (AF σ d (.slice a' (k+1) c')) H) :
   A3 P n Q ds X R B Fs (.ops all (⟨some d,.call {callee:=.builtin .append,args:=#[x,y],argTypes:=#[T,T]},ty,pos,af,g⟩::r)) fs σ H:=λw f K =>
 B2 O (Bb hd U D F Y Z (K.row _ (DG L)) (K.blk _ (BO hH)) hl h1 G J λa' c' w' hr hG=>h a' c' w' f (K.grow L (hS a' c') hr hG))
theorem Zz{size:Nat}{c k src:Nat}{R':oA→Nat→List RB}(i j:Nat)(U:gd all σ g=some true)(hd:Nat.blt d n=true)(Y:OB P T=some (e,size,bytes,zl))(D:Nat.beq zl.length size=true)(F:Nat.blt 0 size=true)
   (Z:ev σ x=some (.slice a k c)) (hx:ev σ y=some (.slice (some ⟨src,off,none⟩) m cs)) (O:P2 R i=some ⟨e,size,a,c,k,xs⟩) (hB:nth B j=some ⟨src,off,news⟩) (hl:news.length=m*size) (h1:∀v∈news,v.oneCell'=true) (hm:0<m)
   (hS:∀a' c',T7 R i ⟨e,size,a',c',k+m,xs++news⟩=some (R' a' c')) (G:(k+m)*bytes≤140737488355328) (J:k+m≤9223372036854775807)
   (h:∀a' c',A3 P n Q ds X (R' a' c') B Fs (.ops all r) fs (AF σ d (.slice a' (k+m) c')) H) :
   A3 P n Q ds X R B Fs (.ops all (⟨some d,.call {callee:=.builtin .append,args:=#[x,y],argTypes:=#[T,T]},ty,pos,af,g⟩::r)) fs σ H:=λw f K=>by
 obtain⟨a',c',w',hr,L,hG⟩:=XB (ty:=ty) Y D F Z hx (K.row _ (DG O)) (λj u hj=>by rw[EH];exact (K.getB hB j u hj).2) hl h1 hm G J;exact B2 U (Ab hd hr (h a' c' w' f (K.grow O (hS a' c') L hG)))
theorem mb0{k:Nat}(F:gd all σ g=some true)(hd:Nat.blt d n=true)(G:Je P T=some (e,k))
   (h:∀b,A3 P n Q ds X (⟨e,k,some ⟨b,0,none⟩,0,0,[]⟩::R) B Fs (.ops all r) fs (AF σ d (.slice (some ⟨b,0,none⟩) 0 0)) H) :
   A3 P n Q ds X R B Fs (.ops all (⟨some d,.buildSlice T 0 #[],ty,pos,af,g⟩::r)) fs σ H:=λw f J=>by
 obtain⟨i,hu,K,rfl⟩:=H8 G
 have L:(Instr.buildSlice T 0 #[]).run P w=.ok (.slice (some ⟨w.heap.size,0,none⟩) 0 0) (w.alloc (.cells #[] e)):=by
   simp[Instr.buildSlice,run_underlying hu,sizeOf,typeInfo,K,Instr.fill,newRow,show Array.range 0=#[] from C]
 refine B2 F (Ab hd (v:=.slice (some ⟨w.heap.size,0,none⟩) 0 0) (w':=w.alloc (.cells #[] e)) (λY _ _ _ _ O=>by simp[execOp,L]) ?_)
 have D:=(J.rowNil e i.size).grow (i:=0) (a':=some ⟨w.heap.size,0,none⟩) (c':=0) (n':=0) (xs':=[]) (w':=w.alloc (.cells #[] e)) C C
   ⟨by simp,.inr ⟨w.heap.size,[],C,Np w [] _,Nat.le_refl _,Nat.zero_le _,by simp,by simp⟩⟩ ⟨C,C,C,by rw[H4];omega,λk U _=>JS w _ k U,.inr C⟩
 exact h w.heap.size _ f D
theorem Sx{size:Nat}(hz:z.length=size)(h:0<size)(m:Nat):madeCells z.toArray (m*size)=(Gv m z).toArray:=by
 rw[← Rb size z hz h m,← Pe m size z hz h];rfl
theorem Ln{size:Nat}(hz:z.length=size):∀m,(Gv m z).length=m*size
 |0=>by simp[Gv]
 |m+1=>by rw[Gv,List.length_append,Ln hz m,hz,Nat.add_mul];omega
theorem mmk{size:Nat}{x y:Operand}(hg:gd all σ g=some true)(hd:Nat.blt d n=true)(F:OB P T=some (e,size,bytes,zl))(U:Nat.beq zl.length size=true)(Y:Nat.blt 0 size=true)
   (hx:ev σ x=some (.int .i64 (m:Int))) (hy:ev σ y=some (.int .i64 (m:Int))) (hb:bytes*m≤281474976710656) (G:m≤maxLen)
   (h:∀b,A3 P n Q ds X (⟨e,size,some ⟨b,0,none⟩,m,m,Gv m zl⟩::R) B Fs (.ops all r) fs (AF σ d (.slice (some ⟨b,0,none⟩) m m)) H) :
   A3 P n Q ds X R B Fs (.ops all (⟨some d,.makeSlice T x y,ty,pos,af,g⟩::r)) fs σ H:=λw f hM=>by
 unfold OB at F
 split at F
 · rename_i O hu
   split at F
   · rename_i i hi
     split at F
     · rename_i z hz
       injection F with F
       obtain⟨rfl,rfl,rfl,rfl⟩:=by simpa using F
       have D:z.cells.toList.length=i.size:=Nat.eq_of_beq_eq_true U;have J:0<i.size:=Nat.le_of_ble_eq_true Y;have K:(m:Int)≤9223372036854775807:=by have:=G;unfold maxLen at this;omega
       have Z:(i.bytes:Int)*(m:Int)≤281474976710656:=by
         have:((i.bytes*m:Nat):Int)≤281474976710656:=oM;rwa[Int.natCast_mul] at this
       have hr:=run_make (P:=P) w T O i z hu hi hz .i64 .i64 (m:Int) (m:Int) oM oM Z K;simp only[Int.toNat_natCast] at hr
       have hc:madeCells z.cells (m*i.size)=(Gv m z.cells.toList).toArray:=by
         have:=Sx (z:=z.cells.toList) D J m;simpa using this
       rw[hc] at hr;refine B2 hg (Ab hd (v:=.slice (some ⟨w.heap.size,0,none⟩) m m) (w':=w.alloc (.cells (Gv m z.cells.toList).toArray O)) ?_ ?_)
       · intro ρ _ _ _ _ L
         simp[execOp,L _ _ hx,L _ _ hy,hr]
       · have hM1:=(hM.rowNil O i.size).grow (i:=0) (a':=some ⟨w.heap.size,0,none⟩) (c':=m) (n':=m) (xs':=Gv m z.cells.toList) (w':=w.alloc (.cells (Gv m z.cells.toList).toArray O)) C C
           ⟨Ln D m,.inr ⟨w.heap.size,_,C,Np w _ _,Nat.le_refl _,G,Ln D m,by rw[List.take_of_length_le (by rw[Ln D m];exact Nat.le_refl _)]⟩⟩
           ⟨C,C,C,by rw[H4];omega,λk hk _=>JS w _ k hk,.inr C⟩
         exact h w.heap.size _ f hM1
     · cases F
   · cases F
 · cases F
theorem Q0:∀(vs cs:lV)(o k:Nat),(Et cs o vs).take k=Et (cs.take k) o vs
 | [],_,_,_=>rfl
 |v::vs,cs,o,k=>by rw[Et,Et,Q0 vs (cs.set o v) (o+1) k,List.take_set]
theorem mrs{size c k:Nat}{v:Value}(i:Nat)(xs':lV)(hg:gd all σ g=some true)(hx:ev σ x=some (.pointer (some ⟨b,o,none⟩)))(hy:ev σ y=some v)(hv:Ia v=some vs)(hT:AP P T=some (ag,k))(U:Nat.beq vs.length k=true)(h1:MV vs=true)
   (Y:P2 R i=some ⟨e,size,some ⟨b,0,none⟩,c,m,xs⟩) (hf:o+vs.length≤m*size) (he:Et xs o vs=xs') (hS:T7 R i ⟨e,size,some ⟨b,0,none⟩,c,m,xs'⟩=some R')
   (h:A3 P n Q ds X R' B Fs (.ops all r) fs σ H):A3 P n Q ds X R B Fs (.ops all (⟨none,.store T x y,ty,pos,af,g⟩::r)) fs σ H:=λw f Z=>by
 subst he;have hr:=Z.row _ (DG Y);rcases hr.2 with ⟨h0,_⟩|⟨b',l,ha,G,F,J,D,K⟩
 · cases h0
 · cases ha
   have L:xs.length=m*size:=hr.1;have D:l.length=c*size:=D;have K:l.take (m*size)=xs:=K;have hms:m*size≤c*size:=Nat.mul_le_mul_right _ F;have G:AM w b l e:=G;refine B2 hg (JB (Pb hx hy (GZ hv) hT U G h1 oM) (h _ f (Z.grow Y hS ?_ ?_)))
   · refine⟨by rw[Gw];exact L,.inr ⟨b,Et l o vs,C,setRow_heap w b _ _ e _ G,F,J,by rw[Gw];exact D,?_⟩⟩
     rw[Q0,K]
   · exact⟨C,C,C,by simp[World.setRow],λk U O=>setRow_other w b k _ (λe=>O (by rw[e];rfl)),.inl C⟩
end
def Kp(Hk:List HB)(B:List FB)(J:wO→Prop)(w:wO):Prop:=(∀e,e∈Hk→AM w e.b e.l e.T)∧(∀e,e∈B→∀(j:Nat)(v:Value),e.l[j]?=some v→w.cell? ⟨e.b,e.off+j,none⟩=some v)∧J w
def MR(H:List HB):List Nat→Option (List HB)
 | []=>some []
 |i::l=>match Ib H i,MR H l with
   |some e,some r=>some (e::r)
   |_,_=>none
theorem Kg{H:List HB}:∀{D:List Nat}{Hk:List HB},MR H D=some Hk→∀e,e∈Hk→e∈H
 | [],_,h,e,he=>by cases h;cases he
 |i::D,Hk,h,e,he=>by
   unfold MR at h
   split at h
   · rename_i e0 r F G
     cases h
     rcases List.mem_cons.1 he with rfl|he
     · exact BO F
     · exact Kg G e he
   · cases h
variable {af:Array Edge}{args:Array Value}{σ':Bf}{nw top:Bool}{f:Fq}{fid:FuncId}{XX:List PanicEntry→wO→Prop}{b d i id off:Nat}{g:Option (Nat×Bool)}{pos:String}{T ty:tI}{w:wO}
theorem AQ.kp{X:Cx}{H Hk:List HB}{R:List RB}{B:List FB}{Fs:List (wO→Fq→Prop)}{J:wO→Prop}(h:AQ X w f H R B Fs)(D:∀e,e∈Hk→e∈H)(F:∀w f,X.I w f→CK X.M X.w0 X.f0 w f→J w):Kp Hk B J w :=
 ⟨λe he=>h.blk e (D e he),λe he j v G=>(h.fro e he j v G).2,F w f h.res h.exm⟩
section
variable(P:Program)(n:Nat)(Q:AX)(ds:List Deferred)(X:Cx)(R:List RB)(B:List FB)(Fs:List (wO→Fq→Prop))(tb:Zt)(l:List Oper)(Hk:List HB)(B0:List FB)(J:wO→Prop)
def Dj(top:Bool)(t:OT)(σ:Bf)(H:List HB):Prop:=∀w f,AQ X w f H R B Fs→WG P n l Q (Kp Hk B0 J) top t σ ds w
def Xi:Nat→List Nat→OT→Bf→List HB→Prop
 |0,_,t,σ,H=>True→Dj P n Q ds X R B Fs l Hk B0 J true t σ H
 |m+1,D,.rd i k,σ,H=>(match nth l i with
   |some ⟨some d,op,_,_,_,g⟩=>(match Nat.blt d n with
     |false=>False
     |true=>(match gd l σ g with
       |none=>False
       |some false=>Xi m D k (AF σ d undef) H
       |some true=>(match op with
         |.load T x=>(match D with
           | []=>False
           |h::D=>(match ev σ x,rA tb.ti T with
             |some (.pointer (some ⟨b,o,none⟩)),some (a,q)=>(match Nat.blt h 100 with
               |true=>(match Ib Hk h with
                 |some ⟨F,c,_,_⟩=>(match a with
                   |false=>(match nth c o with
                     |some v=>F=b∧Xi m D k (AF σ d v) H
                     |none=>False)
                   |true=>(match Vz c o q with
                     |some vs=>F=b∧Xi m D k (AF σ d (.agg ⟨vs⟩)) H
                     |none=>False))
                 |none=>False)
               |false=>(match D with
                 | []=>False
                 |j::D=>(match nth B0 (h-100) with
                   |some ⟨F,off,c⟩=>(match a with
                     |false=>(match nth c j with
                       |some v=>(F=b∧off+j=o)∧Xi m D k (AF σ d v) H
                       |none=>False)
                     |true=>(match Vz c j q with
                       |some vs=>(F=b∧off+j=o)∧Xi m D k (AF σ d (.agg ⟨vs⟩)) H
                       |none=>False))
                   |none=>False)))
             |_,_=>False))
         |.indexAddr T x y=>(match ev σ x,ev σ y,X6 tb.sl T with
           |some (.slice (some ⟨b,o,none⟩) len _),some (.int _ i),some (_,q)=>(0≤i∧i<len)∧Xi m D k (AF σ d (.pointer (some ⟨b,o+i.toNat*q,none⟩))) H
           |_,_,_=>False)
         |.binOp .add T x y G=>(match ev σ x,ev σ y with
           |some (.int .i64 a),some (.int .i64 b)=>QN (a+b)∧Xi m D k (AF σ d (.int .i64 (a+b))) H
           |some (.string ⟨⟨a⟩⟩),some (.string ⟨⟨b⟩⟩)=>a.length+b.length≤9223372036854775807∧Xi m D k (AF σ d (S (a++b))) H
           |_,_=>False)
         |.binOp .sub T x y G=>(match ev σ x,ev σ y with
           |some (.int .i64 a),some (.int .i64 b)=>QN (a-b)∧Xi m D k (AF σ d (.int .i64 (a-b))) H
           |_,_=>False)
         |op=>(match pv tb σ op with
           |some v=>Xi m D k (AF σ d v) H
           |none=>False))))
   |_=>False)
 |_+1,_,_,_,_=>False
end
section
variable{P:Program}{n:Nat}{Q:AX}{ds:List Deferred}{X:Cx}{R:List RB}{B:List FB}{Fs:List (wO→Fq→Prop)}{tb:Zt}{l:List Oper}{Hk:List HB}{B0:List FB}{J:wO→Prop}{σ:Bf}{H:List HB}{fs:List Fr}
theorem Ge{S:wO→Prop}{op:Op}{k:OT}{v:Value}(F:nth l i=some ⟨some d,op,ty,pos,af,g⟩)(hd:Nat.blt d n=true)(G:gd l σ g=some true)(K:∀w,S w→AK P σ op ty w v w)
   (h:WG P n l Q S true k (AF σ d v) ds w):WG P n l Q S top (.rd i k) σ ds w:=λa D =>
 ⟨_,v,(EP l i).symm.trans F,.inl ⟨JZ D G,λw L=>K w L a.eval _ _ _ _ D.ev⟩,h _ (D.put hd v)⟩
theorem lI{S:wO→Prop}{op:Op}{k:OT}(F:nth l i=some ⟨some d,op,ty,pos,af,g⟩)(hd:Nat.blt d n=true)(G:gd l σ g=some false)
   (h:WG P n l Q S true k (AF σ d undef) ds w):WG P n l Q S top (.rd i k) σ ds w:=λa D =>
 ⟨_,undef,(EP l i).symm.trans F,.inr ⟨JZ D G,C⟩,h _ (D.put hd undef)⟩
theorem Kp.blk{c:lV}(h:Kp Hk B0 J w)(D:Ib Hk i=some ⟨b,c,T,nw⟩):AM w b c T:=h.1 _ (BO D)
theorem Kp.cel{c:lV}(h:Kp Hk B0 J w)(D:nth B0 i=some ⟨b,off,c⟩):∀(j:Nat)(v:Value),c[j]?=some v→w.cell? ⟨b,off+j,none⟩=some v:=by
 rw[EP] at D;exact h.2.1 _ (List.mem_of_getElem? D)
theorem QC(U:tb.Ok P):∀(m:Nat)(hs:List Nat)(t:OT)(σ:Bf)(H:List HB),Xi P n Q ds X R B Fs tb l Hk B0 J m hs t σ H→Dj P n Q ds X R B Fs l Hk B0 J true t σ H
 |0,_,_,_,_,h=>h tQ
 |m+1,hs,.fin,σ,H,h=>h.elim
 |m+1,hs,.br _ _ _,σ,H,h=>h.elim
 |m+1,hs,.rd i k,σ,H,h=>by
   have K:=QC U m;intro w f L;unfold Xi at h
   split at h
   · rename_i O
     split at h
     · exact h.elim
     rename_i hd
     split at h
     · exact h.elim
     · rename_i F
       exact lI O hd F (K _ _ _ _ h w f L)
     · rename_i F
       split at h
       · split at h
         · exact h.elim
         · split at h
           · rename_i D hT
             split at h
             · split at h
               · rename_i hH
                 split at h
                 · split at h
                   · rename_i v G
                     obtain⟨rfl,h⟩:=h;rw[EP] at G;exact Ge O hd F (λw Y=>Ai D (GB U.ti hT) (Y.blk hH) G) (K _ _ _ _ h w f L)
                   · exact h.elim
                 · split at h
                   · rename_i vs G
                     obtain⟨rfl,h⟩:=h;exact Ge O hd F (λw Y=>Di D (GB U.ti hT) (Y.blk hH) G) (K _ _ _ _ h w f L)
                   · exact h.elim
               · exact h.elim
             · split at h
               · exact h.elim
               · split at h
                 · rename_i hB
                   split at h
                   · split at h
                     · rename_i v G
                       obtain⟨⟨rfl,rfl⟩,h⟩:=h;rw[EP] at G;exact Ge O hd F (λw Y=>JH D (GB U.ti hT) (Y.cel hB _ v G)) (K _ _ _ _ h w f L)
                     · exact h.elim
                   · split at h
                     · rename_i vs G
                       obtain⟨⟨rfl,rfl⟩,h⟩:=h;obtain⟨hk,hg2⟩:=R8 G;exact Ge O hd F (λw Y=>Lc D (GB U.ti hT) hk (λj v hj=>by have:=Y.cel hB _ v (hg2 j v hj);rwa[← Nat.add_assoc] at this)) (K _ _ _ _ h w f L)
                     · exact h.elim
                 · exact h.elim
           · exact h.elim
       · split at h
         · rename_i D Z hT
           exact Ge O hd F (λw _=>OE D Z (K7 U.sl hT) h.1) (K _ _ _ _ h.2 w f L)
         · exact h.elim
       · split at h
         · rename_i D Z;exact Ge O hd F (λw _=>Oj D Z h.1) (K _ _ _ _ h.2 w f L)
         · rename_i D Z;exact Ge O hd F (λw _=>JY D Z h.1) (K _ _ _ _ h.2 w f L)
         · exact h.elim
       · split at h
         · rename_i D Z;exact Ge O hd F (λw _=>Hp D Z h.1) (K _ _ _ _ h.2 w f L)
         · exact h.elim
       · split at h
         · rename_i v G;exact Ge O hd F (λw _=>Rq U G) (K _ _ _ _ h w f L)
         · exact h.elim
   · exact h.elim
theorem goT{t:OT}(F:tb.Ok P)(m:Nat)(D:List Nat)(h:Xi P n Q ds X R B Fs tb l Hk B0 J m D t σ H):Dj P n Q ds X R B Fs l Hk B0 J true t σ H:=QC F m D t σ H h
theorem VO(h:PI Q):∀fs:List Fr,PI (MK P n Q fs)
 | []=>h
 |.sq _::fs=>VO h fs
 |.bk _::fs=>VO h fs
theorem LM(J:wO→Prop)(U:∀w f,X.I w f→CK X.M X.w0 X.f0 w f→J w)(Y:List Nat)(hm:P.follows .mixedOrders=true)(t:OT)(Z:MR H Y=some Hk)(G:t.ok l.toArray true (Array.replicate l.length false)=true)(K:t.even true l.length=true)(D:Region.noSelect l.toArray=true)(L:PI Q)
   (h:Dj P n (MK P n Q fs) ds X R B Fs l Hk B J true t σ H):A3 P n Q ds X R B Fs (.code (.region id l.toArray true)) fs σ H:=λw f O=>by
 refine Em hm (Kp Hk B J) t G K D (λw' hE hz=>?_) (VO L fs);have F:AQ X w' f H R B Fs:=O.call0 (CK.of_ext hE O.val);exact⟨F.kp (Kg Z) U,h w' f F⟩
theorem Bm(h:A3 P n Q ds X R B Fs (.out .normal) fs σ H):Dj P n (MK P n Q fs) ds X R B Fs l Hk B0 J true .fin σ H:=λw f D=>By (h w f D)
theorem Ag{k o:OT}{x:Oper}(F:nth l i=some x)(h:A3 P n (Zs P n l Q (Kp Hk B0 J) k) ds X R B Fs (.ops l [x]) [] σ H)(G:Dj P n Q ds X R B Fs l Hk B0 J false o σ H):Dj P n Q ds X R B Fs l Hk B0 J top (.br i k o) σ H :=
 λw f D=>An ((EP l i).symm.trans F) (h w f D) (G w f D)
theorem Aj:Dj P n Q ds X R B Fs l Hk B0 J false .fin σ H:=λ_ _ _=>Af
theorem AY{k:OT}(F:List Nat)(G:∀w f,X.I w f→CK X.M X.w0 X.f0 w f→J w)(K:MR H F=some Hk)(L:∀e,e∈B0→e∈B)(h:Dj P n Q ds X R B Fs l Hk B0 J true k σ H):A3 P n (Zs P n l Q (Kp Hk B0 J) k) ds X R B Fs (.out .normal) [] σ H:=λw f D =>
 ⟨⟨λe he=>D.blk e (Kg K e he),λe he j v O=>(D.fro e (L e he) j v O).2,G w f D.res D.exm⟩,h w f D⟩
theorem Dj.le{t:OT}(D:Le σ' σ)(h:Dj P n Q ds X R B Fs l Hk B0 J top t σ' H):Dj P n Q ds X R B Fs l Hk B0 J top t σ H:=λw f F a G=>h w f F a (G.le D)
theorem Jn{t:OT}{b:Bool}(s:Nat)(h:σ s=some (.bool b))(D:b=true→Dj P n Q ds X R B Fs l Hk B0 J top t (AF σ s (.bool true)) H)(F:b=false→Dj P n Q ds X R B Fs l Hk B0 J top t (AF σ s (.bool false)) H):Dj P n Q ds X R B Fs l Hk B0 J top t σ H:=by
 cases b with
 |true=>exact Dj.le (A6 (le_refl _) h) (D C)
 |false=>exact Dj.le (A6 (le_refl _) h) (F C)
theorem GI{k:OT}{op:Op}{v:Value}(D:nth l i=some ⟨some d,op,ty,pos,af,g⟩)(hd:Nat.blt d n=true)(F:gd l σ g=some true)(G:∀w,Kp Hk B0 J w→AK P σ op ty w v w)
   (h:Dj P n Q ds X R B Fs l Hk B0 J true k (AF σ d v) H):Dj P n Q ds X R B Fs l Hk B0 J true (.rd i k) σ H:=λw f K=>Ge D hd F G (h w f K)
theorem Bt{all r:List Oper}{op:Op}{α:Type}{val:α→Value}{q:α→Prop}{F':α→List (wO→Fq→Prop)}(D:gd all σ g=some true)(hd:Nat.blt d n=true)(he:∀w,Enters P σ op ty w fid args)
   (F:∀w f,AQ X w f H R B Fs→Bq P fid args w (B3 val q F' w f)) (hm:∀x,Aw (F' x))
   (h:∀x,q x→A3 P n Q ds X R B (F' x++Fs) (.ops all r) fs (AF σ d (val x)) H):A3 P n Q ds X R B Fs (.ops all (⟨some d,op,ty,pos,af,g⟩::r)) fs σ H :=
 mc0 D hd he (λw f G=>(F w f G).mono λv w' ⟨x,f',K,L,O,U⟩=>⟨x,f',K,L,O,U.mem⟩) (λx=>(hm x).mem) h
theorem P8{all r:List Oper}{op:Op}{α:Type}{val:α→Value}{q:α→Prop}{I':α→wO→Fq→Prop}{F':α→List (wO→Fq→Prop)}
   (F:gd all σ g=some true) (hd:Nat.blt d n=true) (he:∀w,Enters P σ op ty w fid args)
   (G:∀w f,AQ X w f H R B Fs→BI P fid args w (Fg val q X.MI I' F' w f) XX) (D:∀x,FD X.MI (I' x)) (hm:∀x,Aw (F' x))
   (K:∀w f c w',AQ X w f H R B Fs→XX c w'→Q.p c σ ds w')
   (h:∀x,q x→A3 P n Q ds {X with I:=I' x} R B (F' x++Fs) (.ops all r) fs (AF σ d (val x)) H):A3 P n Q ds X R B Fs (.ops all (⟨some d,op,ty,pos,af,g⟩::r)) fs σ H :=
 mcI F hd he (λw f L=>(G w f L).mono (λv w' ⟨x,f',O,U,Y,Z,h5⟩=>⟨x,f',O,U,Y,Z,h5.mem⟩) λ_ _ h=>h) D (λx=>(hm x).mem) K h
end
end Go.SW
namespace Go.SW
open Go.RowKit Go.SP
structure Key(κ:Type)[BEq κ] where
 enc:κ→Value
 desc:TypeDesc
 same:∀a b,Instr.sameNow desc (enc a) (enc b)=some (a==b)
 chk:∀(P:Program)(k:tI)(w:wO)(a:κ)(b:Bool),P.underlying k=some desc→(Instr.checkKey b 10000 k (enc a)).run P w=.ok () w
def BQ:Key lU where
 enc:=S
 desc:=.string
 same a b:=by
   have:Instr.sameNow .string (S a) (S b)=some ((⟨a.toArray⟩:ByteArray)==⟨b.toArray⟩):=rfl;rw[this,beq_toListBytes,PK,PK]
 chk P k w a b h:=Kw h
def Fi:Key Int where
 enc n:=.int .i64 n
 desc:=.int .i64
 same a b:=by simp[Instr.sameNow]
 chk P k w a b h:=by rw[Instr.checkKey];simp[run_underlying h]
section
variable{κ:Type}[BEq κ](K:Key κ)
def BM(w:wO)(m:Nat)(l:List (κ×Value)):Prop:=∃(es:List MapEntry)(c:Nat),w.heap[m]?=some (.map es.toArray c)∧es.map (λe=>(e.key,e.val))=l.reverse.map λp=>(K.enc p.1,p.2)
def ER:List (κ×Value)→κ→Option Value
 | [],_=>none
 |(k,v)::l,x=>if x==k then some v else ER l x
def Gn(P:Program)(T:tI):Option (tI×tI):=match P.underlying T with
 |some (.map k e)=>some (k,e)
 |_=>none
end
section
variable{κ:Type}[BEq κ]{K:Key κ}
theorem BM.lt{w:wO}{m:Nat}{l:List (κ×Value)}(h:BM K w m l):m<w.heap.size:=by
 obtain⟨es,c,F,_⟩:=h;rcases Nat.lt_or_ge m w.heap.size with D | D
 · exact D
 · rw[Array.getElem?_eq_none D] at F;cases F
variable {f:Fq}{b:Nat}{w':wO}{I':wO→Fq→Prop}
theorem BM.heap{w:wO}{m:Nat}{l:List (κ×Value)}(h:BM K w m l)(he:w'.heap[m]?=w.heap[m]?):BM K w' m l:=let ⟨es,c,D,F⟩:=h;⟨es,c,he.trans D,F⟩
def M1(x:κ):List (κ×Value)→Option Value
 | []=>none
 |(k,v)::l=>if x==k then some v else M1 x l
theorem Pr(x:κ):∀(es:List MapEntry)(l:List (κ×Value))(i:Nat),es.map (λe=>(e.key,e.val))=l.map (λp=>(K.enc p.1,p.2)) →
   (∀v,M1 x l=some v→∃j,Instr.findNow K.desc (K.enc x) es i=some (some (j,v)))∧(M1 x l=none→Instr.findNow K.desc (K.enc x) es i=some none)
 | [],[],i,_=>⟨λv h=>(by cases h),λ_=>C⟩
 | [],_::_,_,h=>by simp at h
 |_::_,[],_,h=>by simp at h
 |e::es,p::l,i,h=>by
   simp only[List.map_cons,List.cons.injEq,Prod.mk.injEq] at h;obtain⟨⟨F,G⟩,J⟩:=h;have D:=Pr x es l (i+1) J;have L:Instr.sameNow K.desc (K.enc x) e.key=some (x==p.1):=by rw[F];exact K.same x p.1
   obtain⟨O,pv⟩:=p;unfold Instr.findNow M1;rw[L]
   cases U:x==O with
   |true=>exact⟨λv h=>⟨i,by simp at h;simp[G,h]⟩,λh=>by simp at h⟩
   |false=>exact⟨λv h=>D.1 v (by simpa using h),λh=>D.2 (by simpa using h)⟩
theorem WK(x:κ):∀(a b:List (κ×Value)),M1 x (a++b)=(M1 x a).or (M1 x b)
 | [],b=>by simp[M1]
 |(k,v)::a,b=>by
   simp only[List.cons_append,M1,WK x a b]
   split <;> rfl
def Jp[BEq κ]:List (κ×Value)→Prop
 | []=>True
 |(k,_)::l=>ER l k=none∧Jp l
variable[LawfulBEq κ]
theorem RY(x:κ):∀l:List (κ×Value),Jp l→M1 x l.reverse=ER l x
 | [],_=>rfl
 |(k,v)::l,h=>by
   rw[List.reverse_cons,WK,RY x l h.2];simp only[M1,ER]
   cases D:x==k with
   |true =>
     have:x=k:=by simpa using D
     subst this;rw[h.1];rfl
   |false=>cases ER l x <;> simp
section
variable{P:Program}{n:Nat}{Q:AX}{ds:List Deferred}{X:Cx}{R:List RB}{B:List FB}{Fs:List (wO→Fq→Prop)}{fs:List Fr}{σ:Bf}{H:List HB}{w:wO}
variable{all r:List Oper}{ty T k e:tI}{pos:String}{af:Array Edge}{g:Option (Nat×Bool)}{d m:Nat}{x y z:Operand}{a:κ}{l:List (κ×Value)}
theorem Kf(h:Gn P T=some (k,e)):P.underlying T=some (.map k e):=by
 unfold Gn at h
 split at h
 · rename_i hu;cases h;exact hu
 · cases h
def zO(P:Program)(e:tI):Option Value:=match P.info? e with|some i=>i.zero|none=>none
def qW(P:Program)(e:tI)(z:Value):Prop:=zO P e=some z
theorem Su{z:Value}(h:qW P e z):∃i,P.info? e=some i∧i.zero=some z:=by
 unfold qW zO at h
 split at h
 · rename_i i D;exact⟨i,D,h⟩
 · cases h
theorem Wo{z:Value}{ok:Bool}(L:Gn P T=some (k,e))(F:P.underlying k=some K.desc)(hz:qW P e z)(hm:BM K w m l)(hd:Jp l) :
   (Instr.lookup T (.map (some m)) (K.enc a) ok).run P w=.ok (if ok then .tuple #[(ER l a).getD z,.bool (ER l a).isSome] else (ER l a).getD z) w:=by
 have hu:=Kf L;obtain⟨es,c,O,U⟩:=hm;obtain⟨i,Y,hz⟩:=Su hz;have h:(getObj m).run P w=.ok (.map es.toArray c) w:=by simp[getObj,Sem.run,O]
 obtain⟨f1,f2⟩:=Pr (K:=K) a es l.reverse 0 U;rw[RY a l hd] at f1 f2;have D:=λb=>K.chk P k w a b F
 cases J:ER l a with
 |some v =>
   obtain⟨j,G⟩:=f1 v J;simp only[Instr.lookup,Sem.run_bind,run_underlying hu,Result.andThen_ok,h]
   cases ok <;> simp[D,Instr.findKey,run_underlying F,G]
 |none =>
   have G:=f2 J;simp only[Instr.lookup,Sem.run_bind,run_underlying hu,Result.andThen_ok,h]
   cases ok <;> simp[D,Instr.findKey,run_underlying F,G,zeroValue,typeInfo,Y,hz]
theorem aN{z:Value}{ok:Bool}(D:ev σ x=some (.map (some m)))(F:ev σ y=some (K.enc a))(G:Gn P T=some (k,e))(J:P.underlying k=some K.desc)(hz:qW P e z)(hm:BM K w m l)(hd:Jp l) :
   AK P σ (.lookup T x y ok) ty w (if ok then .tuple #[(ER l a).getD z,.bool (ER l a).isSome] else (ER l a).getD z) w:=λL _ _ _ _ h=>by
 simp only[execOp,h _ _ D,h _ _ F];rw[Sem.run_bind,Wo G J hz hm hd];rfl
theorem J5{z v:Value}(h:ev σ x=some (.map (some m)))(D:ev σ y=some (K.enc a))(F:Gn P T=some (k,e))(G:P.underlying k=some K.desc)(hz:qW P e z)(hm:BM K w m l)(hd:Jp l)(J:ER l a=some v):AK P σ (.lookup T x y true) ty w (.tuple #[v,.bool true]) w:=by
 have:=aN (ty:=ty) (ok:=true) h D F G hz hm hd;rw[J] at this;exact this
theorem J1{z:Value}(h:ev σ x=some (.map (some m)))(D:ev σ y=some (K.enc a))(F:Gn P T=some (k,e))(G:P.underlying k=some K.desc)(hz:qW P e z)(hm:BM K w m l)(hd:Jp l)(J:ER l a=none):AK P σ (.lookup T x y true) ty w (.tuple #[z,.bool false]) w:=by
 have:=aN (ty:=ty) (ok:=true) h D F G hz hm hd;rw[J] at this;exact this
theorem M8{z v:Value}(h:ev σ x=some (.map (some m)))(D:ev σ y=some (K.enc a))(F:Gn P T=some (k,e))(G:P.underlying k=some K.desc)(hz:qW P e z)(hm:BM K w m l)(hd:Jp l)(J:(ER l a).getD z=v):AK P σ (.lookup T x y false) ty w v w:=by
 have:=aN (ty:=ty) (ok:=false) h D F G hz hm hd;rw[← J];exact this
theorem XY{v:Value}(Y:Gn P T=some (k,e))(L:P.underlying k=some K.desc)(hm:BM K w m l)(hd:Jp l)(Z:ER l a=none):∃w',(Instr.mapUpdate T (.map (some m)) (K.enc a) v).run P w=.ok () w'∧BM K w' m ((a,v)::l)∧GG m w w':=by
 have hu:=Kf Y;obtain⟨es,c,O,U⟩:=id hm;have hj:=(Pr (K:=K) a es l.reverse 0 U).2 (by rw[RY a l hd];exact Z);have h:(getObj m).run P w=.ok (.map es.toArray c) w:=by simp[getObj,Sem.run,O]
 have F:=hm.lt;have G:=λb=>K.chk P k w a b L
 have D:(setObj m (.map (es.toArray.push {key:=K.enc a,val:=v,born:=c}) (c+1))).run P w=.ok () {w with heap:=w.heap.setIfInBounds m (.map (es.toArray.push {key:=K.enc a,val:=v,born:=c}) (c+1))}:=by
   simp[setObj,Sem.run,O]
 refine⟨{w with heap:=w.heap.setIfInBounds m (.map (es.toArray.push {key:=K.enc a,val:=v,born:=c}) (c+1))},?_,?_,?_⟩
 · simp only[Instr.mapUpdate,Sem.run_bind,run_underlying hu,Result.andThen_ok,h]
   simp only[G,Result.andThen_ok,Instr.findKey,Sem.run_bind,run_underlying L,hj];simp only[Sem.run_pure,Result.andThen_ok];exact D
 · refine⟨es++[{key:=K.enc a,val:=v,born:=c}],c+1,?_,?_⟩
   · simp[F]
   · simp[U]
 · refine⟨C,C,C,by simp,λj J=>?_⟩
   show (w.heap.setIfInBounds m _)[j]?=_;rw[Array.getElem?_setIfInBounds_ne (λe=>J e.symm)]
theorem AQ.chgI{w:wO}(h:AQ X w f H R B Fs)(J:X.MI b)(D:GG b w w')(L:I' w' f)(F:FD X.MI I'):AQ {X with I:=I' } w' f H R B Fs :=
 h.callI ⟨⟨D.os,D.tape,D.output,by rw[D.size];exact Nat.le_refl _,λk _ hm=>D.block k (λe=>hm (e▸J))⟩,λ_ _=>C,λk G=>h.val k (by rw[D.size] at G;exact G)⟩ L F
theorem cN{v:Value}(O:gd all σ g=some true)(U:ev σ x=some (.map (some m)))(Y:ev σ y=some (K.enc a))(hz:ev σ z=some v)(Z:Gn P T=some (k,e))(hk:P.underlying k=some K.desc)(G:X.MI m)(hd:Jp l)(hn:ER l a=none)
   (hm:∀w f,X.I w f→BM K w m l) (hI:∀w f w',X.I w f→AQ X w f H R B Fs→GG m w w'→BM K w' m ((a,v)::l)→I' w' f) (J:FD X.MI I')
   (h:A3 P n Q ds {X with I:=I' } R B Fs (.ops all r) fs σ H):A3 P n Q ds X R B Fs (.ops all (⟨none,.mapUpdate T x y z,ty,pos,af,g⟩::r)) fs σ H:=λw f F=>by
 obtain⟨w',h1,h2,L⟩:=XY (v:=v) Z hk (hm w f F.res) hd hn;refine B2 O (JB (w':=w') (λρ _ _ _ _ D=>?_) (h w' f (F.chgI G L (hI w f w' F.res F L h2) J)));simp only[execOp,D _ _ U,D _ _ Y,D _ _ hz];rw[Sem.run_bind,h1];rfl
omit [LawfulBEq κ] in
theorem yJ(O:gd all σ g=some true)(hd:Nat.blt d n=true)
   (h:∀m,A3 P n Q ds {X with MI:=λb=>X.MI b∨b=m,I:=λw f=>X.I w f∧BM K w m []} R B Fs (.ops all r) fs (AF σ d (.map (some m))) H):A3 P n Q ds X R B Fs (.ops all (⟨some d,.makeMap T none,ty,pos,af,g⟩::r)) fs σ H:=λw f G=>by
 refine B2 O (Ab (v:=.map (some w.heap.size)) (w':=w.alloc (.map #[] 0)) hd (λρ _ _ _ _ U=>by simp[execOp,Instr.makeMap]) (h w.heap.size _ f ?_));have F:AQ X (w.alloc (.map #[] 0)) f H R B Fs:=G.call0 (CK.of_ext (Kj w _) G.val);have J:∀b,b∈CO H R→b≠w.heap.size:=λb D e=>Nat.lt_irrefl _ (e▸G.lt D)
 exact {F with
         res:=⟨F.res,[],0,heap_alloc_new w _,C⟩,
         stab:=λY f1 Z f2 L hF D=>⟨F.stab Y f1 Z f2 L.1 hF λb hm=>D b (.inl hm),L.2.heap (D _ (.inr C))⟩,
         mi:=λb D=>by
           rcases D with D|rfl
           · exact F.mi b D
           · exact⟨by rw[H4];omega,G.val _ (Nat.le_refl _),.inl G.stp.size⟩,
         own:=λb D=>⟨(F.own b D).1,(F.own b D).2.1,λhm=>by
           rcases hm with hm|rfl
           · exact (F.own b D).2.2 hm
           · exact J _ D C⟩}
end
end
end Go.SW
namespace Go.SW
def vM(P:Program)(T h:tI):Bool:=match P.underlying T,P.underlying h with
 |some _,some .string=>true
 |_,_=>false
end Go.SW
namespace Go.SP
inductive Ty where
 |nil
 |var (n:Int) (r:Ty)
 |con (tx:lU) (k r:Ty)
inductive T1 where
 |var (n:Int)
 |con (tx:lU) (k:Ty)
def T1.cons:T1→Ty→Ty
 |.var n,r=>.var n r
 |.con tx k,r=>.con tx k r
def T1.one(t:T1):Ty:=t.cons .nil
def Ty.app:Ty→Ty→Ty
 |.nil,y=>y
 |.var n r,y=>.var n (r.app y)
 |.con tx k r,y=>.con tx k (r.app y)
def Ty.len:Ty→Nat
 |.nil=>0
 |.var _ r=>r.len+1
 |.con _ _ r=>r.len+1
def Ty.get:Ty→Nat→Option T1
 |.nil,_=>none
 |.var n _,0=>some (.var n)
 |.con tx k _,0=>some (.con tx k)
 |.var _ r,i+1=>r.get i
 |.con _ _ r,i+1=>r.get i
def Ty.snoc(a:Ty)(t:T1):Ty:=a.app t.one
def Ty.hd:Ty→T1
 |.nil=>.var 0
 |.var n _=>.var n
 |.con tx k _=>.con tx k
abbrev BZ:=List (Int×T1)
def CU:BZ→Int→Option T1
 | [],_=>none
 |(k,t)::s,n=>if k==n then some t else CU s n
def Is(b:BZ):Nat→T1→T1
 |0,t=>t
 |k+1,t=>match t with
   |.con tx d=>.con tx d
   |.var n=>match CU b n with
     |none=>.var n
     |some t'=>Is b k t'
def Ap(b:BZ)(t:T1):T1:=Is b (b.length+1) t
def KT(b:BZ):Nat→Ty→Bool
 |_,.nil=>true
 |0,_=>false
 |k+1,.var n r=>match Ap b (.var n) with
   |.var _=>KT b k r
   |.con _ d=>KT b k (d.app r)
 |k+1,.con _ d r=>KT b k (d.app r)
def HZ(b:BZ)(t:T1):Bool:=KT b 1000 t.one
def CV(b:BZ)(x:Int):Nat→Ty→Bool
 |_,.nil=>true
 |0,_=>true
 |k+1,.var n r=>match Ap b (.var n) with
   |.var m=>!(m==x)&&CV b x k r
   |.con _ d=>CV b x k (d.app r)
 |k+1,.con _ d r=>CV b x k (d.app r)
def Cv(b:BZ)(n:Int)(t:T1):Except Int BZ :=
 if HZ b t then (if CV b n 1000 t.one then .ok ((n,t)::b) else .error 11) else .error 4
def Ja(f:BZ→Ty→Ty→Except Int BZ)(b:BZ)(x y:T1)(r q:Ty):Except Int BZ :=
 match x,y with
 |.var n,.var m=>if n==m then f b r q else (match Cv b n (.var m) with|.error e=>.error e|.ok d=>f d r q)
 |.var n,.con ty h=>(match Cv b n (.con ty h) with|.error e=>.error e|.ok d=>f d r q)
 |.con tx ka,.var m=>(match Cv b m (.con tx ka) with|.error e=>.error e|.ok d=>f d r q)
 |.con tx ka,.con ty h=>if !(tx==ty)||(ka.len:Int) != h.len then .error 11 else f b (ka.app r) (h.app q)
def Ty.tl:Ty→Ty
 |.nil=>.nil
 |.var _ r=>r
 |.con _ _ r=>r
def Mb:Nat→BZ→Ty→Ty→Except Int BZ
 |_,b,.nil,_=>.ok b
 |0,_,_,_=>.error 4
 |k+1,b,.var n r,y=>Ja (Mb k) b (Ap b (.var n)) (Ap b y.hd) r y.tl
 |k+1,b,.con tx ka r,y=>Ja (Mb k) b (.con tx ka) (Ap b y.hd) r y.tl
def G2(b:BZ)(x y:T1):Except Int BZ:=Mb 10000 b x.one y.one
def AO(b:BZ):Nat→Ty→Ty
 |_,.nil=>.nil
 |0,_=>.nil
 |k+1,.var n r=>match Ap b (.var n) with
   |.var m=>.var m (AO b k r)
   |.con tx d=>.con tx (AO b k d) (AO b k r)
 |k+1,.con tx d r=>.con tx (AO b k d) (AO b k r)
def CX(b:BZ)(t:T1):Option T1:=if HZ b t then some (AO b 1000 t.one).hd else none
def CM:Ty→List Int→List Int
 |.nil,s=>s
 |.var n r,s=>CM r (if s.contains n then s else s++[n])
 |.con _ k r,s=>CM r (CM k s)
def Aq(t:T1):List Int:=CM t.one []
def DD:List Int→Int→Option Nat
 | [],_=>none
 |k::l,n=>if k==n then some 0 else (DD l n).map (· + 1)
def DF(l:List Int)(d:Ty):Ty→Ty
 |.nil=>.nil
 |.var n r=>match (DD l n).bind d.get with
   |some t=>t.cons (DF l d r)
   |none=>.var n (DF l d r)
 |.con tx k r=>.con tx (DF l d k) (DF l d r)
def Cu(t:T1)(l:List Int)(d:Ty):T1:=(DF l d t.one).hd
def bI:lU:=[105,110,116]
def bF:lU:=[102,108,111,97,116]
def bS:lU:=[115,116,114,105,110,103]
def bU:lU:=[117,110,105,116]
def bB:lU:=[98,111,111,108]
def bX:lU:=[101,120,110]
def DA:lU:=[45,62]
def Tu:lU:=[116,117,112,108,101]
def Ig:lU:=[114,101,102]
def BP:lU:=[112,114,101,102]
def c0(tx:lU):T1:=.con tx .nil
def Ih:Ty→T1
 |.nil=>.var 0
 |.var n .nil=>.var n
 |.con tx k .nil=>.con tx k
 |.var n r=>.con DA (.var n (Ih r).one)
 |.con tx k r=>.con DA (.con tx k (Ih r).one)
structure Mk where
 args:Ty
 out:T1
 vars:List Int
structure CS where
 sol:BZ
 fresh:Int
 cons:List (lU×Mk)
 datas:List (lU×Int)
 roots:List lU
 vars:Int
structure Bd where
 name:lU
 t:T1
 all:List Int
abbrev Ba:=List Bd
abbrev Er:=Int×Int×Int
abbrev RI(α:Type):=Except Er α
def AD{α:Type}:List (lU×α)→lU→Option α
 | [],_=>none
 |(k,v)::l,n=>if k==n then some v else AD l n
def A7(s:CS):T1×CS:=(.var (s.fresh+1),{s with fresh:=s.fresh+1})
def EA(s:CS)(a b:T1)(ln co:Int):RI CS:=match G2 s.sol a b with
 |.error e=>.error (ln,co,e)
 |.ok m=>.ok {s with sol:=m}
def Fv(s:CS)(t:T1)(ln co:Int):RI T1:=match CX s.sol t with
 |none=>.error (ln,co,4)
 |some f=>.ok f
def Bx(s:CS):Ba→List Int
 | []=>[]
 |b::e=>(match CX s.sol b.t with
   |none=>[]
   |some f=>(Aq f).filter λv=>!b.all.contains v)++Bx s e
def H5(s:CS)(e:Ba)(name:lU)(t:T1)(value:Bool)(ln co:Int):RI Ba :=
 if value then (match Fv s t ln co with
   |.error x=>.error x
   |.ok f=>.ok (⟨name,f,(Aq f).filter λv=>!(Bx s e).contains v⟩::e))
 else .ok (⟨name,t,[]⟩::e)
def Bn:List Int→CS→Ty×CS
 | [],s=>(.nil,s)
 |_::l,s=>((A7 s).1.cons (Bn l (A7 s).2).1,(Bn l (A7 s).2).2)
def Gq(s:CS)(tx:lU)(k:Nat)(ln co:Int):RI (Ty×T1×CS):=match AD s.cons tx with
 |none=>.error (ln,co,11)
 |some m=>if (m.args.len:Int)==k then .ok (DF m.vars (Bn m.vars s).1 m.args,Cu m.out m.vars (Bn m.vars s).1,(Bn m.vars s).2) else .error (ln,co,11)
def OG:Ba→lU→Option Bd
 | [],_=>none
 |b::e,n=>if b.name==n then some b else OG e n
def HL(s:CS)(e:Ba)(tx:lU)(ln co:Int):RI (T1×CS):=match OG e tx with
 |none=>.error (ln,co,11)
 |some b=>match Fv s b.t ln co with
   |.error x=>.error x
   |.ok f =>
     let vs:=(Aq f).filter λv=>b.all.contains v
     .ok (Cu f vs (Bn vs s).1,(Bn vs s).2)
def Wh(f:Int→Nd→Bool):Nd→Bool
 |.nil=>true
 |.cons op _ _ _ _ k r=>f op k&&Wh f r
def C0:Nat→Int→Nd→Bool
 |0,_,_=>false
 |n+1,op,kids =>
   if op==1||op==2||op==3||op==4||op==5||op==7 then true
   else if op==6||op==13 then Wh (C0 n) kids else false
abbrev MT:=CS→Ba→Int→Int→Int→lU→Int→Nd→RI (T1×CS)
def Ez(f:MT)(e:Ba):CS→Nd→RI (Ty×CS)
 |s,.nil=>.ok (.nil,s)
 |s,.cons op ln co tx nm k r=>match f s e op ln co tx nm k with
   |.error x=>.error x
   |.ok (t,s1)=>match Ez f e s1 r with
     |.error x=>.error x
     |.ok (l,s2)=>.ok (t.cons l,s2)
def F8(f:MT)(e:Ba):CS→Ty→Nd→RI CS
 |s,a,.cons op ln co tx nm k r=>match f s e op ln co tx nm k with
   |.error x=>.error x
   |.ok (t,s1)=>match EA s1 a.hd t ln co with
     |.error x=>.error x
     |.ok s2=>F8 f e s2 a.tl r
 |s,_,.nil=>.ok s
def Kr(f:MT)(e:Ba):CS→T1→Nd→RI (T1×CS)
 |s,t,.nil=>.ok (t,s)
 |s,t,.cons op ln co tx nm k r=>match f s e op ln co tx nm k with
   |.error x=>.error x
   |.ok (a,s1)=>match EA (A7 s1).2 t (.con DA (a.cons (A7 s1).1.one)) ln co with
     |.error x=>.error x
     |.ok s2=>Kr f e s2 (A7 s1).1 r
def FK:CS→Ba→Nd→Ty×Ba×CS
 |s,e,.nil=>(.nil,e,s)
 |s,e,.cons _ _ _ _ _ _ .nil=>(.nil,e,s)
 |s,e,.cons op _ _ tx _ _ r =>
   let d:=if op==22 then ⟨tx,(A7 s).1,[]⟩::e else e
   let (l,h,s2):=FK (A7 s).2 d r
   ((A7 s).1.cons l,h,s2)
def Nd.last:Nd→Option N
 |.nil=>none
 |.cons op ln co tx nm k .nil=>some ⟨op,ln,co,tx,nm,k⟩
 |.cons _ _ _ _ _ _ r=>r.last
def Ty.last:Ty→T1
 |.nil=>.var 0
 |.var n .nil=>.var n
 |.con tx k .nil=>.con tx k
 |.var _ r=>r.last
 |.con _ _ r=>r.last
abbrev OO:=CS→Ba→Int→Int→Int→lU→Int→Nd→RI (T1×Ba×CS)
def GD(f:OO):CS→Ba→Ty→Nd→RI (Ba×CS)
 |s,e,_,.nil=>.ok (e,s)
 |s,e,a,.cons op ln co tx nm k r=>match f s e op ln co tx nm k with
   |.error x=>.error x
   |.ok (q,d,s1)=>match EA s1 a.hd q ln co with
     |.error x=>.error x
     |.ok s2=>GD f s2 d a.tl r
def FF(f:OO):CS→Ba→Nd→RI (Ty×Ba×CS)
 |s,e,.nil=>.ok (.nil,e,s)
 |s,e,.cons op ln co tx nm k r=>match f s e op ln co tx nm k with
   |.error x=>.error x
   |.ok (q,d,s1)=>match FF f s1 d r with
     |.error x=>.error x
     |.ok (l,h,s2)=>.ok (q.cons l,h,s2)
def Dh(f:OO)(s:CS)(e:Ba)(op ln co:Int)(tx:lU)(kids:Nd):RI (T1×Ba×CS) :=
 if op==21 then .ok ((A7 s).1,e,(A7 s).2)
 else if op==22 then .ok ((A7 s).1,⟨tx,(A7 s).1,[]⟩::e,(A7 s).2)
 else if op==23 then .ok (c0 bI,e,s)
 else if op==24 then .ok (c0 bS,e,s)
 else if op==25 then .ok (c0 bU,e,s)
 else if op==26 then (match Gq s tx kids.len ln co with
   |.error x=>.error x
   |.ok (args,out,s1)=>match GD f s1 e args kids with
     |.error x=>.error x
     |.ok (d,s2)=>.ok (out,d,s2))
 else if op==27 then (match FF f s e kids with
   |.error x=>.error x
   |.ok (l,d,s2)=>.ok (.con Tu l,d,s2))
 else .ok (.var 0,e,s)
def C4:Nat→OO
 |0,_,_,_,ln,co,_,_,_=>.error (ln,co,11)
 |n+1,s,e,op,ln,co,tx,_,kids=>match Dh (C4 n) s e op ln co tx kids with
   |.error x=>.error x
   |.ok (t,d,s1)=>match Fv s1 t ln co with
     |.error x=>.error x
     |.ok _=>.ok (t,d,s1)
def DH(n:Nat)(f:MT)(e:Ba)(pt:T1):CS→Option T1→Nd→RI (T1×CS)
 |s,t,.nil=>.ok (t.getD (.var 0),s)
 |s,t,.cons _ _ _ _ _ K r=>match K with
   |.cons op ln co tx nm L (.cons D d h F G bk _)=>(match C4 n s e op ln co tx nm L with
     |.error x=>.error x
     |.ok (q,inner,s1)=>match EA s1 pt q ln co with
       |.error x=>.error x
       |.ok s2=>match f s2 inner D d h F G bk with
         |.error x=>.error x
         |.ok (rt,J)=>match t with
           |some t0=>(match EA J t0 rt d h with
             |.error x=>.error x
             |.ok O=>DH n f e pt O (some t0) r)
           |none=>DH n f e pt J (some rt) r)
   |_=>.ok (t.getD (.var 0),s)
def HI(f:MT)(s:CS)(e:Ba)(ln co:Int)(tx:lU)(d h D:Int)(F:lU)(G:Int)(k0:Nd):RI (T1×CS) :=
 match f (A7 s).2 (⟨tx,(A7 s).1,[]⟩::e) d h D F G k0 with
 |.error x=>.error x
 |.ok (t,s1)=>match EA s1 (A7 s).1 t ln co with
   |.error x=>.error x
   |.ok s2=>.ok (t,s2)
def Bl(n:Nat)(f:MT)(s:CS)(e:Ba)(op ln co:Int)(tx:lU)(kids:Nd):RI (T1×CS) :=
 if op==1 then .ok (c0 bI,s)
 else if op==2 then .ok (c0 bF,s)
 else if op==3 then .ok (c0 bS,s)
 else if op==4 then .ok (c0 bU,s)
 else if op==5 then HL s e tx ln co
 else if op==6 then (match Gq s tx kids.len ln co with
   |.error x=>.error x
   |.ok (args,out,s1)=>match F8 f e s1 args kids with
     |.error x=>.error x
     |.ok s2=>.ok (out,s2))
 else if op==7 then (match kids.last with
   |none=>.ok (.var 0,s)
   |some b =>
     let p:=FK s e kids
     match f p.2.2 p.2.1 b.op b.ln b.co b.tx b.nm b.kids with
     |.error x=>.error x
     |.ok (t,s1)=>.ok (Ih (p.1.snoc t),s1))
 else if op==8 then (match kids with
   |.nil=>.ok (.var 0,s)
   |.cons o l c x m k r=>match f s e o l c x m k with
     |.error x=>.error x
     |.ok (t,s1)=>Kr f e s1 t r)
 else if op==9 then (match kids with
   |.cons o l c x m k (.cons d l2 c2 h m2 k2 _)=>(match f s e o l c x m k with
     |.error x=>.error x
     |.ok (t,s1)=>match (if tx==[95] then .ok e else H5 s1 e tx t (C0 (n+1) o k) ln co) with
       |.error x=>.error x
       |.ok D=>f s1 D d l2 c2 h m2 k2)
   |_=>.ok (.var 0,s))
 else if op==10 then (match kids with
   |.cons o l c x m k (.cons d l2 c2 h m2 k2 _)=>(match HI f s e ln co tx o l c x m k with
     |.error x=>.error x
     |.ok (t,s1)=>match H5 s1 e tx t true ln co with
       |.error x=>.error x
       |.ok D=>f s1 D d l2 c2 h m2 k2)
   |_=>.ok (.var 0,s))
 else if op==11 then (match kids with
   |.cons o l c x m k (.cons d l2 c2 h m2 k2 (.cons G F c3 J m3 k3 _))=>(match f s e o l c x m k with
     |.error x=>.error x
     |.ok (t,s1)=>match EA s1 (c0 bB) t l c with
       |.error x=>.error x
       |.ok s2=>match f s2 e d l2 c2 h m2 k2 with
         |.error x=>.error x
         |.ok (t2,K)=>match f K e G F c3 J m3 k3 with
           |.error x=>.error x
           |.ok (t3,L)=>match EA L t2 t3 F c3 with
             |.error x=>.error x
             |.ok O=>.ok (t2,O))
   |_=>.ok (.var 0,s))
 else if op==12 then (match Ez f e s kids with
   |.error x=>.error x
   |.ok (l,s1)=>.ok (l.last,s1))
 else if op==13 then (match Ez f e s kids with
   |.error x=>.error x
   |.ok (l,s1)=>.ok (.con Tu l,s1))
 else if op==14 then (match kids with
   |.nil=>.ok (.var 0,s)
   |.cons o l c x m k r=>match f s e o l c x m k with
     |.error x=>.error x
     |.ok (t,s1)=>DH n f e t s1 none r)
 else if op==15 then (match kids with
   |.nil=>.ok (.var 0,s)
   |.cons o l c x m k r=>match f s e o l c x m k with
     |.error x=>.error x
     |.ok (t,s1)=>DH n f e (c0 bX) s1 (some t) r)
 else if op==16 then (match kids with
   |.nil=>.ok (.var 0,s)
   |.cons o l c x m k _=>match f s e o l c x m k with
     |.error x=>.error x
     |.ok (t,s1)=>match EA s1 (c0 bX) t l c with
       |.error x=>.error x
       |.ok s2=>.ok (A7 s2))
 else (match kids with
   |.nil=>.ok (.var 0,s)
   |.cons o l c x m k _=>f s e o l c x m k)
def Ca:Nat→MT
 |0,_,_,_,ln,co,_,_,_=>.error (ln,co,11)
 |n+1,s,e,op,ln,co,tx,_,kids=>match Bl n (Ca n) s e op ln co tx kids with
   |.error x=>.error x
   |.ok (t,s1)=>match Fv s1 t ln co with
     |.error x=>.error x
     |.ok _=>.ok (t,s1)
def EO:lU:=[32,105,110,116,32,102,108,111,97,116,32,115,116,114,105,110,103,32,117,110,105,116,32,98,111,111,108,32,101,120,110,32]
def IU:lU:=[32,116,117,112,108,101,32,114,101,102,32,112,114,101,102,32]
def Dr(datas:List (lU×Int))(vars:List (lU×T1)):Nd→RI Ty
 |.nil=>.ok .nil
 |.cons op ln co tx _ kids r =>
   let one:RI T1:=if op==31 then (match AD vars tx with
       |some t=>.ok t
       |none=>.error (ln,co,11))
     else if (if Cq EO ([32]++tx++[32]) then (kids.len:Int)==0
         else if tx==DA then (kids.len:Int)==2
         else if Cq IU ([32]++tx++[32]) then true
         else match AD datas tx with|some c=>c==(kids.len:Int)|none=>false)
       then (match Dr datas vars kids with|.error x=>.error x|.ok k=>.ok (.con tx k))
       else .error (ln,co,11)
   match one with
   |.error x=>.error x
   |.ok t=>match Dr datas vars r with
     |.error x=>.error x
     |.ok l=>.ok (t.cons l)
def CZ(ln co:Int):Nd→Int→List (lU×T1)→Ty→List Int→RI (Int×List (lU×T1)×Ty×List Int)
 |.nil,v,m,self,nums=>.ok (v,m,self,nums)
 |.cons op _ _ tx _ _ r,v,m,self,nums =>
   if op==31 then (if (AD m tx).isSome then .error (ln,co,11) else CZ ln co r (v-1) ((tx,.var (v-1))::m) (self.snoc (.var (v-1))) (nums++[v-1]))
   else CZ ln co r v m self nums
def C2(datas:List (lU×Int))(m:List (lU×T1))(out:T1)(nums:List Int):Nd→List (lU×Mk)→RI (List (lU×Mk))
 |.nil,c=>.ok c
 |.cons op ln co tx _ kids r,c =>
   if op==42 then (if (AD c tx).isSome then .error (ln,co,11) else match Dr datas m kids with
     |.error x=>.error x
     |.ok args=>C2 datas m out nums r ((tx,⟨args,out,nums⟩)::c))
   else C2 datas m out nums r c
def FJ(s:CS)(ln co:Int)(tx:lU)(kids:Nd):RI CS :=
 if (AD s.datas tx).isSome||Cq EO ([32]++tx++[32]) then .error (ln,co,11)
 else match CZ ln co kids s.vars [] .nil [] with
   |.error x=>.error x
   |.ok (v,m,self,nums) =>
     let datas:=(tx,(nums.length:Int))::s.datas
     match C2 datas m (.con tx self) nums kids s.cons with
     |.error x=>.error x
     |.ok cons=>.ok {s with datas:=datas,cons:=cons,vars:=v}
def Ds(s:CS)(e:Ba)(op ln co:Int)(tx:lU)(kids:Nd):RI (Option (lU×T1)×Ba×CS) :=
 if op==41 then (match FJ s ln co tx kids with
   |.error x=>.error x
   |.ok s1=>.ok (none,e,s1))
 else match kids with
   |.nil=>.ok (some (tx,.var 0),e,s)
   |.cons o l c x m k r =>
     if op==43 then (if s.roots.contains tx then .error (ln,co,11) else match Dr s.datas [] (.cons o l c x m k .nil) with
         |.error x=>.error x
         |.ok w=>match r with
           |.nil=>.ok (some (tx,.var 0),e,s)
           |.cons h l2 c2 D m2 k2 _=>match Ca (k2.size+1) {s with roots:=tx::s.roots} e h l2 c2 D m2 k2 with
             |.error x=>.error x
             |.ok (t2,s1)=>match EA s1 w.hd t2 ln co with
               |.error x=>.error x
               |.ok s2=>.ok (some (tx,.con BP w),⟨tx,.con BP w,[]⟩::e,s2))
     else if op==44 then (match Ca (k.size+1) s e o l c x m k with
       |.error x=>.error x
       |.ok (t,s1)=>match H5 s1 e tx t (C0 (k.size+1) o k) ln co with
         |.error x=>.error x
         |.ok d=>.ok (some (tx,t),d,s1))
     else if op==45 then (match HI (Ca (k.size+1)) s e ln co tx o l c x m k with
       |.error x=>.error x
       |.ok (t,s1)=>match H5 s1 e tx t true ln co with
         |.error x=>.error x
         |.ok d=>.ok (some (tx,t),d,s1))
     else (match Ca (k.size+1) s e o l c x m k with
       |.error x=>.error x
       |.ok (t,s1)=>.ok (some ([],t),e,s1))
def DQ:CS→Ba→Nd→List (lU×T1)→RI (List (lU×T1)×CS)
 |s,_,.nil,out=>.ok (out,s)
 |s,e,.cons op ln co tx _ k r,out=>match Ds s e op ln co tx k with
   |.error x=>.error x
   |.ok (none,d,s1)=>DQ s1 d r out
   |.ok (some b,d,s1)=>DQ s1 d r (out++[b])
def We:Nat→Nat→lU
 |0,_=>[]
 |k+1,n=>if n<10 then [UInt8.ofNat (48+n)] else We k (n / 10)++[UInt8.ofNat (48+n % 10)]
def DM(i:Nat):lU:=[39,UInt8.ofNat (97+i % 26)]++(if i<26 then [] else We 20 (i / 26))
def DE(vs:List Int):Ty→lU
 |.nil=>[]
 |.var n r=>32::((match DD vs n with|some i=>DM i|none=>[])++DE vs r)
 |.con tx .nil r=>32::(tx++DE vs r)
 |.con tx k r=>32::([40]++tx++DE vs k++[41]++DE vs r)
def NP(t:T1):lU:=(DE (Aq t) t.one).drop 1
def Ku(s:CS):List (lU×T1)→RI (List (lU×lU))
 | []=>.ok []
 |(n,t)::l=>match Fv s t 0 0 with
   |.error x=>.error x
   |.ok f=>match Ku s l with
     |.error x=>.error x
     |.ok r=>.ok ((n,NP f)::r)
def aI:Int := -1
def rE:List (lU×Ty) :=
 let n:=c0 bI;let f:=c0 bF;let s:=c0 bS;let b:=c0 bB;let u:=c0 bU
 let a:=T1.var aI;let r:=T1.con Ig a.one;let p:=T1.con BP a.one
 let l2 (x y:T1):Ty:=x.cons y.one
 let h (x y z:T1):Ty:=x.cons (y.cons z.one)
 let d (names:List lU) (t:Ty):List (lU×Ty):=names.map λx=>(x,t)
 d [[43],[45],[42],[100,105,118],[109,111,100]] (h n n n)++d [[110,101,103]] (l2 n n)++d [[60],[60,61],[61]] (h n n b) ++
 d [[102,43],[102,45],[102,42],[102,47]] (h f f f)++d [[102,115,113,114,116],[102,110,101,103]] (l2 f f)++d [[102,60],[102,61],[102,97,104,101,97,100]] (h f f b) ++
 d [[105,116,111,102]] (l2 n f)++d [[102,116,111,105]] (l2 f n)++d [[102,98,105,116,115]] (l2 f s)++d [[110,97,110],[105,110,102]] f.one ++
 d [[99,97,116]] (h s s s)++d [[108,101,110],[111,114,100],[97,116,111,105]] (l2 s n)++d [[115,117,98]] (s.cons (h n n s))++d [[115,61],[115,60]] (h s s b) ++
 d [[105,116,111,97],[99,104,114]] (l2 n s)++d [[112,114,105,110,116]] (l2 s u)++d [[114,101,97,100]] (l2 u s)++d [[114,101,102]] (l2 a r)++d [[103,101,116]] (l2 r a) ++
 d [[115,101,116]] (h r a u)++d [[110,101,119]] (l2 a p)++d [[108,111,97,100]] (l2 p a)++d [[115,116,111,114,101]] (h p a u)
def H0:Ba:=(rE.map λp=>(⟨p.1,Ih p.2,[aI]⟩:Bd)).reverse
def TU:List (lU×Mk) :=
 [([70,97,105,108],⟨(c0 bS).one,c0 bX,[]⟩),([79,117,116],⟨.nil,c0 bX,[]⟩),([75,101,101,112],⟨.nil,c0 bX,[]⟩),([65,98,111,114,116],⟨.nil,c0 bX,[]⟩),([77,97,116,99,104],⟨.nil,c0 bX,[]⟩),([68,105,118],⟨.nil,c0 bX,[]⟩),
  ([84,114,117,101],⟨.nil,c0 bB,[]⟩),([70,97,108,115,101],⟨.nil,c0 bB,[]⟩)]
def Wx:CS:=⟨[],0,TU,[],[],-1⟩
def C3(nds:Nd):RI (List (lU×lU)):=match DQ Wx H0 nds [] with
 |.error x=>.error x
 |.ok (out,s)=>Ku s out
end Go.SP
namespace Go.SP
open Go.SW Go.RowKit
namespace T1
def op:T1→Int
 |.var _=>0
 |.con _ _=>1
def num:T1→Int
 |.var n=>n
 |.con _ _=>0
def tx:T1→lU
 |.var _=>[]
 |.con t _=>t
def kids:T1→Ty
 |.var _=>.nil
 |.con _ k=>k
end T1
def tC(t:T1)(a:oA)(c:Nat):lV:=[.int .i64 t.op,.int .i64 t.num,S t.tx,.slice a t.kids.len c]
abbrev tV(t:T1)(a:oA)(c:Nat):Value:=.agg #[.int .i64 t.op,.int .i64 t.num,S t.tx,.slice a t.kids.len c]
def Jm(w:wO)(f:Fq):Ty→Nat→Nat→Prop
 |.nil,_,_=>True
 |.var n r,b,off=>(∃a c,Cs w f b off [.int .i64 0,.int .i64 n,S [],.slice a 0 c])∧Jm w f r b (off+4)
 |.con tx k r,b,off=>(∃a c,Cs w f b off [.int .i64 1,.int .i64 0,S tx,.slice a k.len c]∧k.len≤c∧(k=.nil∨∃h d,a=some ⟨h,d,none⟩∧Jm w f k h d))∧Jm w f r b (off+4)
def Ak(w:wO)(f:Fq)(k:Ty)(a:oA)(c:Nat):Prop:=k.len≤c∧(k=.nil∨∃b off,a=some ⟨b,off,none⟩∧Jm w f k b off)
variable {f f':Fq}{co ln nm:Int}{l:lV}{b i off:Nat}{U:Nat→Prop}{k r:Nd}{a:oA}{T:tI}{w w':wO}
theorem Jm.mono(h:Ii w f w' f'):∀(k:Ty)(b off:Nat),Jm w f k b off→Jm w' f' k b off
 |.nil,_,_,_=>trivial
 |.var _ r,b,off,⟨⟨a,c,D⟩,F⟩=>⟨⟨a,c,D.mono h⟩,Jm.mono h r b _ F⟩
 |.con _ k r,b,off,⟨⟨a,c,D,F,J⟩,K⟩=>⟨⟨a,c,D.mono h,F,J.imp id λ⟨G,d,L,O⟩=>⟨G,d,L,Jm.mono h k G d O⟩⟩,Jm.mono h r b _ K⟩
theorem Ak.mono{k:Ty}{c:Nat}:FU (λw f=>Ak w f k a c):=λ_ _ _ _ h d=>⟨h.1,h.2.imp id λ⟨b,off,D,F⟩=>⟨b,off,D,Jm.mono d k b off F⟩⟩
theorem Ak.nil(w:wO)(f:Fq)(a:oA)(c:Nat):Ak w f .nil a c:=⟨Nat.zero_le _,.inl C⟩
theorem Jm.cons{t:T1}{r:Ty}:Jm w f (t.cons r) b off↔(∃a c,Cs w f b off (tC t a c)∧Ak w f t.kids a c)∧Jm w f r b (off+4):=by
 cases t with
 |var n=>exact⟨λ⟨⟨a,c,h⟩,d⟩=>⟨⟨a,c,h,Ak.nil _ _ _ _⟩,d⟩,λ⟨⟨a,c,h,_⟩,d⟩=>⟨⟨a,c,h⟩,d⟩⟩
 |con tx k=>exact⟨λ⟨⟨a,c,h,d,F⟩,D⟩=>⟨⟨a,c,h,d,F⟩,D⟩,λ⟨⟨a,c,h,d⟩,D⟩=>⟨⟨a,c,h,d.1,d.2⟩,D⟩⟩
theorem Jm.app:∀{x y:Ty}{b off:Nat},Jm w f x b off→Jm w f y b (off+x.len*4)→Jm w f (x.app y) b off
 |.nil,_,b,off,_,h=>by simpa[Ty.len,Ty.app] using h
 |.var _ r,y,b,off,h,d=>⟨h.1,Jm.app h.2 (by rw[show off+4+r.len*4=off+(r.len+1)*4 by omega];exact d)⟩
 |.con _ _ r,y,b,off,h,d=>⟨h.1,Jm.app h.2 (by rw[show off+4+r.len*4=off+(r.len+1)*4 by omega];exact d)⟩
def BN(w:wO)(f:Fq)(a:oA)(i:Nat)(r:Ty):Prop:=r=.nil∨∃b off,a=some ⟨b,off,none⟩∧Jm w f r b (off+i*4)
theorem BN.mono{r:Ty}:FU (λw f=>BN w f a i r):=λ_ _ _ _ h d=>h.imp id λ⟨b,off,D,F⟩=>⟨b,off,D,Jm.mono d r b _ F⟩
theorem Ak.at{k:Ty}{c:Nat}(h:Ak w f k a c):BN w f a 0 k:=h.2.imp id λ⟨b,off,d,D⟩=>⟨b,off,d,by simpa using D⟩
theorem BN.head{t:T1}{r:Ty}(h:BN w f a i (t.cons r)):∃b off ka kc,a=some ⟨b,off,none⟩∧Cs w f b (off+i*4) (tC t ka kc)∧Ak w f t.kids ka kc∧BN w f a (i+1) r:=by
 rcases h with h|⟨b,off,d,D⟩
 · cases t <;> cases h
 · obtain⟨⟨ka,kc,F,G⟩,J⟩:=Jm.cons.1 D
   exact⟨b,off,ka,kc,d,F,G,.inr ⟨b,off,d,by rw[show off+(i+1)*4=off+i*4+4 by omega];exact J⟩⟩
def P3(w:wO)(f:Fq):Nd→Nat→Nat→Prop
 |.nil,_,_=>True
 |.cons op ln co tx nm k r,b,off=>(∃a c,Cs w f b off [.int .i64 op,.int .i64 ln,.int .i64 co,S tx,.int .i64 nm,.slice a k.len c]∧k.len≤c∧(k=.nil∨∃h d,a=some ⟨h,d,none⟩∧P3 w f k h d))∧P3 w f r b (off+6)
def AH(w:wO)(f:Fq)(k:Nd)(a:oA)(c:Nat):Prop:=k.len≤c∧(k=.nil∨∃b off,a=some ⟨b,off,none⟩∧P3 w f k b off)
theorem P3.mono(h:Ii w f w' f'):∀(k:Nd)(b off:Nat),P3 w f k b off→P3 w' f' k b off
 |.nil,_,_,_=>trivial
 |.cons _ _ _ _ _ k r,b,off,⟨⟨a,c,F,G,J⟩,K⟩=>⟨⟨a,c,F.mono h,G,J.imp id λ⟨D,d,L,O⟩=>⟨D,d,L,P3.mono h k D d O⟩⟩,P3.mono h r b _ K⟩
theorem AH.mono{c:Nat}:FU (λw f=>AH w f k a c):=λ_ _ _ _ h d=>⟨h.1,h.2.imp id λ⟨b,off,D,F⟩=>⟨b,off,D,P3.mono d k b off F⟩⟩
def AV(w:wO)(f:Fq)(a:oA)(i:Nat)(r:Nd):Prop:=r=.nil∨∃b off,a=some ⟨b,off,none⟩∧P3 w f r b (off+i*6)
theorem AV.mono:FU (λw f=>AV w f a i r):=λ_ _ _ _ h d=>h.imp id λ⟨b,off,D,F⟩=>⟨b,off,D,P3.mono d r b _ F⟩
theorem AH.at{c:Nat}(h:AH w f k a c):AV w f a 0 k:=h.2.imp id λ⟨b,off,d,D⟩=>⟨b,off,d,by simpa using D⟩
def KW(op ln co:Int)(tx:lU)(nm:Int)(a:oA)(n c:Nat):lV:=[.int .i64 op,.int .i64 ln,.int .i64 co,S tx,.int .i64 nm,.slice a n c]
theorem AV.head{op:Int}{tx:lU}(h:AV w f a i (.cons op ln co tx nm k r)):∃b off ka kc,a=some ⟨b,off,none⟩∧Cs w f b (off+i*6) (KW op ln co tx nm ka k.len kc)∧AH w f k ka kc∧AV w f a (i+1) r:=by
 rcases h with h|⟨b,off,d,⟨ka,kc,D,F⟩,G⟩
 · cases h
 · exact⟨b,off,ka,kc,d,D,F,.inr ⟨b,off,d,by rw[show off+(i+1)*6=off+i*6+6 by omega];exact G⟩⟩
def Sq(w:wO):Fq:=λb=>match w.heap[b]? with
 |some (.cells cs _ (0,0))=>cs.size
 |_=>0
theorem Cs.all{m:lV}(d:AM w b l T)(h:l.drop off=m):Cs w (Sq w) b off m:=λj v F=>by
 have D:l[off+j]?=some v:=by rw[← List.getElem?_drop,h,F]
 obtain⟨G,_⟩:=List.getElem?_eq_some_iff.1 D;refine⟨?_,by rw[d.cell,D]⟩;unfold Sq;unfold AM at d;rw[d];simpa using G
theorem Cs.le{m:lV}(h:Cs w f b off (l++m)):Cs w f b off l:=λj v d=>h j v (by
 obtain⟨D,_⟩:=List.getElem?_eq_some_iff.1 d;rw[List.getElem?_append_left D];exact d)
theorem Gg.toG(h:AM w b l T):∀(k:Nd)(off:Nat),Gg U w k (l.drop off)→(∀(d:Nd)(a:oA)(n c:Nat),d.size<k.size→HD U w a n c d→AH w (Sq w) d a c)→P3 w (Sq w) k b off
 |.nil,_,_,_=>trivial
 |.cons op ln co tx nm kids r,off,⟨a,n,c,J,D,F,K⟩,G=>by
   have L:n=kids.len:=F.1;have O:=G kids a n c (by simp only[Nd.size];omega) F;refine⟨⟨a,c,?_,O⟩,Gg.toG h r (off+6) ?_ (λd a n c Q=>G d a n c (by simp only[Nd.size];omega))⟩
   · have:=Cs.all h D
     rw[L] at this;exact Cs.le (m:=J) this
   · rw[← List.drop_drop,D];exact K
theorem HD.toF:∀(m:Nat)(k:Nd)(a:oA)(n c:Nat),k.size<m→HD U w a n c k→AH w (Sq w) k a c
 |0,_,_,_,_,h,_=>by omega
 |m+1,k,a,n,c,hm,⟨D,L,d⟩=>by
   refine⟨oM,?_⟩;rcases d with d|⟨b,off,l,T,_,F,G,J⟩
   · left
     cases k with
     |nil=>rfl
     |cons _ _ _ _ _ _ _=>rw[d] at D;cases D
   · exact .inr ⟨b,off,F,Gg.toG G k off J (λK a n c O=>HD.toF m K a n c oM)⟩
end Go.SP
namespace Go.SP
open Go.SW Go.RowKit
def B9(w:wO)(f:Fq)(l:List Int)(a:oA)(c:Nat):Prop:=l.length≤c∧(l=[]∨∃b off,a=some ⟨b,off,none⟩∧Cs w f b off (l.map λn=>Value.int .i64 n))
variable {f:Fq}{l:lV}{b i off:Nat}{a:oA}{w:wO}
theorem B9.mono{l:List Int}{c:Nat}:FU (λw f=>B9 w f l a c):=λ_ _ _ _ h d=>⟨h.1,h.2.imp id λ⟨b,off,D,F⟩=>⟨b,off,D,F.mono d⟩⟩
theorem Cs.at{v:Value}(h:Cs w f b off l)(D:l[i]?=some v):Cs w f b (off+i) [v]:=λj u d=>by
 cases j with
 |zero=>simp at d;subst d;simpa using h i v D
 |succ j=>simp at d
theorem B9.get{l:List Int}{c:Nat}{n:Int}(h:B9 w f l a c)(d:l[i]?=some n):∃b off,a=some ⟨b,off,none⟩∧Cs w f b (off+i*1) [.int .i64 n]:=by
 rcases h.2 with h|⟨b,off,D,F⟩
 · subst h;simp at d
 · exact⟨b,off,D,by rw[Nat.mul_one];exact Cs.at F (by rw[List.getElem?_map,d];rfl)⟩
theorem PW{n:Int}:∀{l:List Int},DD l n=none→l.contains n=false
 | [],_=>rfl
 |k::l,h=>by
   unfold DD at h
   split at h
   · cases h
   · rename_i d
     have:DD l n=none:=by cases D:DD l n with|none=>rfl|some i=>rw[D] at h;cases h
     rw[List.contains_cons,PW this];have:¬n=k:=λe=>d (by simp[e]);simp[this]
theorem Mg{n:Int}:∀{l:List Int}{i:Nat},DD l n=some i→l.contains n=true∧i<l.length∧l[i]?=some n
 | [],_,h=>by cases h
 |k::l,i,h=>by
   unfold DD at h
   split at h
   · rename_i D
     have e:k=n:=by simpa using D
     cases h
     subst e;simp
   · cases d:DD l n with
     |none=>rw[d] at h;cases h
     |some j =>
       rw[d] at h
       cases h
       have:=Mg d;exact⟨by rw[List.contains_cons,this.1,Bool.or_true],by simp;exact this.2.1,by simpa using this.2.2⟩
theorem Xe{n:Int}:∀{l:List Int}{i:Nat},(l.take i).contains n=false→l[i]?=some n→DD l n=some i
 | [],i,_,h=>by simp at h
 |k::l,0,_,h=>by simp at h;subst h;simp[DD]
 |k::l,i+1,d,h=>by
   simp only[List.take_succ_cons,List.contains_cons,Bool.or_eq_false_iff] at d
   have D:(k==n)=false:=by
     have:=d.1
     cases F:k==n with
     |false=>rfl
     |true =>
       have e:k=n:=by simpa using F
       subst e;simp at this
   have:=Xe d.2 (by simpa using h);simp[DD,D,this]
theorem Oe{n:Int}{l:List Int}(h:l.contains n=false):DD l n=none:=by
 cases d:DD l n with
 |none=>rfl
 |some i=>rw[(Mg d).1] at h;cases h
def Z5(l:List Int)(n:Int):Int:=match DD l n with
 |some i=>i
 |none => -1
theorem CC{α:Type}{l:List α}{x:α}(h:l[i]?=some x):l.take (i+1)=l.take i++[x]:=by
 obtain⟨d,he⟩:=List.getElem?_eq_some_iff.1 h;rw[List.take_succ_eq_append_getElem d,he]
end Go.SP
namespace Go.SP
open Go.SW Go.RowKit
def Ty.size:Ty→Nat
 |.nil=>0
 |.var _ r=>r.size+1
 |.con _ k r=>k.size+r.size+1
def Ty.bnd:Ty→Prop
 |.nil=>True
 |.var _ r=>r.bnd
 |.con tx k r=>(k.len≤200000∧tx.length≤1000000)∧k.bnd∧r.bnd
def T1.bnd(t:T1):Prop:=(t.kids.len≤200000∧t.tx.length≤1000000)∧t.kids.bnd
theorem T1.bnd_cons{t:T1}{r:Ty}:(t.cons r).bnd↔t.bnd∧r.bnd:=by
 cases t with
 |var n=>exact⟨λh=>⟨⟨⟨Nat.zero_le _,Nat.zero_le _⟩,tQ⟩,h⟩,λh=>h.2⟩
 |con tx k=>exact⟨λh=>⟨⟨h.1,h.2.1⟩,h.2.2⟩,λh=>⟨h.1.1,h.1.2,h.2⟩⟩
theorem T1.len_cons(t:T1)(r:Ty):(t.cons r).len=r.len+1:=by cases t <;> rfl
theorem T1.size_cons(t:T1)(r:Ty):(t.cons r).size=t.kids.size+r.size+1:=by cases t <;> simp[T1.cons,Ty.size,T1.kids]
theorem Ty.len_app:∀x y:Ty,(x.app y).len=x.len+y.len
 |.nil,y=>by simp[Ty.app,Ty.len]
 |.var _ r,y=>by simp[Ty.app,Ty.len,Ty.len_app r y];omega
 |.con _ _ r,y=>by simp[Ty.app,Ty.len,Ty.len_app r y];omega
theorem Ty.app_assoc:∀x y z:Ty,(x.app y).app z=x.app (y.app z)
 |.nil,_,_=>rfl
 |.var _ r,y,z=>by simp[Ty.app,Ty.app_assoc r y z]
 |.con _ _ r,y,z=>by simp[Ty.app,Ty.app_assoc r y z]
theorem Ty.app_nil:∀x:Ty,x.app .nil=x
 |.nil=>rfl
 |.var _ r=>by simp[Ty.app,Ty.app_nil r]
 |.con _ _ r=>by simp[Ty.app,Ty.app_nil r]
theorem T1.one_app(t:T1)(r:Ty):t.one.app r=t.cons r:=by cases t <;> rfl
theorem Ty.len_snoc(x:Ty)(t:T1):(x.snoc t).len=x.len+1:=by unfold Ty.snoc T1.one;rw[Ty.len_app,T1.len_cons];rfl
theorem Ty.snoc_app(x:Ty)(t:T1)(r:Ty):(x.snoc t).app r=x.app (t.cons r):=by unfold Ty.snoc;rw[Ty.app_assoc,T1.one_app]
theorem Ty.cases1(k:Ty)(h:0<k.len):∃t r,k=T1.cons t r:=by
 cases k with
 |nil=>simp[Ty.len] at h
 |var n r=>exact⟨.var n,r,C⟩
 |con tx k r=>exact⟨.con tx k,r,C⟩
theorem Ty.len0{k:Ty}(h:k.len=0):k=.nil:=by cases k <;> simp_all [Ty.len]
def Bi(w:wO)(f:Fq):Ty→lV→Prop
 |.nil,xs=>xs=[]
 |.var n r,xs=>∃a c xs',xs=[.int .i64 0,.int .i64 n,S [],.slice a 0 c]++xs'∧Bi w f r xs'
 |.con tx k r,xs=>∃a c xs',xs=[.int .i64 1,.int .i64 0,S tx,.slice a k.len c]++xs'∧Ak w f k a c∧Bi w f r xs'
variable {f f':Fq}{l xs:lV}{b off:Nat}{a:oA}{w w':wO}
theorem Bi.mono'(d:Ii w f w' f'):∀(k:Ty)(xs:lV),Bi w f k xs→Bi w' f' k xs
 |.nil,_,h=>h
 |.var _ r,_,⟨a,c,xs',D,F⟩=>⟨a,c,xs',D,Bi.mono' d r xs' F⟩
 |.con _ k r,_,⟨a,c,xs',D,F,G⟩=>⟨a,c,xs',D,Ak.mono _ _ _ _ F d,Bi.mono' d r xs' G⟩
theorem Bi.mono{k:Ty}:FU (λw f=>Bi w f k xs):=λ_ _ _ _ h d=>Bi.mono' d k xs h
theorem Bi.snoc{t:T1}{c:Nat}(d:Ak w f t.kids a c):∀{k:Ty}{xs:lV},Bi w f k xs→Bi w f (k.snoc t) (xs++tC t a c)
 |.nil,xs,h=>by
   have h:xs=[]:=h;subst h
   cases t with
   |var n=>exact⟨a,c,[],C,C⟩
   |con tx k=>exact⟨a,c,[],C,d,C⟩
 |.var _ r,_,⟨a',c',xs',D,F⟩=>⟨a',c',xs'++tC t a c,by rw[D,List.append_assoc],Bi.snoc d F⟩
 |.con _ k r,_,⟨a',c',xs',D,F,G⟩=>⟨a',c',xs'++tC t a c,by rw[D,List.append_assoc],F,Bi.snoc d G⟩
theorem Cs.drop{m:lV}(h:Cs w f b off (l++m)):Cs w f b (off+l.length) m:=λj v d=>by
 have:=h (l.length+j) v (by rw[List.getElem?_append_right (by omega)];simpa using d);rwa[← Nat.add_assoc] at this
theorem Bi.toG:∀{k:Ty}{xs:lV}{off:Nat},Bi w f k xs→Cs w f b off xs→Jm w f k b off
 |.nil,_,_,_,_=>trivial
 |.var _ r,_,off,⟨a,c,xs',h,D⟩,d=>by
   subst h;exact⟨⟨a,c,Cs.le d⟩,Bi.toG D (Cs.drop d)⟩
 |.con _ k r,_,off,⟨a,c,xs',h,D,F⟩,d=>by
   subst h;exact⟨⟨a,c,Cs.le d,D⟩,Bi.toG F (Cs.drop d)⟩
theorem Bi.toF{c:Nat}{k:Ty}(h:Bi w f k xs)(d:Cs w f b 0 xs)(D:k.len≤c):Ak w f k (some ⟨b,0,none⟩) c:=⟨D,.inr ⟨b,0,C,Bi.toG h d⟩⟩
theorem Bi.len:∀{k:Ty}{xs:lV},Bi w f k xs→xs.length=k.len*4
 |.nil,xs,h=>by have h:xs=[]:=h;subst h;rfl
 |.var _ r,_,⟨a,c,xs',d,D⟩=>by subst d;have:=Bi.len D;simp[Ty.len,this];omega
 |.con _ k r,_,⟨a,c,xs',d,D,F⟩=>by subst d;have:=Bi.len F;simp[Ty.len,this];omega
theorem SN(a b c vs:lV)(h:b.length=vs.length):Et (a++(b++c)) a.length vs=(a++vs)++c:=by
 rw[Nj vs _ _ (by simp;omega)];have d:(a++(b++c)).take a.length=a:=by simp
 have D:(a++(b++c)).drop (a.length+vs.length)=c:=by
   rw[← List.drop_drop];simp[← h]
 rw[d,D]
def OwnF(P:Program)(d:FuncId)(m:Nat):Prop:=∀(w:wO)(f:Fq)(_:Vl w f)(t:T1)(a:oA)(c:Nat),t.kids.size<m→t.bnd→Ak w f t.kids a c →
 Bq P d #[tV t a c] w (B3 (α:=oA×Nat) (λx=>tV t x.1 x.2) (λ_=>True) (λx=>[λw f=>Ak w f t.kids x.1 x.2]) w f)
end Go.SP
namespace Go.SP
open Go.SW Go.RowKit
theorem dI(t:T1)(a:oA)(c:Nat):∀v∈tC t a c,v.oneCell'=true:=by
 intro v d;unfold tC at d;simp only[List.mem_cons,List.not_mem_nil,or_false] at d;rcases d with rfl|rfl|rfl|rfl <;> rfl
variable {f:Fq}{b:Nat}{w:wO}
theorem Jm.cells:∀{k:Ty}{off:Nat},Jm w f k b off→∃xs,Bi w f k xs∧Cs w f b off xs∧∀v∈xs,v.oneCell'=true
 |.nil,_,_=>⟨[],C,(λj v D=>by simp at D),λv h=>by cases h⟩
 |.var n r,off,⟨⟨a,c,F⟩,G⟩=>by
   obtain⟨xs,J,K,L⟩:=Jm.cells G;refine⟨_++xs,⟨a,c,xs,C,J⟩,?_,?_⟩
   · intro j v D
     rcases Nat.lt_or_ge j 4 with d|d
     · exact F j v (by rwa[List.getElem?_append_left (by simpa using d)] at D)
     · rw[List.getElem?_append_right (by simpa using d)] at D
       have:=K (j-4) v (by simpa using D);rwa[show off+4+(j-4)=off+j by omega] at this
   · intro v h
     rcases List.mem_append.1 h with h|h
     · exact dI (.var n) a c v h
     · exact L v h
 |.con tx k r,off,⟨⟨a,c,F,O⟩,G⟩=>by
   obtain⟨xs,J,K,L⟩:=Jm.cells G;refine⟨_++xs,⟨a,c,xs,C,O,J⟩,?_,?_⟩
   · intro j v D
     rcases Nat.lt_or_ge j 4 with d|d
     · exact F j v (by rwa[List.getElem?_append_left (by simpa using d)] at D)
     · rw[List.getElem?_append_right (by simpa using d)] at D
       have:=K (j-4) v (by simpa using D);rwa[show off+4+(j-4)=off+j by omega] at this
   · intro v h
     rcases List.mem_append.1 h with h|h
     · exact dI (.con tx k) a c v h
     · exact L v h
end Go.SP
namespace Go.SP
open Go.SW Go.RowKit
variable {X:Cx}{f:Fq}{Fs:List (wO→Fq→Prop)}{B:List FB}{H:List HB}{xs:lV}{m:Nat}{a:oA}{e:tI}{w:wO}
theorem Pu{R:List RB}{c:Nat}{k:Ty}(F:AQ X w f H (⟨e,4,a,c,m,xs⟩::R) B Fs)(G:Bi w f k xs)(L:0<k.len):∃f',AQ X w f' H R B Fs∧Ak w f' k a c:=by
 have J:=F.row _ (.head _);have hlen:=Bi.len G;have hm:m=k.len:=by have:=J.1;simp only at this;omega
 rcases J.2 with ⟨_,_,h⟩|⟨b,l,K,_,D,_⟩
 · simp only at h;omega
 · simp only at K D
   subst K;obtain⟨f',d⟩:=(F.more (B':=[]) (F':=[λw f=>Bi w f k xs]) (λ_ h=>by cases h) (AI.mem ⟨G,tQ⟩) (Aw.mem ⟨Bi.mono,tQ⟩)).done (i:=0) C C;exact⟨f',d.less (List.Sublist.refl _) (List.Sublist.refl _) (λe he=>.tail _ he) (λφ h=>.tail _ h),Bi.toF (d.fact (i:=0) C) (d.fro _ (.head _)) oM⟩
end Go.SP
namespace Go.SP
open Go.SW Go.RowKit
variable {f:Fq}{a:oA}{w:wO}
theorem Ak.cells{k:Ty}{c:Nat}(h:Ak w f k a c)(D:0<k.len):∃x:Nat×Nat×lV,(a=some ⟨x.1,x.2.1,none⟩∧(∀v∈x.2.2,v.oneCell'=true)∧x.2.2.length=k.len*4)∧Cs w f x.1 x.2.1 x.2.2∧Bi w f k x.2.2:=by
 rcases h.2 with h|⟨b,off,F,G⟩
 · subst h;cases D
 · obtain⟨xs,d,J,K⟩:=Jm.cells G
   exact⟨(b,off,xs),⟨F,K,Bi.len d⟩,J,d⟩
def G1(w:wO)(f:Fq):BZ→List (Int×Value)→Prop
 | [],es=>es=[]
 |(n,t)::s,es=>∃a c d,es=(n,tV t a c)::d∧Ak w f t.kids a c∧G1 w f s d
variable {f':Fq}{fr pr:Int}{Fs:List (wO→Fq→Prop)}{mb sb:Nat}{MI:Nat→Prop}{T:tI}{w':wO}
theorem G1.mono(D:Ii w f w' f'):∀(s:BZ)(es:List (Int×Value)),G1 w f s es→G1 w' f' s es
 | [],_,h=>h
 |(_,_)::s,_,⟨a,c,d,F,G,J⟩=>⟨a,c,d,F,Ak.mono _ _ _ _ G D,G1.mono D s d J⟩
def Jo:BZ→Prop
 | []=>True
 |(n,t)::s=>CU s n=none∧(∀m,t=.var m→m≠n∧CU s m=none)∧t.bnd∧Jo s
def nQ:BZ→Prop
 | []=>True
 |(n,t)::s=>CU s n=none∧(∀m,t=.var m→m≠n∧CU s m=none)∧nQ s
theorem Jo.v:∀{s:BZ},Jo s→nQ s
 | [],_=>trivial
 |(_,_)::_,h=>⟨h.1,h.2.1,Jo.v h.2.2.2⟩
theorem G1.look:∀{s:BZ}{es:List (Int×Value)},G1 w f s es→∀n,(CU s n=none→ER es n=none)∧∀t,CU s n=some t→∃a c,ER es n=some (tV t a c)∧Ak w f t.kids a c
 | [],es,h,n=>by
   have h:es=[]:=h;subst h;exact⟨λ_=>C,λt h=>by cases h⟩
 |(k,t)::s,es,⟨a,c,D,F,G,J⟩,n=>by
   subst F;have K:=G1.look J n;simp only[CU,ER]
   by_cases d:k=n
   · subst d
     refine⟨λh=>by simp at h,λt' h=>?_⟩;simp at h;subst h;exact⟨a,c,by simp,G⟩
   · have L:(k==n)=false:=by simpa using d
     have O:(n==k)=false:=by simpa using λe=>d e.symm
     rw[L,O];simpa using K
theorem G1.dis:∀{s:BZ}{es:List (Int×Value)},G1 w f s es→Jo s→Jp es
 | [],es,h,_=>by have h:es=[]:=h;subst h;trivial
 |(k,t)::s,es,⟨a,c,D,F,G,d⟩,hw=>by
   subst F;exact⟨(G1.look d k).1 hw.1,G1.dis d hw.2.2.2⟩
def BC(T:tI)(sb mb:Nat)(s:BZ)(fr pr:Int)(w:wO)(f:Fq):Prop:=AM w sb [.map (some mb),.int .i64 fr,.int .i64 pr] T∧∃es,BM Fi w mb es∧G1 w f s es
theorem BC.stab{s:BZ}(d:MI sb)(D:MI mb):FD MI (BC T sb mb s fr pr):=λ_ _ _ _ ⟨F,es,hm,G⟩ J h=>⟨(h sb d).trans F,es,hm.heap (h mb D),G1.mono J s es G⟩
abbrev MY(sb mb:Nat):Nat→Prop:=λb=>b=sb∨b=mb
abbrev XS(T:tI)(sb mb:Nat)(s:BZ)(fr pr:Int)(w:wO)(f:Fq):Cx:=⟨MY sb mb,MY sb mb,BC T sb mb s fr pr,w,f⟩
theorem mA{s:BZ}(F:Vl w f)(d:BC T sb mb s fr pr w f)(D:f sb=0∧f mb=0)(G:AI Fs w f)(hm:Aw Fs):AQ (XS T sb mb s fr pr w f) w f [] [] [] Fs where
 stp:=MW.refl _ _
 old _ _:=rfl
 val:=F
 ent:=Ii.refl _ _
 res:=d
 stab:=BC.stab (.inl C) (.inr C)
 mi b J:=by
   rcases J with rfl|rfl
   · exact⟨d.1.lt,D.1,.inr (.inl C)⟩
   · obtain⟨_,es,h,_⟩:=d;exact⟨h.lt,D.2,.inr (.inr C)⟩
 blk _ h:=by cases h
 row _ h:=by cases h
 nd:=List.nodup_nil
 own _ h:=by cases h
 hnw _ h:=by cases h
 rnw _ h:=by cases h
 fro _ h:=by cases h
 fac:=G.mem
 mono:=hm.mem
def J4:BZ→Int→Option Nat
 | [],_=>none
 |(k,_)::s,n=>if k==n then some 0 else (J4 s n).map (· + 1)
def EV(s:BZ):T1→Nat
 |.con _ _=>0
 |.var n=>match J4 s n with
   |none=>0
   |some p=>p+1
theorem SZ{n:Int}:∀{s:BZ},CU s n=none↔J4 s n=none
 | []=>by simp[CU,J4]
 |(k,t)::s=>by
   have:=SZ (n:=n) (s:=s);simp only[CU,J4]
   split <;> simp[this]
theorem IE{n:Int}{t:T1}:∀{s:BZ},nQ s→CU s n=some t→∃p,J4 s n=some p∧EV s t≤p
 | [],_,h=>by cases h
 |(k,t0)::s,hw,h=>by
   simp only[CU] at h
   split at h
   · rename_i D
     cases h
     have e:k=n:=by simpa using D
     subst e;refine⟨0,by simp[J4],?_⟩
     cases t with
     |con _ _=>simp[EV]
     |var m =>
       obtain⟨F,d⟩:=hw.2.1 m C;have G:(k==m)=false:=by simpa using λe=>F e.symm
       simp[EV,J4,G,SZ.1 d]
   · rename_i D
     obtain⟨p,F,d⟩:=IE hw.2.2 h;have G:(k==n)=false:=by simpa using D
     refine⟨p+1,by simp[J4,G,F],?_⟩
     cases t with
     |con _ _=>simp[EV]
     |var m =>
       have J:∀s:BZ,EV s (.var m)=(match J4 s m with|none=>0|some p=>p+1):=λ_=>C;rw[J] at d ⊢;simp only[J4]
       cases K:(k==m) with
       |true=>simp
       |false =>
         simp only[Bool.false_eq_true,if_false]
         cases L:J4 s m with
         |none=>simp
         |some q =>
           rw[L] at d;simp only[Option.map_some] at d ⊢;have O:q+1≤p:=d;show q+1+1≤p+1;exact Nat.succ_le_succ O
theorem U8{n:Int}:∀{s:BZ}{p:Nat},J4 s n=some p→p<s.length
 | [],_,h=>by cases h
 |(k,t)::s,p,h=>by
   simp only[J4] at h
   split at h
   · cases h;simp
   · cases d:J4 s n with
     |none=>rw[d] at h;cases h
     |some q=>rw[d] at h;cases h;have:=U8 d;simp;exact this
theorem XL(s:BZ)(t:T1):EV s t≤s.length:=by
 cases t with
 |con _ _=>simp[EV]
 |var n =>
   have d:EV s (.var n)=(match J4 s n with|none=>0|some p=>p+1):=rfl;rw[d]
   cases h:J4 s n with
   |none=>simp
   |some p=>exact U8 h
theorem LN{s:BZ}(hw:nQ s):∀(k j:Nat)(t:T1),EV s t≤k→EV s t≤j→Is s k t=Is s j t
 |k,j,.con tx J,_,_=>by cases k <;> cases j <;> rfl
 |k,j,.var n,h,D=>by
   cases d:CU s n with
   |none =>
     have:∀k,Is s k (.var n)=.var n:=λk=>by cases k <;> simp[Is,d]
     rw[this,this]
   |some t =>
     obtain⟨p,F,K⟩:=IE hw d;have G:EV s (.var n)=p+1:=by simp[EV,F]
     rw[G] at h D
     cases k with
     |zero=>omega
     |succ k =>
       cases j with
       |zero=>omega
       |succ j =>
         simp only[Is,d];exact LN hw k j t oM oM
theorem Ou{s:BZ}{n:Int}(h:CU s n=none):Ap s (.var n)=.var n:=by simp[Ap,Is,h]
theorem Hd(s:BZ)(tx:lU)(k:Ty):Ap s (.con tx k)=.con tx k:=rfl
theorem Tn{s:BZ}{n:Int}{t:T1}(hw:nQ s)(h:CU s n=some t):Ap s (.var n)=Ap s t:=by
 obtain⟨p,d,D⟩:=IE hw h;have:=U8 d;unfold Ap
 conv=>lhs;rw[Is];simp only[h]
 exact LN hw _ _ t oM (by have:=XL s t;omega)
theorem NX{s:BZ}{n:Int}{t:T1}(hw:nQ s)(h:CU s n=some t):EV s t<EV s (.var n):=by
 obtain⟨p,d,F⟩:=IE hw h;have D:EV s (.var n)=p+1:=by simp[EV,d]
 rw[D];omega
theorem Vb{s:BZ}{n:Int}{t:T1}(hw:Jo s)(h:CU s n=some t):Ap s (.var n)=Ap s t:=Tn hw.v h
theorem mF{s:BZ}{n:Int}{t:T1}(hw:Jo s)(h:CU s n=some t):EV s t<EV s (.var n):=NX hw.v h
theorem O1{n:Int}{t:T1}:∀{s:BZ},Jo s→CU s n=some t→t.bnd
 | [],_,h=>by cases h
 |(k,t0)::s,hw,h=>by
   simp only[CU] at h
   split at h
   · cases h;exact hw.2.2.1
   · exact O1 hw.2.2.2 h
theorem Ew{t:T1}(h:(t.op==0)=true):∃n,t=.var n:=by
 cases t with
 |var n=>exact⟨n,C⟩
 |con _ _=>cases h
theorem FM{t:T1}(h:(t.op==0)=false):∃tx k,t=.con tx k:=by
 cases t with
 |var n=>cases h
 |con tx k=>exact⟨tx,k,C⟩
end Go.SP
namespace Go.SW
open Go.RowKit
section
variable{P:Program}{σ:Bf}{w:wO}{ty:tI}
variable {caps:List Operand}{vs:lV}
theorem UG{f:FuncId}{g:Operand}{args:List Operand}{caps:lV}{D:Array tI}(he:BB P f)(F:ev σ g=some (.func (.func f) #[] caps.toArray))(G:Jd σ args=some vs) :
   Enters P σ (.call {callee:=.value g,args:=args.toArray,argTypes:=D}) ty w f (vs++caps).toArray:=λJ _ _ _ _ d=>by
 have h:=EN d G;have e:=he (vs++caps).toArray w;simp[execOp,resolve,d _ _ F,Deferred.ofValue,invoke,h];simpa using e
theorem RJ{f:FuncId}(D:Jd σ caps=some vs):AK P σ (.makeFunc (.func f) #[] caps.toArray) ty w (.func (.func f) #[] vs.toArray) w:=λF _ _ _ _ d=>by
 have h:=EN d D;simp[execOp,Instr.makeFunc,h]
end
end Go.SW
namespace Go.SP
open Go.SW Go.RowKit
def B5(b:BZ):Nat→Ty→Option Nat
 |k,.nil=>some k
 |0,.var _ _=>none
 |0,.con _ _ _=>none
 |k+1,.var n r=>match Ap b (.var n) with
   |.var _=>B5 b k r
   |.con _ d=>B5 b k (d.app r)
 |k+1,.con _ d r=>B5 b k (d.app r)
theorem FL(b:BZ):∀(k:Nat)(t:Ty),KT b k t=(B5 b k t).isSome
 |k,.nil=>by cases k <;> rfl
 |0,.var _ _=>rfl
 |0,.con _ _ _=>rfl
 |k+1,.var n r=>by
   simp only[KT,B5]
   cases Ap b (.var n) with
   |var _=>exact FL b k r
   |con _ d=>exact FL b k _
 |k+1,.con _ d r=>by simp only[KT,B5];exact FL b k _
theorem JV(b:BZ):∀(k:Nat)(x y:Ty),B5 b k (x.app y)=(B5 b k x).bind λj=>B5 b j y
 |k,.nil,y=>by cases k <;> rfl
 |0,.var _ _,y=>rfl
 |0,.con _ _ _,y=>rfl
 |k+1,.var n r,y=>by
   simp only[Ty.app,B5]
   cases Ap b (.var n) with
   |var _=>exact JV b k r y
   |con _ d =>
     simp only;rw[← Ty.app_assoc];exact JV b k _ y
 |k+1,.con _ d r,y=>by
   simp only[Ty.app,B5];rw[← Ty.app_assoc];exact JV b k _ y
theorem ES(b:BZ):∀(k:Nat)(x:Ty)(j:Nat),B5 b k x=some j→j≤k
 |k,.nil,j,h=>by cases k <;> (cases h;exact Nat.le_refl _)
 |0,.var _ _,_,h=>by cases h
 |0,.con _ _ _,_,h=>by cases h
 |k+1,.var n r,j,h=>by
   simp only[B5] at h
   split at h
   · have:=ES b k _ j h;omega
   · have:=ES b k _ j h;omega
 |k+1,.con _ d r,j,h=>by
   simp only[B5] at h;have:=ES b k _ j h;omega
theorem JL(b:BZ)(k:Nat)(t:T1)(r:Ty):B5 b k (t.cons r)=(B5 b k t.one).bind λj=>B5 b j r:=by rw[← T1.one_app,JV]
theorem Kh(b:BZ)(k:Nat)(t:T1):B5 b (k+1) t.one=B5 b k (Ap b t).kids:=by
 cases t with
 |var n =>
   simp only[T1.one,T1.cons,B5]
   cases Ap b (.var n) with
   |var _=>cases k <;> rfl
   |con _ d=>simp only[Ty.app_nil];rfl
 |con tx d =>
   simp only[T1.one,T1.cons,B5,Hd,Ty.app_nil];rfl
theorem Lh(b:BZ)(t:T1):B5 b 0 t.one=none:=by cases t <;> rfl
theorem Qy{s:BZ}(hw:Jo s):∀(k:Nat)(t:T1),t.bnd→(Is s k t).bnd
 |0,t,h=>h
 |k+1,.con _ _,h=>h
 |k+1,.var n,h=>by
   simp only[Is]
   split
   · exact h
   · rename_i t' d;exact Qy hw k t' (O1 hw d)
theorem Cz{s:BZ}(hw:Jo s){t:T1}(h:t.bnd):(Ap s t).bnd:=Qy hw _ t h
end Go.SP
namespace Go.SP
open Go.SW Go.RowKit
variable {f f':Fq}{fr pr:Int}{Fs:List (wO→Fq→Prop)}{l:lV}{mb nb sb:Nat}{M MI:Nat→Prop}{T:tI}{w':wO}
theorem BC.keep{s:BZ}{w:wO}(h:BC T sb mb s fr pr w f)(d:CK M w f w' f')(F:Ii w f w' f')(G:¬M sb)(J:¬M mb):BC T sb mb s fr pr w' f':=by
 obtain⟨D,es,hm,K⟩:=h;exact⟨(d.stp.block sb D.lt G).trans D,es,hm.heap (d.stp.block mb hm.lt J),G1.mono F s es K⟩
theorem memH{w:wO}(d:Vl w f)(D:AM w nb l T)(F:f nb=0)(G:AI Fs w f)(hm:Aw Fs):AQ ⟨λb=>b=nb,λ_=>False,λ_ _=>True,w,f⟩ w f [⟨nb,l,T,false⟩] [] [] Fs where
 stp:=MW.refl _ _
 old _ _:=rfl
 val:=d
 ent:=Ii.refl _ _
 res:=trivial
 stab _ _ _ _ _ _ _:=trivial
 mi _ h:=h.elim
 blk e h:=by
   rcases List.mem_cons.1 h with rfl|h
   · exact D
   · cases h
 row _ h:=by cases h
 nd:=by simp[CO]
 own b h:=by
   have:b=nb:=by simpa[CO] using h
   subst this;exact⟨F,.inr C,λh=>h⟩
 hnw e h J:=by
   rcases List.mem_cons.1 h with rfl|h
   · cases J
   · cases h
 rnw _ h:=by cases h
 fro _ h:=by cases h
 fac:=G.mem
 mono:=hm.mem
theorem Te{I:wO→Fq→Prop}{w:wO}(F:Vl w f)(G:I w f)(d:FD M I)(hm:∀b,M b→b<w.heap.size∧f b=0)(J:AI Fs w f)(D:Aw Fs):AQ ⟨M,M,I,w,f⟩ w f [] [] [] Fs where
 stp:=MW.refl _ _
 old _ _:=rfl
 val:=F
 ent:=Ii.refl _ _
 res:=G
 stab:=d
 mi b h:=⟨(hm b h).1,(hm b h).2,.inr h⟩
 blk _ h:=by cases h
 row _ h:=by cases h
 nd:=List.nodup_nil
 own _ h:=by cases h
 hnw _ h:=by cases h
 rnw _ h:=by cases h
 fro _ h:=by cases h
 fac:=J.mem
 mono:=D.mem
def Kv(nb:Nat)(n:Int)(w:wO)(_:Fq):Prop:=AM w nb [.int .i64 n] 3
theorem Kv.stab{n:Int}(h:MI nb):FD MI (Kv nb n):=λ_ _ _ _ d _ hm=>(hm nb h).trans d
def VisF(P:Program)(d:FuncId)(T:tI)(g:FuncId)(k:Nat):Prop:=∀(w:wO)(f:Fq)(_:Vl w f)(sb mb:Nat)(s:BZ)(fr pr:Int)(nb:Nat),BC T sb mb s fr pr w f→Jo s→sb≠nb→mb≠nb→f nb=0→Kv nb (1000-(k:Int)) w f→k≤1000→∀(t:T1)(a:oA)(c:Nat),t.bnd→Ak w f t.kids a c →
 Bq P d #[.pointer (some ⟨sb,0,none⟩),tV t a c,.func (.func g) #[] #[.pointer (some ⟨nb,0,none⟩)]] w (Fg (α:=Int) (λ_=>.bool (B5 s k t.one).isSome) (λx=>∀j,B5 s k t.one=some j→x=1000-(j:Int)) (λb=>b=nb) (λx=>Kv nb x) (λ_=>[]) w f)
end Go.SP
namespace Go.SW
open Go.RowKit
variable {Q:AX}{nw:Bool}{X:Cx}{f:Fq}{Fs:List (wO→Fq→Prop)}{ds:List Deferred}{B:List FB}{fs:List Fr}{H H':List HB}{l:lV}{b i n:Nat}{T:tI}
theorem AQ.give{w:wO}{R:List RB}(h:AQ X w f H R B Fs)(K:Ib H i=some ⟨b,l,T,nw⟩)(Y:Lo H i=some H') :
   AQ {X with MI:=λk=>X.MI k∨k=b,I:=λw f=>X.I w f∧AM w b l T} w f H' R B Fs:=by
 have F:AM w b l T:=h.blk _ (BO K);have G:=h.own b (List.mem_append.2 (.inl (List.mem_map.2 ⟨_,BO K,C⟩)));have d:=L1 Y;have O:(H.map HB.b++Js R).Nodup:=h.nd;have U:b∉CO H' R:=LR (L:=Js R) K Y O;have D:(CO H' R).Sublist (CO H R):=List.Sublist.append (d.map _) (List.Sublist.refl _)
 exact {h with
         res:=⟨h.res,F⟩,
         stab:=λw1 f1 w2 f2 Z hF hb=>⟨h.stab w1 f1 w2 f2 Z.1 hF λk hm=>hb k (.inl hm),(hb b (.inr C)).trans Z.2⟩,
         mi:=λk J=>by
           rcases J with J|rfl
           · exact h.mi k J
           · exact⟨F.lt,G.1,G.2.1⟩,
         blk:=λe he=>h.blk e (d.subset he),nd:=D.nodup h.nd,
         own:=λk J=>⟨(h.own k (D.subset J)).1,(h.own k (D.subset J)).2.1,λhm=>by
           rcases hm with hm|rfl
           · exact (h.own k (D.subset J)).2.2 hm
           · exact U J⟩,
         hnw:=λe he=>h.hnw e (d.subset he)}
theorem yE{P:Program}{R:List RB}{σ:Bf}{k:KX}(i:Nat)(d:Ib H i=some ⟨b,l,T,nw⟩)(D:Lo H i=some H')
   (h:A3 P n Q ds {X with MI:=λk=>X.MI k∨k=b,I:=λw f=>X.I w f∧AM w b l T} R B Fs k fs σ H'):A3 P n Q ds X R B Fs k fs σ H:=λw f F=>h w f (F.give d D)
end Go.SW
namespace Go.SW
open Go.RowKit
variable {Q:AX}{X:Cx}{f:Fq}{Fs:List (wO→Fq→Prop)}{ds:List Deferred}{B:List FB}{fs:List Fr}{H:List HB}{b n:Nat}{w':wO}
theorem GG.fle{w:wO}(h:GG b w w')(d:f b=0):Ii w f w' f:=λk=>⟨Nat.le_refl _,λo D=>Dz (h.block k (λe=>by rw[e,d] at D;omega)) o⟩
theorem oZ{P:Program}{R:List RB}{σ:Bf}{k:KX}{α:Type}(d:α→wO→Fq→Prop)(G:∀w f,X.I w f→∃x,d x w f)(D:∀x,FD X.MI (d x))
   (h:∀x,A3 P n Q ds {X with I:=d x} R B Fs k fs σ H):A3 P n Q ds X R B Fs k fs σ H:=λw f F=>by
 obtain⟨x,J⟩:=G w f F.res;exact h x w f {F with res:=J,stab:=D x}
end Go.SW
namespace Go.SP
open Go.SW Go.RowKit
theorem Ly{s:BZ}{x:Int}:∀(k:Nat)(a b:Ty)(j:Nat),B5 s k a=some j→CV s x k (a.app b)=(CV s x k a&&CV s x j b)
 |k,.nil,b,j,h=>by
   have e:j=k:=by cases k <;> (cases h;rfl)
   subst e
   cases j <;> simp[Ty.app,CV]
 |0,.var _ _,_,_,h=>by cases h
 |0,.con _ _ _,_,_,h=>by cases h
 |k+1,.var n r,b,j,h=>by
   simp only[Ty.app,B5,CV] at h ⊢
   cases d:Ap s (.var n) with
   |var m=>rw[d] at h;simp only at h ⊢;rw[Ly k r b j h,Bool.and_assoc]
   |con tx D=>rw[d] at h;simp only at h ⊢;rw[← Ty.app_assoc];exact Ly k _ b j h
 |k+1,.con tx D r,b,j,h=>by
   simp only[Ty.app,B5,CV] at h ⊢;rw[← Ty.app_assoc];exact Ly k _ b j h
variable {j:Nat}
theorem Qx{s:BZ}{x:Int}{k:Nat}{t:T1}{r:Ty}(h:B5 s k t.one=some j):CV s x k (t.cons r)=(CV s x k t.one&&CV s x j r):=by rw[← T1.one_app];exact Ly k t.one r j h
def Yc(x:Int):T1→Bool
 |.var m=>!(m==x)
 |.con _ _=>true
theorem JU(s:BZ)(x:Int)(k:Nat)(t:T1):CV s x (k+1) t.one=(Yc x (Ap s t)&&CV s x k (Ap s t).kids):=by
 cases t with
 |var n =>
   simp only[T1.one,T1.cons,CV]
   cases Ap s (.var n) with
   |var m=>cases k <;> simp[Yc,T1.kids,CV]
   |con tx d=>simp[Yc,T1.kids,Ty.app_nil]
 |con tx d=>simp[T1.one,T1.cons,CV,Hd,Yc,T1.kids,Ty.app_nil]
def yQ(P:Program)(d:FuncId)(T:tI)(g:FuncId)(k:Nat):Prop:=∀(w:wO)(f:Fq)(_:Vl w f)(sb mb:Nat)(s:BZ)(fr pr:Int)(h:Nat)(x:Int),BC T sb mb s fr pr w f→Jo s→AM w h [.int .i64 x] 3→∀(t:T1)(a:oA)(c j:Nat),t.bnd→Ak w f t.kids a c→B5 s k t.one=some j →
 Bq P d #[.pointer (some ⟨sb,0,none⟩),tV t a c,.func (.func g) #[] #[.pointer (some ⟨h,0,none⟩)]] w (B3 (α:=Unit) (λ_=>.bool (CV s x k t.one)) (λ_=>True) (λ_=>[]) w f)
def JG(s:BZ)(n:Int)(t:T1):Int×BZ:=match Cv s n t with
 |.error e=>(e,s)
 |.ok s'=>(0,s')
end Go.SP
namespace Go.SP
open Go.SW Go.RowKit
def nU(T:tI)(sb mb:Nat)(s:BZ)(fr pr:Int)(es:List (Int×Value))(w:wO)(f:Fq):Prop:=AM w sb [.map (some mb),.int .i64 fr,.int .i64 pr] T∧BM Fi w mb es∧G1 w f s es
variable {fr pr:Int}{es:List (Int×Value)}{mb sb:Nat}{MI:Nat→Prop}{T:tI}
theorem nU.stab{s:BZ}(d:MI sb)(D:MI mb):FD MI (nU T sb mb s fr pr es):=λ_ _ _ _ ⟨F,hm,G⟩ J h=>⟨(h sb d).trans F,hm.heap (h mb D),G1.mono J s es G⟩
theorem Yf{s:BZ}{n:Int}{t:T1}(h:HZ s t=false):JG s n t=(4,s):=by simp[JG,Cv,h]
theorem fE{s:BZ}{n:Int}{t:T1}(h:HZ s t=true)(d:CV s n 1000 t.one=false):JG s n t=(11,s):=by simp[JG,Cv,h,d]
theorem fU{s:BZ}{n:Int}{t:T1}(h:HZ s t=true)(d:CV s n 1000 t.one=true):JG s n t=(0,(n,t)::s):=by simp[JG,Cv,h,d]
end Go.SP
namespace Go.SW
open Go.RowKit
variable {Q:AX}{af:Array Edge}{ag:Bool}{X:Cx}{Fs:List (wO→Fq→Prop)}{ds:List Deferred}{B:List FB}{fs:List Fr}{H:List HB}{l l' vs:lV}{b n off:Nat}{x:Operand}{g:Option (Nat×Bool)}{pos:String}{T:tI}{I':wO→Fq→Prop}
theorem Vx{P:Program}{R:List RB}{σ:Bf}{all r:List Oper}{ty J:tI}{y:Operand}{k:Nat}{v:Value}
   (L:gd all σ g=some true) (O:ev σ x=some (.pointer (some ⟨b,off,none⟩))) (U:ev σ y=some v) (Y:Ia v=some vs) (Z:AP P T=some (ag,k)) (hk:Nat.beq vs.length k=true) (h1:MV vs=true) (hp:P5 l off vs=some l') (D:X.MI b)
   (hb:∀w f,X.I w f→AM w b l J) (hI:∀w f w',X.I w f→AQ X w f H R B Fs→GG b w w'→AM w' b l' J→I' w' f) (F:FD X.MI I')
   (h:A3 P n Q ds {X with I:=I' } R B Fs (.ops all r) fs σ H):A3 P n Q ds X R B Fs (.ops all (⟨none,.store T x y,ty,pos,af,g⟩::r)) fs σ H:=λw f d =>
 B2 L (A1 O U Y Z hk (hb w f d.res) h1 hp λw' G K=>h w' f (d.chgI D K (hI w f w' d.res d K G) F))
def cutq(P:Program)(n:Nat){α:Type}(p:α→Prop)(s:α→Bf)(X:α→Cx)(H:α→List HB)(R:α→List RB)(B:α→List FB)(Fs:α→List (wO→Fq→Prop))(ds:List Deferred)(Q:AX):AX :=
 {q:=λe σ d w=>match e with
     |.normal=>∃x,p x∧d=ds∧Le (s x) σ∧∃f,AQ (X x) w f (H x) (R x) (B x) (Fs x)
     |e=>Q.q e σ d w,
   p:=Q.p}
section
variable{P:Program}{n:Nat}{Q:AX}{ds:List Deferred}{X:Cx}{R:List RB}{B:List FB}{Fs:List (wO→Fq→Prop)}{fs:List Fr}{σ:Bf}{H:List HB}
theorem Po{c:Code}{α:Type}(p:α→Prop)(s:α→Bf)(d:α→Cx)(H':α→List HB)(R':α→List RB)(B':α→List FB)(F':α→List (wO→Fq→Prop))(h:A3 P n (cutq P n p s d H' R' B' F' ds (MK P n Q fs)) ds X R B Fs (.code c) [] σ H)
   (D:∀x,p x→A3 P n Q ds (d x) (R' x) (B' x) (F' x) (.out .normal) fs (s x) (H' x)):A3 P n Q ds X R B Fs (.code c) fs σ H:=λw f F a G=>by
 refine wp_mono (h w f F a G) λe a' w' he=>?_
 cases e with
 |normal =>
   obtain⟨J,K,L,x,O,rfl,U,f',hm⟩:=he;exact⟨s x,_,L.le U,D x O w' f' hm⟩
 |panic c=>exact he
 |outgrown=>exact he
 |ret=>exact he
 |exit i=>exact he
 |goto i=>exact he
theorem IB{α:Type}{p:α→Prop}{s:α→Bf}{d:α→Cx}{H':α→List HB}{R':α→List RB}{B':α→List FB}{F':α→List (wO→Fq→Prop)}(x:α)(h:p x)(D:Le (s x) σ)(F:∀w f,AQ X w f H R B Fs→∃f,AQ (d x) w f (H' x) (R' x) (B' x) (F' x)):A3 P n (cutq P n p s d H' R' B' F' ds Q) ds X R B Fs (.out .normal) [] σ H :=
 λw f hm=>⟨x,h,C,D,F w f hm⟩
end
end Go.SW
namespace Go.SP
open Go.SW Go.RowKit
def KY(f:BZ→Ty→Ty→Except Int (Nat×BZ))(b:BZ)(x y:T1)(r q:Ty):Except Int (Nat×BZ) :=
 match x,y with
 |.var n,.var m=>if n==m then f b r q else (match Cv b n (.var m) with|.error e=>.error e|.ok d=>f d r q)
 |.var n,.con ty h=>(match Cv b n (.con ty h) with|.error e=>.error e|.ok d=>f d r q)
 |.con tx ka,.var m=>(match Cv b m (.con tx ka) with|.error e=>.error e|.ok d=>f d r q)
 |.con tx ka,.con ty h=>if !(tx==ty)||(ka.len:Int) != h.len then .error 11 else f b (ka.app r) (h.app q)
def Hg:Nat→BZ→Ty→Ty→Except Int (Nat×BZ)
 |k,b,.nil,_=>.ok (k,b)
 |0,_,.var _ _,_=>.error 4
 |0,_,.con _ _ _,_=>.error 4
 |k+1,b,.var n r,y=>KY (Hg k) b (Ap b (.var n)) (Ap b y.hd) r y.tl
 |k+1,b,.con tx ka r,y=>KY (Hg k) b (.con tx ka) (Ap b y.hd) r y.tl
def mapE{α β:Type}(g:α→β):Except Int α→Except Int β
 |.error e=>.error e
 |.ok x=>.ok (g x)
def SG{α β:Type}(g:α→Except Int β):Except Int α→Except Int β
 |.error e=>.error e
 |.ok x=>g x
theorem T9:∀(k:Nat)(b:BZ)(x y:Ty),Mb k b x y=mapE (·.2) (Hg k b x y):=by
 intro k
 induction k with
 |zero=>intro b x y;cases x <;> rfl
 |succ k d =>
   have h:∀b x y r q,Ja (Mb k) b x y r q=mapE (·.2) (KY (Hg k) b x y r q):=by
     intro b x y r q
     cases x with
     |var n =>
       cases y with
       |var m =>
         simp only[Ja,KY]
         cases (n==m) with
         |true=>simp only[if_true];exact d _ _ _
         |false =>
           simp only[Bool.false_eq_true,if_false]
           cases Cv b n (.var m) with
           |error e=>rfl
           |ok D=>exact d _ _ _
       |con ty F =>
         simp only[Ja,KY]
         cases Cv b n (.con ty F) with
         |error e=>rfl
         |ok D=>exact d _ _ _
     |con tx ka =>
       cases y with
       |var m =>
         simp only[Ja,KY]
         cases Cv b m (.con tx ka) with
         |error e=>rfl
         |ok D=>exact d _ _ _
       |con ty F =>
         simp only[Ja,KY]
         split
         · rfl
         · exact d _ _ _
   intro b x y
   cases x with
   |nil=>rfl
   |var n r=>exact h _ _ _ _ _
   |con tx ka r=>exact h _ _ _ _ _
theorem T1.hd_cons(t:T1)(r:Ty):(t.cons r).hd=t:=by cases t <;> rfl
theorem T1.tl_cons(t:T1)(r:Ty):(t.cons r).tl=r:=by cases t <;> rfl
theorem kL(k:Nat)(b:BZ)(x:T1)(r y:Ty):Hg (k+1) b (x.cons r) y=KY (Hg k) b (Ap b x) (Ap b y.hd) r y.tl:=by cases x <;> rfl
theorem vS:∀(k:Nat)(b:BZ)(x y r q:Ty),x.len=y.len→Hg k b (x.app r) (y.app q)=SG (λz=>Hg z.1 z.2 r q) (Hg k b x y):=by
 intro k
 induction k with
 |zero =>
   intro b x y r q h
   cases x with
   |nil =>
     have:y=.nil:=Ty.len0 (by simpa[Ty.len] using h.symm);subst this;rfl
   |var n x=>rfl
   |con tx ka x=>rfl
 |succ k d =>
   have G:∀b u v x y r q,x.len=y.len→KY (Hg k) b u v (x.app r) (y.app q)=SG (λz=>Hg z.1 z.2 r q) (KY (Hg k) b u v x y):=by
     intro b u v x y r q h
     cases u with
     |var n =>
       cases v with
       |var m =>
         simp only[KY]
         cases (n==m) with
         |true=>simp only[if_true];exact d _ _ _ _ _ h
         |false =>
           simp only[Bool.false_eq_true,if_false]
           cases Cv b n (.var m) with
           |error e=>rfl
           |ok J=>exact d _ _ _ _ _ h
       |con ty D =>
         simp only[KY]
         cases Cv b n (.con ty D) with
         |error e=>rfl
         |ok J=>exact d _ _ _ _ _ h
     |con tx ka =>
       cases v with
       |var m =>
         simp only[KY]
         cases Cv b m (.con tx ka) with
         |error e=>rfl
         |ok J=>exact d _ _ _ _ _ h
       |con ty D =>
         simp only[KY]
         split
         · rfl
         · rename_i K
           have L:ka.len=D.len:=by
             simp only[Bool.or_eq_true,not_or,bne_iff_ne,ne_eq,Decidable.not_not] at K;omega
           rw[← Ty.app_assoc,← Ty.app_assoc];exact d _ _ _ _ _ (by rw[Ty.len_app,Ty.len_app,L,h])
   intro b x y r q h
   cases x with
   |nil =>
     have:y=.nil:=Ty.len0 (by simpa[Ty.len] using h.symm);subst this;rfl
   |var n x =>
     obtain⟨u,y,rfl⟩:=Ty.cases1 y (by rw[← h];simp[Ty.len]);have F:(u.cons y).app q=u.cons (y.app q):=by cases u <;> rfl
     rw[F];show KY (Hg k) b (Ap b (.var n)) (Ap b (u.cons (y.app q)).hd) (x.app r) (u.cons (y.app q)).tl=SG _ (KY (Hg k) b (Ap b (.var n)) (Ap b (u.cons y).hd) x (u.cons y).tl);rw[T1.hd_cons,T1.tl_cons,T1.hd_cons,T1.tl_cons];exact G _ _ _ _ _ _ _ (by rw[T1.len_cons] at h;simpa[Ty.len] using h)
   |con tx ka x =>
     obtain⟨u,y,rfl⟩:=Ty.cases1 y (by rw[← h];simp[Ty.len]);have F:(u.cons y).app q=u.cons (y.app q):=by cases u <;> rfl
     rw[F];show KY (Hg k) b (.con tx ka) (Ap b (u.cons (y.app q)).hd) (x.app r) (u.cons (y.app q)).tl=SG _ (KY (Hg k) b (.con tx ka) (Ap b (u.cons y).hd) x (u.cons y).tl);rw[T1.hd_cons,T1.tl_cons,T1.hd_cons,T1.tl_cons];exact G _ _ _ _ _ _ _ (by rw[T1.len_cons] at h;simpa[Ty.len] using h)
theorem SJ(k:Nat)(b:BZ)(x y:T1)(r q:Ty)(h:r.len=q.len):Hg k b (x.cons r) (y.cons q)=SG (λz=>Hg z.1 z.2 r q) (Hg k b x.one y.one):=by
 rw[← T1.one_app,← T1.one_app];exact vS k b x.one y.one r q (by unfold T1.one;rw[T1.len_cons,T1.len_cons])
theorem KC(k:Nat)(b:BZ)(x y:T1):Hg (k+1) b x.one y.one=KY (Hg k) b (Ap b x) (Ap b y) .nil .nil:=by
 unfold T1.one;rw[kL,T1.hd_cons,T1.tl_cons]
theorem jK(b:BZ)(x y:T1):Hg 0 b x.one y.one=.error 4:=by cases x <;> rfl
theorem NI{s:BZ}(hw:nQ s):∀(k:Nat)(t:T1)(n:Int),EV s t≤k→Is s k t=.var n→CU s n=none
 |0,.con _ _,_,_,h=>by cases h
 |0,.var m,n,D,h=>by
   cases h
   cases d:CU s m with
   |none=>rfl
   |some t=>have:=NX hw d;omega
 |k+1,.con _ _,_,_,h=>by cases h
 |k+1,.var m,n,D,h=>by
   simp only[Is] at h
   cases d:CU s m with
   |none=>rw[d] at h;cases h;exact d
   |some t =>
     rw[d] at h;exact NI hw k t n (by have:=NX hw d;omega) h
theorem Od{s:BZ}(hw:nQ s){t:T1}{n:Int}(h:Ap s t=.var n):CU s n=none:=NI hw _ t n (by have:=XL s t;omega) h
theorem FT{s:BZ}(hw:Jo s){t:T1}{n:Int}(h:Ap s t=.var n):CU s n=none:=Od hw.v h
theorem Vr{s:BZ}(hw:nQ s)(t:T1):Ap s (Ap s t)=Ap s t:=by
 cases h:Ap s t with
 |con tx k=>exact Hd s tx k
 |var n=>exact Ou (Od hw h)
theorem Ms{s:BZ}(hw:Jo s)(t:T1):Ap s (Ap s t)=Ap s t:=Vr hw.v t
theorem RX{s s':BZ}(hw:Jo s){n:Int}{t:T1}(D:CU s n=none)(d:Ap s t=t)(F:t.bnd)(h:Cv s n t=.ok s'):Jo s':=by
 unfold Cv at h
 split at h
 · split at h
   · rename_i J G
     cases h
     refine⟨D,λm hm=>?_,F,hw⟩;subst hm;refine⟨λe=>?_,FT hw d⟩;have:=JU s n 999 (.var m);rw[G,d,e] at this;simp[Yc] at this
   · cases h
 · cases h
def qM(P:Program)(d:FuncId)(T:tI)(k:Nat):Prop:=∀(w:wO)(f:Fq)(_:Vl w f)(sb mb:Nat)(s:BZ)(fr:Int),BC T sb mb s fr (10000-(k:Int)) w f→(f sb=0∧f mb=0)→sb≠mb→Jo s→k≤10000→∀(t u:T1)(a:oA)(c:Nat)(a2:oA)(c2:Nat),t.bnd→u.bnd→Ak w f t.kids a c→Ak w f u.kids a2 c2 →
 Bq P d #[.pointer (some ⟨sb,0,none⟩),tV t a c,tV u a2 c2] w (Fg (α:=Int×BZ×Int) (λx=>.int .i64 x.1) (λx=>(∀z,Hg k s t.one u.one=.ok z→x.1=0∧x.2.1=z.2∧x.2.2=10000-(z.1:Int)∧Jo z.2)∧∀e,Hg k s t.one u.one=.error e→x.1=e∧e≠0) (MY sb mb) (λx=>BC T sb mb x.2.1 fr x.2.2) (λ_=>[]) w f)
theorem Aa6:∀(k:Nat)(b:BZ)(x y:Ty)(z:Nat×BZ),Hg k b x y=.ok z→z.1≤k:=by
 intro k
 induction k with
 |zero=>intro b x y z h;cases x <;> cases h;exact Nat.le_refl _
 |succ k D =>
   have d:∀b u v r q z,KY (Hg k) b u v r q=.ok z→z.1≤k:=by
     intro b u v r q z h;unfold KY at h
     repeat' split at h
     all_goals first|exact D _ _ _ _ h|cases h
   intro b x y z h
   cases x with
   |nil=>cases h;exact Nat.le_refl _
   |var n r=>have:=d _ _ _ _ _ _ h;omega
   |con tx ka r=>have:=d _ _ _ _ _ _ h;omega
end Go.SP
namespace Go.SP
theorem Rr{s:BZ}{n:Int}{t:T1}{e:Int}(h:Cv s n t=.error e):e≠0:=by
 unfold Cv at h
 split at h
 · split at h
   · cases h
   · cases h;decide
 · cases h;decide
end Go.SP
namespace Go.SP
open Go.SW Go.RowKit
theorem Hs(s:BZ)(k:Nat):AO s k .nil=.nil:=by cases k <;> rfl
theorem PY{s:BZ}:∀(k:Nat)(x:Ty)(j:Nat),B5 s k x=some j→∀m,k-j≤m→AO s m x=AO s k x:=by
 intro k
 induction k using Nat.strongRecOn with
 |_ k L =>
   intro x j h m hm
   have key:∀(F d:Nat)(D r:Ty),F<k→B5 s F (D.app r)=some j→F-j≤d→AO s d D=AO s F D∧AO s d r=AO s F r:=by
     intro F d D r Q G U;rw[JV] at G
     cases J:B5 s F D with
     |none=>rw[J] at G;cases G
     |some j1 =>
       rw[J] at G;have G:B5 s j1 r=some j:=G;have Y:=ES s _ _ _ J;have Z:=ES s _ _ _ G;exact⟨L F Q D j1 J d oM,(L j1 oM r j G d oM).trans (L j1 oM r j G F oM).symm⟩
   cases x with
   |nil=>rw[Hs,Hs]
   |var n r =>
     cases k with
     |zero=>cases h
     |succ k =>
       simp only[B5] at h
       cases K:Ap s (.var n) with
       |var q =>
         rw[K] at h;have O:=ES s _ _ _ h;obtain⟨m,rfl⟩:∃d,m=d+1:=⟨m-1,oM⟩;simp only[AO,K];rw[(key k m .nil r (by omega) h (by omega)).2]
       |con tx D =>
         rw[K] at h;have O:=ES s _ _ _ h;obtain⟨m,rfl⟩:∃d,m=d+1:=⟨m-1,oM⟩;simp only[AO,K];have:=key k m D r oM h oM;rw[this.1,this.2]
   |con tx D r =>
     cases k with
     |zero=>cases h
     |succ k =>
       simp only[B5] at h;have O:=ES s _ _ _ h;obtain⟨m,rfl⟩:∃d,m=d+1:=⟨m-1,oM⟩;simp only[AO];have:=key k m D r oM h oM;rw[this.1,this.2]
theorem O7{s:BZ}(k:Nat)(t:T1):(AO s (k+1) t.one).hd=(match Ap s t with|.var m=>.var m|.con tx d=>.con tx (AO s k d)):=by
 cases t with
 |var n =>
   simp only[T1.one,T1.cons,AO]
   cases Ap s (.var n) <;> rfl
 |con tx d=>rw[Hd];rfl
variable {j:Nat}
theorem Me{s:BZ}{k:Nat}{t:T1}{r:Ty}{j2:Nat}(h:B5 s k t.one=some j)(D:B5 s j r=some j2):AO s k (t.cons r)=(AO s k t.one).hd.cons (AO s j r):=by
 cases k with
 |zero=>rw[Lh] at h;cases h
 |succ k =>
   have G:j≤k:=by rw[Kh] at h;exact ES s _ _ _ h
   have d:=PY j r j2 D k oM;rw[O7]
   cases t with
   |var n =>
     simp only[T1.cons,AO]
     cases Ap s (.var n) with
     |var m=>simp only[T1.cons];rw[d]
     |con tx F=>simp only[T1.cons];rw[d]
   |con tx F=>rw[Hd];simp only[T1.cons,AO];rw[d]
theorem YH{s:BZ}(hw:Jo s):∀(k:Nat)(x:Ty),x.bnd→(AO s k x).bnd∧(AO s k x).len≤x.len:=by
 intro k
 induction k with
 |zero=>intro x _;cases x <;> exact⟨tQ,Nat.zero_le _⟩
 |succ k D =>
   intro x d
   cases x with
   |nil=>exact⟨tQ,Nat.le_refl _⟩
   |var n r =>
     have F:=Cz hw (t:=.var n) ⟨⟨Nat.zero_le _,Nat.zero_le _⟩,tQ⟩;have G:=D r d;simp only[AO]
     cases K:Ap s (.var n) with
     |var m=>exact⟨G.1,by simp only[Ty.len];omega⟩
     |con tx J =>
       rw[K] at F;have h:=D J F.2;exact⟨⟨⟨Nat.le_trans h.2 F.1.1,F.1.2⟩,h.1,G.1⟩,by simp only[Ty.len];omega⟩
   |con tx J r =>
     have G:=D r d.2.2;have h:=D J d.2.1;exact⟨⟨⟨Nat.le_trans h.2 d.1.1,d.1.2⟩,h.1,G.1⟩,by simp only[AO,Ty.len];omega⟩
theorem GO{t:T1}(h:t.bnd):t.one.bnd:=T1.bnd_cons.2 ⟨h,tQ⟩
theorem iF{x:Ty}(h:x.bnd):x.hd.bnd:=by
 cases x with
 |nil=>exact⟨⟨Nat.zero_le _,Nat.zero_le _⟩,tQ⟩
 |var n r=>exact⟨⟨Nat.zero_le _,Nat.zero_le _⟩,tQ⟩
 |con tx k r=>exact⟨h.1,h.2.1⟩
theorem gC{s:BZ}(hw:Jo s){t:T1}(h:t.bnd)(k:Nat):(AO s k t.one).hd.bnd:=iF (YH hw k _ (GO h)).1
def qD(P:Program)(d:FuncId)(T:tI)(k:Nat):Prop:=∀(w:wO)(f:Fq)(_:Vl w f)(sb mb:Nat)(s:BZ)(fr pr:Int),BC T sb mb s fr pr w f→Jo s→∀(t:T1)(a:oA)(c j:Nat),t.bnd→Ak w f t.kids a c→B5 s k t.one=some j →
 Bq P d #[.pointer (some ⟨sb,0,none⟩),tV t a c] w (B3 (α:=oA×Nat) (λx=>tV (AO s k t.one).hd x.1 x.2) (λ_=>True) (λx=>[λw f=>Ak w f (AO s k t.one).hd.kids x.1 x.2]) w f)
end Go.SP
namespace Go.SP
open Go.SW Go.RowKit
variable {f:Fq}{i:Nat}{a:oA}{w:wO}
theorem Ak.get{t:T1}:∀{k:Ty}{b off i:Nat},Jm w f k b off→k.get i=some t→∃ka kc,Cs w f b (off+i*4) (tC t ka kc)∧Ak w f t.kids ka kc
 |k,b,off,0,h,d=>by
   obtain⟨t2,r,rfl⟩:∃t r,k=T1.cons t r:=by
     cases k with
     |nil=>cases d
     |var n r=>exact⟨.var n,r,C⟩
     |con tx q r=>exact⟨.con tx q,r,C⟩
   have e:t2=t:=by cases t2 <;> (cases d;rfl)
   subst e;obtain⟨b2,D,ka,kc,F,J,K,_⟩:=BN.head (a:=some ⟨b,off,none⟩) (i:=0) (.inr ⟨b,off,C,by simpa using h⟩)
   cases F
   exact⟨ka,kc,by simpa using J,K⟩
 |k,b,off,i+1,h,d=>by
   obtain⟨t2,r,rfl⟩:∃t r,k=T1.cons t r:=by
     cases k with
     |nil=>cases d
     |var n r=>exact⟨.var n,r,C⟩
     |con tx q r=>exact⟨.con tx q,r,C⟩
   have e:r.get i=some t:=by cases t2 <;> exact d
   obtain⟨b2,D,ka,kc,F,_,_,L⟩:=BN.head (a:=some ⟨b,off,none⟩) (i:=0) (.inr ⟨b,off,C,by simpa using h⟩);rcases L with rfl|⟨b3,G,O,Q⟩
   · cases e
   · cases O
     obtain⟨ka,kc,U,Y⟩:=Ak.get Q e;exact⟨ka,kc,by rw[show off+(i+1)*4=off+(0+1)*4+i*4 by omega];exact U,Y⟩
theorem Ak.nth{t:T1}{k:Ty}{c:Nat}(h:Ak w f k a c)(d:k.get i=some t):∃b off ka kc,a=some ⟨b,off,none⟩∧Cs w f b (off+i*4) (tC t ka kc)∧Ak w f t.kids ka kc:=by
 rcases h.2 with rfl|⟨b,off,D,F⟩
 · cases d
 · obtain⟨ka,kc,G,J⟩:=Ak.get F d
   exact⟨b,off,ka,kc,D,G,J⟩
theorem HQ{t:T1}:∀{k:Ty}{i:Nat},k.bnd→k.get i=some t→t.bnd
 |.nil,_,_,h=>by cases h
 |.var n r,0,_,h=>by cases h;exact⟨⟨Nat.zero_le _,Nat.zero_le _⟩,tQ⟩
 |.con tx q r,0,d,h=>by cases h;exact⟨d.1,d.2.1⟩
 |.var n r,i+1,d,h=>HQ (k:=r) d h
 |.con tx q r,i+1,d,h=>HQ (k:=r) d.2.2 h
theorem VF{k:Ty}(h:i<k.len):∃t,k.get i=some t:=by
 induction k generalizing i with
 |nil=>simp[Ty.len] at h
 |var n r d=>cases i with
   |zero=>exact⟨_,C⟩
   |succ i=>exact d (by simp only[Ty.len] at h;omega)
 |con tx q r _ d=>cases i with
   |zero=>exact⟨_,C⟩
   |succ i=>exact d (by simp only[Ty.len] at h;omega)
theorem eM{k:Ty}(h:k.len≤i):k.get i=none:=by
 induction k generalizing i with
 |nil=>rfl
 |var n r d=>cases i with
   |zero=>simp[Ty.len] at h
   |succ i=>exact d (by simp only[Ty.len] at h;omega)
 |con tx q r _ d=>cases i with
   |zero=>simp[Ty.len] at h
   |succ i=>exact d (by simp only[Ty.len] at h;omega)
theorem PL(l:List Int)(y:Ty)(t:T1)(r:Ty):DF l y (t.cons r)=(Cu t l y).cons (DF l y r):=by
 cases t with
 |var n =>
   simp only[T1.cons,DF,Cu,T1.one]
   cases (DD l n).bind y.get with
   |none=>rfl
   |some t=>cases t <;> rfl
 |con tx k=>rfl
theorem Im{l:List Int}{y:Ty}(h:y.bnd):∀x:Ty,x.bnd→(DF l y x).bnd∧(DF l y x).len=x.len
 |.nil,_=>⟨tQ,C⟩
 |.var n r,d=>by
   have D:=Im (l:=l) h r d;simp only[DF]
   cases G:(DD l n).bind y.get with
   |none=>exact⟨D.1,by simp only[Ty.len];omega⟩
   |some t =>
     obtain⟨i,_,J⟩:=Option.bind_eq_some_iff.1 G;exact⟨T1.bnd_cons.2 ⟨HQ h J,D.1⟩,by rw[T1.len_cons];simp only[Ty.len];omega⟩
 |.con tx k r,d=>by
   have D:=Im (l:=l) h r d.2.2;have F:=Im (l:=l) h k d.2.1;exact⟨⟨⟨by rw[F.2];exact d.1.1,d.1.2⟩,F.1,D.1⟩,by simp only[DF,Ty.len];omega⟩
theorem Jt{l:List Int}{y:Ty}(d:y.bnd){t:T1}(h:t.bnd):(Cu t l y).bnd:=iF (Im d _ (GO h)).1
theorem Oh{l:List Int}{y:Ty}{n:Int}:Cu (.var n) l y=((DD l n).bind y.get).getD (.var n):=by
 simp only[Cu,T1.one,T1.cons,DF]
 cases (DD l n).bind y.get with
 |none=>rfl
 |some t=>cases t <;> rfl
theorem dW{l:List Int}{y:Ty}{tx:lU}{k:Ty}:Cu (.con tx k) l y=.con tx (DF l y k):=rfl
def pM(P:Program)(d:FuncId)(m:Nat):Prop:=∀(w:wO)(f:Fq)(_:Vl w f)(l:List Int)(h:oA)(lc:Nat)(y:Ty)(D:oA)(F:Nat),l.length≤1000000→y.len≤200000→y.bnd→B9 w f l h lc→Ak w f y D F→∀(t:T1)(a:oA)(c:Nat),t.kids.size<m→t.bnd→Ak w f t.kids a c →
 Bq P d #[tV t a c,.slice h l.length lc,.slice D y.len F] w (B3 (α:=oA×Nat) (λx=>tV (Cu t l y) x.1 x.2) (λ_=>True) (λx=>[λw f=>Ak w f (Cu t l y).kids x.1 x.2]) w f)
end Go.SP
namespace Go.SW
open Go.RowKit
section
variable{X:Cx}{w w':wO}{f f':Fq}{H:List HB}{R:List RB}{B:List FB}{Fs:List (wO→Fq→Prop)}
variable {I':wO→Fq→Prop}
theorem AQ.callJ{MI':Nat→Prop}(h:AQ X w f H R B Fs)(he:CK X.MI w f w' f')(L:I' w' f')(J:FD MI' I')(F:∀b,MI' b→X.MI b∨(w.heap.size≤b∧b<w'.heap.size∧f' b=0)):AQ {X with MI:=MI',I:=I' } w' f' H R B Fs :=
 have G:AQ {X with I:=λ_ _=>True} w' f' H R B Fs:=h.callI he tQ (λ_ _ _ _ _ _ _=>trivial)
 {G with
   res:=L,stab:=J,
   mi:=λb D=>by
     rcases F b D with D|⟨K,O,U⟩
     · exact G.mi b D
     · exact⟨O,U,.inl (Nat.le_trans h.stp.size K)⟩,
   own:=λb D=>⟨(G.own b D).1,(G.own b D).2.1,λhm=>by
     rcases F b hm with hm|⟨K,_,_⟩
     · exact (G.own b D).2.2 hm
     · exact Nat.lt_irrefl _ (Nat.lt_of_lt_of_le (h.lt D) K)⟩}
end
def KB{α:Type}(val:α→Value)(q:α→Prop)(M:Nat→Prop)(MI':α→Nat→Prop)(I':α→wO→Fq→Prop)(F':α→List (wO→Fq→Prop))(w:wO)(f:Fq)(v:Value)(w':wO):Prop:=∃x f',v=val x∧q x∧CK M w f w' f'∧(∀b,MI' x b→M b∨(w.heap.size≤b∧b<w'.heap.size∧f' b=0))∧I' x w' f'∧AI (F' x) w' f'
section
variable{P:Program}{n:Nat}{Q:AX}{ds:List Deferred}{X:Cx}{R:List RB}{B:List FB}{Fs:List (wO→Fq→Prop)}{fs:List Fr}{σ:Bf}{H:List HB}
variable{all r:List Oper}{ty T:tI}{pos:String}{af:Array Edge}{g:Option (Nat×Bool)}{d:Nat}{x y:Operand}
variable {args:Array Value}{nw:Bool}{fid:FuncId}{XX:List PanicEntry→wO→Prop}{news xs zl:lV}{bytes cs:Nat}{Ts e:tI}
theorem Wf{op:Op}{α:Type}{val:α→Value}{q:α→Prop}{MI':α→Nat→Prop}{I':α→wO→Fq→Prop}{F':α→List (wO→Fq→Prop)}
   (J:gd all σ g=some true) (hd:Nat.blt d n=true) (he:∀w,Enters P σ op ty w fid args)
   (K:∀w f,AQ X w f H R B Fs→BI P fid args w (KB val q X.MI MI' I' F' w f) XX) (D:∀x,FD (MI' x) (I' x)) (hm:∀x,Aw (F' x))
   (L:∀w f c w',AQ X w f H R B Fs→XX c w'→Q.p c σ ds w')
   (h:∀x,q x→A3 P n Q ds {X with MI:=MI' x,I:=I' x} R B (F' x++Fs) (.ops all r) fs (AF σ d (val x)) H):A3 P n Q ds X R B Fs (.ops all (⟨some d,op,ty,pos,af,g⟩::r)) fs σ H:=λw f F=>by
 refine B2 J (Cg hd (he w) (K w f F) ?_ ?_)
 · rintro v w' ⟨x,f',rfl,O,U,G,Y,Z⟩
   exact h x O w' f' ((F.callJ U Y (D x) G).more (B':=[]) (λ_ h=>by cases h) Z.mem (hm x).mem)
 · intro c w' hX
   rw[MF];exact L w f c w' F hX
theorem NG{size:Nat}{a:oA}{c k src:Nat}{MI':oA→Nat→Prop}{I':oA→Nat→wO→Fq→Prop}(j:Nat)(hg:gd all σ g=some true)(hd:Nat.blt d n=true)(hT:OB P T=some (e,size,bytes,zl))(L:Nat.beq zl.length size=true)(O:Nat.blt 0 size=true)
   (hs:ev σ x=some (.slice a k c)) (hx:ev σ y=some (.slice (some ⟨src,0,none⟩) 1 cs)) (hH:Ib H j=some ⟨src,news,Ts,nw⟩) (hl:Nat.beq news.length size=true) (h1:MV news=true) (U:(k+1)*bytes≤140737488355328) (Y:k+1≤9223372036854775807)
   (J:∀w f,X.I w f→BX w e size a c k xs) (K:∀b,rb a=some b→X.MI b) (Z:∀a' b,MI' a' b→X.MI b∨rb a'=some b) (hI:∀w f w' a' c',X.I w f→AQ X w f H R B Fs→BX w' e size a' c' (k+1) (xs++news)→Fj a w a' w'→I' a' c' w' f) (hst:∀a' c',FD (MI' a') (I' a' c'))
   (h:∀a' c',A3 P n Q ds {X with MI:=MI' a',I:=I' a' c' } R B Fs (.ops all r) fs (AF σ d (.slice a' (k+1) c')) H) :
   A3 P n Q ds X R B Fs (.ops all (⟨some d,.call {callee:=.builtin .append,args:=#[x,y],argTypes:=#[T,T]},ty,pos,af,g⟩::r)) fs σ H:=λw f G =>
 B2 hg (Bb hd hT L O hs hx (J w f G.res) (G.blk _ (BO hH)) hl h1 U Y λa' c' w' hr F=>h a' c' w' f (G.callJ ⟨⟨F.os,F.tape,F.output,F.size,λb D hm=>F.block b D λe=>hm (K b e.symm)⟩,λ_ _=>C,λb D=>G.val b (Nat.le_trans F.size D)⟩ (hI w f w' a' c' G.res G hr F) (hst a' c') λb D=>by
   rcases Z a' b D with D|D
   · exact .inl D
   · rcases F.own with ho|ho
     · exact .inl (K b (ho.symm.trans D))
     · have e:b=w.heap.size:=Option.some.inj (D.symm.trans ho)
       subst e;exact .inr ⟨Nat.le_refl _,hr.lt D,G.val _ (Nat.le_refl _)⟩))
end
variable {b:Nat}{M:Nat→Prop}
theorem CK.done{w w':wO}{f f':Fq}(h:CK M w f w' f')(F:w.heap.size≤b)(G:b<w'.heap.size)(n:Nat):CK M w f w' (λk=>if k=b then n else f' k) :=
 ⟨h.stp,λk D=>by show (if k=b then n else f' k)=f k;rw[if_neg (by omega)];exact h.old k D,λk D=>by show (if k=b then n else f' k)=0;rw[if_neg (by omega)];exact h.val k D⟩
end Go.SW
namespace Go.SP
open Go.SW Go.RowKit
def HM(l:List Int):List (Int×Value):=l.reverse.map λn=>(n,.bool true)
theorem R5(n:Int):∀l:List Int,ER (l.map λn=>(n,Value.bool true)) n=if l.contains n then some (.bool true) else none
 | []=>rfl
 |k::l=>by
   have:=R5 n l;simp only[List.map,ER,List.contains_cons]
   by_cases h:n=k
   · subst h;simp
   · have e:(n==k)=false:=by simpa using h
     rw[e,this];simp
theorem V0(n:Int)(l:List Int):ER (HM l) n=if l.contains n then some (.bool true) else none:=by
 unfold HM;rw[R5];simp
theorem Ti:∀l:List Int,l.Nodup→Jp (l.map λn=>(n,Value.bool true))
 | [],_=>trivial
 |k::l,h=>by
   have D:=List.nodup_cons.1 h;refine⟨?_,Ti l D.2⟩;rw[R5,if_neg];simpa using D.1
theorem Lr{l:List Int}(h:l.Nodup):Jp (HM l):=Ti _ ((List.reverse_perm l).nodup_iff.2 h)
def Nu(ob mb:Nat)(a:oA)(b:Nat):Prop:=b=ob∨b=mb∨rb a=some b
structure Ea(T:tI)(ob mb:Nat)(sl:Value)(lm:List Int)(a:oA)(c:Nat)(l:List Int)(w:wO)(f:Fq):Prop where
 blk:AM w ob [sl] T
 map:BM Fi w mb (HM lm)
 row:BX w 3 1 a c l.length (l.map λn=>.int .i64 n)
 ne:ob≠mb∧rb a≠some ob∧rb a≠some mb
 nd:lm.Nodup
theorem Ea.stab{T:tI}{ob mb:Nat}{sl:Value}{lm:List Int}{a:oA}{c:Nat}{l:List Int}:FD (Nu ob mb a) (Ea T ob mb sl lm a c l):=λ_ _ _ _ h K D =>
 ⟨(D ob (.inl C)).trans h.blk,h.map.heap (D mb (.inr (.inl C))),⟨h.row.1,h.row.2.imp id λ⟨b,q,F,G,J⟩=>⟨b,q,F,(D b (.inr (.inr (by rw[F];rfl)))).trans G,J⟩⟩,h.ne,h.nd⟩
abbrev Rj(T:tI)(ob mb:Nat)(a:oA)(c:Nat)(l:List Int):wO→Fq→Prop:=Ea T ob mb (.slice a l.length c) l a c l
variable {b:Nat}{M:Nat→Prop}{w0:wO}
theorem Ea.lt{T:tI}{ob mb:Nat}{sl:Value}{lm:List Int}{a:oA}{c:Nat}{l:List Int}{w:wO}{f:Fq}(h:Ea T ob mb sl lm a c l w f)(D:Nu ob mb a b):b<w.heap.size:=by
 rcases D with rfl|rfl|D
 · exact h.blk.lt
 · exact h.map.lt
 · exact h.row.lt D
theorem Zu(t:T1)(r:Ty)(l:List Int):CM (t.cons r) l=CM r (CM t.one l):=by cases t <;> rfl
theorem JD:∀(x:Ty)(l:List Int),(CM x l).length≤x.size+l.length
 |.nil,l=>by simp[CM]
 |.var n r,l=>by
   have:=JD r (if l.contains n then l else l++[n]);simp only[CM,Ty.size]
   split at this <;> simp_all <;> omega
 |.con tx k r,l=>by
   have h:=JD k l;have D:=JD r (CM k l);simp only[CM,Ty.size];omega
def pK(P:Program)(fid:FuncId)(T:tI)(m:Nat):Prop:=∀(w:wO)(f:Fq)(_:Vl w f)(ob mb:Nat)(a:oA)(c:Nat)(l:List Int),Rj T ob mb a c l w f→(∀b,Nu ob mb a b→f b=0)→∀(t:T1)(h:oA)(D:Nat),t.kids.size<m→t.kids.size+1+l.length≤1000000→t.bnd→Ak w f t.kids h D →
 Bq P fid #[tV t h D,.map (some mb),.pointer (some ⟨ob,0,none⟩)] w (KB (α:=oA×Nat) (λ_=>.tuple #[]) (λ_=>True) (Nu ob mb a) (λx=>Nu ob mb x.1) (λx=>Rj T ob mb x.1 x.2 (CM t.one l)) (λ_=>[]) w f)
theorem Ea.int{T:tI}{ob mb:Nat}{sl:Value}{lm:List Int}{a:oA}{c:Nat}{l:List Int}{w:wO}{f0 f:Fq}(h:Ea T ob mb sl lm a c l w f)(J:CK M w0 f0 w f)(L:∀b,rb a=some b→w0.heap.size≤b):∃f',CK M w0 f0 w f'∧B9 w f' l a c:=by
 obtain⟨Y,⟨F,Z,hz⟩|⟨b,q,F,K,G,_,hq,O⟩⟩:=h.row
 · exact⟨f,J,oM,.inl (by cases l with|nil=>rfl|cons _ _=>simp at hz)⟩
 · refine⟨λk=>if k=b then l.length else f k,J.done (L b (by rw[F];rfl)) K.lt _,G,.inr ⟨b,0,F,λj v D=>?_⟩⟩
   have U:j<l.length:=by have:=(List.getElem?_eq_some_iff.1 D).1;simpa using this
   refine⟨?_,?_⟩
   · show 0+j<(if b=b then l.length else f b)
     rw[if_pos C];omega
   · rw[Nat.zero_add,K.cell]
     rw[← O,List.getElem?_take] at D
     split at D
     · exact D
     · cases D
end Go.SP
namespace Go.SP
open Go.SW Go.RowKit
theorem X5(n:Int)(l:List Int):(ER (HM l) n).getD (.bool false)=.bool (l.contains n):=by
 rw[V0];cases l.contains n <;> rfl
theorem X8{n:Int}{l:List Int}(h:l.contains n=false):ER (HM l) n=none:=by rw[V0,h];rfl
theorem Q6(n:Int)(l:List Int):HM (l++[n])=(n,.bool true)::HM l:=by simp[HM]
section
variable{T:tI}{ob mb:Nat}{sl sl':Value}{lm l:List Int}{a a':oA}{c c':Nat}{w w':wO}{f f':Fq}{n:Int}
theorem Ea.app(h:Ea T ob mb sl lm a c l w f)(F:BX w' 3 1 a' c' (l.length+1) (l.map (λn=>Value.int .i64 n)++[.int .i64 n]))(D:Fj a w a' w'):Ea T ob mb sl lm a' c' (l++[n]) w' f' where
 blk:=h.blk.grow D (λe=>h.ne.2.1 e.symm)
 map:=h.map.heap (D.block mb h.map.lt (λe=>h.ne.2.2 e.symm))
 row:=by simpa using F
 ne:=⟨h.ne.1,λe=>D.own.elim (λo=>h.ne.2.1 (o.symm.trans e)) (λo=>absurd h.blk.lt (by rw[← Option.some.inj (o.symm.trans e)];exact Nat.lt_irrefl _)),λe=>D.own.elim (λo=>h.ne.2.2 (o.symm.trans e)) (λo=>absurd h.map.lt (by rw[← Option.some.inj (o.symm.trans e)];exact Nat.lt_irrefl _))⟩
 nd:=h.nd
variable {xs:lV}{b:Nat}{e:tI}
theorem BX.chgB{size:Nat}{a:oA}{c n:Nat}(h:BX w e size a c n xs)(G:GG b w w')(D:rb a≠some b):BX w' e size a c n xs :=
 ⟨h.1,h.2.imp id λ⟨g,q,F,J,K⟩=>⟨g,q,F,(G.block g (λe=>D (by rw[F,← e];rfl))).trans J,K⟩⟩
theorem Ea.mapped{q:List Int}(h:Ea T ob mb sl l a c q w f)(D:GG mb w w')(hm:BM Fi w' mb ((n,.bool true)::HM l))(G:l.contains n=false):Ea T ob mb sl (l++[n]) a c q w' f' where
 blk:=(D.block ob h.ne.1).trans h.blk
 map:=by rw[Q6];exact hm
 row:=BX.chgB h.row D h.ne.2.2
 ne:=h.ne
 nd:=by
   have J:n∉l:=by simpa using G
   exact List.nodup_append.2 ⟨h.nd,List.nodup_cons.2 ⟨by simp,List.nodup_nil⟩,λx K y F e=>by simp at F;subst F;subst e;exact J K⟩
theorem Ea.store(h:Ea T ob mb sl lm a c l w f)(D:GG ob w w')(F:AM w' ob [sl'] T):Ea T ob mb sl' lm a c l w' f' where
 blk:=F
 map:=h.map.heap (D.block mb (λe=>h.ne.1 e.symm))
 row:=BX.chgB h.row D h.ne.2.1
 ne:=h.ne
 nd:=h.nd
end
variable {b:Nat}
theorem Nu.or{ob mb:Nat}{a a':oA}(h:Nu ob mb a' b):Nu ob mb a b∨rb a'=some b:=h.elim (λh=>.inl (.inl h)) λh=>h.elim (λh=>.inl (.inr (.inl h))) .inr
theorem OY(n:Int)(l:List Int):CM (T1.var n).one l=if l.contains n then l else l++[n]:=rfl
theorem cM(tx:lU)(k:Ty)(l:List Int):CM (T1.con tx k).one l=CM k l:=rfl
end Go.SP
namespace Go.SW
open Go.RowKit
section
variable{P:Program}{σ:Bf}{w:wO}{ty T T':tI}{x y:Operand}
variable {t t':tI}
theorem kO{k:IntKind}{a b:Int}(m:Int)(D:ev σ x=some (.int k a))(F:ev σ y=some (.int k b))(G:b≠0)(h:k.wrap (a.tdiv b)=m):AK P σ (.binOp .quo t x y t') ty w (.int k m) w :=
 λJ _ _ _ _ d=>by simp[execOp,d _ _ D,d _ _ F,eqGuard,binOp,Op.intDiv,G,h]
theorem oF{k:IntKind}{a b:Int}(m:Int)(D:ev σ x=some (.int k a))(F:ev σ y=some (.int k b))(G:b≠0)(h:a.tmod b=m):AK P σ (.binOp .rem t x y t') ty w (.int k m) w :=
 λJ _ _ _ _ d=>by simp[execOp,d _ _ D,d _ _ F,eqGuard,binOp,Op.intDiv,G,h]
theorem eO{k:IntKind}{n:Int}{l:lU}(J:ev σ x=some (.int k n))(D:vM P T T'=true)(h:Utf8.encode n=⟨l.toArray⟩):AK P σ (.convert T T' x) ty w (S l) w:=by
 unfold vM at D
 cases F:P.underlying T with
 |none=>rw[F] at D;cases D
 |some s =>
   cases hd:P.underlying T' with
   |none=>rw[F,hd] at D;cases D
   |some d =>
     rw[F,hd] at D
     cases d <;> simp at D
     exact λK _ _ _ _ G=>by
       simp[execOp,G _ _ J,convert,run_underlying F,run_underlying hd,Conv.intToString,h,S]
end
variable {Q:AX}{X:Cx}{f:Fq}{Fs:List (wO→Fq→Prop)}{ds:List Deferred}{B:List FB}{fs:List Fr}{H H':List HB}{l:lV}{b i n:Nat}{w':wO}
theorem AQ.toRow{w:wO}{R:List RB}{T:tI}(h:AQ X w f H R B Fs)(Y:Ib H i=some ⟨b,l,T,true⟩)(hs:Lo H i=some H')(size c:Nat)(Z:l.length=c*size)(hc:c≤maxLen):AQ X w f H' (⟨T,size,some ⟨b,0,none⟩,c,c,l⟩::R) B Fs:=by
 have J:AM w b l T:=h.blk _ (BO Y);have K:b∈CO H R:=List.mem_append.2 (.inl (List.mem_map.2 ⟨_,BO Y,C⟩));have O:=h.own b K;have D:=L1 hs;have hnd:(H.map HB.b++Js R).Nodup:=h.nd;have hbR:b∉CO H' R:=LR (L:=Js R) Y hs hnd;have U:(CO H' R).Sublist (CO H R):=List.Sublist.append (D.map _) (List.Sublist.refl _)
 have hp:∀k,k∈CO H' (⟨T,size,some ⟨b,0,none⟩,c,c,l⟩::R)→k=b∨k∈CO H' R:=λk F=>by
   have d:k∈H'.map HB.b++b::R.filterMap (λr=>rb r.a):=F;rcases List.mem_append.1 d with d | d
   · exact .inr (List.mem_append.2 (.inl d))
   · rcases List.mem_cons.1 d with rfl|d
     · exact .inl C
     · exact .inr (List.mem_append.2 (.inr d))
 exact {h with
         blk:=λe he=>h.blk e (D.subset he),
         row:=λr G=>by
           rcases List.mem_cons.1 G with rfl|G
           · exact⟨Z,.inr ⟨b,l,C,J,Nat.le_refl _,hc,Z,by rw[← Z];exact List.take_length⟩⟩
           · exact h.row r G,
         nd:=by
           show (H'.map HB.b++b::R.filterMap (λr=>rb r.a)).Nodup;exact List.perm_middle.nodup_iff.2 (List.nodup_cons.2 ⟨hbR,U.nodup h.nd⟩),
         own:=λk F=>by
           rcases hp k F with rfl|F
           · exact O
           · exact h.own k (U.subset F),
         hnw:=λe he=>h.hnw e (D.subset he),
         rnw:=λr G k F=>by
           rcases List.mem_cons.1 G with rfl|G
           · cases F;exact h.hnw _ (BO Y) C
           · exact h.rnw r G k F}
theorem jN{P:Program}{R:List RB}{σ:Bf}{k:KX}{T:tI}(i size c:Nat)(d:Ib H i=some ⟨b,l,T,true⟩)(D:Lo H i=some H')(F:Nat.beq l.length (c*size)=true)(G:c≤maxLen)
   (h:A3 P n Q ds X (⟨T,size,some ⟨b,0,none⟩,c,c,l⟩::R) B Fs k fs σ H'):A3 P n Q ds X R B Fs k fs σ H:=λw f J=>h w f (J.toRow d D size c (Nat.eq_of_beq_eq_true F) G)
theorem Below.exm{w:wO}(h:Below w.heap.size w w')(d:∀b,w.heap.size≤b→f b=0)(M:Nat→Prop):CK M w f w' f:=⟨⟨h.os,h.tape,h.output,h.size,λk D _=>h.block k D⟩,λ_ _=>C,λb F=>d b (Nat.le_trans h.size F)⟩
end Go.SW
namespace Go.SP
open Go.SW Go.RowKit
def P4(vs:List Int)(t:T1):lU:=(DE vs t.one).drop 1
theorem Ml(vs:List Int)(t:T1)(r:Ty):DE vs (t.cons r)=32::(P4 vs t++DE vs r):=by
 cases t with
 |var n=>simp[P4,T1.one,T1.cons,DE]
 |con tx k=>cases k <;> simp[P4,T1.one,T1.cons,DE]
theorem aS(vs:List Int)(n:Int):P4 vs (.var n)=(match DD vs n with|some i=>DM i|none=>[]):=by
 simp[P4,T1.one,T1.cons,DE] <;> cases DD vs n <;> rfl
theorem WC(vs:List Int)(tx:lU):P4 vs (.con tx .nil)=tx:=by simp[P4,T1.one,T1.cons,DE]
theorem eD(vs:List Int)(tx:lU)(k:Ty)(h:k.len≠0):P4 vs (.con tx k)=[40]++(tx++DE vs k)++[41]:=by
 cases k with
 |nil=>exact absurd C h
 |var n r=>simp[P4,T1.one,T1.cons,DE]
 |con tx k r=>simp[P4,T1.one,T1.cons,DE]
theorem ND(s:lU)(l:List lU)(x:lU):Lib.joinTail s (l++[x])=Lib.joinTail s l++(s++x):=by simp[Lib.joinTail]
theorem OV:∀k n,(We k n).length≤k
 |0,_=>Nat.le_refl _
 |k+1,n=>by
   unfold We
   split
   · simp
   · have:=OV k (n / 10);simp;omega
theorem Wr(i:Nat):(DM i).length≤22:=by
 unfold DM
 split
 · simp
 · have:=OV 20 (i / 26);simp;omega
theorem Ll(vs:List Int):∀x:Ty,x.bnd→(DE vs x).length≤x.size*1000100
 |.nil,_=>by simp[DE]
 |.var n r,h=>by
   have F:=Ll vs r h;rw[show Ty.var n r=(T1.var n).cons r from C,Ml,T1.size_cons,aS]
   have d:(match DD vs n with|some i=>DM i|none=>[]).length≤22:=by
     cases DD vs n with
     |none=>simp
     |some i=>exact Wr i
   simp only[List.length_cons,List.length_append,T1.kids,Ty.size] at d ⊢;omega
 |.con tx k r,h=>by
   have F:=Ll vs r h.2.2;have d:=Ll vs k h.2.1;have J:=h.1.2;rw[show Ty.con tx k r=(T1.con tx k).cons r from C,Ml,T1.size_cons]
   have G:(P4 vs (.con tx k)).length≤tx.length+k.size*1000100+2:=by
     by_cases D:k.len=0
     · obtain rfl:=Ty.len0 D
       rw[WC];exact Nat.le_trans (Nat.le_add_right _ _) (Nat.le_add_right _ _)
     · rw[eD vs tx k D];simp;omega
   simp only[List.length_cons,List.length_append,T1.kids] at G ⊢;omega
theorem V6(i:Nat):Utf8.encode (97+((i % 26:Nat):Int))=⟨[UInt8.ofNat (97+i % 26)].toArray⟩:=by
 have h:∀j,j<26→Utf8.encode (97+((j:Nat):Int))=⟨[UInt8.ofNat (97+j)].toArray⟩:=dC;exact h _ (Nat.mod_lt _ oM)
theorem QK:∀(k n:Nat),n<10 ^ (k+1)→We (k+1) n=Lib.decDigits n
 |0,n,h=>by
   have:n<10:=by simpa using h
   rw[Lib.decDigits,We,if_pos this,dif_pos this]
 |k+1,n,h=>by
   rw[Lib.decDigits,We]
   by_cases d:n<10
   · rw[if_pos d,dif_pos d]
   · rw[if_neg d,dif_neg d,QK k (n / 10) (by rw[Nat.pow_succ] at h;omega)]
def Mq(vs:List Int)(es:List (Int×Value)):Prop:=Jp es∧∀n,ER es n=(DD vs n).map λi=>S (DM i)
variable {es:List (Int×Value)}
theorem Mq.get{vs:List Int}(h:Mq vs es)(n:Int):(ER es n).getD (S [])=S (P4 vs (.var n)):=by
 rw[h.2,aS]
 cases DD vs n <;> rfl
def pA(P:Program)(d:FuncId)(m:Nat):Prop:=∀(w:wO)(f:Fq)(_:Vl w f)(mb:Nat)(vs:List Int)(es:List (Int×Value)),BM Fi w mb es→Mq vs es→∀(t:T1)(a:oA)(c:Nat),t.kids.size<m→t.kids.size≤1000000→t.bnd→Ak w f t.kids a c →
 Bq P d #[tV t a c,.map (some mb)] w (B3 (α:=Unit) (λ_=>S (P4 vs t)) (λ_=>True) (λ_=>[]) w f)
end Go.SP
namespace Go.SP
open Go.SW Go.RowKit
theorem S7(x n:Int):∀l:List Int,DD (l++[n]) x=(match DD l x with|some j=>some j|none=>if n==x then some l.length else none)
 | []=>by simp[DD]
 |k::l=>by
   have h:=S7 x n l;simp only[List.cons_append,DD]
   by_cases d:(k==x)=true
   · rw[if_pos d,if_pos d]
   · rw[if_neg d,if_neg d,h]
     cases DD l x with
     |some j=>rfl
     |none=>by_cases D:(n==x)=true <;> simp[D]
theorem Mq.nil:Mq [] []:=⟨tQ,λ_=>C⟩
variable {f:Fq}{es:List (Int×Value)}{l:lV}{b i m mb sb:Nat}
theorem Mq.snoc{l:List Int}(h:Mq l es){n:Int}(D:l.contains n=false):ER es n=none∧Mq (l++[n]) ((n,S (DM l.length))::es):=by
 have F:ER es n=none:=by rw[h.2,Oe D];rfl
 refine⟨F,⟨F,h.1⟩,λx=>?_⟩;rw[S7];simp only[ER]
 by_cases d:x=n
 · subst d;rw[Oe D];simp
 · have G:(x==n)=false:=by simpa using d
   have J:(n==x)=false:=by simpa using λe:n=x=>d e.symm
   rw[G,J,h.2]
   cases DD l x <;> simp
theorem ID:∀(x:Ty)(l:List Int),l.Nodup→(CM x l).Nodup
 |.nil,_,h=>h
 |.var n r,l,h=>by
   simp only[CM];apply ID r
   split
   · exact h
   · rename_i D
     have F:n∉l:=by simpa using D
     exact List.nodup_append.2 ⟨h,List.nodup_cons.2 ⟨by simp,List.nodup_nil⟩,λx G y d e=>by simp at d;subst d;subst e;exact F G⟩
 |.con tx k r,l,h=>ID r _ (ID k l h)
theorem Vk{l:List Int}(h:l.Nodup){n:Int}(D:l[i]?=some n):(l.take i).contains n=false:=by
 have d:=(List.getElem?_eq_some_iff.1 D).1;have e:l=l.take i++l.drop i:=(List.take_append_drop i l).symm
 have hd:n∈l.drop i:=by
   rw[List.drop_eq_getElem_cons d,(List.getElem?_eq_some_iff.1 D).2];exact .head _
 rw[e] at h;have:=(List.nodup_append.1 h).2.2;have F:n∉l.take i:=λhm=>this n hm n hd C;simpa using F
theorem Ha(t:T1):(Aq t).length≤t.kids.size+1:=by
 have:=JD t.one [];have e:t.one.size=t.kids.size+0+1:=T1.size_cons t .nil;rw[e] at this;simpa[Aq] using this
theorem BC.new{T:tI}{w:wO}(d:AM w sb [.map (some mb),.int .i64 0,.int .i64 0] T)(h:BM Fi w mb []):BC T sb mb [] 0 0 w f:=⟨d,[],h,C⟩
theorem uJ{w:wO}{T:tI}(h:AM w b l T)(hm:BM Fi w m es):b≠m:=λe=>by
 subst e;obtain⟨es,c,d,_⟩:=hm;have D:=h.symm.trans d
 cases D
structure Ad where
 cb:Nat
 sb:Nat
 mb:Nat
 km:Nat
 dm:Nat
 rm:Nat
def Bz(A:Ad)(b:Nat):Prop:=b=A.cb∨b=A.sb∨b=A.mb∨b=A.km∨b=A.dm∨b=A.rm
structure Ad.ok(A:Ad):Prop where
 cs:A.cb≠A.sb
 cm:A.cb≠A.mb∧A.cb≠A.km∧A.cb≠A.dm∧A.cb≠A.rm
 sm:A.sb≠A.mb∧A.sb≠A.km∧A.sb≠A.dm∧A.sb≠A.rm
 mm:A.mb≠A.km∧A.mb≠A.dm∧A.mb≠A.rm∧A.km≠A.dm∧A.km≠A.rm∧A.dm≠A.rm
def jE(m:Mk)(aa:oA)(ac:Nat)(oa:oA)(oc:Nat)(va:oA)(vc:Nat):lV:=.slice aa m.args.len ac::(tC m.out oa oc++[.slice va m.vars.length vc])
def Cb(w:wO)(f:Fq):List (lU×Mk)→List (lU×Value)→Prop
 | [],es=>es=[]
 |(k,m)::l,es=>∃aa ac oa oc va vc h,es=(k,.agg (jE m aa ac oa oc va vc).toArray)::h∧Ak w f m.args aa ac∧Ak w f m.out.kids oa oc∧B9 w f m.vars va vc∧Cb w f l h
variable {A:Ad}{s:CS}{f f':Fq}{b:Nat}{a:oA}{TS:tI}{w w':wO}
theorem Cb.mono(F:Ii w f w' f'):∀(l:List (lU×Mk))(es:List (lU×Value)),Cb w f l es→Cb w' f' l es
 | [],_,h=>h
 |(_,_)::l,_,⟨aa,ac,oa,oc,va,vc,D,G,J,K,L,O⟩=>⟨aa,ac,oa,oc,va,vc,D,G,Ak.mono _ _ _ _ J F,Ak.mono _ _ _ _ K F,B9.mono _ _ _ _ L F,Cb.mono F l D O⟩
theorem Cb.look{n:lU}:∀{l:List (lU×Mk)}{es:List (lU×Value)},Cb w f l es→(AD l n=none→ER es n=none)∧∀m,AD l n=some m→∃aa ac oa oc va vc,ER es n=some (.agg (jE m aa ac oa oc va vc).toArray)∧Ak w f m.args aa ac∧Ak w f m.out.kids oa oc∧B9 w f m.vars va vc
 | [],es,h=>by
   have h:es=[]:=h;subst h;exact⟨λ_=>C,λt h=>by cases h⟩
 |(k,m)::l,es,⟨aa,ac,oa,oc,va,vc,F,G,J,K,L,O⟩=>by
   subst G;have U:=Cb.look (n:=n) O;simp only[AD,ER]
   by_cases D:k=n
   · subst D
     refine⟨λh=>by simp at h,λt' h=>?_⟩;simp at h;subst h;exact⟨aa,ac,oa,oc,va,vc,by simp,J,K,L⟩
   · have Y:(k==n)=false:=by simpa using D
     have Z:(n==k)=false:=by simpa using λe:n=k=>D e.symm
     rw[Y,Z];simpa using U
structure As(T TS:tI)(A:Ad)(s:CS)(w:wO)(f:Fq):Prop where
 blk:AM w A.cb [.pointer (some ⟨A.sb,0,none⟩),.map (some A.km),.map (some A.dm),.map (some A.rm),.int .i64 s.vars] T
 sol:∃pr,BC TS A.sb A.mb s.sol s.fresh pr w f
 cons:∃es,BM BQ w A.km es∧Cb w f s.cons es
 datas:BM BQ w A.dm (s.datas.map λp=>(p.1,.int .i64 p.2))
 roots:BM BQ w A.rm (s.roots.map λk=>(k,.bool true))
theorem As.stab{T:tI}:FD (Bz A) (As T TS A s):=λw f w' f' h F D =>
 ⟨(
   D _ (.inl C)).trans h.blk,let ⟨pr,G⟩:=h.sol;⟨pr,BC.stab (MI:=MY A.sb A.mb) (.inl C) (.inr C) _ _ _ _ G F λb hm=>D b (hm.elim (λe=>.inr (.inl e)) λe=>.inr (.inr (.inl e)))⟩,
   let ⟨es,J,K⟩:=h.cons;⟨es,J.heap (D _ (.inr (.inr (.inr (.inl C))))),Cb.mono F _ _ K⟩,h.datas.heap (D _ (.inr (.inr (.inr (.inr (.inl C)))))),h.roots.heap (D _ (.inr (.inr (.inr (.inr (.inr C))))))⟩
theorem As.lt{T:tI}(h:As T TS A s w f)(D:Bz A b):b<w.heap.size:=by
 rcases D with rfl|rfl|rfl|rfl|rfl|rfl
 · exact h.blk.lt
 · obtain⟨_,F⟩:=h.sol;exact F.1.lt
 · obtain⟨_,_,_,hm,_⟩:=h.sol;exact hm.lt
 · obtain⟨_,hm,_⟩:=h.cons;exact hm.lt
 · exact h.datas.lt
 · exact h.roots.lt
structure DI(s:CS):Prop where
 sol:Jo s.sol
 cons:∀k m,AD s.cons k=some m→m.args.len≤200000∧m.args.bnd∧m.out.bnd∧m.vars.length≤200000
 dc:Jp (s.cons.map λp=>(p.1,Value.bool true))
 dd:Jp (s.datas.map λp=>(p.1,Value.int .i64 p.2))
 dr:Jp (s.roots.map λk=>(k,Value.bool true))
 fr:0≤s.fresh
def AJ(w:wO)(f:Fq):Ba→oA→Prop
 | [],a=>a=none
 |b::e,a=>∃k h D va vc F,a=some ⟨k,0,none⟩∧Cs w f k 0 (S b.name::(tC b.t h D++[.slice va b.all.length vc,.pointer F]))∧Ak w f b.t.kids h D∧B9 w f b.all va vc∧AJ w f e F
theorem AJ.mono'(D:Ii w f w' f'):∀(e:Ba)(a:oA),AJ w f e a→AJ w' f' e a
 | [],_,h=>h
 |_::e,_,⟨k,G,J,va,vc,F,K,L,O,U,Y⟩=>⟨k,G,J,va,vc,F,K,L.mono D,Ak.mono _ _ _ _ O D,B9.mono _ _ _ _ U D,AJ.mono' D e F Y⟩
theorem AJ.mono{e:Ba}:FU (λw f=>AJ w f e a):=λ_ _ _ _ h D=>AJ.mono' D e a h
def Gx(e:Ba):Prop:=∀b,b∈e→b.t.bnd∧b.all.length≤1000000
def trI(T:tI)(e:Er):List PanicEntry:=[{v:=.iface T (.agg #[.int .i64 e.1,.int .i64 e.2.1,.int .i64 e.2.2]),recovered:=false}]
def PanE(T:tI)(M:Nat→Prop)(q:Er→Prop)(w:wO)(f:Fq)(c:List PanicEntry)(w':wO):Prop:=∃er f',c=trI T er∧q er∧CK M w f w' f'
abbrev XC(T TS:tI)(A:Ad)(s:CS)(w:wO)(f:Fq):Cx:=⟨Bz A,Bz A,As T TS A s,w,f⟩
theorem LD{T:tI}{Fs:List (wO→Fq→Prop)}(F:Vl w f)(h:As T TS A s w f)(G:∀b,Bz A b→f b=0)(J:AI Fs w f)(hm:Aw Fs):AQ (XC T TS A s w f) w f [] [] [] Fs :=
 Te (M:=Bz A) F h As.stab (λb D=>⟨h.lt D,G b D⟩) J hm
theorem XN{s:BZ}:∀(k:Nat)(x:Ty)(j:Nat),B5 s k x=some j→(AO s k x).size+j≤k:=by
 intro k
 induction k using Nat.strongRecOn with
 |_ k L =>
   intro x j h
   have key:∀(D:Nat)(F r:Ty),D<k→B5 s D (F.app r)=some j→(AO s D F).size+(AO s D r).size+j≤D:=by
     intro D F r O G;rw[JV] at G
     cases J:B5 s D F with
     |none=>rw[J] at G;cases G
     |some j1 =>
       rw[J] at G;have G:B5 s j1 r=some j:=G;have U:=ES s _ _ _ J;have Y:=L D O F j1 J;have Z:=L j1 oM r j G;rw[PY j1 r j G D (by omega)];omega
   cases x with
   |nil=>rw[Hs];cases k <;> (cases h;simp[Ty.size])
   |var n r =>
     cases k with
     |zero=>cases h
     |succ k =>
       simp only[B5] at h
       cases K:Ap s (.var n) with
       |var q =>
         rw[K] at h;have:=key k .nil r oM h;simp only[AO,K,Ty.size];rw[Hs] at this;simp only[Ty.size] at this;omega
       |con tx F =>
         rw[K] at h;have:=key k F r oM h;simp only[AO,K,Ty.size];omega
   |con tx F r =>
     cases k with
     |zero=>cases h
     |succ k =>
       simp only[B5] at h;have:=key k F r oM h;simp only[AO,Ty.size];omega
theorem bG(s:BZ)(k:Nat)(t:T1):AO s (k+1) t.one=(AO s (k+1) t.one).hd.one:=by
 cases t with
 |var n =>
   simp only[T1.one,T1.cons,AO]
   cases Ap s (.var n) <;> (simp only[Hs];rfl)
 |con tx h=>simp only[T1.one,T1.cons,AO,Hs];rfl
theorem IX{s:BZ}{t u:T1}(h:CX s t=some u):u.kids.size+1≤1000:=by
 unfold CX at h
 split at h
 · rename_i D
   rw[HZ,FL] at D;obtain⟨j,F⟩:=Option.isSome_iff_exists.1 D;have J:=XN 1000 t.one j F;have G:=bG s 999 t
   cases h
   have K:(AO s 1000 t.one).size=(AO s 1000 t.one).hd.kids.size+0+1:=(congrArg Ty.size G).trans (T1.size_cons _ .nil);omega
 · cases h
theorem Kn{s:BZ}(hw:Jo s){t u:T1}(D:t.bnd)(h:CX s t=some u):u.bnd:=by
 unfold CX at h
 split at h
 · cases h;exact gC hw D 1000
 · cases h
end Go.SP
namespace Go.SW
open Go.RowKit Go.SP
variable {args:Array Value}{f f':Fq}{fid:FuncId}{M:Nat→Prop}{w w':wO}
theorem AQ.exmI{X:Cx}{H:List HB}{R:List RB}{B:List FB}{Fs:List (wO→Fq→Prop)}(h:AQ X w f H R B Fs)(D:∀b,M b→X.MI b)(he:CK M w f w' f'):CK X.M X.w0 X.f0 w' f' :=
 (h.callI (I':=λ_ _=>True) (he.mono D) tQ (λ_ _ _ _ _ _ _=>trivial)).exm
section
variable{P:Program}{n:Nat}{Q:AX}{ds:List Deferred}{X:Cx}{R:List RB}{B:List FB}{Fs:List (wO→Fq→Prop)}{fs:List Fr}{σ:Bf}{H:List HB}
variable{all r:List Oper}{ty T:tI}{pos:String}{af:Array Edge}{g:Option (Nat×Bool)}{d:Nat}
theorem DT{op:Op}{α:Type}{val:α→Value}{q:α→Prop}{I':α→wO→Fq→Prop}{F':α→List (wO→Fq→Prop)}{pe:Er→Prop}
   (L:gd all σ g=some true) (hd:Nat.blt d n=true) (he:∀w,Enters P σ op ty w fid args) (O:∀b,M b→X.MI b)
   (U:∀w f,AQ X w f H R B Fs→BI P fid args w (Fg val q X.MI I' F' w f) (PanE T M pe w f)) (D:∀x,FD X.MI (I' x)) (hm:∀x,Aw (F' x))
   (Y:∀er w' f',pe er→CK X.M X.w0 X.f0 w' f'→Q.p (trI T er) σ ds w')
   (h:∀x,q x→A3 P n Q ds {X with I:=I' x} R B (F' x++Fs) (.ops all r) fs (AF σ d (val x)) H):A3 P n Q ds X R B Fs (.ops all (⟨some d,op,ty,pos,af,g⟩::r)) fs σ H :=
 P8 (XX:=λc w'=>∃er f',c=trI T er∧pe er∧CK X.M X.w0 X.f0 w' f') L hd he (λw f K=>(U w f K).mono (λ_ _ h=>h) λ_ _ ⟨er,f',F,G,J⟩=>⟨er,f',F,G,K.exmI O J⟩) D hm (λ_ _ _ _ _ ⟨er,f',F,G,J⟩=>F▸Y er _ f' G J) h
theorem Ov{op:Op}{pe:Er→Prop}
   (D:gd all σ g=some true) (hd:Nat.blt d n=true) (he:∀w,Enters P σ op ty w fid args) (F:∀b,M b→X.MI b)
   (G:∀w f,AQ X w f H R B Fs→BI P fid args w (λ_ _=>False) (PanE T M pe w f))
   (J:∀er w' f',pe er→CK X.M X.w0 X.f0 w' f'→Q.p (trI T er) σ ds w'):A3 P n Q ds X R B Fs (.ops all (⟨some d,op,ty,pos,af,g⟩::r)) fs σ H :=
 DT (α:=Unit) (val:=λ_=>.tuple #[]) (q:=λ_=>False) (I':=λ_ _ _=>True) (F':=λ_=>[]) D hd he F (λw f K=>(G w f K).mono (λ_ _ h=>h.elim) λ_ _ h=>h) (λ_ _ _ _ _ _ _ _=>trivial) (λ_=>trivial) J (λ_ h=>h.elim)
end
end Go.SW
namespace Go.SP
open Go.SW Go.RowKit
variable {A:Ad}{s:CS}{f f':Fq}{fr pr:Int}{M:Nat→Prop}{TS:tI}{w w' w0:wO}
theorem MY.c:∀b,MY A.sb A.mb b→Bz A b:=λ_ h=>h.elim (λe=>.inr (.inl e)) λe=>.inr (.inr (.inl e))
theorem As.solved{T:tI}(h:As T TS A s w f)(D:A.ok)(J:Vl w f)(hz:∀b,MY A.sb A.mb b→f b=0)(F:CK (MY A.sb A.mb) w f w' f'){s':BZ}(K:BC TS A.sb A.mb s' fr pr w' f'):As T TS A {s with sol:=s',fresh:=fr} w' f' where
 blk:=(F.stp.block _ (h.lt (.inl C)) (λe=>e.elim D.cs D.cm.1)).trans h.blk
 sol:=⟨pr,K⟩
 cons:=let ⟨es,G,L⟩:=h.cons;⟨es,G.heap (F.stp.block _ G.lt (λe=>e.elim (λe=>D.sm.2.1 e.symm) (λe=>D.mm.1 e.symm))),Cb.mono (F.fle J hz) _ _ L⟩
 datas:=h.datas.heap (F.stp.block _ h.datas.lt (λe=>e.elim (λe=>D.sm.2.2.1 e.symm) (λe=>D.mm.2.1 e.symm)))
 roots:=h.roots.heap (F.stp.block _ h.roots.lt (λe=>e.elim (λe=>D.sm.2.2.2 e.symm) (λe=>D.mm.2.2.1 e.symm)))
theorem jF{P:Program}{n:Nat}{Q:AX}{ds:List Deferred}{f0:Fq}{T:tI}{R:List RB}{B:List FB}{Fs:List (wO→Fq→Prop)}{fs:List Fr}{σ:Bf}{H:List HB}{k:KX}
   (h:∀pr,A3 P n Q ds ⟨M,Bz A,λw f=>As T TS A s w f∧BC TS A.sb A.mb s.sol s.fresh pr w f,w0,f0⟩ R B Fs k fs σ H):A3 P n Q ds ⟨M,Bz A,As T TS A s,w0,f0⟩ R B Fs k fs σ H :=
 oZ (X:=⟨M,Bz A,As T TS A s,w0,f0⟩) (λpr w f=>As T TS A s w f∧BC TS A.sb A.mb s.sol s.fresh pr w f) (λw f h=>let ⟨pr,G⟩:=h.sol;⟨pr,h,G⟩) (λpr w f w' f' h D F=>⟨As.stab w f w' f' h.1 D F,BC.stab (MI:=MY A.sb A.mb) (.inl C) (.inr C) _ _ _ _ h.2 D λb hm=>F b (MY.c b hm)⟩) h
end Go.SP
namespace Go.SP
open Go.SW Go.RowKit
def Eu(fr:Int):Nat→Ty
 |0=>.nil
 |n+1=>.var (fr+1) (Eu (fr+1) n)
theorem FW:∀(n:Nat)(fr:Int),(Eu fr n).len=n
 |0,_=>rfl
 |n+1,fr=>by simp only[Eu,Ty.len];rw[FW n]
theorem IF:∀(n:Nat)(fr:Int),(Eu fr n).bnd
 |0,_=>trivial
 |n+1,fr=>IF n (fr+1)
theorem MD:∀(n:Nat)(fr:Int),Eu fr (n+1)=(Eu fr n).snoc (.var (fr+n+1))
 |0,fr=>by simp[Eu,Ty.snoc,Ty.app,T1.one,T1.cons]
 |n+1,fr=>by
   have:=MD n (fr+1);rw[Eu,this];show _=Ty.var _ _
   congr 2
   simp;omega
theorem BL:∀(l:List Int)(s:CS),Bn l s=(Eu s.fresh l.length,{s with fresh:=s.fresh+l.length})
 | [],s=>by simp[Bn,Eu]
 |_::l,s=>by
   have h:=BL l (A7 s).2;simp only[Bn,T1.cons,Eu,List.length_cons];rw[h];simp only[A7,T1.cons];have e:s.fresh+1+(l.length:Int)=s.fresh+((l.length+1:Nat):Int):=oM;rw[e]
variable {s:CS}
theorem DI.fresh(h:DI s){n:Int}(d:0≤n):DI {s with fresh:=n}:={h with fr:=d}
end Go.SP
namespace Go.SP
open Go.SW Go.RowKit
variable {Q:AX}{A:Ad}{σ:Bf}{s:CS}{f:Fq}{Fs:List (wO→Fq→Prop)}{ds:List Deferred}{B:List FB}{fs:List Fr}{H:List HB}{n:Nat}{M:Nat→Prop}{P:Program}{T TS:tI}{w w0:wO}
theorem Cb.keys{n:lU}:∀{l:List (lU×Mk)}{es:List (lU×Value)},Cb w f l es→(ER (l.map λp=>(p.1,Value.bool true)) n=none→ER es n=none)
 | [],es,h,_=>by have h:es=[]:=h;subst h;rfl
 |(k,m)::l,es,⟨_,_,_,_,_,_,D,F,_,_,_,G⟩,d=>by
   subst F;simp only[List.map,ER] at d ⊢
   split at d
   · cases d
   · rename_i J;rw[if_neg J];exact Cb.keys G d
theorem Cb.dis:∀{l:List (lU×Mk)}{es:List (lU×Value)},Cb w f l es→Jp (l.map λp=>(p.1,Value.bool true))→Jp es
 | [],es,h,_=>by have h:es=[]:=h;subst h;trivial
 |(k,m)::l,es,⟨_,_,_,_,_,_,D,F,_,_,_,d⟩,hd=>by
   subst F;exact⟨Cb.keys d hd.1,Cb.dis d hd.2⟩
theorem mxk{f0:Fq}{R:List RB}{k:KX}
   (h:∀es,A3 P n Q ds ⟨M,Bz A,λw f=>As T TS A s w f∧BM BQ w A.km es∧Cb w f s.cons es,w0,f0⟩ R B Fs k fs σ H):A3 P n Q ds ⟨M,Bz A,As T TS A s,w0,f0⟩ R B Fs k fs σ H :=
 oZ (X:=⟨M,Bz A,As T TS A s,w0,f0⟩) (λes w f=>As T TS A s w f∧BM BQ w A.km es∧Cb w f s.cons es) (λw f h=>let ⟨es,F,G⟩:=h.cons;⟨es,h,F,G⟩) (λes w f w' f' h d D=>⟨As.stab w f w' f' h.1 d D,h.2.1.heap (D _ (.inr (.inr (.inr (.inl C))))),Cb.mono d _ _ h.2.2⟩) h
end Go.SP
namespace Go.SW
open Go.RowKit Go.SP
variable {Q:AX}{σ:Bf}{X:Cx}{Fs:List (wO→Fq→Prop)}{ds:List Deferred}{B:List FB}{fs:List Fr}{H:List HB}{n:Nat}{P:Program}
theorem P0{R:List RB}{k:KX}{r:RB}(φ:wO→Fq→Prop)(hm:FU φ)(F:∀w f,AQ X w f H (r::R) B Fs→∃f',AQ X w f' H R B Fs∧φ w f')
   (h:A3 P n Q ds X R B (φ::Fs) k fs σ H):A3 P n Q ds X (r::R) B Fs k fs σ H:=λw f G=>by
 obtain⟨f',d,D⟩:=F w f G;exact h w f' (d.more (B':=[]) (F':=[φ]) (λ_ h=>by cases h) (AI.mem ⟨D,tQ⟩) (Aw.mem ⟨hm,tQ⟩))
end Go.SW
namespace Go.SP
open Go.SW Go.RowKit
variable {X:Cx}{f:Fq}{Fs:List (wO→Fq→Prop)}{B:List FB}{H:List HB}{xs:lV}{m:Nat}{a:oA}{e:tI}{w:wO}
theorem HT{R:List RB}{c:Nat}{k:Ty}(D:AQ X w f H (⟨e,4,a,c,m,xs⟩::R) B Fs)(F:Bi w f k xs):∃f',AQ X w f' H R B Fs∧Ak w f' k a c:=by
 rcases Nat.eq_zero_or_pos k.len with d|d
 · obtain rfl:=Ty.len0 d
   exact⟨f,D.less (List.Sublist.refl _) (List.sublist_cons_self _ _) (λ_ h=>h) (λ_ h=>h),Ak.nil _ _ _ _⟩
 · exact Pu D F d
theorem Nt{R:List RB}{c:Nat}{l:List Int}(D:AQ X w f H (⟨3,1,a,c,l.length,l.map λn=>.int .i64 n⟩::R) B Fs):∃f',AQ X w f' H R B Fs∧B9 w f' l a c:=by
 have J:=D.row _ (.head _);rcases J.2 with ⟨_,_,hz⟩|⟨b,q,G,K,F,_,L,O⟩
 · simp only at hz
   exact⟨f,D.less (List.Sublist.refl _) (List.sublist_cons_self _ _) (λ_ h=>h) (λ_ h=>h),oM,.inl (by cases l with|nil=>rfl|cons _ _=>simp at hz)⟩
 · simp only at G
   subst G;obtain⟨f',d⟩:=D.done (i:=0) C C;refine⟨f',d.less (List.Sublist.refl _) (List.Sublist.refl _) (λ_ h=>.tail _ h) (λ_ h=>h),F,.inr ⟨b,0,C,d.fro _ (.head _)⟩⟩
end Go.SP
namespace Go.SW
open Go.RowKit Go.SP
section
variable{κ:Type}[BEq κ]{K:Key κ}[LawfulBEq κ]
theorem Qg(x:κ):∀(es:List MapEntry)(l:List (κ×Value))(i:Nat)(v:Value),es.map (λe=>(e.key,e.val))=l.map (λp=>(K.enc p.1,p.2))→M1 x l=some v →
   ∃j e,Instr.findNow K.desc (K.enc x) es i=some (some (i+j,v))∧es[j]?=some e∧e.key=K.enc x∧e.val=v
 | [],[],i,v,_,h=>by cases h
 | [],_::_,_,_,h,_=>by simp at h
 |_::_,[],_,_,h,_=>by simp at h
 |e::es,p::l,i,v,h,D=>by
   simp only[List.map_cons,List.cons.injEq,Prod.mk.injEq] at h;obtain⟨⟨G,J⟩,O⟩:=h;have U:Instr.sameNow K.desc (K.enc x) e.key=some (x==p.1):=by rw[G];exact K.same x p.1
   obtain⟨L,pv⟩:=p;unfold Instr.findNow;unfold M1 at D;rw[U]
   cases F:x==L with
   |true =>
     rw[F] at D;have D:pv=v:=by simpa using D
     have he:x=L:=by simpa using F
     subst he;exact⟨0,e,by simp[J,D],C,G,J.trans D⟩
   |false =>
     rw[F] at D;obtain⟨j,Y,Z,h2,h3⟩:=Qg x es l (i+1) v O (by simpa using D);exact⟨j+1,Y,by simp only[Z];congr 3;omega,h2,h3⟩
variable{P:Program}{n:Nat}{Q:AX}{ds:List Deferred}{X:Cx}{R:List RB}{B:List FB}{Fs:List (wO→Fq→Prop)}{fs:List Fr}{σ:Bf}{H:List HB}{w:wO}
variable{all r:List Oper}{ty T k e:tI}{pos:String}{af:Array Edge}{g:Option (Nat×Bool)}{d m:Nat}{x y z:Operand}{a:κ}{l:List (κ×Value)}
theorem VM{v:Value}(hT:Gn P T=some (k,e))(Z:P.underlying k=some K.desc)(J:Instr.sameBits 10000 (K.enc a) (K.enc a)=true)(hm:BM K w m l)(hd:Jp l)(hn:ER l a=some v):∃w',(Instr.mapUpdate T (.map (some m)) (K.enc a) v).run P w=.ok () w'∧BM K w' m l∧GG m w w':=by
 have hu:=Kf hT;obtain⟨es,c,h1,h2⟩:=id hm;obtain⟨j,e',hj,he,h,L⟩:=Qg (K:=K) a es l.reverse 0 v h2 (by rw[RY a l hd];exact hn);have D:(getObj m).run P w=.ok (.map es.toArray c) w:=by simp[getObj,Sem.run,h1]
 have O:=hm.lt;have U:=λb=>K.chk P k w a b Z
 have F:∀o,(setObj m o).run P w=.ok () {w with heap:=w.heap.setIfInBounds m o}:=λo=>by
   simp[setObj,Sem.run,h1]
 rw[Nat.zero_add] at hj;refine⟨{w with heap:=w.heap.setIfInBounds m (.map (es.toArray.modify j λe=>{e with key:=K.enc a,val:=v}) c)},?_,?_,?_⟩
 · simp only[Instr.mapUpdate,Sem.run_bind,run_underlying hu,Result.andThen_ok,D]
   simp only[U,Result.andThen_ok,Instr.findKey,Sem.run_bind,run_underlying Z,hj];simp only[Sem.run_pure,Result.andThen_ok,List.getElem?_toArray,he,Option.map_some,Option.getD_some,h,Instr.keyThatStays,J,if_true];exact F _
 · refine⟨es.modify j λe=>{e with key:=K.enc a,val:=v},c,?_,?_⟩
   · rw[show (es.modify j λe=>{e with key:=K.enc a,val:=v}).toArray=es.toArray.modify j λe=>{e with key:=K.enc a,val:=v} from Array.ext' (by simp)]
     simp[O]
   · rw[← h2]
     apply List.ext_getElem?;intro i;rw[List.getElem?_map,List.getElem?_map,List.getElem?_modify]
     by_cases G:j=i
     · subst G
       rw[he];simp[h,L]
     · simp[G]
 · refine⟨C,C,C,by simp,λi Y=>?_⟩
   show (w.heap.setIfInBounds m _)[i]?=_;rw[Array.getElem?_setIfInBounds_ne (λe=>Y e.symm)]
variable {I':wO→Fq→Prop}
theorem mupS{v:Value}(U:gd all σ g=some true)(Y:ev σ x=some (.map (some m)))(Z:ev σ y=some (K.enc a))(hz:ev σ z=some v)(hT:Gn P T=some (k,e))(hk:P.underlying k=some K.desc)(G:Instr.sameBits 10000 (K.enc a) (K.enc a)=true)(J:X.MI m)(hd:Jp l)(hn:ER l a=some v)
   (hm:∀w f,X.I w f→BM K w m l) (hI:∀w f w',X.I w f→AQ X w f H R B Fs→GG m w w'→BM K w' m l→I' w' f) (L:FD X.MI I')
   (h:A3 P n Q ds {X with I:=I' } R B Fs (.ops all r) fs σ H):A3 P n Q ds X R B Fs (.ops all (⟨none,.mapUpdate T x y z,ty,pos,af,g⟩::r)) fs σ H:=λw f F=>by
 obtain⟨w',h1,h2,O⟩:=VM (v:=v) hT hk G (hm w f F.res) hd hn;refine B2 U (JB (w':=w') (λρ _ _ _ _ D=>?_) (h w' f (F.chgI J O (hI w f w' F.res F O h2) L)));simp only[execOp,D _ _ Y,D _ _ Z,D _ _ hz];rw[Sem.run_bind,h1];rfl
omit [LawfulBEq κ] in
theorem fN(O:gd all σ g=some true)(hd:Nat.blt d n=true)
   (h:∀m,¬X.MI m→A3 P n Q ds {X with MI:=λb=>X.MI b∨b=m,I:=λw f=>X.I w f∧BM K w m []} R B Fs (.ops all r) fs (AF σ d (.map (some m))) H):A3 P n Q ds X R B Fs (.ops all (⟨some d,.makeMap T none,ty,pos,af,g⟩::r)) fs σ H:=λw f G=>by
 refine B2 O (Ab (v:=.map (some w.heap.size)) (w':=w.alloc (.map #[] 0)) hd (λρ _ _ _ _ U=>by simp[execOp,Instr.makeMap]) (h w.heap.size (λhm=>Nat.lt_irrefl _ (G.mi _ hm).1) _ f ?_));have F:AQ X (w.alloc (.map #[] 0)) f H R B Fs:=G.call0 (CK.of_ext (Kj w _) G.val);have J:∀b,b∈CO H R→b≠w.heap.size:=λb D e=>Nat.lt_irrefl _ (e▸G.lt D)
 exact {F with
         res:=⟨F.res,[],0,heap_alloc_new w _,C⟩,
         stab:=λY f1 Z f2 L hF D=>⟨F.stab Y f1 Z f2 L.1 hF λb hm=>D b (.inl hm),L.2.heap (D _ (.inr C))⟩,
         mi:=λb D=>by
           rcases D with D|rfl
           · exact F.mi b D
           · exact⟨by rw[H4];omega,G.val _ (Nat.le_refl _),.inl G.stp.size⟩,
         own:=λb D=>⟨(F.own b D).1,(F.own b D).2.1,λhm=>by
           rcases hm with hm|rfl
           · exact (F.own b D).2.2 hm
           · exact J _ D C⟩}
end
end Go.SW
namespace Go.SP
open Go.SW Go.RowKit
def LC(T TS:tI)(A:Ad)(s:CS)(m:Nat)(l:List Int)(w:wO)(f:Fq):Prop:=As T TS A s w f∧BM Fi w m (HM l)
variable {A:Ad}{s:CS}{f:Fq}{mb:Nat}{M:Nat→Prop}{TS:tI}{w' w0:wO}
theorem LC.stab{T:tI}{m:Nat}{l:List Int}:FD (λb=>Bz A b∨b=m) (LC T TS A s m l):=λw f w' f' h F D =>
 ⟨As.stab w f w' f' h.1 F λb hm=>D b (.inl hm),h.2.heap (D _ (.inr C))⟩
theorem As.chg{T:tI}{m:Nat}{w:wO}(h:As T TS A s w f)(D:GG m w w')(hm:¬Bz A m)(F:f m=0):As T TS A s w' f :=
 As.stab w f w' f h (GG.fle D F) λb G=>D.block b λe=>hm (e▸G)
theorem P9(l:List Int)(v n:Int):(l++[v]).contains n=(l.contains n||v==n):=by
 cases h:(v==n) with
 |true =>
   have:v=n:=by simpa using h
   subst this;simp
 |false =>
   have:¬v=n:=by simpa using h
   simp;intro D;exact absurd D.symm this
theorem sbI(n:Int):Instr.sameBits 10000 (Fi.enc n) (Fi.enc n)=true:=by
 show Instr.sameBits 10000 (.int .i64 n) (.int .i64 n)=true;simp[Instr.sameBits]
theorem Lf(l:List Int)(v n:Int)(q:List Int)(b:Bool):(((if l.contains v then l else l++[v]).contains n||q.contains n)||b)=((l.contains n||(v::q).contains n)||b):=by
 have D:(v::q).contains n=((v==n)||q.contains n):=by
   rw[List.contains_cons];congr 1
   cases h:(v==n) with
   |true =>
     have:v=n:=by simpa using h
     subst this;simp
   |false =>
     have:¬v=n:=by simpa using h
     simpa using λe:n=v=>this e.symm
 rw[D]
 split
 · rename_i F
   cases G:(v==n) with
   |true =>
     have:v=n:=by simpa using G
     subst this;rw[F];simp
   |false=>simp
 · rw[P9,Bool.or_assoc (l.contains n)]
theorem Qo{l:List Int}{v:Int}(h:l.Nodup):(if l.contains v then l else l++[v]).Nodup:=by
 split
 · exact h
 · rename_i D
   refine List.nodup_append.2 ⟨h,List.pairwise_singleton _ _,λa F b G e=>?_⟩;obtain rfl:b=v:=by simpa using G
   subst e;exact D (by simpa using F)
theorem frUp{P:Program}{n:Nat}{Q:AX}{ds:List Deferred}{f0:Fq}{T:tI}{R:List RB}{B:List FB}{Fs:List (wO→Fq→Prop)}{fs:List Fr}{σ:Bf}{H:List HB}
   {all r:List Oper} {ty O k e:tI} {pos:String} {af:Array Edge} {g:Option (Nat×Bool)} {x y z:Operand} {l:List Int} {v:Int} (U:gd all σ g=some true) (Y:ev σ x=some (.map (some mb))) (Z:ev σ y=some (.int .i64 v)) (hz:ev σ z=some (.bool true))
   (hT:Gn P O=some (k,e)) (hk:P.underlying k=some (.int .i64)) (D:¬Bz A mb) (F:l.Nodup)
   (h:A3 P n Q ds ⟨M,λb=>Bz A b∨b=mb,LC T TS A s mb (if l.contains v then l else l++[v]),w0,f0⟩ R B Fs (.ops all r) fs σ H) :
   A3 P n Q ds ⟨M,λb=>Bz A b∨b=mb,LC T TS A s mb l,w0,f0⟩ R B Fs (.ops all (⟨none,.mapUpdate O x y z,ty,pos,af,g⟩::r)) fs σ H:=by
 cases G:l.contains v with
 |true =>
   rw[G] at h;exact mupS (K:=Fi) (a:=v) (l:=HM l) (I':=LC T TS A s mb l) U Y Z hz hT hk (sbI v) (.inr C) (Lr F) (by rw[V0,G];rfl) (λw f h=>h.2) (λw f w2 h J L hm=>⟨h.1.chg L D (J.mi mb (.inr C)).2.1,hm⟩) LC.stab h
 |false =>
   rw[G] at h;exact cN (K:=Fi) (a:=v) (l:=HM l) (I':=LC T TS A s mb (l++[v])) U Y Z hz hT hk (.inr C) (Lr F) (X8 G) (λw f h=>h.2) (λw f w2 h J L hm=>⟨h.1.chg L D (J.mi mb (.inr C)).2.1,by rw[Q6];exact hm⟩) LC.stab h
theorem Gx.cons{e:Ba}(h:Gx e){b:Bd}(F:b.t.bnd)(G:b.all.length≤1000000):Gx (b::e):=λb2 D=>by
 rcases List.mem_cons.1 D with rfl|D
 · exact⟨F,G⟩
 · exact h b2 D
theorem Nd.len_le:∀x:Nd,x.len≤x.size
 |.nil=>Nat.le_refl _
 |.cons _ _ _ _ _ k r=>by have:=Nd.len_le r;simp only[Nd.len,Nd.size];omega
theorem Nd.cases1(x:Nd)(h:0<x.len):∃op ln co tx nm k r,x=.cons op ln co tx nm k r:=by
 cases x with
 |nil=>simp[Nd.len] at h
 |cons op ln co tx nm k r=>exact⟨op,ln,co,tx,nm,k,r,C⟩
theorem Nd.len0{x:Nd}(h:x.len=0):x=.nil:=by
 cases x with
 |nil=>rfl
 |cons=>simp[Nd.len] at h
def Nd.wfm:Nd→Nat→Prop
 |.nil,m=>m=0∨m=1∨m=9
 |.cons op _ _ _ _ k r,m =>
   let X:Prop:=(1≤op∧op≤5)∨(op=6∧k.wfm 0)∨(op=7∧k.wfm 4)∨((op=8∨op=12)∧0<k.len∧k.wfm 0)∨((op=9∨op=10)∧k.wfm 6)∨(op=11∧k.wfm 7)∨(op=13∧k.wfm 0)∨((op=14∨op=15)∧k.wfm 5)∨((op=16∨op=17)∧k.wfm 3)
   match m with
   |0=>X∧r.wfm 0
   |1=>k.wfm 8∧r.wfm 1
   |2=>r.wfm 3
   |3=>X
   |4=>(r=.nil∧X)∨(r≠.nil∧r.wfm 4)
   |5=>X∧0<r.len∧r.wfm 1
   |6=>X∧r.wfm 3
   |7=>X∧r.wfm 6
   |8=>((21≤op∧op≤27)∧k.wfm 9)∧r.wfm 3
   |9=>((21≤op∧op≤27)∧k.wfm 9)∧r.wfm 9
   |_=>False
def Hf(op:Int)(k:Nd):Prop:=(1≤op∧op≤5)∨(op=6∧k.wfm 0)∨(op=7∧k.wfm 4)∨((op=8∨op=12)∧0<k.len∧k.wfm 0)∨((op=9∨op=10)∧k.wfm 6)∨(op=11∧k.wfm 7)∨(op=13∧k.wfm 0)∨((op=14∨op=15)∧k.wfm 5)∨((op=16∨op=17)∧k.wfm 3)
section
variable{op ln co nm:Int}{tx:lU}{k r:Nd}
theorem uZ:(Nd.cons op ln co tx nm k r).wfm 0↔Hf op k∧r.wfm 0:=Iff.rfl
theorem wfm1:(Nd.cons op ln co tx nm k r).wfm 1↔k.wfm 8∧r.wfm 1:=Iff.rfl
theorem wfm8:(Nd.cons op ln co tx nm k r).wfm 8↔((21≤op∧op≤27)∧k.wfm 9)∧r.wfm 3:=Iff.rfl
theorem Yh:(Nd.cons op ln co tx nm k r).wfm 3↔Hf op k:=Iff.rfl
theorem wfm4:(Nd.cons op ln co tx nm k r).wfm 4↔(r=.nil∧Hf op k)∨(r≠.nil∧r.wfm 4):=Iff.rfl
theorem wfm6:(Nd.cons op ln co tx nm k r).wfm 6↔Hf op k∧r.wfm 3:=Iff.rfl
end
abbrev nV(op ln co:Int)(tx:lU)(nm:Int)(k:Nd)(d:oA)(nc:Nat):Value:=.agg #[.int .i64 op,.int .i64 ln,.int .i64 co,S tx,.int .i64 nm,.slice d k.len nc]
def cA(P:Program)(d:FuncId)(n:Nat):Prop:=∀(w:wO)(f:Fq)(_:Vl w f)(op ln co nm:Int)(tx:lU)(kids:Nd)(h:oA)(nc:Nat),kids.size<n→kids.size≤1000000→AH w f kids h nc →
 Bq P d #[nV op ln co tx nm kids h nc] w (B3 (α:=Unit) (λ_=>.bool (C0 n op kids)) (λ_=>True) (λ_=>[]) w f)
end Go.SP
namespace Go.SW
open Go.RowKit
variable {σ':Bf}{vs:lV}{d:Nat}{x0 x1 x10 x2 x3 x4 x5 x6 x7 x8 x9:Value}{a0 a1 a10 a11 a12 a13 a2 a3 a4 a5 a6 a7 a8 a9:wO→Fq→Prop}
theorem lE{σ:Bf}(h:Le σ' σ:=by (repeat (first|exact J2 _|refine A6 ?_ rfl))):Le σ' σ:=h
theorem lu1{σ:Bf}{a0:Nat}(h:σ a0=some x0):Le (AF e0 a0 x0) σ:=A6 (J2 _) h
@[reducible] def E2(a0:Nat)(x0:Value)(a1:Nat)(x1:Value):Bf:=AF (AF e0 a0 x0) a1 x1
theorem lu3{σ:Bf}{a0 a1 a2:Nat}(h:σ a0=some x0)(D:σ a1=some x1)(F:σ a2=some x2):Le (AF (AF (AF e0 a0 x0) a1 x1) a2 x2) σ:=A6 (A6 (A6 (J2 _) h) D) F
@[reducible] def E3(a0:Nat)(x0:Value)(a1:Nat)(x1:Value)(a2:Nat)(x2:Value):Bf:=AF (AF (AF e0 a0 x0) a1 x1) a2 x2
theorem lu4{σ:Bf}{a0 a1 a2 a3:Nat}(h:σ a0=some x0)(D:σ a1=some x1)(F:σ a2=some x2)(G:σ a3=some x3):Le (AF (AF (AF (AF e0 a0 x0) a1 x1) a2 x2) a3 x3) σ:=A6 (A6 (A6 (A6 (J2 _) h) D) F) G
@[reducible] def E4(a0:Nat)(x0:Value)(a1:Nat)(x1:Value)(a2:Nat)(x2:Value)(a3:Nat)(x3:Value):Bf:=AF (AF (AF (AF e0 a0 x0) a1 x1) a2 x2) a3 x3
theorem lu5{σ:Bf}{a0 a1 a2 a3 a4:Nat}(h:σ a0=some x0)(D:σ a1=some x1)(F:σ a2=some x2)(G:σ a3=some x3)(J:σ a4=some x4):Le (AF (AF (AF (AF (AF e0 a0 x0) a1 x1) a2 x2) a3 x3) a4 x4) σ:=A6 (A6 (A6 (A6 (A6 (J2 _) h) D) F) G) J
@[reducible] def E5(a0:Nat)(x0:Value)(a1:Nat)(x1:Value)(a2:Nat)(x2:Value)(a3:Nat)(x3:Value)(a4:Nat)(x4:Value):Bf:=AF (AF (AF (AF (AF e0 a0 x0) a1 x1) a2 x2) a3 x3) a4 x4
theorem lu6{σ:Bf}{a0 a1 a2 a3 a4 a5:Nat}(h:σ a0=some x0)(D:σ a1=some x1)(F:σ a2=some x2)(G:σ a3=some x3)(J:σ a4=some x4)(K:σ a5=some x5):Le (AF (AF (AF (AF (AF (AF e0 a0 x0) a1 x1) a2 x2) a3 x3) a4 x4) a5 x5) σ:=A6 (A6 (A6 (A6 (A6 (A6 (J2 _) h) D) F) G) J) K
@[reducible] def E6(a0:Nat)(x0:Value)(a1:Nat)(x1:Value)(a2:Nat)(x2:Value)(a3:Nat)(x3:Value)(a4:Nat)(x4:Value)(a5:Nat)(x5:Value):Bf:=AF (AF (AF (AF (AF (AF e0 a0 x0) a1 x1) a2 x2) a3 x3) a4 x4) a5 x5
theorem zU{σ:Bf}{a0 a1 a2 a3 a4 a5 a6:Nat}(h:σ a0=some x0)(D:σ a1=some x1)(F:σ a2=some x2)(G:σ a3=some x3)(J:σ a4=some x4)(K:σ a5=some x5)(L:σ a6=some x6):Le (AF (AF (AF (AF (AF (AF (AF e0 a0 x0) a1 x1) a2 x2) a3 x3) a4 x4) a5 x5) a6 x6) σ:=A6 (A6 (A6 (A6 (A6 (A6 (A6 (J2 _) h) D) F) G) J) K) L
@[reducible] def E7(a0:Nat)(x0:Value)(a1:Nat)(x1:Value)(a2:Nat)(x2:Value)(a3:Nat)(x3:Value)(a4:Nat)(x4:Value)(a5:Nat)(x5:Value)(a6:Nat)(x6:Value):Bf:=AF (AF (AF (AF (AF (AF (AF e0 a0 x0) a1 x1) a2 x2) a3 x3) a4 x4) a5 x5) a6 x6
theorem iY{σ:Bf}{a0 a1 a2 a3 a4 a5 a6 a7:Nat}(h:σ a0=some x0)(D:σ a1=some x1)(F:σ a2=some x2)(G:σ a3=some x3)(J:σ a4=some x4)(K:σ a5=some x5)(L:σ a6=some x6)(O:σ a7=some x7):Le (AF (AF (AF (AF (AF (AF (AF (AF e0 a0 x0) a1 x1) a2 x2) a3 x3) a4 x4) a5 x5) a6 x6) a7 x7) σ:=A6 (A6 (A6 (A6 (A6 (A6 (A6 (A6 (J2 _) h) D) F) G) J) K) L) O
@[reducible] def E8(a0:Nat)(x0:Value)(a1:Nat)(x1:Value)(a2:Nat)(x2:Value)(a3:Nat)(x3:Value)(a4:Nat)(x4:Value)(a5:Nat)(x5:Value)(a6:Nat)(x6:Value)(a7:Nat)(x7:Value):Bf:=AF (AF (AF (AF (AF (AF (AF (AF e0 a0 x0) a1 x1) a2 x2) a3 x3) a4 x4) a5 x5) a6 x6) a7 x7
theorem oY{σ:Bf}{a0 a1 a2 a3 a4 a5 a6 a7 a8:Nat}(h:σ a0=some x0)(D:σ a1=some x1)(F:σ a2=some x2)(G:σ a3=some x3)(J:σ a4=some x4)(K:σ a5=some x5)(L:σ a6=some x6)(O:σ a7=some x7)(Q:σ a8=some x8):Le (AF (AF (AF (AF (AF (AF (AF (AF (AF e0 a0 x0) a1 x1) a2 x2) a3 x3) a4 x4) a5 x5) a6 x6) a7 x7) a8 x8) σ:=A6 (A6 (A6 (A6 (A6 (A6 (A6 (A6 (A6 (J2 _) h) D) F) G) J) K) L) O) Q
@[reducible] def E9(a0:Nat)(x0:Value)(a1:Nat)(x1:Value)(a2:Nat)(x2:Value)(a3:Nat)(x3:Value)(a4:Nat)(x4:Value)(a5:Nat)(x5:Value)(a6:Nat)(x6:Value)(a7:Nat)(x7:Value)(a8:Nat)(x8:Value):Bf:=AF (AF (AF (AF (AF (AF (AF (AF (AF e0 a0 x0) a1 x1) a2 x2) a3 x3) a4 x4) a5 x5) a6 x6) a7 x7) a8 x8
@[reducible] def E10(a0:Nat)(x0:Value)(a1:Nat)(x1:Value)(a2:Nat)(x2:Value)(a3:Nat)(x3:Value)(a4:Nat)(x4:Value)(a5:Nat)(x5:Value)(a6:Nat)(x6:Value)(a7:Nat)(x7:Value)(a8:Nat)(x8:Value)(a9:Nat)(x9:Value):Bf:=AF (AF (AF (AF (AF (AF (AF (AF (AF (AF e0 a0 x0) a1 x1) a2 x2) a3 x3) a4 x4) a5 x5) a6 x6) a7 x7) a8 x8) a9 x9
theorem lu11{σ:Bf}{a0 a1 a2 a3 a4 a5 a6 a7 a8 a9 a10:Nat}(D:σ a0=some x0)(F:σ a1=some x1)(G:σ a2=some x2)(J:σ a3=some x3)(K:σ a4=some x4)(L:σ a5=some x5)(O:σ a6=some x6)(Q:σ a7=some x7)(U:σ a8=some x8)(Y:σ a9=some x9)(h:σ a10=some x10):Le (AF (AF (AF (AF (AF (AF (AF (AF (AF (AF (AF e0 a0 x0) a1 x1) a2 x2) a3 x3) a4 x4) a5 x5) a6 x6) a7 x7) a8 x8) a9 x9) a10 x10) σ:=A6 (A6 (A6 (A6 (A6 (A6 (A6 (A6 (A6 (A6 (A6 (J2 _) D) F) G) J) K) L) O) Q) U) Y) h
@[reducible] def yC(a0:Nat)(x0:Value)(a1:Nat)(x1:Value)(a2:Nat)(x2:Value)(a3:Nat)(x3:Value)(a4:Nat)(x4:Value)(a5:Nat)(x5:Value)(a6:Nat)(x6:Value)(a7:Nat)(x7:Value)(a8:Nat)(x8:Value)(a9:Nat)(x9:Value)(a10:Nat)(x10:Value):Bf:=AF (AF (AF (AF (AF (AF (AF (AF (AF (AF (AF e0 a0 x0) a1 x1) a2 x2) a3 x3) a4 x4) a5 x5) a6 x6) a7 x7) a8 x8) a9 x9) a10 x10
@[reducible] def E12(a0:Nat)(x0:Value)(a1:Nat)(x1:Value)(a2:Nat)(x2:Value)(a3:Nat)(x3:Value)(a4:Nat)(x4:Value)(a5:Nat)(x5:Value)(a6:Nat)(x6:Value)(a7:Nat)(x7:Value)(a8:Nat)(x8:Value)(a9:Nat)(x9:Value)(a10:Nat)(x10:Value)(a11:Nat)(h:Value):Bf:=AF (AF (AF (AF (AF (AF (AF (AF (AF (AF (AF (AF e0 a0 x0) a1 x1) a2 x2) a3 x3) a4 x4) a5 x5) a6 x6) a7 x7) a8 x8) a9 x9) a10 x10) a11 h
theorem yK{σ:Bf}{a0 a1 a2 a3 a4 a5 a6 a7 a8 a9 a10 a11 a12 a13 h D:Nat}{F G J K L:Value}(h0:σ a0=some x0)(h1:σ a1=some x1)(h2:σ a2=some x2)(h3:σ a3=some x3)(h4:σ a4=some x4)(h5:σ a5=some x5)(h6:σ a6=some x6)(h7:σ a7=some x7)(h8:σ a8=some x8)(h9:σ a9=some x9)(O:σ a10=some x10)(Q:σ a11=some F)(U:σ a12=some G)(Y:σ a13=some J)(Z:σ h=some K)(h15:σ D=some L):Le (AF (AF (AF (AF (AF (AF (AF (AF (AF (AF (AF (AF (AF (AF (AF (AF e0 a0 x0) a1 x1) a2 x2) a3 x3) a4 x4) a5 x5) a6 x6) a7 x7) a8 x8) a9 x9) a10 x10) a11 F) a12 G) a13 J) h K) D L) σ:=A6 (A6 (A6 (A6 (A6 (A6 (A6 (A6 (A6 (A6 (A6 (A6 (A6 (A6 (A6 (A6 (J2 _) h0) h1) h2) h3) h4) h5) h6) h7) h8) h9) O) Q) U) Y) Z) h15
@[reducible] def yB(a0:Nat)(x0:Value)(a1:Nat)(x1:Value)(a2:Nat)(x2:Value)(a3:Nat)(x3:Value)(a4:Nat)(x4:Value)(a5:Nat)(x5:Value)(a6:Nat)(x6:Value)(a7:Nat)(x7:Value)(a8:Nat)(x8:Value)(a9:Nat)(x9:Value)(a10:Nat)(x10:Value)(a11:Nat)(h:Value)(a12:Nat)(D:Value)(a13:Nat)(F:Value)(G:Nat)(J:Value)(K:Nat)(L:Value):Bf:=AF (AF (AF (AF (AF (AF (AF (AF (AF (AF (AF (AF (AF (AF (AF (AF e0 a0 x0) a1 x1) a2 x2) a3 x3) a4 x4) a5 x5) a6 x6) a7 x7) a8 x8) a9 x9) a10 x10) a11 h) a12 D) a13 F) G J) K L
theorem mR{α:Type}{F' Fs:List α}(F:List Nat)(h:F.map (nth Fs)=F'.map some:=by rfl):∀φ,φ∈F'→φ∈Fs:=λφ D=>by
 have J:some φ∈F.map (nth Fs):=by rw[h];exact List.mem_map.2 ⟨φ,D,C⟩
 obtain⟨i,_,G⟩:=List.mem_map.1 J;rw[EP] at G;exact List.mem_of_getElem? G
theorem sK{α:Type}{a:α}{l D:List α}(h:l.Sublist D):(a::l).Sublist (a::D):=.cons_cons _ h
theorem sD{α:Type}{a:α}{l D:List α}(h:l.Sublist D):l.Sublist (a::D):=.cons _ h
theorem sZ{α:Type}:([]:List α).Sublist []:=.slnil
theorem sR{α:Type}{l:List α}:l.Sublist l:=List.Sublist.refl _
theorem nE{α:Type _}{p:α→Prop}:∀e,e∈([]:List α)→p e:=λ_ h=>by cases h
theorem Fl{α:Sort _}{β:α→Sort _}{h:(a:α)→β a→Sort _}{D:(a:α)→(b:β a)→h a b→Sort _}:∀(a:α)(b:β a)(c:h a b)(_:D a b c),True:=λ_ _ _ _=>trivial
@[reducible] def rd:List Nat→OT→OT
 | [],t=>t
 |i::l,t=>.rd i (rd l t)
section
variable{X:Cx}{w:wO}{f:Fq}{H:List HB}{R:List RB}{B:List FB}{Fs:List (wO→Fq→Prop)}
theorem AQ.mz(h:AQ X w f H R B Fs):∀b,X.MI b→f b=0:=λb D=>(h.mi b D).2.1
theorem AQ.f0(h:AQ X w f H R B (a0::Fs)):a0 w f:=h.fac _ (List.mem_of_getElem? (i:=0) C)
theorem AQ.f1(h:AQ X w f H R B (a0::a1::Fs)):a1 w f:=h.fac _ (List.mem_of_getElem? (i:=1) C)
theorem AQ.f2(h:AQ X w f H R B (a0::a1::a2::Fs)):a2 w f:=h.fac _ (List.mem_of_getElem? (i:=2) C)
theorem AQ.f3(h:AQ X w f H R B (a0::a1::a2::a3::Fs)):a3 w f:=h.fac _ (List.mem_of_getElem? (i:=3) C)
theorem AQ.f4(h:AQ X w f H R B (a0::a1::a2::a3::a4::Fs)):a4 w f:=h.fac _ (List.mem_of_getElem? (i:=4) C)
theorem AQ.f5(h:AQ X w f H R B (a0::a1::a2::a3::a4::a5::Fs)):a5 w f:=h.fac _ (List.mem_of_getElem? (i:=5) C)
theorem AQ.f6(h:AQ X w f H R B (a0::a1::a2::a3::a4::a5::a6::Fs)):a6 w f:=h.fac _ (List.mem_of_getElem? (i:=6) C)
theorem AQ.f7(h:AQ X w f H R B (a0::a1::a2::a3::a4::a5::a6::a7::Fs)):a7 w f:=h.fac _ (List.mem_of_getElem? (i:=7) C)
theorem AQ.f8(h:AQ X w f H R B (a0::a1::a2::a3::a4::a5::a6::a7::a8::Fs)):a8 w f:=h.fac _ (List.mem_of_getElem? (i:=8) C)
theorem AQ.f9(h:AQ X w f H R B (a0::a1::a2::a3::a4::a5::a6::a7::a8::a9::Fs)):a9 w f:=h.fac _ (List.mem_of_getElem? (i:=9) C)
theorem AQ.f10(h:AQ X w f H R B (a0::a1::a2::a3::a4::a5::a6::a7::a8::a9::a10::Fs)):a10 w f:=h.fac _ (List.mem_of_getElem? (i:=10) C)
theorem AQ.f12(h:AQ X w f H R B (a0::a1::a2::a3::a4::a5::a6::a7::a8::a9::a10::a11::a12::Fs)):a12 w f:=h.fac _ (List.mem_of_getElem? (i:=12) C)
theorem AQ.f13(h:AQ X w f H R B (a0::a1::a2::a3::a4::a5::a6::a7::a8::a9::a10::a11::a12::a13::Fs)):a13 w f:=h.fac _ (List.mem_of_getElem? (i:=13) C)
theorem AQ.f16{F G D:wO→Fq→Prop}(h:AQ X w f H R B (a0::a1::a2::a3::a4::a5::a6::a7::a8::a9::a10::a11::a12::a13::F::G::D::Fs)):D w f:=h.fac _ (List.mem_of_getElem? (i:=16) C)
theorem AQ.b0{a0:FB}(h:AQ X w f H R (a0::B) Fs):Cs w f a0.b a0.off a0.l:=h.fro _ (List.mem_of_getElem? (i:=0) C)
theorem AQ.b1{a0 a1:FB}(h:AQ X w f H R (a0::a1::B) Fs):Cs w f a1.b a1.off a1.l:=h.fro _ (List.mem_of_getElem? (i:=1) C)
theorem AQ.b2{a0 a1 a2:FB}(h:AQ X w f H R (a0::a1::a2::B) Fs):Cs w f a2.b a2.off a2.l:=h.fro _ (List.mem_of_getElem? (i:=2) C)
theorem AQ.b3{a0 a1 a2 a3:FB}(h:AQ X w f H R (a0::a1::a2::a3::B) Fs):Cs w f a3.b a3.off a3.l:=h.fro _ (List.mem_of_getElem? (i:=3) C)
theorem AQ.b4{a0 a1 a2 a3 a4:FB}(h:AQ X w f H R (a0::a1::a2::a3::a4::B) Fs):Cs w f a4.b a4.off a4.l:=h.fro _ (List.mem_of_getElem? (i:=4) C)
theorem AQ.b5{a0 a1 a2 a3 a4 a5:FB}(h:AQ X w f H R (a0::a1::a2::a3::a4::a5::B) Fs):Cs w f a5.b a5.off a5.l:=h.fro _ (List.mem_of_getElem? (i:=5) C)
theorem AQ.b6{a0 a1 a2 a3 a4 a5 a6:FB}(h:AQ X w f H R (a0::a1::a2::a3::a4::a5::a6::B) Fs):Cs w f a6.b a6.off a6.l:=h.fro _ (List.mem_of_getElem? (i:=6) C)
theorem AQ.b7{a0 a1 a2 a3 a4 a5 a6 a7:FB}(h:AQ X w f H R (a0::a1::a2::a3::a4::a5::a6::a7::B) Fs):Cs w f a7.b a7.off a7.l:=h.fro _ (List.mem_of_getElem? (i:=7) C)
theorem AQ.k0{a0:HB}(h:AQ X w f (a0::H) R B Fs):AM w a0.b a0.l a0.T:=h.blk _ (List.mem_of_getElem? (i:=0) C)
theorem om0{a0:HB}{H:List HB}:a0∈a0::H:=List.mem_of_getElem? (i:=0) C
theorem AQ.k1{a0 a1:HB}(h:AQ X w f (a0::a1::H) R B Fs):AM w a1.b a1.l a1.T:=h.blk _ (List.mem_of_getElem? (i:=1) C)
theorem tG{a0 a1:HB}{H:List HB}:a1∈a0::a1::H:=List.mem_of_getElem? (i:=1) C
theorem AQ.k2{a0 a1 a2:HB}(h:AQ X w f (a0::a1::a2::H) R B Fs):AM w a2.b a2.l a2.T:=h.blk _ (List.mem_of_getElem? (i:=2) C)
theorem WU{a0 a1 a2:HB}{H:List HB}:a2∈a0::a1::a2::H:=List.mem_of_getElem? (i:=2) C
theorem AQ.k3{a0 a1 a2 a3:HB}(h:AQ X w f (a0::a1::a2::a3::H) R B Fs):AM w a3.b a3.l a3.T:=h.blk _ (List.mem_of_getElem? (i:=3) C)
theorem WN{a0 a1 a2 a3:HB}{H:List HB}:a3∈a0::a1::a2::a3::H:=List.mem_of_getElem? (i:=3) C
theorem AQ.k4{a0 a1 a2 a3 a4:HB}(h:AQ X w f (a0::a1::a2::a3::a4::H) R B Fs):AM w a4.b a4.l a4.T:=h.blk _ (List.mem_of_getElem? (i:=4) C)
theorem gR{a0 a1 a2 a3 a4:HB}{H:List HB}:a4∈a0::a1::a2::a3::a4::H:=List.mem_of_getElem? (i:=4) C
theorem om5{a0 a1 a2 a3 a4 a5:HB}{H:List HB}:a5∈a0::a1::a2::a3::a4::a5::H:=List.mem_of_getElem? (i:=5) C
theorem AQ.k6{a0 a1 a2 a3 a4 a5 a6:HB}(h:AQ X w f (a0::a1::a2::a3::a4::a5::a6::H) R B Fs):AM w a6.b a6.l a6.T:=h.blk _ (List.mem_of_getElem? (i:=6) C)
theorem AQ.k7{a0 a1 a2 a3 a4 a5 a6 a7:HB}(h:AQ X w f (a0::a1::a2::a3::a4::a5::a6::a7::H) R B Fs):AM w a7.b a7.l a7.T:=h.blk _ (List.mem_of_getElem? (i:=7) C)
end
section
variable{P:Program}{σ:Bf}{ty:tI}
theorem eC{f:FuncId}{g:Operand}{args:List Operand}{h:Array tI}(he:BB P f)(D:ev σ g=some (.func (.func f) #[] #[]))(F:Jd σ args=some vs) :
   ∀w,Enters P σ (.call {callee:=.value g,args:=args.toArray,argTypes:=h}) ty w f vs.toArray:=λ_=>Ax he D F
theorem CY{fn:Func}{v:Value}{X:Cx}{H:List HB}{R:List RB}{B:List FB}{Fs:List (wO→Fq→Prop)}(D:fn.results=#[.tmp d])(h:σ d=some v):∀w f,AQ X w f H R B Fs→UH P fn σ w v:=λ_ _ _=>AE D (Ah h)
end
section
variable{P:Program}{n:Nat}{Q:AX}{ds:List Deferred}{X:Cx}{R:List RB}{B:List FB}{Fs:List (wO→Fq→Prop)}{fs:List Fr}{σ:Bf}{H Hk:List HB}{l:List Oper}
variable {id:Nat}
theorem CF(G:List Nat)(hm:P.follows .mixedOrders=true)(t:OT)(J:MR H G=some Hk)(D:(t.ok l.toArray true (Array.replicate l.length false)&&(t.even true l.length&&Region.noSelect l.toArray))=true) 
   (h:Dj P n (MK P n Q fs) ds X R B Fs l Hk B (λ_=>True) true t σ H) (F:PI Q:=by exact λ_ _ _ _ _ h=>h):A3 P n Q ds X R B Fs (.code (.region id l.toArray true)) fs σ H:=by
 simp only[Bool.and_eq_true] at D;exact LM (λ_=>True) (λ_ _ _ _=>trivial) G hm t J D.1 D.2.1 D.2.2 F h
theorem Au{D:List FB}{k:OT}(F:List Nat)(G:MR H F=some Hk)(h:Dj P n Q ds X R D Fs l Hk D (λ_=>True) true k σ H):A3 P n (Zs P n l Q (Kp Hk D (λ_=>True)) k) ds X R D Fs (.out .normal) [] σ H :=
 AY F (λ_ _ _ _=>trivial) G (λ_ h=>h) h
theorem D5{k:KX}(φ:wO→Fq→Prop)(F:∀w f,AQ X w f H R B Fs→φ w f)(hm:FU φ)(h:A3 P n Q ds X R B (φ::Fs) k fs σ H):A3 P n Q ds X R B Fs k fs σ H:=λw f D =>
 h w f (D.more (B':=[]) (F':=[φ]) (λ_ h=>by cases h) (AI.mem ⟨F w f D,tQ⟩) (Aw.mem ⟨hm,tQ⟩))
variable{all r:List Oper}{ty T:tI}{pos:String}{af:Array Edge}{g:Option (Nat×Bool)}{d:Nat}{op:Op}{fid:FuncId}{args:Array Value}
theorem Dm{c:Value}(F:gd all σ g=some true)(hd:Nat.blt d n=true)(he:∀w,Enters P σ op ty w fid args)(G:∀w f,AQ X w f H R B Fs→Bq P fid args w λv w'=>v=c∧AU w w')
   (h:A3 P n Q ds X R B Fs (.ops all r) fs (AF σ d c) H):A3 P n Q ds X R B Fs (.ops all (⟨some d,op,ty,pos,af,g⟩::r)) fs σ H :=
 Bt (α:=Unit) (val:=λ_=>c) (q:=λ_=>True) (F':=λ_=>[]) F hd he (λw f D=>(G w f D).mono λ_ _ ⟨J,K⟩=>⟨(),f,J,tQ,CK.of_ext K D.val,tQ⟩) (λ_=>trivial) (λ_ _=>h)
end
theorem oE{α:Type}{p:α→Prop}{a:α}(h:p a):∀e,e∈[a]→p e:=λe he=>by
 cases he with
 |head=>exact h
 |tail _ h=>cases h
end Go.SW
namespace Go.SW
open Go.RowKit Go.SP
variable {f:Fq}{co ln nm:Int}{j:Nat}{r:Nd}{w:wO}{φ:wO→Fq→Prop}
theorem AQ.fn{X:Cx}{H:List HB}{R:List RB}{B:List FB}{Fs:List (wO→Fq→Prop)}(h:AQ X w f H R B Fs)(d:nth Fs j=some φ):φ w f:=h.fac _ (by rw[EP] at d;exact List.mem_of_getElem? d)
section
variable{P:Program}{n:Nat}{Q:AX}{ds:List Deferred}{X:Cx}{R:List RB}{B:List FB}{Fs:List (wO→Fq→Prop)}{fs:List Fr}{σ:Bf}{H:List HB}{k:KX}{na:oA}{i c:Nat}
theorem IA{op:Int}{tx:lU}{q:Nd}(j:Nat)(d:nth Fs j=some (λw f=>AV w f na i (.cons op ln co tx nm q r)))
   (h:∀x:Nat×Nat×oA×Nat,na=some ⟨x.1,x.2.1,none⟩→A3 P n Q ds X R (⟨x.1,x.2.1+i*6,KW op ln co tx nm x.2.2.1 q.len x.2.2.2⟩::B) ((λw f=>AH w f q x.2.2.1 x.2.2.2)::(λw f=>AV w f na (i+1) r)::Fs) k fs σ H):A3 P n Q ds X R B Fs k fs σ H :=
 KU (α:=Nat×Nat×oA×Nat) (λx=>na=some ⟨x.1,x.2.1,none⟩) (λ_=>[_]) (λ_=>[_,_]) (λ_ _ D=>let ⟨b,off,ka,kc,F,G,J,K⟩:=AV.head (D.fn d);⟨(b,off,ka,kc),F,oE G,AI.mem ⟨J,K,tQ⟩⟩) (λ_=>Aw.mem ⟨AH.mono,AV.mono,tQ⟩) h
theorem mna{x:Nd}(j:Nat)(d:nth Fs j=some (λw f=>AH w f x na c))(h:A3 P n Q ds X R B ((λw f=>AV w f na 0 x)::Fs) k fs σ H):A3 P n Q ds X R B Fs k fs σ H:=D5 _ (λ_ _ D=>AH.at (D.fn d)) AV.mono h
theorem dJ{x y:Nd}(j:Nat)(d:nth Fs j=some (λw f=>AH w f x na c))(e:x=y)(h:A3 P n Q ds X R B ((λw f=>AV w f na 0 y)::Fs) k fs σ H):A3 P n Q ds X R B Fs k fs σ H:=D5 _ (λ_ _ D=>by rw[← e];exact AH.at (D.fn d)) AV.mono h
theorem Z8{t:T1}{r:Ty}(j:Nat)(d:nth Fs j=some (λw f=>BN w f na i (t.cons r)))
   (h:∀x:Nat×Nat×oA×Nat,na=some ⟨x.1,x.2.1,none⟩→A3 P n Q ds X R (⟨x.1,x.2.1+i*4,tC t x.2.2.1 x.2.2.2⟩::B) ((λw f=>Ak w f t.kids x.2.2.1 x.2.2.2)::(λw f=>BN w f na (i+1) r)::Fs) k fs σ H):A3 P n Q ds X R B Fs k fs σ H :=
 KU (α:=Nat×Nat×oA×Nat) (λx=>na=some ⟨x.1,x.2.1,none⟩) (λ_=>[_]) (λ_=>[_,_]) (λ_ _ D=>let ⟨b,off,ka,kc,F,G,J,K⟩:=BN.head (D.fn d);⟨(b,off,ka,kc),F,oE G,AI.mem ⟨J,K,tQ⟩⟩) (λ_=>Aw.mem ⟨Ak.mono,BN.mono,tQ⟩) h
theorem rI{l:List Int}{v:Int}(j:Nat)(d:nth Fs j=some (λw f=>B9 w f l na c))(D:l[i]?=some v)
   (h:∀x:Nat×Nat,na=some ⟨x.1,x.2,none⟩→A3 P n Q ds X R (⟨x.1,x.2+i*1,[.int .i64 v]⟩::B) Fs k fs σ H):A3 P n Q ds X R B Fs k fs σ H :=
 KU (α:=Nat×Nat) (λx=>na=some ⟨x.1,x.2,none⟩) (λ_=>[_]) (λ_=>[]) (λ_ _ F=>let ⟨b,off,G,J⟩:=B9.get (F.fn d) D;⟨(b,off),G,oE J,nE⟩) (λ_=>Aw.mem tQ) h
end
end Go.SW
namespace Go.SW
open Go.RowKit
open Go.SP (Sn)
def S4(T:tI)(q:Int×Int→Prop)(w:wO)(f:Fq)(c:List PanicEntry)(w':wO):Prop:=∃e f',c=Sn T e∧q e∧CK (λ_=>False) w f w' f'
def cE{α:Type}(e:tI)(size:Nat)(n:α→Nat)(xs:α→lV)(q:α→Prop)(F':α→List (wO→Fq→Prop))(w:wO)(f:Fq)(v:Value)(w':wO):Prop :=
 ∃x a c f',v=.slice a (n x) c∧q x∧CK (λ_=>False) w f w' f'∧BX w' e size a c (n x) (xs x)∧(∀b,rb a=some b→w.heap.size≤b∧f' b=0)∧AI (F' x) w' f'
variable {f f':Fq}{pe:Int×Int→Prop}{xs:lV}{w w':wO}
theorem AQ.addRow{X:Cx}{H:List HB}{R:List RB}{B:List FB}{Fs:List (wO→Fq→Prop)}(h:AQ X w f H R B Fs)(Z:CK (λ_=>False) w f w' f'){e:tI}{size c n:Nat}{a:oA}
   (U:BX w' e size a c n xs) (G:∀b,rb a=some b→w.heap.size≤b∧f' b=0):AQ X w' f' H (⟨e,size,a,c,n,xs⟩::R) B Fs:=by
 have D:=h.call0 Z
 cases J:rb a with
 |none =>
   have K:CO H (⟨e,size,a,c,n,xs⟩::R)=CO H R:=by simp only[CO,List.filterMap_cons,J]
   exact {D with
     row:=λr hm=>by rcases List.mem_cons.1 hm with rfl|hm;exact U;exact D.row r hm,
     nd:=by rw[K];exact D.nd,
     own:=by rw[K];exact D.own,
     rnw:=λr hm b G=>by rcases List.mem_cons.1 hm with rfl|hm;(rw[J] at G;cases G);exact D.rnw r hm b G}
 |some b =>
   obtain⟨hn,hz⟩:=G b J;have K:CO H (⟨e,size,a,c,n,xs⟩::R)=H.map (·.b)++b::(R.filterMap λr=>rb r.a):=by simp only[CO,List.filterMap_cons,J]
   have Y:(H.map (·.b)++b::(R.filterMap λr=>rb r.a)).Perm (b::CO H R):=List.perm_middle;have L:X.w0.heap.size≤b:=Nat.le_trans h.stp.size hn
   exact {D with
     row:=λr hm=>by rcases List.mem_cons.1 hm with rfl|hm;exact U;exact D.row r hm,
     nd:=by rw[K];exact Y.nodup_iff.2 (List.nodup_cons.2 ⟨λhm=>by have:=h.lt hm;omega,D.nd⟩),
     own:=λk O=>by
       rw[K] at O;rcases List.mem_cons.1 (Y.mem_iff.1 O) with rfl|O
       · exact⟨hz,.inl L,λhm=>by have:=(h.mi _ hm).1;omega⟩
       · exact D.own k O,
     rnw:=λr hm b' F=>by
       rcases List.mem_cons.1 hm with rfl|hm
       · rw[J] at F;cases F;exact L
       · exact D.rnw r hm b' F }
section
variable{P:Program}{n:Nat}{Q:AX}{ds:List Deferred}{X:Cx}{R:List RB}{B:List FB}{Fs:List (wO→Fq→Prop)}{fs:List Fr}{σ:Bf}{H:List HB}
variable{all r:List Oper}{ty T:tI}{pos:String}{af:Array Edge}{g:Option (Nat×Bool)}{d:Nat}{op:Op}{fid:FuncId}{args:Array Value}{α:Type}
theorem Km{val:α→Value}{q:α→Prop}{F':α→List (wO→Fq→Prop)}
   (J:gd all σ g=some true) (hd:Nat.blt d n=true) (he:∀w,Enters P σ op ty w fid args)
   (K:∀w f,AQ X w f H R B Fs→BI P fid args w (B3 val q F' w f) (S4 T pe w f)) (hm:∀x,Aw (F' x))
   (L:∀e w' f',pe e→CK X.M X.w0 X.f0 w' f'→Q.p (Sn T e) σ ds w')
   (h:∀x,q x→A3 P n Q ds X R B (F' x++Fs) (.ops all r) fs (AF σ d (val x)) H):A3 P n Q ds X R B Fs (.ops all (⟨some d,op,ty,pos,af,g⟩::r)) fs σ H:=λw f D=>by
 refine B2 J (Cg hd (he w) (K w f D) ?_ ?_)
 · rintro v w' ⟨x,f',rfl,F,G,O⟩
   exact h x F w' f' ((D.call0 G).more (B':=[]) (λ_ h=>by cases h) O.mem (hm x).mem)
 · rintro c w' ⟨e,f',rfl,F,G⟩
   rw[MF];exact L e w' f' F (D.call0 G).exm
theorem vT(D:gd all σ g=some true)(hd:Nat.blt d n=true)(he:∀w,Enters P σ op ty w fid args)
   (F:∀w f,AQ X w f H R B Fs→BI P fid args w (λ_ _=>False) (S4 T pe w f))
   (G:∀e w' f',pe e→CK X.M X.w0 X.f0 w' f'→Q.p (Sn T e) σ ds w'):A3 P n Q ds X R B Fs (.ops all (⟨some d,op,ty,pos,af,g⟩::r)) fs σ H :=
 Km (α:=Unit) (val:=λ_=>.tuple #[]) (q:=λ_=>False) (F':=λ_=>[]) D hd he (λw f J=>(F w f J).mono (λ_ _ h=>h.elim) λ_ _ h=>h) (λ_=>trivial) G (λ_ h=>h.elim)
theorem YP{e:tI}{size:Nat}{m:α→Nat}{xs:α→lV}{q:α→Prop}{F':α→List (wO→Fq→Prop)}
   (J:gd all σ g=some true) (hd:Nat.blt d n=true) (he:∀w,Enters P σ op ty w fid args)
   (K:∀w f,AQ X w f H R B Fs→BI P fid args w (cE e size m xs q F' w f) (S4 T pe w f)) (hm:∀x,Aw (F' x))
   (L:∀e w' f',pe e→CK X.M X.w0 X.f0 w' f'→Q.p (Sn T e) σ ds w')
   (h:∀x a c,q x→A3 P n Q ds X (⟨e,size,a,c,m x,xs x⟩::R) B (F' x++Fs) (.ops all r) fs (AF σ d (.slice a (m x) c)) H):A3 P n Q ds X R B Fs (.ops all (⟨some d,op,ty,pos,af,g⟩::r)) fs σ H:=λw f D=>by
 refine B2 J (Cg hd (he w) (K w f D) ?_ ?_)
 · rintro v w' ⟨x,a,c,f',rfl,F,G,O,U,Y⟩
   exact h x a c F w' f' ((D.addRow G O U).more (B':=[]) (λ_ h=>by cases h) Y.mem (hm x).mem)
 · rintro c w' ⟨e,f',rfl,F,G⟩
   rw[MF];exact L e w' f' F (D.call0 G).exm
end
end Go.SW
namespace Go.SP
open Go.SW Go.RowKit
def ZD(w:wO)(f:Fq):Fo→Nat→Nat→Prop
 |.nil,_,_=>True
 |.cons t k r,b,off=>(∃a c,Cs w f b off [.int .i64 t.k,.int .i64 t.ln,.int .i64 t.co,.int .i64 t.nm,S t.tx,.slice a k.len c]∧k.len≤c∧(k=.nil∨∃D h,a=some ⟨D,h,none⟩∧ZD w f k D h))∧ZD w f r b (off+6)
def Ee(w:wO)(f:Fq)(k:Fo)(a:oA)(c:Nat):Prop:=k.len≤c∧(k=.nil∨∃b off,a=some ⟨b,off,none⟩∧ZD w f k b off)
variable {f f':Fq}{co ln nm:Int}{xs ys:lV}{b:Nat}{w w':wO}
theorem ZD.mono(D:Ii w f w' f'):∀(k:Fo)(b off:Nat),ZD w f k b off→ZD w' f' k b off
 |.nil,_,_,_=>trivial
 |.cons _ k r,b,off,⟨⟨a,c,G,J,K⟩,L⟩=>⟨⟨a,c,G.mono D,J,K.imp id λ⟨F,h,O,U⟩=>⟨F,h,O,ZD.mono D k F h U⟩⟩,ZD.mono D r b _ L⟩
theorem Ee.mono{k:Fo}{a:oA}{c:Nat}:FU (λw f=>Ee w f k a c):=λ_ _ _ _ h D=>⟨h.1,h.2.imp id λ⟨b,off,F,G⟩=>⟨b,off,F,ZD.mono D k b off G⟩⟩
theorem Ee.nil(w:wO)(f:Fq)(a:oA)(c:Nat):Ee w f .nil a c:=⟨Nat.zero_le _,.inl C⟩
def Fm(w:wO)(f:Fq)(a:oA)(i:Nat)(r:Fo):Prop:=r=.nil∨∃b off,a=some ⟨b,off,none⟩∧ZD w f r b (off+i*6)
theorem Fm.mono{a:oA}{i:Nat}{r:Fo}:FU (λw f=>Fm w f a i r):=λ_ _ _ _ h D=>h.imp id λ⟨b,off,F,G⟩=>⟨b,off,F,ZD.mono D r b _ G⟩
theorem Ee.at{k:Fo}{a:oA}{c:Nat}(h:Ee w f k a c):Fm w f a 0 k:=h.2.imp id λ⟨b,off,D,F⟩=>⟨b,off,D,by simpa using F⟩
def foC(t:AB)(a:oA)(n c:Nat):lV:=[.int .i64 t.k,.int .i64 t.ln,.int .i64 t.co,.int .i64 t.nm,S t.tx,.slice a n c]
abbrev fV(t:AB)(a:oA)(n c:Nat):Value:=.agg #[.int .i64 t.k,.int .i64 t.ln,.int .i64 t.co,.int .i64 t.nm,S t.tx,.slice a n c]
theorem Fm.head{a:oA}{i:Nat}{t:AB}{k r:Fo}(h:Fm w f a i (.cons t k r)):∃b off ka kc,a=some ⟨b,off,none⟩∧Cs w f b (off+i*6) (foC t ka k.len kc)∧Ee w f k ka kc∧Fm w f a (i+1) r:=by
 rcases h with h|⟨b,off,D,⟨ka,kc,F,G⟩,J⟩
 · cases h
 · exact⟨b,off,ka,kc,D,F,G,.inr ⟨b,off,D,by rw[show off+(i+1)*6=off+i*6+6 by omega];exact J⟩⟩
theorem Fm.rest{a:oA}{t:AB}{k r:Fo}{c:Nat}(h:Ee w f (.cons t k r) a c):Ee w f r (Fy a c 6) (c-1):=by
 obtain⟨F,D⟩:=h;simp only[Fo.len] at F;refine⟨oM,?_⟩;rcases D with D|⟨b,off,rfl,K,G⟩
 · cases D
 · by_cases J:c=1
   · left
     cases r with
     |nil=>rfl
     |cons _ _ _=>simp only[Fo.len] at F;omega
   · exact .inr ⟨b,off+1*6,by unfold Fy;rw[if_neg J];rfl,G⟩
def Cd(w:wO)(f:Fq):Nd→lV→Prop
 |.nil,xs=>xs=[]
 |.cons op ln co tx nm k r,xs=>∃a c xs',xs=KW op ln co tx nm a k.len c++xs'∧AH w f k a c∧Cd w f r xs'
theorem Cd.mono'(D:Ii w f w' f'):∀(k:Nd)(xs:lV),Cd w f k xs→Cd w' f' k xs
 |.nil,_,h=>h
 |.cons _ _ _ _ _ _ r,_,⟨a,c,xs',F,G,J⟩=>⟨a,c,xs',F,AH.mono _ _ _ _ G D,Cd.mono' D r xs' J⟩
theorem Cd.mono{k:Nd}:FU (λw f=>Cd w f k xs):=λ_ _ _ _ h D=>Cd.mono' D k xs h
theorem Cd.app{y:Nd}(D:Cd w f y ys):∀{x:Nd}{xs:lV},Cd w f x xs→Cd w f (x.app y) (xs++ys)
 |.nil,xs,h=>by have h:xs=[]:=h;subst h;exact D
 |.cons _ _ _ _ _ _ r,_,⟨a,c,xs',F,G,J⟩=>⟨a,c,xs'++ys,by rw[F,List.append_assoc],G,Cd.app D J⟩
theorem Cd.one{op:Int}{tx:lU}{k:Nd}{a:oA}{c:Nat}(h:AH w f k a c):Cd w f (.cons op ln co tx nm k .nil) (KW op ln co tx nm a k.len c):=⟨a,c,[],by simp,h,C⟩
theorem Cd.len:∀{k:Nd}{xs:lV},Cd w f k xs→xs.length=k.len*6
 |.nil,xs,h=>by have h:xs=[]:=h;subst h;rfl
 |.cons _ _ _ _ _ _ r,_,⟨a,c,xs',D,G,F⟩=>by subst D;have:=Cd.len F;simp[Nd.len,KW,this];omega
theorem Cd.toG:∀{k:Nd}{xs:lV}{off:Nat},Cd w f k xs→Cs w f b off xs→P3 w f k b off
 |.nil,_,_,_,_=>trivial
 |.cons _ _ _ _ _ k r,_,off,⟨a,c,xs',D,F,G⟩,h=>by
   subst D;exact⟨⟨a,c,Cs.le h,F⟩,Cd.toG G (Cs.drop h)⟩
theorem Cd.toF{c:Nat}{k:Nd}(h:Cd w f k xs)(D:Cs w f b 0 xs)(F:k.len≤c):AH w f k (some ⟨b,0,none⟩) c:=⟨F,.inr ⟨b,0,C,Cd.toG h D⟩⟩
theorem KH{X:Cx}{H:List HB}{R:List RB}{B:List FB}{Fs:List (wO→Fq→Prop)}{e:tI}{a:oA}{c m:Nat}{k:Nd}(F:AQ X w f H (⟨e,6,a,c,m,xs⟩::R) B Fs)(J:Cd w f k xs):∃f',AQ X w f' H R B Fs∧AH w f' k a c:=by
 have K:=F.row _ (.head _);have hlen:=Cd.len J;have hm:m=k.len:=by have:=K.1;simp only at this;omega
 rcases K.2 with ⟨_,_,h⟩|⟨b,l,L,_,G,_⟩
 · simp only at h
   have O:k=.nil:=by
     cases k with
     |nil=>rfl
     |cons _ _ _ _ _ _ _=>simp only[Nd.len] at hm;omega
   exact⟨f,F.less (List.Sublist.refl _) (List.sublist_cons_self _ _) (λ_ h=>h) (λ_ h=>h),by rw[O];exact⟨Nat.zero_le _,.inl C⟩⟩
 · simp only at L G
   subst L;obtain⟨f',D⟩:=(F.more (B':=[]) (F':=[λw f=>Cd w f k xs]) (λ_ h=>by cases h) (AI.mem ⟨J,tQ⟩) (Aw.mem ⟨Cd.mono,tQ⟩)).done (i:=0) C C;exact⟨f',D.less (List.Sublist.refl _) (List.Sublist.refl _) (λe he=>.tail _ he) (λφ h=>.tail _ h),Cd.toF (D.fact (i:=0) C) (D.fro _ (.head _)) oM⟩
end Go.SP
namespace Go.SP
open Go.SW Go.RowKit
theorem Nd.app_len:∀x y:Nd,(x.app y).len=x.len+y.len
 |.nil,y=>by simp[Nd.app,Nd.len]
 |.cons _ _ _ _ _ _ r,y=>by simp only[Nd.app,Nd.len,Nd.app_len r y];omega
section
variable{m:AB→Fo→R N}{t:AB}{k r:Fo}{a:N}{dn:Nd}{e:Int×Int}
theorem Wv(h:m t k=.ok a):(match A9 m (.cons t k r) with|.error e=>.error e|.ok b=>.ok (dn.app b):R Nd)=(match A9 m r with|.error e=>.error e|.ok b=>.ok ((dn.app a.one).app b)):=by
 simp only[A9,h]
 cases A9 m r with
 |error e=>rfl
 |ok b=>simp only[Nd.app_assoc];rfl
theorem XV(h:m t k=.error e):(match A9 m (.cons t k r) with|.error e=>.error e|.ok b=>.ok (dn.app b):R Nd)=.error e:=by simp only[A9,h]
theorem TI{l:Fo}:A9 m l=(match A9 m l with|.error e=>.error e|.ok b=>.ok (Nd.nil.app b)):=by cases A9 m l <;> rfl
end
theorem Fo.cases1:∀r:Fo,0<r.len→∃t k q,r=.cons t k q
 |.nil,h=>by cases h
 |.cons t k q,_=>⟨t,k,q,C⟩
theorem Fo.len0:∀{r:Fo},r.len=0→r=.nil
 |.nil,_=>rfl
 |.cons _ _ _,h=>by simp[Fo.len] at h
abbrev I5(x:R N)(w:wO)(f:Fq):Value→wO→Prop:=B3 (α:=N×oA×Nat) (λy=>nV y.1.op y.1.ln y.1.co y.1.tx y.1.nm y.1.kids y.2.1 y.2.2) (λy=>x=.ok y.1) (λy=>[λw f=>AH w f y.1.kids y.2.1 y.2.2]) w f
abbrev IT(T:tI)(x:R N)(w:wO)(f:Fq):List PanicEntry→wO→Prop:=S4 T (λe=>x=.error e) w f
end Go.SP
namespace Go.SP
open Go.SW Go.RowKit
variable {f:Fq}{w w':wO}
theorem cE.fro{T:tI}{q:Nd×lV→Prop}{v:Value}(F:Vl w f)(h:cE T 6 (λx:Nd×lV=>x.1.len) (λx=>x.2) q (λx=>[λw f=>Cd w f x.1 x.2]) w f v w') :
   B3 (α:=(Nd×lV)×oA×Nat) (λy=>.slice y.2.1 y.1.1.len y.2.2) (λy=>q y.1) (λy=>[λw f=>AH w f y.1.1 y.2.1 y.2.2]) w f v w':=by
 obtain⟨x,a,c,f',G,J,K,L,O,U,-⟩:=h;have Y:=(Ci F (Fs:=[]) tQ tQ).addRow K L O;obtain⟨f2,D,Z⟩:=KH Y U;exact⟨(x,a,c),f2,G,J,D.exm,Z,tQ⟩
end Go.SP
namespace Go.SP
open Go.SW Go.RowKit
variable {lo x:Operand}{w:wO}
theorem H7{P:Program}{σ:Bf}{ty T e:tI}{k len m c:Nat}{a:oA}(D:len=m+1)(F:ev σ x=some (.slice a len c))(h:ev σ lo=some (.int .i64 1))(G:Je P T=some (e,k)):AK P σ (.slice T x (some lo) none none) ty w (.slice (Fy a c k) m (c-1)) w:=by
 subst D;exact WY F h G
end Go.SP
namespace Go.SP
open Go.SW Go.RowKit
variable {f:Fq}{xs:lV}{w:wO}
theorem Cd.one':∀{k:Nd}{xs:lV},Cd w f k xs→∀v∈xs,v.oneCell'=true
 |.nil,xs,h,v,D=>by have h:xs=[]:=h;subst h;cases D
 |.cons _ _ _ _ _ _ r,_,⟨a,c,xs',F,J,G⟩,v,D=>by
   subst F;rcases List.mem_append.1 D with D|D
   · simp only[KW,List.mem_cons,List.not_mem_nil,or_false] at D
     rcases D with rfl|rfl|rfl|rfl|rfl|rfl <;> rfl
   · exact Cd.one' G v D
theorem Cd.cons'{nd:N}{r:Nd}{a:oA}{c:Nat}(h:AH w f nd.kids a c)(D:Cd w f r xs):Cd w f (nd.cons r) (KW nd.op nd.ln nd.co nd.tx nd.nm a nd.kids.len c++xs):=⟨a,c,xs,C,h,D⟩
theorem Fo.two:∀l:Fo,(∃p h b bk,l=.cons p h (.cons b bk .nil))∨l.len≠2
 |.nil=>.inr (by simp[Fo.len])
 |.cons _ _ .nil=>.inr (by simp[Fo.len])
 |.cons p h (.cons b bk .nil)=>.inl ⟨p,h,b,bk,C⟩
 |.cons _ _ (.cons _ _ (.cons _ _ r))=>.inr (by simp only[Fo.len];omega)
theorem Fo.three:∀l:Fo,(∃p h b bk c D,l=.cons p h (.cons b bk (.cons c D .nil)))∨l.len≠3
 |.nil=>.inr (by simp[Fo.len])
 |.cons _ _ .nil=>.inr (by simp[Fo.len])
 |.cons _ _ (.cons _ _ .nil)=>.inr (by simp[Fo.len])
 |.cons p h (.cons b bk (.cons c D .nil))=>.inl ⟨p,h,b,bk,c,D,C⟩
 |.cons _ _ (.cons _ _ (.cons _ _ (.cons _ _ r)))=>.inr (by simp only[Fo.len];omega)
theorem Fo.single:∀l:Fo,(∃p h,l=.cons p h .nil)∨l.len≠1
 |.nil=>.inr (by simp[Fo.len])
 |.cons p h .nil=>.inl ⟨p,h,C⟩
 |.cons _ _ (.cons _ _ r)=>.inr (by simp only[Fo.len];omega)
section
variable{n:Nat}{ex:AB→Fo→R N}{t:AB}{l:Fo}
theorem fm_fn(h:l.len≠2):Bh n ex t [102,110] l=.error (t.ln,t.co):=by
 unfold Bh;rw[if_pos (by decide)]
 split
 · simp[Fo.len] at h
 · rfl
theorem uK(h:l.len≠3):Bh n ex t [108,101,116] l=.error (t.ln,t.co):=by
 unfold Bh;rw[if_neg (by decide),if_pos (by decide)]
 split
 · simp[Fo.len] at h
 · rfl
theorem xF(h:l.len≠3):Bh n ex t [114,101,99] l=.error (t.ln,t.co):=by
 unfold Bh;rw[if_neg (by decide),if_neg (by decide),if_pos (by decide)]
 split
 · simp[Fo.len] at h
 · rfl
theorem eN{w:lU}(hw:w=[114,97,105,115,101]∨w=[116,114,97,110,115,97,99,116])(h:l.len≠1):Bh n ex t w l=.error (t.ln,t.co):=by
 unfold Bh;rw[if_neg (by rcases hw with rfl|rfl <;> decide),if_neg (by rcases hw with rfl|rfl <;> decide),if_neg (by rcases hw with rfl|rfl <;> decide),if_neg (by rcases hw with rfl|rfl <;> decide),if_neg (by rcases hw with rfl|rfl <;> decide),if_neg (by rcases hw with rfl|rfl <;> decide),if_neg (by rcases hw with rfl|rfl <;> decide),if_pos (by rcases hw with rfl|rfl <;> decide)]
 split
 · simp[Fo.len] at h
 · rfl
end
end Go.SP
namespace Go.SW
open Go.RowKit Go.SP
section
variable{P:Program}{n:Nat}{Q:AX}{ds:List Deferred}{X:Cx}{R:List RB}{B:List FB}{Fs:List (wO→Fq→Prop)}{fs:List Fr}{σ:Bf}{H:List HB}{k:KX}{na:oA}{i c:Nat}{t:AB}{q r:Fo}
theorem N8(j:Nat)(D:nth Fs j=some (λw f=>Fm w f na i (.cons t q r)))
   (h:∀x:Nat×Nat×oA×Nat,na=some ⟨x.1,x.2.1,none⟩→A3 P n Q ds X R (⟨x.1,x.2.1+i*6,foC t x.2.2.1 q.len x.2.2.2⟩::B) ((λw f=>Ee w f q x.2.2.1 x.2.2.2)::(λw f=>Fm w f na (i+1) r)::Fs) k fs σ H):A3 P n Q ds X R B Fs k fs σ H :=
 KU (α:=Nat×Nat×oA×Nat) (λx=>na=some ⟨x.1,x.2.1,none⟩) (λ_=>[_]) (λ_=>[_,_]) (λ_ _ F=>let ⟨b,off,ka,kc,G,J,K,L⟩:=Fm.head (F.fn D);⟨(b,off,ka,kc),G,oE J,AI.mem ⟨K,L,tQ⟩⟩) (λ_=>Aw.mem ⟨Ee.mono,Fm.mono,tQ⟩) h
variable {b o:Nat}
theorem Z9(j:Nat)(D:nth Fs j=some (λw f=>Fm w f (some ⟨b,o,none⟩) i (.cons t q r)))
   (h:∀x:oA×Nat,A3 P n Q ds X R (⟨b,o+i*6,foC t x.1 q.len x.2⟩::B) ((λw f=>Ee w f q x.1 x.2)::(λw f=>Fm w f (some ⟨b,o,none⟩) (i+1) r)::Fs) k fs σ H):A3 P n Q ds X R B Fs k fs σ H :=
 N8 j D λx e=>by
   obtain⟨F,o',ka,kc⟩:=x
   cases e
   exact h (ka,kc)
theorem Rw{x:Fo}(j:Nat)(D:nth Fs j=some (λw f=>Ee w f x na c))(h:A3 P n Q ds X R B ((λw f=>Fm w f na 0 x)::Fs) k fs σ H):A3 P n Q ds X R B Fs k fs σ H:=D5 _ (λ_ _ F=>Ee.at (F.fn D)) Fm.mono h
theorem vY(j:Nat)(D:nth Fs j=some (λw f=>Ee w f (.cons t q r) na c))(h:A3 P n Q ds X R B ((λw f=>Ee w f r (Fy na c 6) (c-1))::Fs) k fs σ H):A3 P n Q ds X R B Fs k fs σ H:=D5 _ (λ_ _ F=>Fm.rest (F.fn D)) Ee.mono h
end
end Go.SW
namespace Go.SW
open Go.RowKit
def CsW(w:wO)(e:FB):Prop:=∀j v,e.l[j]?=some v→w.cell? ⟨e.b,e.off+j,none⟩=some v
def BK(w:wO):List FB→Prop
 | []=>True
 |e::l=>CsW w e∧BK w l
theorem Ar(w:wO):BK w []:=trivial
variable {σ:Bf}{l:lV}{b:Nat}{T:tI}
theorem kB{w:wO}{B:List FB}(h:AM w b l T)(d:BK w B):BK w (⟨b,0,l⟩::B) :=
 ⟨λj v D=>by rw[h.cell,Nat.zero_add];exact D,d⟩
theorem BK.get{w:wO}:∀{B:List FB}{i:Nat}{e:FB},BK w B→nth B i=some e→CsW w e
 |_::_,0,_,h,d=>by cases d;exact h.1
 |_::B,i+1,e,h,d=>BK.get (B:=B) h.2 d
section
variable(P:Program)(n:Nat)(Q:AX)(ds:List Deferred)(w:wO)(B:List FB)(tb:Zt)
def Stp1(k:KX)(fs:List Fr)(σ:Bf):Prop:=match k with
 |.code c=>HH P n c (MK P n Q fs) σ ds w
 |.ops all l=>Hu P n all.toArray (MK P n Q fs) l σ ds w
 |.out e=>(MK P n Q fs).q e σ ds w
def Jy:Nat→List Nat→KX→List Fr→Bf→Prop
 |0,_,k,fs,σ=>True→Stp1 P n Q ds w k fs σ
 |m+1,D,.code c,fs,σ=>(match c with
   |.skip=>Jy m D (.out .normal) fs σ
   |.ret=>Jy m D (.out .ret) fs σ
   |.exit i=>Jy m D (.out (.exit i)) fs σ
   |.seq a b=>Jy m D (.code a) (.sq b::fs) σ
   |.block i a=>Jy m D (.code a) (.bk i::fs) σ
   |.region _ ⟨l⟩ false=>Jy m D (.ops l l) fs σ
   |.cond x a b=>(match ev σ x with
     |some (.bool true)=>Jy m D (.code a) fs σ
     |some (.bool false)=>Jy m D (.code b) fs σ
     |_=>False)
   |_=>False)
 |m+1,D,.out e,fs,σ=>(match fs with
   | []=>False
   |.sq y::fs=>(match e with
     |.normal=>Jy m D (.code y) fs σ
     |.ret=>Jy m D (.out .ret) fs σ
     |.exit i=>Jy m D (.out (.exit i)) fs σ
     |_=>False)
   |.bk i::fs=>(match e with
     |.normal=>Jy m D (.out .normal) fs σ
     |.ret=>Jy m D (.out .ret) fs σ
     |.exit j=>(match Nat.beq j i with
       |true=>Jy m D (.out .normal) fs σ
       |false=>Jy m D (.out (.exit j)) fs σ)
     |_=>False))
 |m+1,D,.ops all [],fs,σ=>Jy m D (.out .normal) fs σ
 |m+1,D,.ops all (⟨dst,op,ty,pos,J,g⟩::r),fs,σ=>(match gd all σ g with
   |none=>False
   |some false=>(match dst with
     |some d=>(match Nat.blt d n with
       |true=>Jy m D (.ops all r) fs (AF σ d undef)
       |false=>False)
     |none=>False)
   |some true=>(match dst with
     |none=>False
     |some d=>(match Nat.blt d n with|false=>False|true=>(match op with
       |.load T x=>(match D with
         |h::q::D=>(match ev σ x,rA tb.ti T with
           |some (.pointer (some ⟨b,o,none⟩)),some (a,k)=>(match nth B h with
             |some ⟨F,off,l⟩=>(match a with
               |false=>(match nth l q with
                 |some v=>(F=b∧off+q=o)∧Jy m D (.ops all r) fs (AF σ d v)
                 |none=>False)
               |true=>(match Vz l q k with
                 |some vs=>(F=b∧off+q=o)∧Jy m D (.ops all r) fs (AF σ d (.agg ⟨vs⟩))
                 |none=>False))
             |none=>False)
           |_,_=>False)
         |_=>False)
       |.indexAddr T x y=>(match ev σ x,ev σ y,X6 tb.sl T with
         |some (.slice (some ⟨b,o,none⟩) len _),some (.int _ i),some (_,k)=>(0≤i∧i<len)∧Jy m D (.ops all r) fs (AF σ d (.pointer (some ⟨b,o+i.toNat*k,none⟩)))
         |_,_,_=>False)
       |.index T x y=>(match ev σ x,ev σ y,yD tb.st T with
         |some (.string ⟨⟨s⟩⟩),some (.int _ i),true=>(0≤i∧i<s.length)∧∀c,s[i.toNat]?=some c→Jy m D (.ops all r) fs (AF σ d (.int .u8 c.toNat))
         |_,_,_=>False)
       |.binOp .add T x y G=>(match ev σ x,ev σ y with
         |some (.int .i64 a),some (.int .i64 b)=>QN (a+b)∧Jy m D (.ops all r) fs (AF σ d (.int .i64 (a+b)))
         |_,_=>False)
       |.binOp .sub T x y G=>(match ev σ x,ev σ y with
         |some (.int .i64 a),some (.int .i64 b)=>QN (a-b)∧Jy m D (.ops all r) fs (AF σ d (.int .i64 (a-b)))
         |_,_=>False)
       |op=>(match pv tb σ op with
         |some v=>Jy m D (.ops all r) fs (AF σ d v)
         |none=>False)))))
end
section
variable{P:Program}{n:Nat}{Q:AX}{ds:List Deferred}{w:wO}{B:List FB}{tb:Zt}
theorem FX(F:tb.Ok P)(L:BK w B):∀(m:Nat)(O:List Nat)(k:KX)(fs:List Fr)(σ:Bf),Jy P n Q ds w B tb m O k fs σ→Stp1 P n Q ds w k fs σ
 |0,_,_,_,_,h=>h tQ
 |m+1,O,.code c,fs,σ,h=>by
   have d:=FX F L m;unfold Jy at h
   split at h
   · exact I9 (d _ _ _ _ h)
   · exact Kk (d _ _ _ _ h)
   · exact Lp (d _ _ _ _ h)
   · exact BW (d _ _ _ _ h)
   · exact Eg (d _ _ _ _ h)
   · exact CD (d _ _ _ _ h)
   · split at h
     · rename_i D;exact Gh D C (d _ _ _ _ h)
     · rename_i D;exact Ki D C (d _ _ _ _ h)
     · exact h.elim
   · exact h.elim
 |m+1,O,.out e,fs,σ,h=>by
   have d:=FX F L m;unfold Jy at h
   split at h
   · exact h.elim
   · split at h
     · exact Dw (d _ _ _ _ h)
     · exact WH (d _ _ _ _ h)
     · exact Xv (d _ _ _ _ h)
     · exact h.elim
   · split at h
     · exact DO (d _ _ _ _ h)
     · exact X4 (d _ _ _ _ h)
     · split at h
       · rename_i Y
         have e:=Nat.eq_of_beq_eq_true Y;subst e;exact Qs (d _ _ _ _ h)
       · rename_i Y;exact qL Y (d _ _ _ _ h)
     · exact h.elim
 |m+1,O,.ops all [],fs,σ,h=>by
   unfold Jy at h;exact Ae (FX F L m _ _ _ _ h)
 |m+1,O,.ops all (⟨dst,op,ty,pos,af,g⟩::r),fs,σ,h=>by
   have d:=FX F L m;unfold Jy at h
   split at h
   · exact h.elim
   · rename_i Z
     split at h
     · split at h
       · rename_i hd;exact O9 Z hd (d _ _ _ _ h)
       · exact h.elim
     · exact h.elim
   · rename_i Z
     refine B2 Z ?_
     split at h
     · exact h.elim
     · split at h
       · exact h.elim
       rename_i hd
       split at h
       · split at h
         · split at h
           · rename_i D J
             split at h
             · rename_i hB'
               have hc:=L.get hB'
               split at h
               · split at h
                 · rename_i v K
                   obtain⟨⟨rfl,rfl⟩,h⟩:=h;rw[EP] at K;exact Ab hd (JH D (GB F.ti J) (hc _ v K)) (d _ _ _ _ h)
                 · exact h.elim
               · split at h
                 · rename_i vs K
                   obtain⟨⟨rfl,rfl⟩,h⟩:=h;obtain⟨hk,hg2⟩:=R8 K;exact Ab hd (Lc D (GB F.ti J) hk (λj v hj=>by have:=hc _ v (hg2 j v hj);rwa[← Nat.add_assoc] at this)) (d _ _ _ _ h)
                 · exact h.elim
             · exact h.elim
           · exact h.elim
         · exact h.elim
       · split at h
         · rename_i D G J
           exact Ab hd (OE D G (K7 F.sl J) h.1) (d _ _ _ _ h.2)
         · exact h.elim
       · split at h
         · rename_i s _ i D G J
           obtain⟨h1,h⟩:=h;have U:i.toNat<s.length:=oM;exact Ab hd (D2 D G (R9 F.st J) h1.1 (List.getElem?_eq_getElem U)) (d _ _ _ _ (h _ (List.getElem?_eq_getElem U)))
         · exact h.elim
       · split at h
         · rename_i D G
           exact Ab hd (Oj D G h.1) (d _ _ _ _ h.2)
         · exact h.elim
       · split at h
         · rename_i D G
           exact Ab hd (Hp D G h.1) (d _ _ _ _ h.2)
         · exact h.elim
       · split at h
         · rename_i v K
           exact Ab hd (Rq F K) (d _ _ _ _ h)
         · exact h.elim
theorem gL{all r:List Oper}(fs:List Fr)(D:tb.Ok P)(m:Nat)(d:List Nat)(F:BK w B)(h:Jy P n Q ds w B tb m d (.ops all r) fs σ):Hu P n all.toArray (MK P n Q fs) r σ ds w:=FX D F m d _ fs σ h
theorem gP{c:Code}(fs:List Fr)(D:tb.Ok P)(m:Nat)(d:List Nat)(F:BK w B)(h:Jy P n Q ds w B tb m d (.code c) fs σ):HH P n c (MK P n Q fs) σ ds w:=FX D F m d _ fs σ h
theorem gQ{e:Exit}(fs:List Fr)(D:tb.Ok P)(m:Nat)(d:List Nat)(F:BK w B)(h:Jy P n Q ds w B tb m d (.out e) fs σ):(MK P n Q fs).q e σ ds w:=FX D F m d _ fs σ h
theorem sL{all:Array Oper}{r:List Oper}{Q:AX}{b:Bool}(t:Nat)(h:σ t=some (.bool b))(D:b=true→Hu P n all Q r (AF σ t (.bool true)) ds w)(F:b=false→Hu P n all Q r (AF σ t (.bool false)) ds w):Hu P n all Q r σ ds w:=by
 cases b with
 |true=>exact λa d=>D C a (d.le (A6 (le_refl _) h))
 |false=>exact λa d=>F C a (d.le (A6 (le_refl _) h))
theorem sP{c:Code}{Q:AX}{b:Bool}(t:Nat)(d:σ t=some (.bool b))(h:b=true→HH P n c Q (AF σ t (.bool true)) ds w)(D:b=false→HH P n c Q (AF σ t (.bool false)) ds w):HH P n c Q σ ds w:=by
 cases b with
 |true=>exact NT (A6 (le_refl _) d) (h C)
 |false=>exact NT (A6 (le_refl _) d) (D C)
theorem kP{c:Code}{Q:AX}{b:Bool}(t:Nat)(c':Bool)(d:σ t=some (.bool b))(D:b=c')(h:HH P n c Q (AF σ t (.bool c')) ds w):HH P n c Q σ ds w:=by
 subst D;exact NT (A6 (le_refl _) d) h
end
def zC(d:Bf)(I:wO→Prop)(h:List Deferred)(Q:AX):AX :=
 {q:=λe σ ds w=>match e with|.normal=>Le d σ∧ds=h∧I w|e=>Q.q e σ ds w,p:=Q.p}
theorem RV{P:Program}{n:Nat}{Q:AX}{ds:List Deferred}{w:wO}{x y:Code}(d:Bf)(I:wO→Prop)(D:HH P n x (zC d I ds Q) σ ds w)(F:∀w',I w'→HH P n y Q d ds w'):HH P n (.seq x y) Q σ ds w :=
 BW λa G=>wp_mono (D a G) λe a' w' he=>by
   cases e with
   |normal=>obtain⟨h,J,K,L,rfl,O⟩:=he;exact⟨h,_,K,NT L (F w' O)⟩
   |panic c=>exact he
   |outgrown=>exact he
   |ret=>exact he
   |exit i=>exact he
   |goto i=>exact he
theorem Q1{d:Bf}{I:wO→Prop}{ds:List Deferred}{Q:AX}{w:wO}(D:Le d σ)(h:I w):(zC d I ds Q).q .normal σ ds w:=⟨D,C,h⟩
end Go.SW
namespace Go.Proofs.YtelmolopaolbcaaGreatDoor
open Go.SW Go.RowKit Go.Proofs.Tryz
theorem MB:OB prog 54=some (3,1,8,[.int .i64 0]):=kR
theorem Dl:OB prog 72=some (76,4,56,[.int .i64 0,.int .i64 0,.string ⟨#[]⟩,.slice none 0 0]):=kR
theorem SK:OB prog 96=some (9,1,16,[.string ⟨#[]⟩]):=kR
theorem WD:Z3 prog 3 21=some .i32:=kR
theorem Bu:BB prog 28:=Am func28 kR kR
theorem Dv:BB prog 55:=Am func55 kR kR
theorem Hx:BB prog 56:=Am func56 kR kR
theorem bO:BB prog 61:=Am func61 kR kR
theorem M7:BB prog 63:=Am func63 kR kR
theorem rR:BB prog 67:=Am func67 kR kR
theorem fM:BB prog 68:=Am func68 kR kR
theorem cX:BB prog 73:=Am func73 kR kR
theorem gO:BB prog 84:=Am func84 kR kR
theorem Rn:BB prog 85:=Am func85 kR kR
theorem ZG:BB prog 87:=Am func87 kR kR
theorem ZI:BB prog 93:=Am func93 kR kR
theorem xE:BB prog 95:=Am func95 kR kR
theorem iG:BB prog 96:=Am func96 kR kR
theorem US:BB prog 97:=Am func97 kR kR
theorem GU:BB prog 116:=Am func116 kR kR
theorem RR:BB prog 117:=Am func117 kR kR
theorem Nv:BB prog 121:=Am func121 kR kR
theorem nK:BB prog 122:=Am func122 kR kR
theorem nZ:BB prog 140:=Am func140 kR kR
theorem mO:FA prog 76 0=some 0:=kR
theorem mP:FA prog 76 1=some 1:=kR
theorem lX:FA prog 76 2=some 2:=kR
theorem mE:FA prog 76 3=some 3:=kR
theorem bL:FA prog 163 0=some 0:=kR
theorem dK:FA prog 163 1=some 1:=kR
theorem iN:FA prog 163 2=some 2:=kR
theorem oN:vM prog 21 9=true:=kR
theorem NN:Gn prog 139=some (3,4):=kR
theorem cP:Gn prog 144=some (3,9):=kR
theorem VN:Gn prog 161=some (3,76):=kR
theorem Al:prog.follows .mixedOrders=true:=kR
theorem qpl76:No prog 76=some [(0,1),(1,1),(2,1),(3,1)]:=kR
theorem vC:No prog 163=some [(0,1),(1,1),(2,1)]:=kR
theorem zX:Je prog 54=some (3,1):=kR
theorem Tr:Je prog 72=some (76,4):=kR
theorem zJ:Je prog 96=some (9,1):=kR
theorem Iw:AP prog 3=some (false,1):=kR
theorem wT:AP prog 9=some (false,1):=kR
theorem PR:AP prog 54=some (false,1):=kR
theorem bY:AP prog 72=some (false,1):=kR
theorem AW:AP prog 76=some (true,4):=kR
theorem Vc:AP prog 161=some (false,1):=kR
theorem PB:prog.underlying 3=some (.int .i64):=kR
theorem zQ:prog.underlying 79=some (.pointer 163):=kR
theorem jW:zO prog 4=some (.bool false):=kR
theorem qzo9:zO prog 9=some (.string ⟨#[]⟩):=kR
theorem Pd:zO prog 76=some (.agg #[.int .i64 0,.int .i64 0,.string ⟨#[]⟩,.slice none 0 0]):=kR
theorem qzr3:HG prog 3=some [.int .i64 0]:=kR
theorem qzr9:HG prog 9=some [.string ⟨#[]⟩]:=kR
theorem qzr54:HG prog 54=some [.slice none 0 0]:=kR
theorem zS:HG prog 76=some [.int .i64 0,.int .i64 0,.string ⟨#[]⟩,.slice none 0 0]:=kR
theorem wN:HG prog 163=some [.map none,.int .i64 0,.int .i64 0]:=kR
theorem EI:BB prog 24:=Am func24 kR kR
theorem G9:BB prog 26:=Am func26 kR kR
theorem CL:BB prog 27:=Am func27 kR kR
theorem IL:BB prog 29:=Am func29 kR kR
theorem UZ:BB prog 30:=Am func30 kR kR
theorem FN:BB prog 33:=Am func33 kR kR
theorem Rh:BB prog 58:=Am func58 kR kR
theorem wL:BB prog 59:=Am func59 kR kR
theorem vP:BB prog 60:=Am func60 kR kR
theorem wJ:BB prog 62:=Am func62 kR kR
theorem hO:BB prog 64:=Am func64 kR kR
theorem vX:BB prog 65:=Am func65 kR kR
theorem KQ:BB prog 66:=Am func66 kR kR
theorem QJ:BB prog 69:=Am func69 kR kR
theorem cD:BB prog 89:=Am func89 kR kR
theorem R7:BB prog 92:=Am func92 kR kR
theorem vJ:BB prog 94:=Am func94 kR kR
theorem mD:BB prog 114:=Am func114 kR kR
theorem QI:BB prog 118:=Am func118 kR kR
theorem Sd:BB prog 119:=Am func119 kR kR
theorem nS:BB prog 136:=Am func136 kR kR
theorem nY:FA prog 74 0=some 0:=kR
theorem jM:FA prog 74 1=some 1:=kR
theorem lC:FA prog 74 2=some 3:=kR
theorem kC:FA prog 74 4=some 5:=kR
theorem oL:FA prog 84 0=some 0:=kR
theorem lQ:FA prog 84 1=some 1:=kR
theorem fS:FA prog 120 0=some 0:=kR
theorem eX:FA prog 120 1=some 1:=kR
theorem gN:FA prog 120 2=some 5:=kR
theorem fO:FA prog 128 0=some 0:=kR
theorem bZ:FA prog 128 1=some 4:=kR
theorem cS:FA prog 130 0=some 0:=kR
theorem aB:FA prog 130 1=some 1:=kR
theorem bH:FA prog 130 2=some 6:=kR
theorem PG:Gn prog 80=some (9,120):=kR
theorem Aa5:xZ prog 67=true:=kR
theorem qpl67:No prog 67=some [(0,2),(2,1)]:=kR
theorem vV:No prog 128=some [(0,4),(4,1)]:=kR
theorem wB:No prog 130=some [(0,1),(1,5),(6,1)]:=kR
theorem O6:Je prog 46=some (74,6):=kR
theorem Fa:AP prog 27=some (true,2):=kR
theorem JJ:AP prog 46=some (false,1):=kR
theorem zP:AP prog 69=some (false,1):=kR
theorem B6:AP prog 74=some (true,6):=kR
theorem JP:AP prog 79=some (false,1):=kR
theorem QG:AP prog 80=some (false,1):=kR
theorem sQ:AP prog 120=some (true,6):=kR
theorem wH:AP prog 128=some (true,5):=kR
theorem Gt:prog.underlying 9=some .string:=kR
theorem qun69:prog.underlying 69=some (.pointer 130):=kR
theorem Rt:zO prog 120=some (.agg #[.slice none 0 0,.int .i64 0,.int .i64 0,.string ⟨#[]⟩,.slice none 0 0,.slice none 0 0]):=kR
theorem zL:HG prog 67=some [.int .i64 0,.int .i64 0,.int .i64 0]:=kR
theorem qzr74:HG prog 74=some [.int .i64 0,.int .i64 0,.int .i64 0,.string ⟨#[]⟩,.int .i64 0,.slice none 0 0]:=kR
theorem sC:HG prog 120=some [.slice none 0 0,.int .i64 0,.int .i64 0,.string ⟨#[]⟩,.slice none 0 0,.slice none 0 0]:=kR
theorem uQ:HG prog 128=some [.int .i64 0,.int .i64 0,.string ⟨#[]⟩,.slice none 0 0,.slice none 0 0]:=kR
theorem vL:HG prog 130=some [.string ⟨#[]⟩,.int .i64 0,.int .i64 0,.string ⟨#[]⟩,.slice none 0 0,.slice none 0 0,.pointer none]:=kR
theorem WQ:OB prog 49=some (91,2,32,[.string ⟨#[]⟩,.string ⟨#[]⟩]):=kR
theorem UF:OB prog 121=some (124,6,80,[.string ⟨#[]⟩,.int .i64 0,.int .i64 0,.int .i64 0,.string ⟨#[]⟩,.slice none 0 0]):=kR
theorem dY:BB prog 21:=Am func21 kR kR
theorem sI:BB prog 22:=Am func22 kR kR
theorem vU:BB prog 23:=Am func23 kR kR
theorem OD:BB prog 25:=Am func25 kR kR
theorem aT:BB prog 31:=Am func31 kR kR
theorem vI:BB prog 32:=Am func32 kR kR
theorem uG:BB prog 52:=Am func52 kR kR
theorem uN:BB prog 53:=Am func53 kR kR
theorem uX:BB prog 54:=Am func54 kR kR
theorem QT:BB prog 57:=Am func57 kR kR
theorem uO:BB prog 81:=Am func81 kR kR
theorem wR:BB prog 82:=Am func82 kR kR
theorem Se:BB prog 83:=Am func83 kR kR
theorem tA:BB prog 88:=Am func88 kR kR
theorem ZK:BB prog 90:=Am func90 kR kR
theorem dL:BB prog 91:=Am func91 kR kR
theorem kW:FA prog 67 0=some 0:=kR
theorem nX:FA prog 67 1=some 2:=kR
theorem mX:FA prog 84 2=some 2:=kR
theorem jZ:FA prog 84 3=some 3:=kR
theorem mB:FA prog 84 4=some 4:=kR
theorem lH:FA prog 91 1=some 1:=kR
theorem eF:FA prog 118 0=some 0:=kR
theorem fJ:FA prog 118 1=some 1:=kR
theorem dE:FA prog 118 3=some 3:=kR
theorem cH:FA prog 124 0=some 0:=kR
theorem iQ:FA prog 124 2=some 2:=kR
theorem Rm:ZF prog 20=true:=kR
theorem Tg:Gn prog 81=some (9,3):=kR
theorem Xf:Gn prog 82=some (9,4):=kR
theorem Mo:Gn prog 133=some (9,76):=kR
theorem zK:No prog 27=some [(0,1),(1,1)]:=kR
theorem qpl84:No prog 84=some [(0,1),(1,1),(2,1),(3,1),(4,1)]:=kR
theorem qpl91:No prog 91=some [(0,1),(1,1)]:=kR
theorem vR:No prog 118=some [(0,1),(1,1),(2,1),(3,1)]:=kR
theorem wE:No prog 120=some [(0,1),(1,4),(5,1)]:=kR
theorem wF:No prog 124=some [(0,1),(1,1),(2,4)]:=kR
theorem yS:Je prog 49=some (91,2):=kR
theorem xA:Je prog 115=some (118,4):=kR
theorem wI:Je prog 121=some (124,6):=kR
theorem tJ:yT prog 67=true:=kR
theorem Ik:AP prog 28=some (false,1):=kR
theorem cR:AP prog 49=some (false,1):=kR
theorem qti67:AP prog 67=some (true,3):=kR
theorem SI:AP prog 81=some (false,1):=kR
theorem qT:AP prog 82=some (false,1):=kR
theorem tP:AP prog 118=some (true,4):=kR
theorem KN:AP prog 121=some (false,1):=kR
theorem xU:AP prog 124=some (true,6):=kR
theorem lR:zO prog 3=some (.int .i64 0):=kR
theorem zF:HG prog 27=some [.int .i64 0,.int .i64 0]:=kR
theorem yN:HG prog 28=some [.int .i64 0]:=kR
theorem qzr49:HG prog 49=some [.slice none 0 0]:=kR
theorem yU:HG prog 84=some [.pointer none,.map none,.map none,.map none,.int .i64 0]:=kR
theorem qzr91:HG prog 91=some [.string ⟨#[]⟩,.string ⟨#[]⟩]:=kR
theorem tS:HG prog 118=some [.string ⟨#[]⟩,.string ⟨#[]⟩,.int .i64 0,.int .i64 0]:=kR
theorem tY:HG prog 121=some [.slice none 0 0]:=kR
theorem wU:HG prog 124=some [.string ⟨#[]⟩,.int .i64 0,.int .i64 0,.int .i64 0,.string ⟨#[]⟩,.slice none 0 0]:=kR
theorem MM:OB prog 46=some (74,6,72,[.int .i64 0,.int .i64 0,.int .i64 0,.string ⟨#[]⟩,.int .i64 0,.slice none 0 0]):=kR
theorem cL:BB prog 16:=Am func16 kR kR
theorem dB:BB prog 17:=Am func17 kR kR
theorem Dp:BB prog 18:=Am func18 kR kR
theorem wY:BB prog 19:=Am func19 kR kR
theorem rV:BB prog 20:=Am func20 kR kR
theorem AG:BB prog 40:=Am func40 kR kR
theorem Hl:BB prog 41:=Am func41 kR kR
theorem gW:BB prog 42:=Am func42 kR kR
theorem UE:BB prog 43:=Am func43 kR kR
theorem iI:BB prog 44:=Am func44 kR kR
theorem Bj:BB prog 45:=Am func45 kR kR
theorem tO:BB prog 46:=Am func46 kR kR
theorem OA:BB prog 47:=Am func47 kR kR
theorem KM:BB prog 48:=Am func48 kR kR
theorem D1:BB prog 49:=Am func49 kR kR
theorem bM:BB prog 50:=Am func50 kR kR
theorem VJ:BB prog 51:=Am func51 kR kR
theorem KG:BB prog 78:=Am func78 kR kR
theorem IJ:BB prog 79:=Am func79 kR kR
theorem rB:BB prog 80:=Am func80 kR kR
theorem oJ:BB prog 108:=Am func108 kR kR
theorem Xk:BB prog 109:=Am func109 kR kR
theorem RP:BB prog 110:=Am func110 kR kR
theorem Nk:BB prog 111:=Am func111 kR kR
theorem RH:BB prog 133:=Am func133 kR kR
theorem Sa:BB prog 134:=Am func134 kR kR
theorem kD:FA prog 61 0=some 0:=kR
theorem gU:FA prog 108 0=some 0:=kR
theorem aF:FA prog 108 1=some 1:=kR
theorem gX:FA prog 108 2=some 3:=kR
theorem eW:FA prog 108 3=some 4:=kR
theorem gF:FA prog 110 0=some 0:=kR
theorem bA:FA prog 110 1=some 5:=kR
theorem qpl74:No prog 74=some [(0,1),(1,2),(3,1),(4,1),(5,1)]:=kR
theorem Lz:Je prog 63=some (110,6):=kR
theorem rO:yT prog 61=true:=kR
theorem Aa4:AP prog 61=some (true,2):=kR
theorem qti63:AP prog 63=some (false,1):=kR
theorem qZ:AP prog 110=some (true,6):=kR
theorem qzr46:HG prog 46=some [.slice none 0 0]:=kR
theorem yY:HG prog 61=some [.int .i64 0,.int .i64 0]:=kR
theorem wM:HG prog 110=some [.int .i64 0,.int .i64 0,.int .i64 0,.int .i64 0,.string ⟨#[]⟩,.slice none 0 0]:=kR
theorem qap25:OB prog 25=some (34,2,32,[.string ⟨#[]⟩,.string ⟨#[]⟩]):=kR
theorem Ld:mV prog 44 9=some 5:=kR
theorem Sk:Z3 prog 3 5=some .u8:=kR
theorem Lg:Z3 prog 3 43=some .u64:=kR
theorem Nh:Z3 prog 43 3=some .i64:=kR
theorem Qe:BB prog 6:=Am func6 kR kR
theorem Xl:BB prog 7:=Am func7 kR kR
theorem qent8:BB prog 8:=Am func8 kR kR
theorem fX:BB prog 9:=Am func9 kR kR
theorem uP:BB prog 11:=Am func11 kR kR
theorem xG:BB prog 12:=Am func12 kR kR
theorem vK:BB prog 13:=Am func13 kR kR
theorem cY:BB prog 34:=Am func34 kR kR
theorem rZ:BB prog 35:=Am func35 kR kR
theorem dG:BB prog 70:=Am func70 kR kR
theorem vA:BB prog 71:=Am func71 kR kR
theorem VQ:BB prog 72:=Am func72 kR kR
theorem jH:FA prog 24 0=some 0:=kR
theorem mU:FA prog 24 1=some 1:=kR
theorem kN:FA prog 34 1=some 1:=kR
theorem nL:FA prog 98 0=some 0:=kR
theorem nD:FA prog 98 1=some 1:=kR
theorem lK:FA prog 98 2=some 2:=kR
theorem Xc:Gn prog 94=some (9,74):=kR
theorem Aa8:No prog 34=some [(0,1),(1,1)]:=kR
theorem qpl98:No prog 98=some [(0,1),(1,1),(2,1)]:=kR
theorem rH:fZ prog 27=true:=kR
theorem qsl22:Je prog 22=some (54,1):=kR
theorem qsl25:Je prog 25=some (34,2):=kR
theorem zZ:Je prog 44=some (5,1):=kR
theorem YY:AP prog 4=some (false,1):=kR
theorem qti22:AP prog 22=some (false,1):=kR
theorem qti24:AP prog 24=some (true,2):=kR
theorem pE:AP prog 94=some (false,1):=kR
theorem MN:AP prog 96=some (false,1):=kR
theorem qunb4:prog.underlying 4=some .bool:=kR
theorem fL:zO prog 74=some (.agg #[.int .i64 0,.int .i64 0,.int .i64 0,.string ⟨#[]⟩,.int .i64 0,.slice none 0 0]):=kR
theorem qzr5:HG prog 5=some [.int .u8 0]:=kR
theorem zH:HG prog 34=some [.string ⟨#[]⟩,.string ⟨#[]⟩]:=kR
theorem qzr98:HG prog 98=some [.map none,.slice none 0 0,.bool false]:=kR
end Go.Proofs.YtelmolopaolbcaaGreatDoor
namespace Go.Proofs.YtelmolopaolbcaaGreatDoor
open Go.SW Go.SP Go.RowKit Go.Proofs.Tryz
def gT:Zt:=⟨[(74,4,5),(74,2,3),(76,3,3),(74,0,0),(74,1,1),(110,0,0),(108,3,4),(110,1,5),(76,0,0),(76,1,1),(84,0,0),(108,0,0),(108,1,1),(106,2,2),(76,2,2),(84,1,1),(120,0,0),(128,0,0),(128,1,4),(108,2,3),(163,0,0),(163,2,2),(130,2,6),(130,1,1),(84,2,2),(84,4,4),(98,1,1),(98,2,2),(34,1,1),(61,0,0),(106,1,1),(27,1,1),(27,0,0),(298,0,0),(163,1,1),(120,2,5),(120,1,1),(130,0,0),(118,1,1),(118,3,3),(118,0,0),(124,0,0),(124,2,2),(67,0,0),(67,1,2),(84,3,3),(91,1,1),(98,0,0),(24,0,0),(24,1,1)],[(72,76,4),(46,74,6),(63,110,6),(54,3,1),(96,9,1),(44,5,1),(25,34,2),(121,124,6),(115,118,4),(57,108,5),(111,63,1),(49,91,2),(22,54,1)],[9],[],[(3,false,1),(9,false,1),(76,true,4),(27,true,2),(74,true,6),(46,false,1),(72,false,1),(110,true,6),(63,false,1),(54,false,1),(79,false,1),(4,false,1),(28,false,1),(120,true,6),(69,false,1),(49,false,1),(96,false,1),(24,true,2),(108,true,5),(61,true,2),(57,false,1),(128,true,5),(118,true,4),(124,true,6),(67,true,3),(22,false,1)],[(76,zT),(74,zN),(110,[iV 0,iV 0,iV 0,iV 0,.string ⟨#[]⟩,.slice none 0 0]),(27,[iV 0,iV 0]),(3,[iV 0]),(61,[iV 0,iV 0]),(103,[iV 0,iV 0]),(9,[.string ⟨#[]⟩]),(120,[.slice none 0 0,iV 0,iV 0,.string ⟨#[]⟩,.slice none 0 0,.slice none 0 0]),(28,[iV 0]),(108,[iV 0,iV 0,iV 0,iV 0,.string ⟨#[]⟩]),(67,[iV 0,iV 0,iV 0]),(128,[iV 0,iV 0,.string ⟨#[]⟩,.slice none 0 0,.slice none 0 0]),(130,[.string ⟨#[]⟩,iV 0,iV 0,.string ⟨#[]⟩,.slice none 0 0,.slice none 0 0,.pointer none]),(124,[.string ⟨#[]⟩,iV 0,iV 0,iV 0,.string ⟨#[]⟩,.slice none 0 0]),(118,[.string ⟨#[]⟩,.string ⟨#[]⟩,iV 0,iV 0]),(46,[.slice none 0 0]),(54,[.slice none 0 0]),(163,[.map none,iV 0,iV 0]),(121,[.slice none 0 0]),(84,[.pointer none,.map none,.map none,.map none,iV 0]),(49,[.slice none 0 0]),(91,[.string ⟨#[]⟩,.string ⟨#[]⟩]),(98,[.map none,.slice none 0 0,.bool false]),(34,[.string ⟨#[]⟩,.string ⟨#[]⟩]),(5,[.int .u8 0])],[(27,[(0,1),(1,1)]),(76,[(0,1),(1,1),(2,1),(3,1)]),(74,[(0,1),(1,2),(3,1),(4,1),(5,1)]),(103,[(0,2)]),(61,[(0,2)]),(108,[(0,1),(1,2),(3,1),(4,1)]),(128,[(0,4),(4,1)]),(130,[(0,1),(1,5),(6,1)]),(120,[(0,1),(1,4),(5,1)]),(163,[(0,1),(1,1),(2,1)]),(67,[(0,2),(2,1)]),(124,[(0,1),(1,1),(2,4)]),(118,[(0,1),(1,1),(2,1),(3,1)]),(84,[(0,1),(1,1),(2,1),(3,1),(4,1)]),(91,[(0,1),(1,1)]),(98,[(0,1),(1,1),(2,1)]),(34,[(0,1),(1,1)])],[(79,163),(69,130)]⟩
theorem yO:gT.Ok prog:=⟨(aI kC (aI lC (aI mE (aI nY (aI jM (aI gF (aI eW (aI bA (aI mO (aI mP (aI oL (aI gU (aI aF (aI QX (aI lX (aI lQ (aI fS (aI fO (aI bZ (aI gX (aI bL (aI iN (aI bH (aI aB (aI mX (aI mB (aI nD (aI lK (aI kN (aI kD (aI F4 (aI tN (aI tK (aI jY (aI dK (aI gN (aI eX (aI cS (aI fJ (aI dE (aI eF (aI cH (aI iQ (aI kW (aI nX (aI jZ (aI lH (aI nL (aI jH (aI mU tQ)))))))))))))))))))))))))))))))))))))))))))))))))),(aI Tr (aI O6 (aI Lz (aI zX (aI zJ (aI zZ (aI qsl25 (aI wI (aI xA (aI Hj (aI Ho (aI yS (aI qsl22 tQ))))))))))))),(aI Gt tQ),tQ,(aI Iw (aI wT (aI AW (aI Fa (aI B6 (aI JJ (aI bY (aI qZ (aI qti63 (aI PR (aI JP (aI YY (aI Ik (aI sQ (aI zP (aI cR (aI MN (aI qti24 (aI DY (aI Aa4 (aI Du (aI wH (aI tP (aI xU (aI qti67 (aI qti22 tQ)))))))))))))))))))))))))),(aI zS (aI qzr74 (aI wM (aI zF (aI qzr3 (aI yY (aI oU (aI qzr9 (aI sC (aI yN (aI D7 (aI zL (aI uQ (aI vL (aI wU (aI tS (aI qzr46 (aI qzr54 (aI wN (aI tY (aI yU (aI qzr49 (aI qzr91 (aI qzr98 (aI zH (aI qzr5 tQ)))))))))))))))))))))))))),(aI zK (aI qpl76 (aI qpl74 (aI zD (aI pl61 (aI Ui (aI vV (aI wB (aI wE (aI vC (aI qpl67 (aI wF (aI vR (aI qpl84 (aI qpl91 (aI qpl98 (aI Aa8 tQ))))))))))))))))),(aI zQ (aI qun69 tQ))⟩
section
variable{n:Nat}{Q:AX}{ds:List Deferred}{X:Cx}{R:List RB}{B B0:List FB}{Fs:List (wO→Fq→Prop)}{fs:List Fr}{σ:Bf}{H Hk:List HB}{l:List Oper}{J:wO→Prop}{w:wO}
theorem Aa{k:KX}(m:Nat)(d:List Nat)(h:ex prog n Q ds X R B Fs gT m d k fs σ H):A3 prog n Q ds X R B Fs k fs σ H:=go yO m d h
theorem A2{t:OT}(m:Nat)(d:List Nat)(h:Xi prog n Q ds X R B Fs gT l Hk B0 J m d t σ H):Dj prog n Q ds X R B Fs l Hk B0 J true t σ H:=goT yO m d h
theorem AL{all r:List Oper}(fs:List Fr)(m:Nat)(d:List Nat)(D:BK w B)(h:Jy prog n Q ds w B gT m d (.ops all r) fs σ):Hu prog n all.toArray (MK prog n Q fs) r σ ds w:=gL fs yO m d D h
theorem AT{c:Code}(fs:List Fr)(m:Nat)(d:List Nat)(D:BK w B)(h:Jy prog n Q ds w B gT m d (.code c) fs σ):HH prog n c (MK prog n Q fs) σ ds w:=gP fs yO m d D h
theorem K5{e:Exit}(fs:List Fr)(m:Nat)(d:List Nat)(D:BK w B)(h:Jy prog n Q ds w B gT m d (.out e) fs σ):(MK prog n Q fs).q e σ ds w:=gQ fs yO m d D h
end
theorem W5{l:lU}(h:l≠[]):l[(0:Int).toNat]?=some (Z4 l):=by cases l <;> simp_all [Z4]
theorem C5(w:wO)(t:AB)(F:Value) :
  Bq prog 41 #[.agg #[iV t.k,iV t.ln,iV t.co,iV t.nm,S t.tx,F]] w λv w'=>v=.bool (t.k==0)∧AU w w':=by
 have d:=AU.refl w;refine enter func41 C C C<|AT [] 2 [] (Ar _) (λ_=>Ei C C C λb1 K h D G J=>?_);replace d:=d.trans D;exact AL [.sq _] 13 [0,0] (kB h (Ar _)) (y2<|λ_=>Bp (AE C (Ah C))<|⟨C,d⟩)
theorem Gr(w:wO)(t:AB)(F:Value) :
  Bq prog 42 #[.agg #[iV t.k,iV t.ln,iV t.co,iV t.nm,S t.tx,F]] w λv w'=>v=.bool (t.k==5)∧AU w w':=by
 have d:=AU.refl w;refine enter func42 C C C<|AT [] 2 [] (Ar _) (λ_=>Ei C C C λb1 K h D G J=>?_);replace d:=d.trans D;exact AL [.sq _] 13 [0,0] (kB h (Ar _)) (y2<|λ_=>Bp (AE C (Ah C))<|⟨C,d⟩)
theorem D8(w:wO)(t:AB)(J:Value)(s:lU) :
  Bq prog 78 #[.agg #[iV t.k,iV t.ln,iV t.co,iV t.nm,S t.tx,J],S s] w λv w'=>v=.bool (t.isWord s)∧AU w w':=by
 have D:=AU.refl w;refine enter func78 C C C<|AT [] 2 [] (Ar _) (λ_=>Ei C C C λb1 Q d F K L=>?_);replace D:=D.trans F;refine AL [.sq _] 6 [0,0] (kB d (Ar _)) (y2<|λ_=>A4 C (Ax iL C C) (Gr _ ⟨_,_,_,_,_⟩ _) ?_);rintro _ U ⟨rfl,h⟩;replace d:=d.ext h;replace D:=D.trans h;have O:=h.size;refine Ab C (Az C)<|sL 7 C (λG=>?_) (λG=>?_);exact AL [.sq _] 10 [0,4] (kB d (Ar _)) (y2<|λ_=>Bp (AE C (Ah C))<|⟨by simp[AB.isWord,G],D⟩);exact AL [.sq _] 10 [] (Ar _) (λ_=>Bp (AE C (Ah C))<|⟨by simp[AB.isWord,G],D⟩)
theorem Dk(w:wO)(n h D:Int) :
  Bq prog 79 #[iV n,iV h,iV D] w λv w'=>v=.bool (SP.within n h D)∧AU w w':=by
 have F:=AU.refl w;refine enter func79 C C C<|AT [] 11 [] (Ar _) (λ_=>sL 10 C (λd=>?_) (λd=>?_));exact AL [.sq _] 8 [] (Ar _) (λ_=>Bp (AE C (Ah C))<|⟨by simp[SP.within,d],F⟩);exact AL [.sq _] 8 [] (Ar _) (λ_=>Bp (AE C (Ah C))<|⟨by simp[SP.within,d],F⟩)
theorem EM(w:wO)(Q:Gl w)(t:AB)(U:Value)(K:t.k=5→t.tx≠[])(hlen:t.tx.length≤100000) :
  Bq prog 47 #[.agg #[iV t.k,iV t.ln,iV t.co,iV t.nm,S t.tx,U]] w λv w'=>v=.bool t.isVar∧AU w w':=by
 have h:=AU.refl w;refine enter func47 C C C<|AT [] 2 [] (Ar _) (λ_=>Ei C C C λb1 w1 d L Y Z=>?_);replace h:=h.trans L;refine AL [.sq _] 6 [0,0] (kB d (Ar _)) (y2<|λ_=>A4 C (Ax iL C C) (Gr _ ⟨_,_,_,_,_⟩ _) ?_);rintro _ w2 ⟨rfl,D⟩;replace d:=d.ext D;replace h:=h.trans D;have sz1:=D.size;refine Ab C (Az C)<|sL 5 C (λG=>?_) (λG=>?_);refine AL [.sq _] 6 [0,4] (kB d (Ar _)) (y2<|λ_=>sL 11 C (λJ=>?_) (λJ=>?_));refine AL [.sq _] 3 [0,4] (kB d (Ar _)) (y2<|λ_=>B7 C C C<|Ab C (D2 C C JQ dC (W5 (K (by simpa using G))))<|AL [.sq _] 3 [] (Ar _) (λ_=>sL 18 C (λO=>?_) (λO=>?_)));refine AL [.sq _] 3 [0,4] (kB d (Ar _)) (y2<|λ_=>B7 C C C<|Ab C (JY C C (by simp;omega))<|B7 C C C<|Ab C (JY C C (by simp;omega))<|B7 C C C<|A4 C (Ax pU C C) (HW _ (Q.ext h) _ _ dC) ?_);rintro _ w3 ⟨rfl,F⟩;replace d:=d.ext F;replace h:=h.trans F;have sz2:=F.size;refine AL [.sq _] 6 [] (Ar _) (λ_=>Bp (AE C (Ah C))<|⟨?_,h⟩);show _=Value.bool (t.k==5&&(!(t.tx==[95])&&(((Z4 t.tx).toNat:Int) != 39&&!Om t.tx)));rw[G,J,O];rfl;refine AL [.sq _] 12 [] (Ar _) (λ_=>Bp (AE C (Ah C))<|⟨?_,h⟩);show _=Value.bool (t.k==5&&(!(t.tx==[95])&&(((Z4 t.tx).toNat:Int) != 39&&!Om t.tx)));simp[G,J,O];refine AL [.sq _] 19 [] (Ar _) (λ_=>Bp (AE C (Ah C))<|⟨?_,h⟩);show _=Value.bool (t.k==5&&(!(t.tx==[95])&&(((Z4 t.tx).toNat:Int) != 39&&!Om t.tx)));simp[G,J];refine AL [.sq _] 25 [] (Ar _) (λ_=>Bp (AE C (Ah C))<|⟨?_,h⟩);show _=Value.bool (t.k==5&&(!(t.tx==[95])&&(((Z4 t.tx).toNat:Int) != 39&&!Om t.tx)));simp[G]
theorem J3(w:wO)(L:Gl w)(t:AB)(O:Value)(G:t.k=5→t.tx≠[])(hlen:t.tx.length≤100000) :
  Bq prog 110 #[.agg #[iV t.k,iV t.ln,iV t.co,iV t.nm,S t.tx,O]] w λv w'=>v=.bool t.isHole∧AU w w':=by
 have h:=AU.refl w;refine enter func110 C C C<|AT [] 2 [] (Ar _) (λ_=>Ei C C C λb1 w1 d J Q U=>?_);replace h:=h.trans J;refine AL [.sq _] 6 [0,0] (kB d (Ar _)) (y2<|λ_=>A4 C (Ax pN C C) (EM _ (L.ext h) ⟨_,_,_,_,_⟩ _ G hlen) ?_);rintro _ w2 ⟨rfl,D⟩;replace d:=d.ext D;replace h:=h.trans D;have Y:=D.size;refine Ab C (Az C)<|sL 5 C (λK=>?_) (λK=>?_);exact AL [.sq _] 7 [] (Ar _) (λ_=>Bp (AE C (Ah C))<|⟨by simp[AB.isHole,K],h⟩);refine AL [.sq _] 1 [0,0] (kB d (Ar _)) (y2<|λ_=>B7 C C C<|A4 C (Ax Aa1 C C) (D8 _ ⟨_,_,_,_,_⟩ _ _) ?_);rintro _ w3 ⟨rfl,F⟩;replace d:=d.ext F;replace h:=h.trans F;have Z:=F.size;exact AL [.sq _] 5 [] (Ar _) (λ_=>Bp (AE C (Ah C))<|⟨by simp[AB.isHole,K],h⟩)
theorem G4(w:wO)(L:Gl w)(t:AB)(O:Value)(G:t.k=5→t.tx≠[])(hlen:t.tx.length≤100000) :
  Bq prog 43 #[.agg #[iV t.k,iV t.ln,iV t.co,iV t.nm,S t.tx,O]] w λv w'=>v=.bool t.isTypeName∧AU w w':=by
 have h:=AU.refl w;refine enter func43 C C C<|AT [] 2 [] (Ar _) (λ_=>Ei C C C λb1 w1 d J Q U=>?_);replace h:=h.trans J;refine AL [.sq _] 6 [0,0] (kB d (Ar _)) (y2<|λ_=>A4 C (Ax pN C C) (EM _ (L.ext h) ⟨_,_,_,_,_⟩ _ G hlen) ?_);rintro _ w2 ⟨rfl,D⟩;replace d:=d.ext D;replace h:=h.trans D;have Y:=D.size;refine Ab C (Az C)<|sL 5 C (λK=>?_) (λK=>?_);refine AL [.sq _] 3 [0,4] (kB d (Ar _)) (y2<|λ_=>B7 C C C<|Ab C (JY C C (by simp;omega))<|B7 C C C<|Ab C (JY C C (by simp;omega))<|B7 C C C<|A4 C (Ax pU C C) (HW _ (L.ext h) _ _ dC) ?_);rintro _ w3 ⟨rfl,F⟩;replace d:=d.ext F;replace h:=h.trans F;have Z:=F.size;refine AL [.sq _] 6 [] (Ar _) (λ_=>Bp (AE C (Ah C))<|⟨?_,h⟩);show _=Value.bool (t.isVar&&!VW t.tx);rw[K];rfl;refine AL [.sq _] 12 [] (Ar _) (λ_=>Bp (AE C (Ah C))<|⟨?_,h⟩);show _=Value.bool (t.isVar&&!VW t.tx);simp[K]
theorem JI(w:wO)(t:AB)(L:Value)(G:t.k=5→t.tx≠[]) :
  Bq prog 44 #[.agg #[iV t.k,iV t.ln,iV t.co,iV t.nm,S t.tx,L]] w λv w'=>v=.bool t.isTypeVar∧AU w w':=by
 have h:=AU.refl w;refine enter func44 C C C<|AT [] 2 [] (Ar _) (λ_=>Ei C C C λb1 Y d J O Q=>?_);replace h:=h.trans J;refine AL [.sq _] 6 [0,0] (kB d (Ar _)) (y2<|λ_=>A4 C (Ax iL C C) (Gr _ ⟨_,_,_,_,_⟩ _) ?_);rintro _ Z ⟨rfl,D⟩;replace d:=d.ext D;replace h:=h.trans D;have U:=D.size;refine Ab C (Az C)<|sL 5 C (λF=>?_) (λF=>?_);refine AL [.sq _] 3 [0,4] (kB d (Ar _)) (y2<|λ_=>B7 C C C<|Ab C (D2 C C JQ dC (W5 (G (by simpa using F))))<|AL [.sq _] 3 [] (Ar _) (λ_=>sL 12 C (λK=>?_) (λK=>?_)));refine AL [.sq _] 10 [0,4] (kB d (Ar _)) (y2<|λ_=>Bp (AE C (Ah C))<|⟨?_,h⟩);show _=Value.bool (t.k==5&&(((Z4 t.tx).toNat:Int)==39&&decide (1<(t.tx.length:Int))));rw[F,K];rfl;refine AL [.sq _] 10 [] (Ar _) (λ_=>Bp (AE C (Ah C))<|⟨?_,h⟩);show _=Value.bool (t.k==5&&(((Z4 t.tx).toNat:Int)==39&&decide (1<(t.tx.length:Int))));simp[F,K];refine AL [.sq _] 17 [] (Ar _) (λ_=>Bp (AE C (Ah C))<|⟨?_,h⟩);show _=Value.bool (t.k==5&&(((Z4 t.tx).toNat:Int)==39&&decide (1<(t.tx.length:Int))));simp[F]
theorem Jb(w:wO)(t:AB)(F:Value) :
  BI prog 51 #[.agg #[iV t.k,iV t.ln,iV t.co,iV t.nm,S t.tx,F]] w (λv w'=>False) (λc w'=>c=Sn 61 (t.ln,t.co)∧AU w w'):=by
 have d:=AU.refl w;refine IV func51 C C C<|AT [] 2 [] (Ar _) (λ_=>Ei C C C λb1 K h D G J=>?_);replace d:=d.trans D;exact AL [.sq _] 7 [0,1] (kB h (Ar _)) (y2<|λ_=>Ab C (BR C kH)<|Cl (BE C) (aI C<|⟨C,d⟩))
theorem Vu(w:wO)(t:AB)(J:Value)(ok:Bool) :
  BI prog 40 #[.agg #[iV t.k,iV t.ln,iV t.co,iV t.nm,S t.tx,J],.bool ok] w (λv w'=>ok=true∧v=.tuple #[]∧AU w w') (λc w'=>ok=false∧c=Sn 61 (t.ln,t.co)∧AU w w'):=by
 have h:=AU.refl w;refine IV func40 C C C<|AT [] 2 [] (Ar _) (λ_=>Ei C C C λb1 Q D F K L=>?_);replace h:=h.trans F;refine AL [.sq _] 8 [] (Ar _) (λ_=>sP 5 C (λd=>?_) (λd=>?_));replace d:=FE d;refine AT [] 3 [0,0] (kB D (Ar _)) (y2<|λ_=>Cg C (Ax Aa3 C C) (Jb _ ⟨_,_,_,_,_⟩ _) (λ_ _ O=>O.elim) (λc wp G=>aI C (⟨d,G.1,h.trans G.2⟩)));replace d:=FO d;exact AT [] 2 [] (Ar _) (λ_=>G6 (DL C)<|⟨d,C,h⟩)
theorem A8(w:wO)(t:AB)(L:Value)(op:Int)(tx:lU)(ka:oA)(kn kc:Nat) :
  Bq prog 45 #[.agg #[iV t.k,iV t.ln,iV t.co,iV t.nm,S t.tx,L],iV op,S tx,.slice ka kn kc] w λv w'=>v=.agg #[iV op,iV t.ln,iV t.co,S tx,iV 0,.slice ka kn kc]∧AU w w':=by
 have h:=AU.refl w;refine enter func45 C C C<|AT [] 2 [] (Ar _) (λ_=>Ei C C C λb1 w1 d G O Q=>?_);replace h:=h.trans G;refine CI C zr74 λb2 w2 J F U Y=>?_;replace d:=d.ext F;replace h:=h.trans F;refine AL [.sq _] 11 [0,1] (kB d (Ar _)) (y2<|λ_=>A1 C C C ti74 C J C C λw3 K D=>?_);replace d:=d.chg D oM;replace h:=h.chg D oM;have Z:=D.size;exact AL [.sq _] 3 [] (Ar _) (λ_=>Bp (AE C (Ac C ti74 K C))<|⟨C,h⟩)
def Dy(w:wO)(f:Fq):Prop:=∀w' f',Ii w f w' f'→Gl w'
theorem Dy.mono:FU (λw f=>Dy w f):=λ_ _ _ _ h D w' f' d=>h w' f' (D.trans d)
variable {f:Fq}{w:wO}
theorem Dy.gl(h:Dy w f):Gl w:=h w f (Ii.refl _ _)
theorem HA(h:Nat)(he:BB prog h)(m:AB→Fo→R N)(D:AB→Fo→Prop)(hm:∀ (w:wO) (f:Fq) (_:Vl w f) (_:Dy w f) (t:AB) (k:Fo) (a:oA) (c:Nat),D t k→Ee w f k a c→BI prog h #[fV t a k.len c] w (I5 (m t k) w f) (IT 61 (m t k) w f))(w:wO)(f:Fq)(hv:Vl w f)(hJ:Dy w f)(l:Fo)(K:oA)(lc:Nat)(hD:l.all D)(hlen:l.len≤100000)(hL:Ee w f l K lc) :
  BI prog 18 #[.slice K l.len lc,.func (.func h) #[] #[]] w (cE (α:=Nd×lV) 74 6 (λx=>x.1.len) (λx=>x.2) (λx=>A9 m l=.ok x.1) (λx=>[λw f=>Cd w f x.1 x.2]) w f) (S4 61 (λe=>A9 m l=.error e) w f):=by
 refine Pa (X:=X0 w f) (H:=[]) (R:=[]) (B:=[]) (Fs:=[λw f=>Ee w f l K lc,λw f=>Dy w f]) (f:=f) func18 C C C (Ci hv ⟨hL,hJ,tQ⟩ ⟨Ee.mono,Dy.mono,tQ⟩)<|Aa 19 [] (λ_=>PA 74 6 ?_);refine FG (α:=Nat×Fo×Nd×lV×oA×Nat) (λx=>x.2.1.len) (λx=>x.1+x.2.1.len=l.len∧x.2.2.1.len=x.1∧(A9 m l=match A9 m x.2.1 with|.error e=>.error e|.ok b=>.ok (x.2.2.1.app b))∧x.2.1.all D) (λx=>(E5 1 (.func (.func h) #[] #[]) 5 (.slice x.2.2.2.2.1 x.1 x.2.2.2.2.2) 8 (.slice K l.len lc) 9 (iV (l.len:Int)) 10 (iV (x.1:Int)))) (λx=>X0 w f) (λx=>[]) (λx=>[⟨74,6,x.2.2.2.2.1,x.2.2.2.2.2,x.1,x.2.2.2.1⟩]) (λx=>[]) (λx=>[λw f=>Fm w f K x.1 x.2.1,λw f=>Cd w f x.2.2.1 x.2.2.2.1,λw f=>Dy w f]) (0,l,.nil,[],none,0) ⟨Nat.zero_add _,C,TI,hD⟩ lE (λw f d=>d.more (B':=[]) (F':=[λw f=>Fm w f K 0 l,λw f=>Cd w f .nil []]) nE (AI.mem ⟨Ee.at d.f0,C,tQ⟩) (Aw.mem ⟨Fm.mono,Cd.mono,tQ⟩) |>.less sR sR nE (mR [0,1,3])) ?_;rintro⟨i,r,dn,xs,ra,rc⟩ ⟨Y,G,F,J⟩;dsimp only at Y G F J ⊢;refine Aa 6 [] (λ_=>AN 11 C C (λO=>?_) (λO=>?_));refine Aa 6 [] (λ_=>?_);have hil:i<l.len:=by have:=dT O;omega
 obtain⟨t,k,r,rfl⟩:=Fo.cases1 r oM;have hi2:i+(r.len+1)=l.len:=Y;refine N8 0 C ?_;rintro⟨eb,eo,ka,kc⟩ rfl;refine Aa 11 [100,0,0,0] (aI oM<|y2<|λb1=>y<|y<|λ_=>?_);refine Km C C (eC he C C) (λw f d=>hm w f d.vl d.f4 t k ka kc J.1 d.f0) (λ_=>⟨AH.mono,tQ⟩) (λe w2 f2 he hE=>⟨C,e,f2,C,(by rw[F];exact XV he),hE⟩) ?_;rintro⟨nd,Z,nc⟩ L;dsimp only at L ⊢;exact Aa 1 [] (λb2=>λ_=>Dq 0 0 C C MM C C C C C C C C (λ_ _=>C) oM oM λQ U=>Aa 8 [] (aI ⟨oM,oM⟩<|λ_=>Df ((i+1,r,dn.app nd.one,xs++KW nd.op nd.ln nd.co nd.tx nd.nm Z nd.kids.len nc,Q,U)) (show r.len<r.len+1 from Nat.lt_succ_self _) ⟨show i+1+r.len=_ by omega,show (dn.app nd.one).len=i+1 by rw[Nd.app_len,G];rfl,F.trans (Wv L),J.2⟩ lE (λw f d=>⟨_,(d.more (B':=[]) (F':=[λw f=>Cd w f (dn.app nd.one) (xs++KW nd.op nd.ln nd.co nd.tx nd.nm Z nd.kids.len nc)]) nE (AI.mem ⟨Cd.app (Cd.one d.f0) d.f4,tQ⟩) (Aw.mem ⟨Cd.mono,tQ⟩)).less (sD (sD sZ)) sR nE (mR [3,0,6])⟩)));refine Aa 3 [] (λ_=>Fh<|Aa 3 [] (λ_=>?_));obtain rfl:r=.nil:=Fo.len0 (by have:=dF O;omega);subst G;exact Aa 6 [] (λ_=>AR (CY C C) (λw f d=>⟨(dn,xs),ra,rc,f,C,(by rw[F];show (Except.ok (dn.app .nil):R Nd)=_;rw[Nd.app_nil]),d.exm,d.row _ (.head _),(λb hb=>⟨d.rnw _ (.head _) b hb,(d.own b (List.mem_append.2 (.inr (List.mem_filterMap.2 ⟨_,.head _,hb⟩)))).1⟩),⟨d.f1,tQ⟩⟩))
end Go.Proofs.YtelmolopaolbcaaGreatDoor
