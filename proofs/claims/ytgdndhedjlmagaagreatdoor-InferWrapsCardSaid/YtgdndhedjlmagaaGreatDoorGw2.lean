/- What it rests on, part 2. -/
import Derived.Test.YtgdndhedjlmagaaGreatDoorGw1
import Derived.Laws.MakeOwn
import Derived.Lib.Join
import Derived.Lib.ItoaNum
set_option linter.unusedVariables false
set_option linter.unusedSimpArgs false
namespace Go.SW
open Go.RowKit
def P5:List RB→Nat→Option RB
 | [],_=>none
 |x::_,0=>some x
 |_::l,i+1=>P5 l i
def S3:List RB→Nat→RB→Option (List RB)
 | [],_,_=>none
 |_::H,0,e=>some (e::H)
 |x::H,i+1,e=>match S3 H i e with
   |some r=>some (x::r)
   |none=>none
def QW:List RB→Nat→Option (List RB)
 | [],_=>none
 |_::H,0=>some H
 |x::H,i+1=>match QW H i with
   |some r=>some (x::r)
   |none=>none
theorem DP:∀{R:List RB}{i:Nat}{r:RB},P5 R i=some r→r∈R
 | [],_,_,h=>by cases h
 |_::_,0,_,h=>by cases h;exact .head _
 |_::R,i+1,r,h=>.tail _ (DP (R:=R) h)
theorem TA:∀{R R':List RB}{i:Nat},QW R i=some R'→R'.Sublist R
 | [],_,_,h=>by cases h
 |_::_,_,0,h=>by cases h;exact List.sublist_cons_self _ _
 |x::R,R',i+1,h=>by
   unfold QW at h
   cases D:QW R i with
   |none=>rw[D] at h;cases h
   |some r=>rw[D] at h;cases h;exact (TA D).cons_cons x
def Jw(R:List RB):List Nat:=R.filterMap λr=>rb r.a
theorem SJ:∀{R R':List RB}{i:Nat}{r O:RB},P5 R i=some r→S3 R i O=some R'→(∀x,x∈R'→x=O∨x∈R)∧∀N,(rb O.a=rb r.a∨∃k,rb O.a=some k∧k∉N∧k∉Jw R)→(N++Jw R).Nodup→(N++Jw R').Nodup∧(∀b,b∈Jw R'→some b=rb O.a∨b∈Jw R)∧∀x,x∈R'→x=O∨(x∈R∧(rb x.a=none∨rb x.a≠rb r.a))
 | [],_,_,_,_,h,_=>by cases h
 |x::R,R',0,r,O,hg,Y=>by
   cases hg;cases Y
   refine⟨λy F=>by rcases List.mem_cons.1 F with h|h;exact .inl h;exact .inr (.tail _ h),λN J K=>?_⟩
   have e1:Jw (x::R)=(match rb x.a with|some b=>b::Jw R|none=>Jw R):=by
     unfold Jw;rw[List.filterMap_cons];cases rb x.a <;> rfl
   have e2:Jw (O::R)=(match rb O.a with|some b=>b::Jw R|none=>Jw R):=by
     unfold Jw;rw[List.filterMap_cons];cases rb O.a <;> rfl
   have Q:(N++Jw R).Nodup:=by
     rw[e1] at K
     cases G:rb x.a with
     |none=>rw[G] at K;exact K
     |some b=>rw[G] at K;exact (List.Sublist.append (List.Sublist.refl N) (List.sublist_cons_self b _)).nodup K
   have U:∀y,y∈R→rb y.a=none∨rb y.a≠rb x.a:=λy F=>by
     cases D:rb y.a with
     |none=>exact .inl C
     |some b =>
       refine .inr λe=>?_;rw[e1,← e] at K;have h2:=(List.nodup_append.1 K).2.1;exact (List.nodup_cons.1 h2).1 (List.mem_filterMap.2 ⟨y,F,D⟩)
   refine⟨?_,?_,?_⟩
   · rcases J with J|⟨k,J,Z,W⟩
     · rw[e2,J,← e1];exact K
     · rw[e2,J]
       have hkR':k∉Jw R:=λh=>W (by rw[e1];cases rb x.a with|none=>exact h|some b=>exact .tail _ h)
       exact List.nodup_append.2 ⟨(List.nodup_append.1 Q).1,List.nodup_cons.2 ⟨hkR',(List.nodup_append.1 Q).2.1⟩,λa ha b D e=>by
         rcases List.mem_cons.1 D with rfl|D
         · exact Z (e▸ha)
         · exact (List.nodup_append.1 Q).2.2 a ha b D e⟩
   · intro b D
     rw[e2] at D
     cases hr:rb O.a with
     |none=>rw[hr] at D;right;rw[e1];cases rb x.a with|none=>exact D|some c=>exact .tail _ D
     |some c =>
       rw[hr] at D;rcases List.mem_cons.1 D with rfl|D
       · exact .inl C
       · right;rw[e1];cases rb x.a with|none=>exact D|some c=>exact .tail _ D
   · intro y F
     rcases List.mem_cons.1 F with h|h
     · exact .inl h
     · exact .inr ⟨.tail _ h,U y h⟩
 |x::R,R',i+1,r,O,hg,Y=>by
   unfold S3 at Y
   cases hr:S3 R i O with
   |none=>rw[hr] at Y;cases Y
   |some R1 =>
     rw[hr] at Y;cases Y;obtain⟨h1,h2⟩:=SJ (R:=R) hg hr
     refine⟨λy F=>by
       rcases List.mem_cons.1 F with rfl|F
       · exact .inr (.head _)
       · rcases h1 y F with h|h
         · exact .inl h
         · exact .inr (.tail _ h),λN J K=>?_⟩
     have ex:∀L:List RB,Jw (x::L)=(match rb x.a with|some b=>b::Jw L|none=>Jw L):=λL=>by
       unfold Jw;rw[List.filterMap_cons];cases rb x.a <;> rfl
     cases G:rb x.a with
     |none =>
       rw[ex,G] at K;obtain⟨a1,a2,a3⟩:=h2 N (by rw[ex,G] at J;exact J) K;refine⟨by rw[ex,G];exact a1,λb D=>by rw[ex,G] at D;rw[ex,G];exact a2 b D,λy F=>?_⟩;rcases List.mem_cons.1 F with rfl|F
       · exact .inr ⟨.head _,.inl G⟩
       · rcases a3 y F with h|h
         · exact .inl h
         · exact .inr ⟨.tail _ h.1,h.2⟩
     |some c =>
       rw[ex,G] at K;simp only at K;have hn':((N++[c])++Jw R).Nodup:=by simpa using K
       obtain⟨a1,a2,a3⟩:=h2 (N++[c]) (by
         rw[ex,G] at J;rcases J with J|⟨k,J,Z,W⟩
         · exact .inl J
         · exact .inr ⟨k,J,λh=>by
             rcases List.mem_append.1 h with h|h
             · exact Z h
             · exact W (by rw[List.mem_singleton] at h;subst h;exact .head _),λh=>W (.tail _ h)⟩) hn'
       have hrc:rb r.a≠some c:=λe=>by
         have:c∈Jw R:=List.mem_filterMap.2 ⟨r,DP hg,e⟩;exact (List.nodup_append.1 hn').2.2 c (List.mem_append.2 (.inr (.head _))) c this C
       refine⟨by rw[ex,G];simpa using a1,λb D=>?_,λy F=>?_⟩
       · rw[ex,G] at D
         rcases List.mem_cons.1 D with rfl|D
         · right;rw[ex,G];exact .head _
         · rcases a2 b D with h|h
           · exact .inl h
           · right;rw[ex,G];exact .tail _ h
       · rcases List.mem_cons.1 F with rfl|F
         · exact .inr ⟨.head _,.inr (by rw[G];exact λe=>hrc e.symm)⟩
         · rcases a3 y F with h|h
           · exact .inl h
           · exact .inr ⟨.tail _ h.1,h.2⟩
section
variable{X:Cx}{w w':wO}{f:Fq}{H:List HB}{R R':List RB}{B:List FB}{Fs:List (wO→Fq→Prop)}
variable {xs:lV}{b c' i n n':Nat}{a':oA}{e:tI}
theorem AU.grow{r:RB}{xs':lV}(h:AU X w f H R B Fs)(U:P5 R i=some r)(hs:S3 R i ⟨r.e,r.size,a',c',n',xs'⟩=some R')(hr:C0 w' r.e r.size a' c' n' xs')(G:G1 r.a w a' w'):AU X w' f H R' B Fs:=by
 have F:∀b,rb r.a=some b→b∈CX H R:=λb D=>List.mem_append.2 (.inr (List.mem_filterMap.2 ⟨r,DP U,D⟩))
 have Z:Ji w f w' f:=λk=>⟨Nat.le_refl _,λo J=>by
   have K:k<w.heap.size:=by
     rcases Nat.lt_or_ge k w.heap.size with L|L
     · exact L
     · have:=h.val k L;omega
   exact Es (G.block k K λe=>by have:=(h.own k (F k e.symm)).1;omega) o⟩
 have hmi:∀k,X.MI k→w'.heap[k]?=w.heap[k]?:=λk K=>G.block k (h.mi k K).1 λe=>(h.own k (F k e.symm)).2.2 K;have Q:w.heap.size∉CX H R:=λL=>Nat.lt_irrefl _ (h.lt L);obtain⟨h1,h2⟩:=SJ U hs
 obtain⟨a1,a2,a3⟩:=h2 (H.map HB.b) (by
   rcases G.own with J|J
   · exact .inl J
   · exact .inr ⟨_,J,λL=>Q (List.mem_append.2 (.inl L)),λL=>Q (List.mem_append.2 (.inr L))⟩) h.nd
 have W:∀e,e∈H→w'.heap[e.b]?=w.heap[e.b]?:=λe he=>G.block e.b (h.blk e he).lt λL=>by
   exact (List.nodup_append.1 h.nd).2.2 e.b (List.mem_map.2 ⟨e,he,C⟩) e.b (List.mem_filterMap.2 ⟨r,DP U,L.symm⟩) C
 exact {stp:=⟨G.os.trans h.stp.os,G.tape.trans h.stp.tape,G.output.trans h.stp.output,Nat.le_trans h.stp.size G.size,λk K hm=>(G.block k (Nat.lt_of_lt_of_le K h.stp.size) λe=>by have:=h.rnw r (DP U) k e.symm;omega).trans (h.stp.block k K hm)⟩,
         old:=h.old,val:=λk K=>h.val k (Nat.le_trans G.size K),ent:=h.ent.trans Z,res:=h.stab _ _ _ _ h.res Z hmi,stab:=h.stab,
         mi:=λk K=>⟨Nat.lt_of_lt_of_le (h.mi k K).1 G.size,(h.mi k K).2⟩,
         blk:=λe he=>(W e he).trans (h.blk e he),
         row:=λx O=>by
           rcases a3 x O with rfl|⟨O,hne⟩
           · exact hr
           · exact (h.row x O).grow G hne,
         nd:=a1,
         own:=λb D=>by
           rcases List.mem_append.1 D with D|D
           · exact h.own b (List.mem_append.2 (.inl D))
           · rcases a2 b D with D|D
             · rcases G.own with J|J
               · exact h.own b (F b (by rw[← J];exact D.symm))
               · have:b=w.heap.size:=Option.some.inj (D.trans J)
                 subst this;exact⟨h.val _ (Nat.le_refl _),.inl h.stp.size,λhm=>Nat.lt_irrefl _ (h.mi _ hm).1⟩
             · exact h.own b (List.mem_append.2 (.inr D)),
         hnw:=h.hnw,
         rnw:=λx O b D=>by
           rcases a3 x O with rfl|⟨O,_⟩
           · rcases G.own with J|J
             · exact h.rnw r (DP U) b (by rw[← J];exact D)
             · have:b=w.heap.size:=Option.some.inj (D.symm.trans J)
               subst this;exact h.stp.size
           · exact h.rnw x O b D,
         fro:=λx O=>(h.fro x O).mono Z,fac:=λφ Y=>h.mono φ Y _ _ _ _ (h.fac φ Y) Z,mono:=h.mono}
theorem AU.rowNil(h:AU X w f H R B Fs)(e:tI)(size:Nat):AU X w f H (⟨e,size,none,0,0,[]⟩::R) B Fs :=
 {h with
   row:=λr D=>by
     rcases List.mem_cons.1 D with rfl|D
     · exact GC _ _ _
     · exact h.row r D,
   rnw:=λr D b F=>by
     rcases List.mem_cons.1 D with rfl|D
     · cases F
     · exact h.rnw r D b F}
theorem AU.done{size c:Nat}(h:AU X w f H R B Fs)(J:P5 R i=some ⟨e,size,some ⟨b,0,none⟩,c,n,xs⟩)(K:QW R i=some R'):∃f',AU X w f' H R' (⟨b,0,xs⟩::B) Fs:=by
 have G:=h.row _ (DP J);have Q:=h.own b (List.mem_append.2 (.inr (List.mem_filterMap.2 ⟨_,DP J,C⟩)));have hnw:=h.rnw _ (DP J) b C;have hlt:b<w.heap.size:=G.lt C
 let f':Fq:=λk=>if k=b then n*size else f k
 have hF:Ji w f w f':=λk=>by
   show f k≤(if k=b then n*size else f k)∧_
   split
   · rename_i D;subst D;rw[Q.1];exact⟨Nat.zero_le _,λo ho=>by omega⟩
   · exact⟨Nat.le_refl _,λ_ _=>C⟩
 have O:∀k,k≠b→f' k=f k:=λk D=>if_neg D;have F:=TA K
 have hbR:b∉CX H R':=by
   have:∀(R R':List RB)(i:Nat)(N:List Nat),P5 R i=some ⟨e,size,some ⟨b,0,none⟩,c,n,xs⟩→QW R i=some R'→(N++Jw R).Nodup→b∉N++Jw R':=by
     intro R
     induction R with
     |nil=>intro R' i N J;cases J
     |cons x R ih =>
       intro R' i N J K U
       cases i with
       |zero =>
         cases J;cases K
         have e1:Jw (⟨e,size,some ⟨b,0,none⟩,c,n,xs⟩::R)=b::Jw R:=rfl;rw[e1] at U;intro W;rcases List.mem_append.1 W with W|W
         · exact (List.nodup_append.1 U).2.2 b W b (.head _) C
         · exact (List.nodup_cons.1 (List.nodup_append.1 U).2.1).1 W
       |succ i =>
         unfold QW at K
         cases G:QW R i with
         |none=>rw[G] at K;cases K
         |some R1 =>
           rw[G] at K;cases K
           have ex:∀L:List RB,Jw (x::L)=(match rb x.a with|some b=>b::Jw L|none=>Jw L):=λL=>by
             unfold Jw;rw[List.filterMap_cons];cases rb x.a <;> rfl
           rw[ex] at U ⊢
           cases Z:rb x.a with
           |none=>rw[Z] at U;exact ih R1 i N J G U
           |some k =>
             rw[Z] at U;have:=ih R1 i (N++[k]) J G (by simpa using U);simpa using this
   exact this R R' i (H.map HB.b) J K h.nd
 refine⟨f',{stp:=h.stp,old:=λk D=>(O k oM).trans (h.old k D),val:=λk D=>(O k oM).trans (h.val k D),ent:=h.ent.trans hF,res:=h.stab _ _ _ _ h.res hF (λ_ _=>C),stab:=h.stab,
               mi:=λk D=>⟨(h.mi k D).1,(O k (λe=>Q.2.2 (e▸D))).trans (h.mi k D).2.1,(h.mi k D).2.2⟩,
               blk:=h.blk,row:=λr G=>h.row r (F.subset G),nd:=(List.Sublist.append (List.Sublist.refl _) (F.filterMap _)).nodup h.nd,
               own:=λk D=>by
                 have hk2:k∈CX H R:=(List.Sublist.append (List.Sublist.refl (H.map (·.b))) (F.filterMap _)).subset D;exact⟨(O k (λe=>hbR (e▸D))).trans (h.own k hk2).1,(h.own k hk2).2⟩,
               hnw:=h.hnw,rnw:=λr G=>h.rnw r (F.subset G),
               fro:=λx Z=>by
                 rcases List.mem_cons.1 Z with rfl|Z
                 · intro j v Y
                   have Y:xs[j]?=some v:=Y;obtain⟨hl,_⟩:=List.getElem?_eq_some_iff.1 Y;rcases G.2 with ⟨h0,_⟩|⟨b',l,ha,W,hnc,_,hll,ht⟩
                   · cases h0
                   · cases ha
                     have hxl:xs.length=n*size:=G.1;have ht:l.take (n*size)=xs:=ht;refine⟨?_,?_⟩
                     · show 0+j<(if b=b then n*size else f b)
                       rw[if_pos C];omega
                     · show w.cell? ⟨b,0+j,none⟩=some v
                       rw[W.cell,Nat.zero_add];rw[← ht,List.getElem?_take] at Y
                       split at Y
                       · exact Y
                       · cases Y
                 · exact (h.fro x Z).mono hF,
               fac:=λφ hφ=>h.mono φ hφ _ _ _ _ (h.fac φ hφ) hF,mono:=h.mono}⟩
end
def AM:List (wO→Fq→Prop)→wO→Fq→Prop
 | [],_,_=>True
 |φ::l,w,f=>φ w f∧AM l w f
def A2:List (wO→Fq→Prop)→Prop
 | []=>True
 |φ::l=>G0 φ∧A2 l
theorem AM.mem:∀{l:List (wO→Fq→Prop)}{w:wO}{f:Fq},AM l w f→∀φ,φ∈l→φ w f
 | [],_,_,_,_,h=>by cases h
 |_::_,_,_,h,φ,D=>by
   rcases List.mem_cons.1 D with rfl|D
   · exact h.1
   · exact AM.mem h.2 φ D
theorem A2.mem:∀{l:List (wO→Fq→Prop)},A2 l→∀φ,φ∈l→G0 φ
 | [],_,_,h=>by cases h
 |_::_,h,φ,D=>by
   rcases List.mem_cons.1 D with rfl|D
   · exact h.1
   · exact A2.mem h.2 φ D
def Ce{α:Type}(val:α→Value)(q:α→Prop)(F':α→List (wO→Fq→Prop))(w:wO)(f:Fq)(v:Value)(w':wO):Prop:=∃x f',v=val x∧q x∧CQ (λ_=>False) w f w' f'∧AM (F' x) w' f'
def Fv{α:Type}(val:α→Value)(q:α→Prop)(MI:Nat→Prop)(I':α→wO→Fq→Prop)(F':α→List (wO→Fq→Prop))(w:wO)(f:Fq)(v:Value)(w':wO):Prop:=∃x f',v=val x∧q x∧CQ MI w f w' f'∧I' x w' f'∧AM (F' x) w' f'
def Vl(w:wO)(f:Fq):Prop:=∀b,w.heap.size≤b→f b=0
abbrev X0(w:wO)(f:Fq):Cx:=⟨λ_=>False,λ_=>False,λ_ _=>True,w,f⟩
theorem CC{w:wO}{f:Fq}{Fs:List (wO→Fq→Prop)}(D:Vl w f)(F:AM Fs w f)(hm:A2 Fs):AU (X0 w f) w f [] [] [] Fs where
 stp:=Ni.refl _ _
 old _ _:=rfl
 val:=D
 ent:=Ji.refl _ _
 res:=trivial
 stab _ _ _ _ _ _ _:=trivial
 mi _ h:=h.elim
 blk _ h:=by cases h
 row _ h:=by cases h
 nd:=List.nodup_nil
 own _ h:=by cases h
 hnw _ h:=by cases h
 rnw _ h:=by cases h
 fro _ h:=by cases h
 fac:=F.mem
 mono:=hm.mem
theorem AU.vl{X:Cx}{w:wO}{f:Fq}{H:List HB}{R:List RB}{B:List FB}{Fs:List (wO→Fq→Prop)}(h:AU X w f H R B Fs):Vl w f:=h.val
def LM:List HB→Nat→Option (List HB)
 | [],_=>none
 |_::H,0=>some H
 |x::H,i+1=>match LM H i with
   |some r=>some (x::r)
   |none=>none
theorem LD:∀{H H':List HB}{i:Nat},LM H i=some H'→H'.Sublist H
 | [],_,_,h=>by cases h
 |_::_,_,0,h=>by cases h;exact List.sublist_cons_self _ _
 |x::H,H',i+1,h=>by
   unfold LM at h
   cases D:LM H i with
   |none=>rw[D] at h;cases h
   |some r=>rw[D] at h;cases h;exact (LD D).cons_cons x
theorem LC:∀{H H':List HB}{i:Nat}{e:HB}{L:List Nat},HY H i=some e→LM H i=some H'→(H.map HB.b++L).Nodup→e.b∉H'.map HB.b++L
 | [],_,_,_,_,h,_,_=>by cases h
 |x::H,H',0,e,L,G,D,J=>by
   cases G;cases D
   exact (List.nodup_cons.1 J).1
 |x::H,H',i+1,e,L,G,D,J=>by
   unfold LM at D
   cases K:LM H i with
   |none=>rw[K] at D;cases D
   |some r =>
     rw[K] at D;cases D;have F:(x.b::(H.map HB.b++L)).Nodup:=J;have U:=LC (H:=H) (L:=L) G K (List.nodup_cons.1 F).2;intro W;have O:e.b∈x.b::(r.map HB.b++L):=W;rcases List.mem_cons.1 O with h|h
     · exact (List.nodup_cons.1 F).1 (by rw[← h];exact List.mem_append.2 (.inl (List.mem_map.2 ⟨e,Cm G,C⟩)))
     · exact U h
section
variable{X:Cx}{w w':wO}{f:Fq}{H H':List HB}{R R':List RB}{B:List FB}{Fs:List (wO→Fq→Prop)}
variable {l:lV}{b i:Nat}
theorem AU.doneH{T:tI}(h:AU X w f H R B Fs)(W:HY H i=some ⟨b,l,T,true⟩)(hs:LM H i=some H'):∃f',AU X w f' H' R (⟨b,0,l⟩::B) Fs:=by
 have F:=h.blk _ (Cm W);have K:=h.own b (List.mem_append.2 (.inl (List.mem_map.2 ⟨_,Cm W,C⟩)));have hnw:=h.hnw _ (Cm W) C;have hlt:b<w.heap.size:=F.lt
 let f':Fq:=λk=>if k=b then l.length else f k
 have Y:Ji w f w f':=λk=>by
   show f k≤(if k=b then l.length else f k)∧_
   split
   · rename_i D;subst D;rw[K.1];exact⟨Nat.zero_le _,λo ho=>by omega⟩
   · exact⟨Nat.le_refl _,λ_ _=>C⟩
 have J:∀k,k≠b→f' k=f k:=λk D=>if_neg D;have G:=LD hs;have hnd:(H.map HB.b++Jw R).Nodup:=h.nd;have hbR:b∉CX H' R:=LC (L:=Jw R) W hs hnd;have O:(CX H' R).Sublist (CX H R):=List.Sublist.append (G.map _) (List.Sublist.refl _);have hnw':X.w0.heap.size≤b:=hnw
 refine⟨f',{stp:=h.stp,old:=λk D=>(J k oM).trans (h.old k D),val:=λk D=>(J k oM).trans (h.val k D),ent:=h.ent.trans Y,res:=h.stab _ _ _ _ h.res Y (λ_ _=>C),stab:=h.stab,
               mi:=λk D=>⟨(h.mi k D).1,(J k (λe=>K.2.2 (e▸D))).trans (h.mi k D).2.1,(h.mi k D).2.2⟩,
               blk:=λe he=>h.blk e (G.subset he),row:=h.row,nd:=O.nodup h.nd,
               own:=λk D=>⟨(J k (λe=>hbR (e▸D))).trans (h.own k (O.subset D)).1,(h.own k (O.subset D)).2⟩,
               hnw:=λe he=>h.hnw e (G.subset he),rnw:=h.rnw,
               fro:=λx hx=>by
                 rcases List.mem_cons.1 hx with rfl|hx
                 · intro j v Z
                   have Z:l[j]?=some v:=Z;obtain⟨hl,_⟩:=List.getElem?_eq_some_iff.1 Z;refine⟨?_,?_⟩
                   · show 0+j<(if b=b then l.length else f b)
                     rw[if_pos C];omega
                   · show w.cell? ⟨b,0+j,none⟩=some v
                     have F:AS w b l T:=F;rw[F.cell,Nat.zero_add,Z]
                 · exact (h.fro x hx).mono Y,
               fac:=λφ U=>h.mono φ U _ _ _ _ (h.fac φ U) Y,mono:=h.mono}⟩
end
section
variable{P:Program}{n:Nat}{Q:Bh}{ds:List Deferred}{X:Cx}{R R':List RB}{B:List FB}{Fs:List (wO→Fq→Prop)}{tb:Y9}{fs:List Fr}{σ:Bp}{H:List HB}
variable{all r:List Oper}{ty T:tI}{AX:String}{af:Array Edge}{g:Option (Nat×Bool)}{d:Nat}{x y:Operand}
theorem So{k:Mj}(e:tI)(size:Nat)(h:A7 P n Q ds X (⟨e,size,none,0,0,[]⟩::R) B Fs k fs σ H):A7 P n Q ds X R B Fs k fs σ H:=λw f D=>h w f (D.rowNil e size)
variable {ag nw:Bool}{l vs xs z zl:lV}{b bytes cs m o off:Nat}{a:oA}{Ts e:tI}
theorem pW{k:Mj}{size c:Nat}(i:Nat)(F:P5 R i=some ⟨e,size,some ⟨b,0,none⟩,c,m,xs⟩)(G:QW R i=some R')(h:A7 P n Q ds X R' (⟨b,0,xs⟩::B) Fs k fs σ H):A7 P n Q ds X R B Fs k fs σ H:=λw f J=>by
 obtain⟨f',D⟩:=J.done F G;exact h w f' D
theorem Dg{k:Mj}{H':List HB}{T:tI}(i:Nat)(F:HY H i=some ⟨b,l,T,true⟩)(G:LM H i=some H')(h:A7 P n Q ds X R (⟨b,0,l⟩::B) Fs k fs σ H'):A7 P n Q ds X R B Fs k fs σ H:=λw f J=>by
 obtain⟨f',D⟩:=J.doneH F G;exact h w f' D
theorem DI{size:Nat}{c k src:Nat}{news:lV}{R':oA→Nat→List RB}(i j:Nat)(O:gd all σ g=some true)(hd:Nat.blt d n=true)(U:P0 P T=some (e,size,bytes,zl))(D:Nat.beq zl.length size=true)(F:Nat.blt 0 size=true)
   (W:ev σ x=some (.slice a k c)) (Y:ev σ y=some (.slice (some ⟨src,0,none⟩) 1 cs)) (L:P5 R i=some ⟨e,size,a,c,k,xs⟩) (Z:HY H j=some ⟨src,news,Ts,nw⟩) (hl:Nat.beq news.length size=true) (h1:No news=true)
   (hS:∀a' c',S3 R i ⟨e,size,a',c',k+1,xs++news⟩=some (R' a' c')) (G:(k+1)*bytes≤140737488355328) (J:k+1≤9223372036854775807)
   (h:∀a' c',A7 P n Q ds X (R' a' c') B Fs (.ops all r) fs (AH σ d (.slice a' (k+1) c')) H) :
   A7 P n Q ds X R B Fs (.ops all (⟨some d,.call {callee:=.builtin .append,args:=#[x,y],argTypes:=#[T,T]},ty,AX,af,g⟩::r)) fs σ H:=λw f K =>
 BE O (Bi hd U D F W Y (K.row _ (DP L)) (K.blk _ (Cm Z)) hl h1 G J λa' c' w' hr hG=>h a' c' w' f (K.grow L (hS a' c') hr hG))
theorem Z6{size:Nat}{c k src:Nat}{news:lV}{R':oA→Nat→List RB}(i j:Nat)(U:gd all σ g=some true)(hd:Nat.blt d n=true)(W:P0 P T=some (e,size,bytes,zl))(D:Nat.beq zl.length size=true)(F:Nat.blt 0 size=true)
   (Y:ev σ x=some (.slice a k c)) (Z:ev σ y=some (.slice (some ⟨src,off,none⟩) m cs)) (O:P5 R i=some ⟨e,size,a,c,k,xs⟩) (hB:nth B j=some ⟨src,off,news⟩) (hl:news.length=m*size) (h1:∀v∈news,v.oneCell'=true) (hm:0<m)
   (hS:∀a' c',S3 R i ⟨e,size,a',c',k+m,xs++news⟩=some (R' a' c')) (G:(k+m)*bytes≤140737488355328) (J:k+m≤9223372036854775807)
   (h:∀a' c',A7 P n Q ds X (R' a' c') B Fs (.ops all r) fs (AH σ d (.slice a' (k+m) c')) H) :
   A7 P n Q ds X R B Fs (.ops all (⟨some d,.call {callee:=.builtin .append,args:=#[x,y],argTypes:=#[T,T]},ty,AX,af,g⟩::r)) fs σ H:=λw f K=>by
 obtain⟨a',c',w',hr,L,hG⟩:=XD (ty:=ty) W D F Y Z (K.row _ (DP O)) (λj u hj=>by rw[EO];exact (K.getB hB j u hj).2) hl h1 hm G J;exact BE U (Ab hd hr (h a' c' w' f (K.grow O (hS a' c') L hG)))
theorem mb0{k:Nat}(F:gd all σ g=some true)(hd:Nat.blt d n=true)(G:Kj P T=some (e,k))
   (h:∀b,A7 P n Q ds X (⟨e,k,some ⟨b,0,none⟩,0,0,[]⟩::R) B Fs (.ops all r) fs (AH σ d (.slice (some ⟨b,0,none⟩) 0 0)) H) :
   A7 P n Q ds X R B Fs (.ops all (⟨some d,.buildSlice T 0 #[],ty,AX,af,g⟩::r)) fs σ H:=λw f J=>by
 obtain⟨i,hu,K,rfl⟩:=Hu G
 have L:(Instr.buildSlice T 0 #[]).run P w=.ok (.slice (some ⟨w.heap.size,0,none⟩) 0 0) (w.alloc (.cells #[] e)):=by
   simp[Instr.buildSlice,run_underlying hu,sizeOf,typeInfo,K,Instr.fill,newRow,show Array.range 0=#[] from C]
 refine BE F (Ab hd (v:=.slice (some ⟨w.heap.size,0,none⟩) 0 0) (w':=w.alloc (.cells #[] e)) (λW _ _ _ _ O=>by simp[execOp,L]) ?_)
 have D:=(J.rowNil e i.size).grow (i:=0) (a':=some ⟨w.heap.size,0,none⟩) (c':=0) (n':=0) (xs':=[]) (w':=w.alloc (.cells #[] e)) C C
   ⟨by simp,.inr ⟨w.heap.size,[],C,Nv w [] _,Nat.le_refl _,Nat.zero_le _,by simp,by simp⟩⟩ ⟨C,C,C,by rw[Hw];omega,λk U _=>JC w _ k U,.inr C⟩
 exact h w.heap.size _ f D
theorem T0{size:Nat}(hz:z.length=size)(h:0<size)(m:Nat):madeCells z.toArray (m*size)=(Gs m z).toArray:=by
 rw[← RA size z hz h m,← OZ m size z hz h];rfl
theorem LY{size:Nat}(hz:z.length=size):∀m,(Gs m z).length=m*size
 |0=>by simp[Gs]
 |m+1=>by rw[Gs,List.length_append,LY hz m,hz,Nat.add_mul];omega
theorem mmk{size:Nat}{x y:Operand}(hg:gd all σ g=some true)(hd:Nat.blt d n=true)(F:P0 P T=some (e,size,bytes,zl))(U:Nat.beq zl.length size=true)(W:Nat.blt 0 size=true)
   (hx:ev σ x=some (.int .i64 (m:Int))) (hy:ev σ y=some (.int .i64 (m:Int))) (hb:bytes*m≤281474976710656) (G:m≤maxLen)
   (h:∀b,A7 P n Q ds X (⟨e,size,some ⟨b,0,none⟩,m,m,Gs m zl⟩::R) B Fs (.ops all r) fs (AH σ d (.slice (some ⟨b,0,none⟩) m m)) H) :
   A7 P n Q ds X R B Fs (.ops all (⟨some d,.makeSlice T x y,ty,AX,af,g⟩::r)) fs σ H:=λw f hM=>by
 unfold P0 at F
 split at F
 · rename_i O hu
   split at F
   · rename_i i hi
     split at F
     · rename_i z hz
       injection F with F
       obtain⟨rfl,rfl,rfl,rfl⟩:=by simpa using F
       have D:z.cells.toList.length=i.size:=Nat.eq_of_beq_eq_true U;have J:0<i.size:=Nat.le_of_ble_eq_true W;have K:(m:Int)≤9223372036854775807:=by have:=G;unfold maxLen at this;omega
       have Y:(i.bytes:Int)*(m:Int)≤281474976710656:=by
         have:((i.bytes*m:Nat):Int)≤281474976710656:=oM;rwa[Int.natCast_mul] at this
       have Z:=run_make (P:=P) w T O i z hu hi hz .i64 .i64 (m:Int) (m:Int) oM oM Y K;simp only[Int.toNat_natCast] at Z
       have hc:madeCells z.cells (m*i.size)=(Gs m z.cells.toList).toArray:=by
         have:=T0 (z:=z.cells.toList) D J m;simpa using this
       rw[hc] at Z;refine BE hg (Ab hd (v:=.slice (some ⟨w.heap.size,0,none⟩) m m) (w':=w.alloc (.cells (Gs m z.cells.toList).toArray O)) ?_ ?_)
       · intro ρ _ _ _ _ L
         simp[execOp,L _ _ hx,L _ _ hy,Z]
       · have hM1:=(hM.rowNil O i.size).grow (i:=0) (a':=some ⟨w.heap.size,0,none⟩) (c':=m) (n':=m) (xs':=Gs m z.cells.toList) (w':=w.alloc (.cells (Gs m z.cells.toList).toArray O)) C C
           ⟨LY D m,.inr ⟨w.heap.size,_,C,Nv w _ _,Nat.le_refl _,G,LY D m,by rw[List.take_of_length_le (by rw[LY D m];exact Nat.le_refl _)]⟩⟩
           ⟨C,C,C,by rw[Hw];omega,λk hk _=>JC w _ k hk,.inr C⟩
         exact h w.heap.size _ f hM1
     · cases F
   · cases F
 · cases F
theorem QF:∀(vs cs:lV)(o k:Nat),(EF cs o vs).take k=EF (cs.take k) o vs
 | [],_,_,_=>rfl
 |v::vs,cs,o,k=>by rw[EF,EF,QF vs (cs.set o v) (o+1) k,List.take_set]
theorem mrs{size c k:Nat}{v:Value}(i:Nat)(xs':lV)(hg:gd all σ g=some true)(hx:ev σ x=some (.pointer (some ⟨b,o,none⟩)))(hy:ev σ y=some v)(hv:HU v=some vs)(hT:Be P T=some (ag,k))(U:Nat.beq vs.length k=true)(h1:No vs=true)
   (W:P5 R i=some ⟨e,size,some ⟨b,0,none⟩,c,m,xs⟩) (hf:o+vs.length≤m*size) (he:EF xs o vs=xs') (hS:S3 R i ⟨e,size,some ⟨b,0,none⟩,c,m,xs'⟩=some R')
   (h:A7 P n Q ds X R' B Fs (.ops all r) fs σ H):A7 P n Q ds X R B Fs (.ops all (⟨none,.store T x y,ty,AX,af,g⟩::r)) fs σ H:=λw f Y=>by
 subst he;have Z:=Y.row _ (DP W);rcases Z.2 with ⟨h0,_⟩|⟨b',l,ha,G,F,J,D,K⟩
 · cases h0
 · cases ha
   have L:xs.length=m*size:=Z.1;have D:l.length=c*size:=D;have K:l.take (m*size)=xs:=K;have hms:m*size≤c*size:=Nat.mul_le_mul_right _ F;have G:AS w b l e:=G;refine BE hg (JD (O6 hx hy (GO hv) hT U G h1 oM) (h _ f (Y.grow W hS ?_ ?_)))
   · refine⟨by rw[Gn];exact L,.inr ⟨b,EF l o vs,C,setRow_heap w b _ _ e _ G,F,J,by rw[Gn];exact D,?_⟩⟩
     rw[QF,K]
   · exact⟨C,C,C,by simp[World.setRow],λk U O=>setRow_other w b k _ (λe=>O (by rw[e];rfl)),.inl C⟩
end
def Kp(Hk:List HB)(B:List FB)(J:wO→Prop)(w:wO):Prop:=(∀e,e∈Hk→AS w e.b e.l e.T)∧(∀e,e∈B→∀(j:Nat)(v:Value),e.l[j]?=some v→w.cell? ⟨e.b,e.off+j,none⟩=some v)∧J w
def Nh(H:List HB):List Nat→Option (List HB)
 | []=>some []
 |i::l=>match HY H i,Nh H l with
   |some e,some r=>some (e::r)
   |_,_=>none
theorem Kc{H:List HB}:∀{D:List Nat}{Hk:List HB},Nh H D=some Hk→∀e,e∈Hk→e∈H
 | [],_,h,e,he=>by cases h;cases he
 |i::D,Hk,h,e,he=>by
   unfold Nh at h
   split at h
   · rename_i e0 r F G
     cases h
     rcases List.mem_cons.1 he with rfl|he
     · exact Cm F
     · exact Kc G e he
   · cases h
variable {af:Array Edge}{args:Array Value}{nw top:Bool}{σ':Bp}{f:Fq}{fid:FuncId}{XX:List PanicEntry→wO→Prop}{b i id off:Nat}{g:Option (Nat×Bool)}{T ty:tI}{w:wO}
theorem AU.kp{X:Cx}{H Hk:List HB}{R:List RB}{B:List FB}{Fs:List (wO→Fq→Prop)}{J:wO→Prop}(h:AU X w f H R B Fs)(D:∀e,e∈Hk→e∈H)(F:∀w f,X.I w f→CQ X.M X.w0 X.f0 w f→J w):Kp Hk B J w :=
 ⟨λe he=>h.blk e (D e he),λe he j v G=>(h.fro e he j v G).2,F w f h.res h.exm⟩
section
variable(P:Program)(n:Nat)(Q:Bh)(ds:List Deferred)(X:Cx)(R:List RB)(B:List FB)(Fs:List (wO→Fq→Prop))(tb:Y9)(l:List Oper)(Hk:List HB)(B0:List FB)(J:wO→Prop)
def Du(top:Bool)(t:OT)(σ:Bp)(H:List HB):Prop:=∀w f,AU X w f H R B Fs→XP P n l Q (Kp Hk B0 J) top t σ ds w
def XZ:Nat→List Nat→OT→Bp→List HB→Prop
 |0,_,t,σ,H=>True→Du P n Q ds X R B Fs l Hk B0 J true t σ H
 |m+1,D,.rd i k,σ,H=>(match nth l i with
   |some ⟨some d,op,_,_,_,g⟩=>(match Nat.blt d n with
     |false=>False
     |true=>(match gd l σ g with
       |none=>False
       |some false=>XZ m D k (AH σ d undef) H
       |some true=>(match op with
         |.load T x=>(match D with
           | []=>False
           |h::D=>(match ev σ x,wA tb.ti T with
             |some (.pointer (some ⟨b,o,none⟩)),some (a,q)=>(match Nat.blt h 100 with
               |true=>(match HY Hk h with
                 |some ⟨b',c,_,_⟩=>(match a with
                   |false=>(match nth c o with
                     |some v=>b'=b∧XZ m D k (AH σ d v) H
                     |none=>False)
                   |true=>(match WH c o q with
                     |some vs=>b'=b∧XZ m D k (AH σ d (.agg ⟨vs⟩)) H
                     |none=>False))
                 |none=>False)
               |false=>(match D with
                 | []=>False
                 |j::D=>(match nth B0 (h-100) with
                   |some ⟨b',off,c⟩=>(match a with
                     |false=>(match nth c j with
                       |some v=>(b'=b∧off+j=o)∧XZ m D k (AH σ d v) H
                       |none=>False)
                     |true=>(match WH c j q with
                       |some vs=>(b'=b∧off+j=o)∧XZ m D k (AH σ d (.agg ⟨vs⟩)) H
                       |none=>False))
                   |none=>False)))
             |_,_=>False))
         |.indexAddr T x y=>(match ev σ x,ev σ y,XW tb.sl T with
           |some (.slice (some ⟨b,o,none⟩) len _),some (.int _ i),some (_,q)=>(0≤i∧i<len)∧XZ m D k (AH σ d (.pointer (some ⟨b,o+i.toNat*q,none⟩))) H
           |_,_,_=>False)
         |.binOp .add T x y F=>(match ev σ x,ev σ y with
           |some (.int .i64 a),some (.int .i64 b)=>RT (a+b)∧XZ m D k (AH σ d (.int .i64 (a+b))) H
           |some (.string ⟨⟨a⟩⟩),some (.string ⟨⟨b⟩⟩)=>a.length+b.length≤9223372036854775807∧XZ m D k (AH σ d (S (a++b))) H
           |_,_=>False)
         |.binOp .sub T x y F=>(match ev σ x,ev σ y with
           |some (.int .i64 a),some (.int .i64 b)=>RT (a-b)∧XZ m D k (AH σ d (.int .i64 (a-b))) H
           |_,_=>False)
         |op=>(match pv tb σ op with
           |some v=>XZ m D k (AH σ d v) H
           |none=>False))))
   |_=>False)
 |_+1,_,_,_,_=>False
end
section
variable{P:Program}{n:Nat}{Q:Bh}{ds:List Deferred}{X:Cx}{R:List RB}{B:List FB}{Fs:List (wO→Fq→Prop)}{tb:Y9}{l:List Oper}{Hk:List HB}{B0:List FB}{J:wO→Prop}{σ:Bp}{H:List HB}{fs:List Fr}
theorem Gc{S:wO→Prop}{op:Op}{AX:String}{d:Nat}{k:OT}{v:Value}(F:nth l i=some ⟨some d,op,ty,AX,af,g⟩)(hd:Nat.blt d n=true)(G:gd l σ g=some true)(K:∀w,S w→AR P σ op ty w v w)
   (h:XP P n l Q S true k (AH σ d v) ds w):XP P n l Q S top (.rd i k) σ ds w:=λa D =>
 ⟨_,v,(Fc l i).symm.trans F,.inl ⟨Kl D G,λw L=>K w L a.eval _ _ _ _ D.ev⟩,h _ (D.put hd v)⟩
theorem mM{S:wO→Prop}{op:Op}{AX:String}{d:Nat}{k:OT}(F:nth l i=some ⟨some d,op,ty,AX,af,g⟩)(hd:Nat.blt d n=true)(G:gd l σ g=some false)
   (h:XP P n l Q S true k (AH σ d undef) ds w):XP P n l Q S top (.rd i k) σ ds w:=λa D =>
 ⟨_,undef,(Fc l i).symm.trans F,.inr ⟨Kl D G,C⟩,h _ (D.put hd undef)⟩
theorem Kp.blk{c:lV}(h:Kp Hk B0 J w)(D:HY Hk i=some ⟨b,c,T,nw⟩):AS w b c T:=h.1 _ (Cm D)
theorem Kp.cel{c:lV}(h:Kp Hk B0 J w)(D:nth B0 i=some ⟨b,off,c⟩):∀(j:Nat)(v:Value),c[j]?=some v→w.cell? ⟨b,off+j,none⟩=some v:=by
 rw[Fc] at D;exact h.2.1 _ (List.mem_of_getElem? D)
theorem PN(U:tb.Ok P):∀(m:Nat)(hs:List Nat)(t:OT)(σ:Bp)(H:List HB),XZ P n Q ds X R B Fs tb l Hk B0 J m hs t σ H→Du P n Q ds X R B Fs l Hk B0 J true t σ H
 |0,_,_,_,_,h=>h tQ
 |m+1,hs,.fin,σ,H,h=>h.elim
 |m+1,hs,.br _ _ _,σ,H,h=>h.elim
 |m+1,hs,.rd i k,σ,H,h=>by
   have K:=PN U m;intro w f L;unfold XZ at h
   split at h
   · rename_i O
     split at h
     · exact h.elim
     rename_i hd
     split at h
     · exact h.elim
     · rename_i F
       exact mM O hd F (K _ _ _ _ h w f L)
     · rename_i F
       split at h
       · split at h
         · exact h.elim
         · split at h
           · rename_i D Z
             split at h
             · split at h
               · rename_i hH
                 split at h
                 · split at h
                   · rename_i v G
                     obtain⟨rfl,h⟩:=h;rw[Fc] at G;exact Gc O hd F (λw W=>Am D (Gy U.ti Z) (W.blk hH) G) (K _ _ _ _ h w f L)
                   · exact h.elim
                 · split at h
                   · rename_i vs G
                     obtain⟨rfl,h⟩:=h;exact Gc O hd F (λw W=>Dr D (Gy U.ti Z) (W.blk hH) G) (K _ _ _ _ h w f L)
                   · exact h.elim
               · exact h.elim
             · split at h
               · exact h.elim
               · split at h
                 · rename_i hB
                   split at h
                   · split at h
                     · rename_i v G
                       obtain⟨⟨rfl,rfl⟩,h⟩:=h;rw[Fc] at G;exact Gc O hd F (λw W=>JR D (Gy U.ti Z) (W.cel hB _ v G)) (K _ _ _ _ h w f L)
                     · exact h.elim
                   · split at h
                     · rename_i vs G
                       obtain⟨⟨rfl,rfl⟩,h⟩:=h;obtain⟨hk,hg2⟩:=Rb G;exact Gc O hd F (λw W=>LQ D (Gy U.ti Z) hk (λj v hj=>by have:=W.cel hB _ v (hg2 j v hj);rwa[← Nat.add_assoc] at this)) (K _ _ _ _ h w f L)
                     · exact h.elim
                 · exact h.elim
           · exact h.elim
       · split at h
         · rename_i D Y Z
           exact Gc O hd F (λw _=>Oo D Y (La U.sl Z) h.1) (K _ _ _ _ h.2 w f L)
         · exact h.elim
       · split at h
         · rename_i D Y;exact Gc O hd F (λw _=>Oi D Y h.1) (K _ _ _ _ h.2 w f L)
         · rename_i D Y;exact Gc O hd F (λw _=>Ky D Y h.1) (K _ _ _ _ h.2 w f L)
         · exact h.elim
       · split at h
         · rename_i D Y;exact Gc O hd F (λw _=>H9 D Y h.1) (K _ _ _ _ h.2 w f L)
         · exact h.elim
       · split at h
         · rename_i v G;exact Gc O hd F (λw _=>RO U G) (K _ _ _ _ h w f L)
         · exact h.elim
   · exact h.elim
theorem goT{t:OT}(F:tb.Ok P)(m:Nat)(D:List Nat)(h:XZ P n Q ds X R B Fs tb l Hk B0 J m D t σ H):Du P n Q ds X R B Fs l Hk B0 J true t σ H:=PN F m D t σ H h
theorem Wf(h:PI Q):∀fs:List Fr,PI (MU P n Q fs)
 | []=>h
 |.sq _::fs=>Wf h fs
 |.bk _::fs=>Wf h fs
theorem MT(J:wO→Prop)(U:∀w f,X.I w f→CQ X.M X.w0 X.f0 w f→J w)(W:List Nat)(hm:P.follows .mixedOrders=true)(t:OT)(Y:Nh H W=some Hk)(G:t.ok l.toArray true (Array.replicate l.length false)=true)(K:t.even true l.length=true)(D:Region.noSelect l.toArray=true)(L:PI Q)
   (h:Du P n (MU P n Q fs) ds X R B Fs l Hk B J true t σ H):A7 P n Q ds X R B Fs (.code (.region id l.toArray true)) fs σ H:=λw f O=>by
 refine Eu hm (Kp Hk B J) t G K D (λw' Z hz=>?_) (Wf L fs);have F:AU X w' f H R B Fs:=O.call0 (CQ.of_ext Z O.val);exact⟨F.kp (Kc Y) U,h w' f F⟩
theorem Bx(h:A7 P n Q ds X R B Fs (.out .normal) fs σ H):Du P n (MU P n Q fs) ds X R B Fs l Hk B0 J true .fin σ H:=λw f D=>BC (h w f D)
theorem Ah{k o:OT}{x:Oper}(F:nth l i=some x)(h:A7 P n (Z8 P n l Q (Kp Hk B0 J) k) ds X R B Fs (.ops l [x]) [] σ H)(G:Du P n Q ds X R B Fs l Hk B0 J false o σ H):Du P n Q ds X R B Fs l Hk B0 J top (.br i k o) σ H :=
 λw f D=>An ((Fc l i).symm.trans F) (h w f D) (G w f D)
theorem Aj:Du P n Q ds X R B Fs l Hk B0 J false .fin σ H:=λ_ _ _=>Ag
theorem Bl{k:OT}(F:List Nat)(G:∀w f,X.I w f→CQ X.M X.w0 X.f0 w f→J w)(K:Nh H F=some Hk)(L:∀e,e∈B0→e∈B)(h:Du P n Q ds X R B Fs l Hk B0 J true k σ H):A7 P n (Z8 P n l Q (Kp Hk B0 J) k) ds X R B Fs (.out .normal) [] σ H:=λw f D =>
 ⟨⟨λe he=>D.blk e (Kc K e he),λe he j v O=>(D.fro e (L e he) j v O).2,G w f D.res D.exm⟩,h w f D⟩
theorem Du.le{t:OT}(D:Le σ' σ)(h:Du P n Q ds X R B Fs l Hk B0 J top t σ' H):Du P n Q ds X R B Fs l Hk B0 J top t σ H:=λw f F a G=>h w f F a (G.le D)
theorem K4{t:OT}{b:Bool}(s:Nat)(h:σ s=some (.bool b))(D:b=true→Du P n Q ds X R B Fs l Hk B0 J top t (AH σ s (.bool true)) H)(F:b=false→Du P n Q ds X R B Fs l Hk B0 J top t (AH σ s (.bool false)) H):Du P n Q ds X R B Fs l Hk B0 J top t σ H:=by
 cases b with
 |true=>exact Du.le (AD (le_refl _) h) (D C)
 |false=>exact Du.le (AD (le_refl _) h) (F C)
theorem HX{k:OT}{d:Nat}{op:Op}{AX:String}{v:Value}(D:nth l i=some ⟨some d,op,ty,AX,af,g⟩)(hd:Nat.blt d n=true)(F:gd l σ g=some true)(G:∀w,Kp Hk B0 J w→AR P σ op ty w v w)
   (h:Du P n Q ds X R B Fs l Hk B0 J true k (AH σ d v) H):Du P n Q ds X R B Fs l Hk B0 J true (.rd i k) σ H:=λw f K=>Gc D hd F G (h w f K)
theorem BA{all r:List Oper}{op:Op}{AX:String}{d:Nat}{α:Type}{val:α→Value}{q:α→Prop}{F':α→List (wO→Fq→Prop)}(D:gd all σ g=some true)(hd:Nat.blt d n=true)(he:∀w,Enters P σ op ty w fid args)
   (F:∀w f,AU X w f H R B Fs→BF P fid args w (Ce val q F' w f)) (hm:∀x,A2 (F' x))
   (h:∀x,q x→A7 P n Q ds X R B (F' x++Fs) (.ops all r) fs (AH σ d (val x)) H):A7 P n Q ds X R B Fs (.ops all (⟨some d,op,ty,AX,af,g⟩::r)) fs σ H :=
 mc0 D hd he (λw f G=>(F w f G).mono λv w' ⟨x,f',K,L,O,U⟩=>⟨x,f',K,L,O,U.mem⟩) (λx=>(hm x).mem) h
theorem P9{all r:List Oper}{op:Op}{AX:String}{d:Nat}{α:Type}{val:α→Value}{q:α→Prop}{I':α→wO→Fq→Prop}{F':α→List (wO→Fq→Prop)}
   (F:gd all σ g=some true) (hd:Nat.blt d n=true) (he:∀w,Enters P σ op ty w fid args)
   (G:∀w f,AU X w f H R B Fs→BU P fid args w (Fv val q X.MI I' F' w f) XX) (D:∀x,G4 X.MI (I' x)) (hm:∀x,A2 (F' x))
   (K:∀w f c w',AU X w f H R B Fs→XX c w'→Q.p c σ ds w')
   (h:∀x,q x→A7 P n Q ds {X with I:=I' x} R B (F' x++Fs) (.ops all r) fs (AH σ d (val x)) H):A7 P n Q ds X R B Fs (.ops all (⟨some d,op,ty,AX,af,g⟩::r)) fs σ H :=
 mcI F hd he (λw f L=>(G w f L).mono (λv w' ⟨x,f',O,U,W,Y,Z⟩=>⟨x,f',O,U,W,Y,Z.mem⟩) λ_ _ h=>h) D (λx=>(hm x).mem) K h
end
end Go.SW
namespace Go.SW
open Go.RowKit Go.SP
structure Key(κ:Type)[BEq κ] where
 enc:κ→Value
 desc:TypeDesc
 same:∀a b,Instr.sameNow desc (enc a) (enc b)=some (a==b)
 chk:∀(P:Program)(k:tI)(w:wO)(a:κ)(b:Bool),P.underlying k=some desc→(Instr.checkKey b 10000 k (enc a)).run P w=.ok () w
def CJ:Key lU where
 enc:=S
 desc:=.string
 same a b:=by
   have:Instr.sameNow .string (S a) (S b)=some ((⟨a.toArray⟩:ByteArray)==⟨b.toArray⟩):=rfl;rw[this,beq_toListBytes,Qm,Qm]
 chk P k w a b h:=K8 h
def Fu:Key Int where
 enc n:=.int .i64 n
 desc:=.int .i64
 same a b:=by simp[Instr.sameNow]
 chk P k w a b h:=by rw[Instr.checkKey];simp[run_underlying h]
section
variable{κ:Type}[BEq κ](K:Key κ)
def Cz(w:wO)(m:Nat)(l:List (κ×Value)):Prop:=∃(es:List MapEntry)(c:Nat),w.heap[m]?=some (.map es.toArray c)∧es.map (λe=>(e.key,e.val))=l.reverse.map λp=>(K.enc p.1,p.2)
def FF:List (κ×Value)→κ→Option Value
 | [],_=>none
 |(k,v)::l,x=>if x==k then some v else FF l x
def G8(P:Program)(T:tI):Option (tI×tI):=match P.underlying T with
 |some (.map k e)=>some (k,e)
 |_=>none
end
section
variable{κ:Type}[BEq κ]{K:Key κ}
theorem Cz.lt{w:wO}{m:Nat}{l:List (κ×Value)}(h:Cz K w m l):m<w.heap.size:=by
 obtain⟨es,c,F,_⟩:=h;rcases Nat.lt_or_ge m w.heap.size with D | D
 · exact D
 · rw[Array.getElem?_eq_none D] at F;cases F
variable {f:Fq}{b:Nat}{w':wO}{I':wO→Fq→Prop}
theorem Cz.heap{w:wO}{m:Nat}{l:List (κ×Value)}(h:Cz K w m l)(he:w'.heap[m]?=w.heap[m]?):Cz K w' m l:=let ⟨es,c,D,F⟩:=h;⟨es,c,he.trans D,F⟩
def Mz(x:κ):List (κ×Value)→Option Value
 | []=>none
 |(k,v)::l=>if x==k then some v else Mz x l
theorem Oq(x:κ):∀(es:List MapEntry)(l:List (κ×Value))(i:Nat),es.map (λe=>(e.key,e.val))=l.map (λp=>(K.enc p.1,p.2)) →
   (∀v,Mz x l=some v→∃j,Instr.findNow K.desc (K.enc x) es i=some (some (j,v)))∧(Mz x l=none→Instr.findNow K.desc (K.enc x) es i=some none)
 | [],[],i,_=>⟨λv h=>(by cases h),λ_=>C⟩
 | [],_::_,_,h=>by simp at h
 |_::_,[],_,h=>by simp at h
 |e::es,p::l,i,h=>by
   simp only[List.map_cons,List.cons.injEq,Prod.mk.injEq] at h;obtain⟨⟨F,G⟩,J⟩:=h;have D:=Oq x es l (i+1) J;have L:Instr.sameNow K.desc (K.enc x) e.key=some (x==p.1):=by rw[F];exact K.same x p.1
   obtain⟨O,pv⟩:=p;unfold Instr.findNow Mz;rw[L]
   cases U:x==O with
   |true=>exact⟨λv h=>⟨i,by simp at h;simp[G,h]⟩,λh=>by simp at h⟩
   |false=>exact⟨λv h=>D.1 v (by simpa using h),λh=>D.2 (by simpa using h)⟩
theorem Xf(x:κ):∀(a b:List (κ×Value)),Mz x (a++b)=(Mz x a).or (Mz x b)
 | [],b=>by simp[Mz]
 |(k,v)::a,b=>by
   simp only[List.cons_append,Mz,Xf x a b]
   split <;> rfl
def Lj[BEq κ]:List (κ×Value)→Prop
 | []=>True
 |(k,_)::l=>FF l k=none∧Lj l
variable[LawfulBEq κ]
theorem R4(x:κ):∀l:List (κ×Value),Lj l→Mz x l.reverse=FF l x
 | [],_=>rfl
 |(k,v)::l,h=>by
   rw[List.reverse_cons,Xf,R4 x l h.2];simp only[Mz,FF]
   cases D:x==k with
   |true =>
     have:x=k:=by simpa using D
     subst this;rw[h.1];rfl
   |false=>cases FF l x <;> simp
section
variable{P:Program}{n:Nat}{Q:Bh}{ds:List Deferred}{X:Cx}{R:List RB}{B:List FB}{Fs:List (wO→Fq→Prop)}{fs:List Fr}{σ:Bp}{H:List HB}{w:wO}
variable{all r:List Oper}{ty T k e:tI}{AX:String}{af:Array Edge}{g:Option (Nat×Bool)}{d m:Nat}{x y z:Operand}{a:κ}{l:List (κ×Value)}
theorem Kd(h:G8 P T=some (k,e)):P.underlying T=some (.map k e):=by
 unfold G8 at h
 split at h
 · rename_i hu;cases h;exact hu
 · cases h
def zO(P:Program)(e:tI):Option Value:=match P.info? e with|some i=>i.zero|none=>none
def oZ(P:Program)(e:tI)(z:Value):Prop:=zO P e=some z
theorem UD{z:Value}(h:oZ P e z):∃i,P.info? e=some i∧i.zero=some z:=by
 unfold oZ zO at h
 split at h
 · rename_i i D;exact⟨i,D,h⟩
 · cases h
theorem Vk{z:Value}{ok:Bool}(L:G8 P T=some (k,e))(F:P.underlying k=some K.desc)(hz:oZ P e z)(hm:Cz K w m l)(hd:Lj l) :
   (Instr.lookup T (.map (some m)) (K.enc a) ok).run P w=.ok (if ok then .tuple #[(FF l a).getD z,.bool (FF l a).isSome] else (FF l a).getD z) w:=by
 have hu:=Kd L;obtain⟨es,c,O,U⟩:=hm;obtain⟨i,W,hz⟩:=UD hz;have h:(getObj m).run P w=.ok (.map es.toArray c) w:=by simp[getObj,Sem.run,O]
 obtain⟨f1,f2⟩:=Oq (K:=K) a es l.reverse 0 U;rw[R4 a l hd] at f1 f2;have D:=λb=>K.chk P k w a b F
 cases J:FF l a with
 |some v =>
   obtain⟨j,G⟩:=f1 v J;simp only[Instr.lookup,Sem.run_bind,run_underlying hu,Result.andThen_ok,h]
   cases ok <;> simp[D,Instr.findKey,run_underlying F,G]
 |none =>
   have G:=f2 J;simp only[Instr.lookup,Sem.run_bind,run_underlying hu,Result.andThen_ok,h]
   cases ok <;> simp[D,Instr.findKey,run_underlying F,G,zeroValue,typeInfo,W,hz]
theorem ZW{z:Value}{ok:Bool}(D:ev σ x=some (.map (some m)))(F:ev σ y=some (K.enc a))(G:G8 P T=some (k,e))(J:P.underlying k=some K.desc)(hz:oZ P e z)(hm:Cz K w m l)(hd:Lj l) :
   AR P σ (.lookup T x y ok) ty w (if ok then .tuple #[(FF l a).getD z,.bool (FF l a).isSome] else (FF l a).getD z) w:=λL _ _ _ _ h=>by
 simp only[execOp,h _ _ D,h _ _ F];rw[Sem.run_bind,Vk G J hz hm hd];rfl
theorem KT{z v:Value}(h:ev σ x=some (.map (some m)))(D:ev σ y=some (K.enc a))(F:G8 P T=some (k,e))(G:P.underlying k=some K.desc)(hz:oZ P e z)(hm:Cz K w m l)(hd:Lj l)(J:FF l a=some v):AR P σ (.lookup T x y true) ty w (.tuple #[v,.bool true]) w:=by
 have:=ZW (ty:=ty) (ok:=true) h D F G hz hm hd;rw[J] at this;exact this
theorem KP{z:Value}(h:ev σ x=some (.map (some m)))(D:ev σ y=some (K.enc a))(F:G8 P T=some (k,e))(G:P.underlying k=some K.desc)(hz:oZ P e z)(hm:Cz K w m l)(hd:Lj l)(J:FF l a=none):AR P σ (.lookup T x y true) ty w (.tuple #[z,.bool false]) w:=by
 have:=ZW (ty:=ty) (ok:=true) h D F G hz hm hd;rw[J] at this;exact this
theorem Ow{z v:Value}(h:ev σ x=some (.map (some m)))(D:ev σ y=some (K.enc a))(F:G8 P T=some (k,e))(G:P.underlying k=some K.desc)(hz:oZ P e z)(hm:Cz K w m l)(hd:Lj l)(J:(FF l a).getD z=v):AR P σ (.lookup T x y false) ty w v w:=by
 have:=ZW (ty:=ty) (ok:=false) h D F G hz hm hd;rw[← J];exact this
theorem YD{v:Value}(W:G8 P T=some (k,e))(L:P.underlying k=some K.desc)(hm:Cz K w m l)(hd:Lj l)(Y:FF l a=none):∃w',(Instr.mapUpdate T (.map (some m)) (K.enc a) v).run P w=.ok () w'∧Cz K w' m ((a,v)::l)∧GW m w w':=by
 have hu:=Kd W;obtain⟨es,c,O,U⟩:=id hm;have Z:=(Oq (K:=K) a es l.reverse 0 U).2 (by rw[R4 a l hd];exact Y);have h:(getObj m).run P w=.ok (.map es.toArray c) w:=by simp[getObj,Sem.run,O]
 have F:=hm.lt;have G:=λb=>K.chk P k w a b L
 have D:(setObj m (.map (es.toArray.push {key:=K.enc a,val:=v,born:=c}) (c+1))).run P w=.ok () {w with heap:=w.heap.setIfInBounds m (.map (es.toArray.push {key:=K.enc a,val:=v,born:=c}) (c+1))}:=by
   simp[setObj,Sem.run,O]
 refine⟨{w with heap:=w.heap.setIfInBounds m (.map (es.toArray.push {key:=K.enc a,val:=v,born:=c}) (c+1))},?_,?_,?_⟩
 · simp only[Instr.mapUpdate,Sem.run_bind,run_underlying hu,Result.andThen_ok,h]
   simp only[G,Result.andThen_ok,Instr.findKey,Sem.run_bind,run_underlying L,Z];simp only[Sem.run_pure,Result.andThen_ok];exact D
 · refine⟨es++[{key:=K.enc a,val:=v,born:=c}],c+1,?_,?_⟩
   · simp[F]
   · simp[U]
 · refine⟨C,C,C,by simp,λj J=>?_⟩
   show (w.heap.setIfInBounds m _)[j]?=_;rw[Array.getElem?_setIfInBounds_ne (λe=>J e.symm)]
theorem AU.chgI{w:wO}(h:AU X w f H R B Fs)(J:X.MI b)(D:GW b w w')(L:I' w' f)(F:G4 X.MI I'):AU {X with I:=I' } w' f H R B Fs :=
 h.callI ⟨⟨D.os,D.tape,D.output,by rw[D.size];exact Nat.le_refl _,λk _ hm=>D.block k (λe=>hm (e▸J))⟩,λ_ _=>C,λk G=>h.val k (by rw[D.size] at G;exact G)⟩ L F
theorem iT{v:Value}(O:gd all σ g=some true)(U:ev σ x=some (.map (some m)))(W:ev σ y=some (K.enc a))(hz:ev σ z=some v)(Y:G8 P T=some (k,e))(Z:P.underlying k=some K.desc)(G:X.MI m)(hd:Lj l)(hn:FF l a=none)
   (hm:∀w f,X.I w f→Cz K w m l) (hI:∀w f w',X.I w f→AU X w f H R B Fs→GW m w w'→Cz K w' m ((a,v)::l)→I' w' f) (J:G4 X.MI I')
   (h:A7 P n Q ds {X with I:=I' } R B Fs (.ops all r) fs σ H):A7 P n Q ds X R B Fs (.ops all (⟨none,.mapUpdate T x y z,ty,AX,af,g⟩::r)) fs σ H:=λw f F=>by
 obtain⟨w',h1,h2,L⟩:=YD (v:=v) Y Z (hm w f F.res) hd hn;refine BE O (JD (w':=w') (λρ _ _ _ _ D=>?_) (h w' f (F.chgI G L (hI w f w' F.res F L h2) J)));simp only[execOp,D _ _ U,D _ _ W,D _ _ hz];rw[Sem.run_bind,h1];rfl
omit [LawfulBEq κ] in
theorem mmp(O:gd all σ g=some true)(hd:Nat.blt d n=true)
   (h:∀m,A7 P n Q ds {X with MI:=λb=>X.MI b∨b=m,I:=λw f=>X.I w f∧Cz K w m []} R B Fs (.ops all r) fs (AH σ d (.map (some m))) H):A7 P n Q ds X R B Fs (.ops all (⟨some d,.makeMap T none,ty,AX,af,g⟩::r)) fs σ H:=λw f G=>by
 refine BE O (Ab (v:=.map (some w.heap.size)) (w':=w.alloc (.map #[] 0)) hd (λρ _ _ _ _ U=>by simp[execOp,Instr.makeMap]) (h w.heap.size _ f ?_));have F:AU X (w.alloc (.map #[] 0)) f H R B Fs:=G.call0 (CQ.of_ext (Ku w _) G.val);have J:∀b,b∈CX H R→b≠w.heap.size:=λb D e=>Nat.lt_irrefl _ (e▸G.lt D)
 exact {F with
         res:=⟨F.res,[],0,heap_alloc_new w _,C⟩,
         stab:=λW f1 Y f2 L Z D=>⟨F.stab W f1 Y f2 L.1 Z λb hm=>D b (.inl hm),L.2.heap (D _ (.inr C))⟩,
         mi:=λb D=>by
           rcases D with D|rfl
           · exact F.mi b D
           · exact⟨by rw[Hw];omega,G.val _ (Nat.le_refl _),.inl G.stp.size⟩,
         own:=λb D=>⟨(F.own b D).1,(F.own b D).2.1,λhm=>by
           rcases hm with hm|rfl
           · exact (F.own b D).2.2 hm
           · exact J _ D C⟩}
end
end
end Go.SW
namespace Go.SW
def vF(P:Program)(T h:tI):Bool:=match P.underlying T,P.underlying h with
 |some _,some .string=>true
 |_,_=>false
end Go.SW
namespace Go.SP
inductive Ty where
 |nil
 |var (n:Int) (r:Ty)
 |con (tx:lU) (k r:Ty)
inductive T1 where
 |var (n:Int)
 |con (tx:lU) (k:Ty)
def T1.cons:T1→Ty→Ty
 |.var n,r=>.var n r
 |.con tx k,r=>.con tx k r
def T1.one(t:T1):Ty:=t.cons .nil
def Ty.app:Ty→Ty→Ty
 |.nil,y=>y
 |.var n r,y=>.var n (r.app y)
 |.con tx k r,y=>.con tx k (r.app y)
def Ty.len:Ty→Nat
 |.nil=>0
 |.var _ r=>r.len+1
 |.con _ _ r=>r.len+1
def Ty.get:Ty→Nat→Option T1
 |.nil,_=>none
 |.var n _,0=>some (.var n)
 |.con tx k _,0=>some (.con tx k)
 |.var _ r,i+1=>r.get i
 |.con _ _ r,i+1=>r.get i
def Ty.snoc(a:Ty)(t:T1):Ty:=a.app t.one
def Ty.hd:Ty→T1
 |.nil=>.var 0
 |.var n _=>.var n
 |.con tx k _=>.con tx k
abbrev Bk:=List (Int×T1)
def A8:Bk→Int→Option T1
 | [],_=>none
 |(k,t)::s,n=>if k==n then some t else A8 s n
def G9(b:Bk):Nat→T1→T1
 |0,t=>t
 |k+1,t=>match t with
   |.con tx h=>.con tx h
   |.var n=>match A8 b n with
     |none=>.var n
     |some t'=>G9 b k t'
def Af(b:Bk)(t:T1):T1:=G9 b (b.length+1) t
def By(b:Bk):Nat→Ty→Bool
 |_,.nil=>true
 |0,_=>false
 |k+1,.var n r=>match Af b (.var n) with
   |.var _=>By b k r
   |.con _ h=>By b k (h.app r)
 |k+1,.con _ h r=>By b k (h.app r)
def D0(b:Bk)(t:T1):Bool:=By b 1000 t.one
def BB(b:Bk)(x:Int):Nat→Ty→Bool
 |_,.nil=>true
 |0,_=>true
 |k+1,.var n r=>match Af b (.var n) with
   |.var m=>!(m==x)&&BB b x k r
   |.con _ h=>BB b x k (h.app r)
 |k+1,.con _ h r=>BB b x k (h.app r)
def BG(b:Bk)(n:Int)(t:T1):Except Int Bk :=
 if D0 b t then (if BB b n 1000 t.one then .ok ((n,t)::b) else .error 11) else .error 4
def BV(f:Bk→Ty→Ty→Except Int Bk)(b:Bk)(x y:T1)(r q:Ty):Except Int Bk :=
 match x,y with
 |.var n,.var m=>if n==m then f b r q else (match BG b n (.var m) with|.error e=>.error e|.ok b'=>f b' r q)
 |.var n,.con ty h=>(match BG b n (.con ty h) with|.error e=>.error e|.ok b'=>f b' r q)
 |.con tx ka,.var m=>(match BG b m (.con tx ka) with|.error e=>.error e|.ok b'=>f b' r q)
 |.con tx ka,.con ty h=>if !(tx==ty)||(ka.len:Int) != h.len then .error 11 else f b (ka.app r) (h.app q)
def Ty.tl:Ty→Ty
 |.nil=>.nil
 |.var _ r=>r
 |.con _ _ r=>r
def Bz:Nat→Bk→Ty→Ty→Except Int Bk
 |_,b,.nil,_=>.ok b
 |0,_,_,_=>.error 4
 |k+1,b,.var n r,y=>BV (Bz k) b (Af b (.var n)) (Af b y.hd) r y.tl
 |k+1,b,.con tx ka r,y=>BV (Bz k) b (.con tx ka) (Af b y.hd) r y.tl
def DY(b:Bk)(x y:T1):Except Int Bk:=Bz 10000 b x.one y.one
def AE(b:Bk):Nat→Ty→Ty
 |_,.nil=>.nil
 |0,_=>.nil
 |k+1,.var n r=>match Af b (.var n) with
   |.var m=>.var m (AE b k r)
   |.con tx h=>.con tx (AE b k h) (AE b k r)
 |k+1,.con tx h r=>.con tx (AE b k h) (AE b k r)
def fullS(b:Bk)(t:T1):Option T1:=if D0 b t then some (AE b 1000 t.one).hd else none
def BZ:Ty→List Int→List Int
 |.nil,s=>s
 |.var n r,s=>BZ r (if s.contains n then s else s++[n])
 |.con _ k r,s=>BZ r (BZ k s)
def Ak(t:T1):List Int:=BZ t.one []
def C1:List Int→Int→Option Nat
 | [],_=>none
 |k::l,n=>if k==n then some 0 else (C1 l n).map (· + 1)
def C2(l:List Int)(h:Ty):Ty→Ty
 |.nil=>.nil
 |.var n r=>match (C1 l n).bind h.get with
   |some t=>t.cons (C2 l h r)
   |none=>.var n (C2 l h r)
 |.con tx k r=>.con tx (C2 l h k) (C2 l h r)
def Cf(t:T1)(l:List Int)(h:Ty):T1:=(C2 l h t.one).hd
def bI:lU:=[105,110,116]
def bF:lU:=[102,108,111,97,116]
def bS:lU:=[115,116,114,105,110,103]
def bU:lU:=[117,110,105,116]
def bB:lU:=[98,111,111,108]
def bX:lU:=[101,120,110]
def D2:lU:=[45,62]
def Uk:lU:=[116,117,112,108,101]
def MD:lU:=[114,101,102]
def Dv:lU:=[112,114,101,102]
def c0(tx:lU):T1:=.con tx .nil
def Gf:Ty→T1
 |.nil=>.var 0
 |.var n .nil=>.var n
 |.con tx k .nil=>.con tx k
 |.var n r=>.con D2 (.var n (Gf r).one)
 |.con tx k r=>.con D2 (.con tx k (Gf r).one)
structure Mk where
 args:Ty
 out:T1
 vars:List Int
structure CS where
 sol:Bk
 fresh:Int
 cons:List (lU×Mk)
 datas:List (lU×Int)
 roots:List lU
 vars:Int
structure Bd where
 name:lU
 t:T1
 all:List Int
abbrev AB:=List Bd
abbrev Er:=Int×Int×Int
abbrev RI(α:Type):=Except Er α
def Cb{α:Type}:List (lU×α)→lU→Option α
 | [],_=>none
 |(k,v)::l,n=>if k==n then some v else Cb l n
def Au(s:CS):T1×CS:=(.var (s.fresh+1),{s with fresh:=s.fresh+1})
def Da(s:CS)(a b:T1)(ln co:Int):RI CS:=match DY s.sol a b with
 |.error e=>.error (ln,co,e)
 |.ok m=>.ok {s with sol:=m}
def Ds(s:CS)(t:T1)(ln co:Int):RI T1:=match fullS s.sol t with
 |none=>.error (ln,co,4)
 |some f=>.ok f
def AT(s:CS):AB→List Int
 | []=>[]
 |b::e=>(match fullS s.sol b.t with
   |none=>[]
   |some f=>(Ak f).filter λv=>!b.all.contains v)++AT s e
def DG(s:CS)(e:AB)(name:lU)(t:T1)(value:Bool)(ln co:Int):RI AB :=
 if value then (match Ds s t ln co with
   |.error x=>.error x
   |.ok f=>.ok (⟨name,f,(Ak f).filter λv=>!(AT s e).contains v⟩::e))
 else .ok (⟨name,t,[]⟩::e)
def AL:List Int→CS→Ty×CS
 | [],s=>(.nil,s)
 |_::l,s=>((Au s).1.cons (AL l (Au s).2).1,(AL l (Au s).2).2)
def Gk(s:CS)(tx:lU)(k:Nat)(ln co:Int):RI (Ty×T1×CS):=match Cb s.cons tx with
 |none=>.error (ln,co,11)
 |some m=>if (m.args.len:Int)==k then .ok (C2 m.vars (AL m.vars s).1 m.args,Cf m.out m.vars (AL m.vars s).1,(AL m.vars s).2) else .error (ln,co,11)
def Ed:AB→lU→Option Bd
 | [],_=>none
 |b::e,n=>if b.name==n then some b else Ed e n
def El(s:CS)(e:AB)(tx:lU)(ln co:Int):RI (T1×CS):=match Ed e tx with
 |none=>.error (ln,co,11)
 |some b=>match Ds s b.t ln co with
   |.error x=>.error x
   |.ok f =>
     let vs:=(Ak f).filter λv=>b.all.contains v
     .ok (Cf f vs (AL vs s).1,(AL vs s).2)
def Me(f:Int→Nd→Bool):Nd→Bool
 |.nil=>true
 |.cons op _ _ _ _ k r=>f op k&&Me f r
def Br:Nat→Int→Nd→Bool
 |0,_,_=>false
 |n+1,op,kids =>
   if op==1||op==2||op==3||op==4||op==5||op==7 then true
   else if op==6||op==13 then Me (Br n) kids else false
abbrev Hq:=CS→AB→Int→Int→Int→lU→Int→Nd→RI (T1×CS)
def CA(f:Hq)(e:AB):CS→Nd→RI (Ty×CS)
 |s,.nil=>.ok (.nil,s)
 |s,.cons op ln co tx nm k r=>match f s e op ln co tx nm k with
   |.error x=>.error x
   |.ok (t,s1)=>match CA f e s1 r with
     |.error x=>.error x
     |.ok (l,s2)=>.ok (t.cons l,s2)
def Dt(f:Hq)(e:AB):CS→Ty→Nd→RI CS
 |s,a,.cons op ln co tx nm k r=>match f s e op ln co tx nm k with
   |.error x=>.error x
   |.ok (t,s1)=>match Da s1 a.hd t ln co with
     |.error x=>.error x
     |.ok s2=>Dt f e s2 a.tl r
 |s,_,.nil=>.ok s
def EU(f:Hq)(e:AB):CS→T1→Nd→RI (T1×CS)
 |s,t,.nil=>.ok (t,s)
 |s,t,.cons op ln co tx nm k r=>match f s e op ln co tx nm k with
   |.error x=>.error x
   |.ok (a,s1)=>match Da (Au s1).2 t (.con D2 (a.cons (Au s1).1.one)) ln co with
     |.error x=>.error x
     |.ok s2=>EU f e s2 (Au s1).1 r
def CZ:CS→AB→Nd→Ty×AB×CS
 |s,e,.nil=>(.nil,e,s)
 |s,e,.cons _ _ _ _ _ _ .nil=>(.nil,e,s)
 |s,e,.cons op _ _ tx _ _ r =>
   let h:=if op==22 then ⟨tx,(Au s).1,[]⟩::e else e
   let (l,D,s2):=CZ (Au s).2 h r
   ((Au s).1.cons l,D,s2)
def Nd.last:Nd→Option N
 |.nil=>none
 |.cons op ln co tx nm k .nil=>some ⟨op,ln,co,tx,nm,k⟩
 |.cons _ _ _ _ _ _ r=>r.last
def Ty.last:Ty→T1
 |.nil=>.var 0
 |.var n .nil=>.var n
 |.con tx k .nil=>.con tx k
 |.var _ r=>r.last
 |.con _ _ r=>r.last
abbrev Jq:=CS→AB→Int→Int→Int→lU→Int→Nd→RI (T1×AB×CS)
def Dx(f:Jq):CS→AB→Ty→Nd→RI (AB×CS)
 |s,e,_,.nil=>.ok (e,s)
 |s,e,a,.cons op ln co tx nm k r=>match f s e op ln co tx nm k with
   |.error x=>.error x
   |.ok (q,h,s1)=>match Da s1 a.hd q ln co with
     |.error x=>.error x
     |.ok s2=>Dx f s2 h a.tl r
def CU(f:Jq):CS→AB→Nd→RI (Ty×AB×CS)
 |s,e,.nil=>.ok (.nil,e,s)
 |s,e,.cons op ln co tx nm k r=>match f s e op ln co tx nm k with
   |.error x=>.error x
   |.ok (q,h,s1)=>match CU f s1 h r with
     |.error x=>.error x
     |.ok (l,D,s2)=>.ok (q.cons l,D,s2)
def CE(f:Jq)(s:CS)(e:AB)(op ln co:Int)(tx:lU)(kids:Nd):RI (T1×AB×CS) :=
 if op==21 then .ok ((Au s).1,e,(Au s).2)
 else if op==22 then .ok ((Au s).1,⟨tx,(Au s).1,[]⟩::e,(Au s).2)
 else if op==23 then .ok (c0 bI,e,s)
 else if op==24 then .ok (c0 bS,e,s)
 else if op==25 then .ok (c0 bU,e,s)
 else if op==26 then (match Gk s tx kids.len ln co with
   |.error x=>.error x
   |.ok (args,out,s1)=>match Dx f s1 e args kids with
     |.error x=>.error x
     |.ok (h,s2)=>.ok (out,h,s2))
 else if op==27 then (match CU f s e kids with
   |.error x=>.error x
   |.ok (l,h,s2)=>.ok (.con Uk l,h,s2))
 else .ok (.var 0,e,s)
def BM:Nat→Jq
 |0,_,_,_,ln,co,_,_,_=>.error (ln,co,11)
 |n+1,s,e,op,ln,co,tx,_,kids=>match CE (BM n) s e op ln co tx kids with
   |.error x=>.error x
   |.ok (t,h,s1)=>match Ds s1 t ln co with
     |.error x=>.error x
     |.ok _=>.ok (t,h,s1)
def BY(n:Nat)(f:Hq)(e:AB)(pt:T1):CS→Option T1→Nd→RI (T1×CS)
 |s,t,.nil=>.ok (t.getD (.var 0),s)
 |s,t,.cons _ _ _ _ _ L r=>match L with
   |.cons op ln co tx nm O (.cons F h D G J bk _)=>(match BM n s e op ln co tx nm O with
     |.error x=>.error x
     |.ok (q,inner,s1)=>match Da s1 pt q ln co with
       |.error x=>.error x
       |.ok s2=>match f s2 inner F h D G J bk with
         |.error x=>.error x
         |.ok (rt,K)=>match t with
           |some t0=>(match Da K t0 rt h D with
             |.error x=>.error x
             |.ok Q=>BY n f e pt Q (some t0) r)
           |none=>BY n f e pt K (some rt) r)
   |_=>.ok (t.getD (.var 0),s)
def EG(f:Hq)(s:CS)(e:AB)(ln co:Int)(tx:lU)(h D F:Int)(G:lU)(J:Int)(k0:Nd):RI (T1×CS) :=
 match f (Au s).2 (⟨tx,(Au s).1,[]⟩::e) h D F G J k0 with
 |.error x=>.error x
 |.ok (t,s1)=>match Da s1 (Au s).1 t ln co with
   |.error x=>.error x
   |.ok s2=>.ok (t,s2)
def AQ(n:Nat)(f:Hq)(s:CS)(e:AB)(op ln co:Int)(tx:lU)(kids:Nd):RI (T1×CS) :=
 if op==1 then .ok (c0 bI,s)
 else if op==2 then .ok (c0 bF,s)
 else if op==3 then .ok (c0 bS,s)
 else if op==4 then .ok (c0 bU,s)
 else if op==5 then El s e tx ln co
 else if op==6 then (match Gk s tx kids.len ln co with
   |.error x=>.error x
   |.ok (args,out,s1)=>match Dt f e s1 args kids with
     |.error x=>.error x
     |.ok s2=>.ok (out,s2))
 else if op==7 then (match kids.last with
   |none=>.ok (.var 0,s)
   |some b =>
     let p:=CZ s e kids
     match f p.2.2 p.2.1 b.op b.ln b.co b.tx b.nm b.kids with
     |.error x=>.error x
     |.ok (t,s1)=>.ok (Gf (p.1.snoc t),s1))
 else if op==8 then (match kids with
   |.nil=>.ok (.var 0,s)
   |.cons o l c x m k r=>match f s e o l c x m k with
     |.error x=>.error x
     |.ok (t,s1)=>EU f e s1 t r)
 else if op==9 then (match kids with
   |.cons o l c x m k (.cons h D c2 F m2 k2 _)=>(match f s e o l c x m k with
     |.error x=>.error x
     |.ok (t,s1)=>match (if tx==[95] then .ok e else DG s1 e tx t (Br (n+1) o k) ln co) with
       |.error x=>.error x
       |.ok G=>f s1 G h D c2 F m2 k2)
   |_=>.ok (.var 0,s))
 else if op==10 then (match kids with
   |.cons o l c x m k (.cons h D c2 F m2 k2 _)=>(match EG f s e ln co tx o l c x m k with
     |.error x=>.error x
     |.ok (t,s1)=>match DG s1 e tx t true ln co with
       |.error x=>.error x
       |.ok G=>f s1 G h D c2 F m2 k2)
   |_=>.ok (.var 0,s))
 else if op==11 then (match kids with
   |.cons o l c x m k (.cons h D c2 F m2 k2 (.cons K J c3 L m3 k3 _))=>(match f s e o l c x m k with
     |.error x=>.error x
     |.ok (t,s1)=>match Da s1 (c0 bB) t l c with
       |.error x=>.error x
       |.ok s2=>match f s2 e h D c2 F m2 k2 with
         |.error x=>.error x
         |.ok (t2,O)=>match f O e K J c3 L m3 k3 with
           |.error x=>.error x
           |.ok (t3,Q)=>match Da Q t2 t3 J c3 with
             |.error x=>.error x
             |.ok U=>.ok (t2,U))
   |_=>.ok (.var 0,s))
 else if op==12 then (match CA f e s kids with
   |.error x=>.error x
   |.ok (l,s1)=>.ok (l.last,s1))
 else if op==13 then (match CA f e s kids with
   |.error x=>.error x
   |.ok (l,s1)=>.ok (.con Uk l,s1))
 else if op==14 then (match kids with
   |.nil=>.ok (.var 0,s)
   |.cons o l c x m k r=>match f s e o l c x m k with
     |.error x=>.error x
     |.ok (t,s1)=>BY n f e t s1 none r)
 else if op==15 then (match kids with
   |.nil=>.ok (.var 0,s)
   |.cons o l c x m k r=>match f s e o l c x m k with
     |.error x=>.error x
     |.ok (t,s1)=>BY n f e (c0 bX) s1 (some t) r)
 else if op==16 then (match kids with
   |.nil=>.ok (.var 0,s)
   |.cons o l c x m k _=>match f s e o l c x m k with
     |.error x=>.error x
     |.ok (t,s1)=>match Da s1 (c0 bX) t l c with
       |.error x=>.error x
       |.ok s2=>.ok (Au s2))
 else (match kids with
   |.nil=>.ok (.var 0,s)
   |.cons o l c x m k _=>f s e o l c x m k)
def AJ:Nat→Hq
 |0,_,_,_,ln,co,_,_,_=>.error (ln,co,11)
 |n+1,s,e,op,ln,co,tx,_,kids=>match AQ n (AJ n) s e op ln co tx kids with
   |.error x=>.error x
   |.ok (t,s1)=>match Ds s1 t ln co with
     |.error x=>.error x
     |.ok _=>.ok (t,s1)
def H6:lU:=[32,105,110,116,32,102,108,111,97,116,32,115,116,114,105,110,103,32,117,110,105,116,32,98,111,111,108,32,101,120,110,32]
def RL:lU:=[32,116,117,112,108,101,32,114,101,102,32,112,114,101,102,32]
def G3(datas:List (lU×Int))(vars:List (lU×T1)):Nd→RI Ty
 |.nil=>.ok .nil
 |.cons op ln co tx _ kids r =>
   let one:RI T1:=if op==31 then (match Cb vars tx with
       |some t=>.ok t
       |none=>.error (ln,co,11))
     else if (if DH H6 ([32]++tx++[32]) then (kids.len:Int)==0
         else if tx==D2 then (kids.len:Int)==2
         else if DH RL ([32]++tx++[32]) then true
         else match Cb datas tx with|some c=>c==(kids.len:Int)|none=>false)
       then (match G3 datas vars kids with|.error x=>.error x|.ok k=>.ok (.con tx k))
       else .error (ln,co,11)
   match one with
   |.error x=>.error x
   |.ok t=>match G3 datas vars r with
     |.error x=>.error x
     |.ok l=>.ok (t.cons l)
def EC(ln co:Int):Nd→Int→List (lU×T1)→Ty→List Int→RI (Int×List (lU×T1)×Ty×List Int)
 |.nil,v,m,self,h=>.ok (v,m,self,h)
 |.cons op _ _ tx _ _ r,v,m,self,h =>
   if op==31 then (if (Cb m tx).isSome then .error (ln,co,11) else EC ln co r (v-1) ((tx,.var (v-1))::m) (self.snoc (.var (v-1))) (h++[v-1]))
   else EC ln co r v m self h
def DV(datas:List (lU×Int))(m:List (lU×T1))(out:T1)(h:List Int):Nd→List (lU×Mk)→RI (List (lU×Mk))
 |.nil,c=>.ok c
 |.cons op ln co tx _ kids r,c =>
   if op==42 then (if (Cb c tx).isSome then .error (ln,co,11) else match G3 datas m kids with
     |.error x=>.error x
     |.ok args=>DV datas m out h r ((tx,⟨args,out,h⟩)::c))
   else DV datas m out h r c
def HM(s:CS)(ln co:Int)(tx:lU)(kids:Nd):RI CS :=
 if (Cb s.datas tx).isSome||DH H6 ([32]++tx++[32]) then .error (ln,co,11)
 else match EC ln co kids s.vars [] .nil [] with
   |.error x=>.error x
   |.ok (v,m,self,h) =>
     let datas:=(tx,(h.length:Int))::s.datas
     match DV datas m (.con tx self) h kids s.cons with
     |.error x=>.error x
     |.ok cons=>.ok {s with datas:=datas,cons:=cons,vars:=v}
def DT(s:CS)(e:AB)(op ln co:Int)(tx:lU)(kids:Nd):RI (Option (lU×T1)×AB×CS) :=
 if op==41 then (match HM s ln co tx kids with
   |.error x=>.error x
   |.ok s1=>.ok (none,e,s1))
 else match kids with
   |.nil=>.ok (some (tx,.var 0),e,s)
   |.cons o l c x m k r =>
     if op==43 then (if s.roots.contains tx then .error (ln,co,11) else match G3 s.datas [] (.cons o l c x m k .nil) with
         |.error x=>.error x
         |.ok w=>match r with
           |.nil=>.ok (some (tx,.var 0),e,s)
           |.cons D F c2 G m2 k2 _=>match AJ (k2.size+1) {s with roots:=tx::s.roots} e D F c2 G m2 k2 with
             |.error x=>.error x
             |.ok (t2,s1)=>match Da s1 w.hd t2 ln co with
               |.error x=>.error x
               |.ok s2=>.ok (some (tx,.con Dv w),⟨tx,.con Dv w,[]⟩::e,s2))
     else if op==44 then (match AJ (k.size+1) s e o l c x m k with
       |.error x=>.error x
       |.ok (t,s1)=>match DG s1 e tx t (Br (k.size+1) o k) ln co with
         |.error x=>.error x
         |.ok h=>.ok (some (tx,t),h,s1))
     else if op==45 then (match EG (AJ (k.size+1)) s e ln co tx o l c x m k with
       |.error x=>.error x
       |.ok (t,s1)=>match DG s1 e tx t true ln co with
         |.error x=>.error x
         |.ok h=>.ok (some (tx,t),h,s1))
     else (match AJ (k.size+1) s e o l c x m k with
       |.error x=>.error x
       |.ok (t,s1)=>.ok (some ([],t),e,s1))
def EA:CS→AB→Nd→List (lU×T1)→RI (List (lU×T1)×CS)
 |s,_,.nil,out=>.ok (out,s)
 |s,e,.cons op ln co tx _ k r,out=>match DT s e op ln co tx k with
   |.error x=>.error x
   |.ok (none,h,s1)=>EA s1 h r out
   |.ok (some b,h,s1)=>EA s1 h r (out++[b])
def VU:Nat→Nat→lU
 |0,_=>[]
 |k+1,n=>if n<10 then [UInt8.ofNat (48+n)] else VU k (n / 10)++[UInt8.ofNat (48+n % 10)]
def DM(i:Nat):lU:=[39,UInt8.ofNat (97+i % 26)]++(if i<26 then [] else VU 20 (i / 26))
def C4(vs:List Int):Ty→lU
 |.nil=>[]
 |.var n r=>32::((match C1 vs n with|some i=>DM i|none=>[])++C4 vs r)
 |.con tx .nil r=>32::(tx++C4 vs r)
 |.con tx k r=>32::([40]++tx++C4 vs k++[41]++C4 vs r)
def De(t:T1):lU:=(C4 (Ak t) t.one).drop 1
def Jn(s:CS):List (lU×T1)→RI (List (lU×lU))
 | []=>.ok []
 |(n,t)::l=>match Ds s t 0 0 with
   |.error x=>.error x
   |.ok f=>match Jn s l with
     |.error x=>.error x
     |.ok r=>.ok ((n,De f)::r)
def aI:Int := -1
def vO:List (lU×Ty) :=
 let n:=c0 bI;let f:=c0 bF;let s:=c0 bS;let b:=c0 bB;let u:=c0 bU
 let a:=T1.var aI;let r:=T1.con MD a.one;let p:=T1.con Dv a.one
 let D (x y:T1):Ty:=x.cons y.one
 let F (x y z:T1):Ty:=x.cons (y.cons z.one)
 let h (names:List lU) (t:Ty):List (lU×Ty):=names.map λx=>(x,t)
 h [[43],[45],[42],[100,105,118],[109,111,100]] (F n n n)++h [[110,101,103]] (D n n)++h [[60],[60,61],[61]] (F n n b) ++
 h [[102,43],[102,45],[102,42],[102,47]] (F f f f)++h [[102,115,113,114,116],[102,110,101,103]] (D f f)++h [[102,60],[102,61],[102,97,104,101,97,100]] (F f f b) ++
 h [[105,116,111,102]] (D n f)++h [[102,116,111,105]] (D f n)++h [[102,98,105,116,115]] (D f s)++h [[110,97,110],[105,110,102]] f.one ++
 h [[99,97,116]] (F s s s)++h [[108,101,110],[111,114,100],[97,116,111,105]] (D s n)++h [[115,117,98]] (s.cons (F n n s))++h [[115,61],[115,60]] (F s s b) ++
 h [[105,116,111,97],[99,104,114]] (D n s)++h [[112,114,105,110,116]] (D s u)++h [[114,101,97,100]] (D u s)++h [[114,101,102]] (D a r)++h [[103,101,116]] (D r a) ++
 h [[115,101,116]] (F r a u)++h [[110,101,119]] (D a p)++h [[108,111,97,100]] (D p a)++h [[115,116,111,114,101]] (F p a u)
def B5:AB:=(vO.map λp=>(⟨p.1,Gf p.2,[aI]⟩:Bd)).reverse
def iF:List (lU×Mk) :=
 [([70,97,105,108],⟨(c0 bS).one,c0 bX,[]⟩),([79,117,116],⟨.nil,c0 bX,[]⟩),([75,101,101,112],⟨.nil,c0 bX,[]⟩),([65,98,111,114,116],⟨.nil,c0 bX,[]⟩),([77,97,116,99,104],⟨.nil,c0 bX,[]⟩),([68,105,118],⟨.nil,c0 bX,[]⟩),
  ([84,114,117,101],⟨.nil,c0 bB,[]⟩),([70,97,108,115,101],⟨.nil,c0 bB,[]⟩)]
def ES:CS:=⟨[],0,iF,[],[],-1⟩
def CY(nds:Nd):RI (List (lU×lU)):=match EA ES B5 nds [] with
 |.error x=>.error x
 |.ok (out,s)=>Jn s out
end Go.SP
namespace Go.SP
open Go.SW Go.RowKit
namespace T1
def op:T1→Int
 |.var _=>0
 |.con _ _=>1
def num:T1→Int
 |.var n=>n
 |.con _ _=>0
def tx:T1→lU
 |.var _=>[]
 |.con t _=>t
def kids:T1→Ty
 |.var _=>.nil
 |.con _ k=>k
end T1
def tC(t:T1)(a:oA)(c:Nat):lV:=[.int .i64 t.op,.int .i64 t.num,S t.tx,.slice a t.kids.len c]
abbrev tV(t:T1)(a:oA)(c:Nat):Value:=.agg #[.int .i64 t.op,.int .i64 t.num,S t.tx,.slice a t.kids.len c]
def Jf(w:wO)(f:Fq):Ty→Nat→Nat→Prop
 |.nil,_,_=>True
 |.var n r,b,off=>(∃a c,Cs w f b off [.int .i64 0,.int .i64 n,S [],.slice a 0 c])∧Jf w f r b (off+4)
 |.con tx k r,b,off=>(∃a c,Cs w f b off [.int .i64 1,.int .i64 0,S tx,.slice a k.len c]∧k.len≤c∧(k=.nil∨∃b' h,a=some ⟨b',h,none⟩∧Jf w f k b' h))∧Jf w f r b (off+4)
def Ai(w:wO)(f:Fq)(k:Ty)(a:oA)(c:Nat):Prop:=k.len≤c∧(k=.nil∨∃b off,a=some ⟨b,off,none⟩∧Jf w f k b off)
variable {f f':Fq}{co ln:Int}{l:lV}{b i off:Nat}{U:Nat→Prop}{k r:Nd}{a:oA}{T:tI}{w w':wO}
theorem Jf.mono(D:Ji w f w' f'):∀(k:Ty)(b off:Nat),Jf w f k b off→Jf w' f' k b off
 |.nil,_,_,_=>trivial
 |.var _ r,b,off,⟨⟨a,c,F⟩,G⟩=>⟨⟨a,c,F.mono D⟩,Jf.mono D r b _ G⟩
 |.con _ k r,b,off,⟨⟨a,c,F,G,J⟩,K⟩=>⟨⟨a,c,F.mono D,G,J.imp id λ⟨b',h,L,O⟩=>⟨b',h,L,Jf.mono D k b' h O⟩⟩,Jf.mono D r b _ K⟩
theorem Ai.mono{k:Ty}{c:Nat}:G0 (λw f=>Ai w f k a c):=λ_ _ _ _ h D=>⟨h.1,h.2.imp id λ⟨b,off,F,G⟩=>⟨b,off,F,Jf.mono D k b off G⟩⟩
theorem Ai.nil(w:wO)(f:Fq)(a:oA)(c:Nat):Ai w f .nil a c:=⟨Nat.zero_le _,.inl C⟩
theorem Jf.cons{t:T1}{r:Ty}:Jf w f (t.cons r) b off↔(∃a c,Cs w f b off (tC t a c)∧Ai w f t.kids a c)∧Jf w f r b (off+4):=by
 cases t with
 |var n=>exact⟨λ⟨⟨a,c,D⟩,h⟩=>⟨⟨a,c,D,Ai.nil _ _ _ _⟩,h⟩,λ⟨⟨a,c,D,_⟩,h⟩=>⟨⟨a,c,D⟩,h⟩⟩
 |con tx k=>exact⟨λ⟨⟨a,c,D,h,G⟩,F⟩=>⟨⟨a,c,D,h,G⟩,F⟩,λ⟨⟨a,c,D,h⟩,F⟩=>⟨⟨a,c,D,h.1,h.2⟩,F⟩⟩
theorem Jf.app:∀{x y:Ty}{b off:Nat},Jf w f x b off→Jf w f y b (off+x.len*4)→Jf w f (x.app y) b off
 |.nil,_,b,off,_,h=>by simpa[Ty.len,Ty.app] using h
 |.var _ r,y,b,off,h,D=>⟨h.1,Jf.app h.2 (by rw[show off+4+r.len*4=off+(r.len+1)*4 by omega];exact D)⟩
 |.con _ _ r,y,b,off,h,D=>⟨h.1,Jf.app h.2 (by rw[show off+4+r.len*4=off+(r.len+1)*4 by omega];exact D)⟩
def Cc(w:wO)(f:Fq)(a:oA)(i:Nat)(r:Ty):Prop:=r=.nil∨∃b off,a=some ⟨b,off,none⟩∧Jf w f r b (off+i*4)
theorem Cc.mono{r:Ty}:G0 (λw f=>Cc w f a i r):=λ_ _ _ _ h D=>h.imp id λ⟨b,off,F,G⟩=>⟨b,off,F,Jf.mono D r b _ G⟩
theorem Ai.at{k:Ty}{c:Nat}(h:Ai w f k a c):Cc w f a 0 k:=h.2.imp id λ⟨b,off,D,F⟩=>⟨b,off,D,by simpa using F⟩
theorem Cc.head{t:T1}{r:Ty}(h:Cc w f a i (t.cons r)):∃b off ka kc,a=some ⟨b,off,none⟩∧Cs w f b (off+i*4) (tC t ka kc)∧Ai w f t.kids ka kc∧Cc w f a (i+1) r:=by
 rcases h with h|⟨b,off,D,F⟩
 · cases t <;> cases h
 · obtain⟨⟨ka,kc,G,J⟩,K⟩:=Jf.cons.1 F
   exact⟨b,off,ka,kc,D,G,J,.inr ⟨b,off,D,by rw[show off+(i+1)*4=off+i*4+4 by omega];exact K⟩⟩
def Za(w:wO)(f:Fq):Nd→Nat→Nat→Prop
 |.nil,_,_=>True
 |.cons op ln co tx nm k r,b,off=>(∃a c,Cs w f b off [.int .i64 op,.int .i64 ln,.int .i64 co,S tx,.int .i64 nm,.slice a k.len c]∧k.len≤c∧(k=.nil∨∃b' h,a=some ⟨b',h,none⟩∧Za w f k b' h))∧Za w f r b (off+6)
def Ba(w:wO)(f:Fq)(k:Nd)(a:oA)(c:Nat):Prop:=k.len≤c∧(k=.nil∨∃b off,a=some ⟨b,off,none⟩∧Za w f k b off)
theorem Za.mono(D:Ji w f w' f'):∀(k:Nd)(b off:Nat),Za w f k b off→Za w' f' k b off
 |.nil,_,_,_=>trivial
 |.cons _ _ _ _ _ k r,b,off,⟨⟨a,c,F,G,J⟩,K⟩=>⟨⟨a,c,F.mono D,G,J.imp id λ⟨b',h,L,O⟩=>⟨b',h,L,Za.mono D k b' h O⟩⟩,Za.mono D r b _ K⟩
theorem Ba.mono{c:Nat}:G0 (λw f=>Ba w f k a c):=λ_ _ _ _ h D=>⟨h.1,h.2.imp id λ⟨b,off,F,G⟩=>⟨b,off,F,Za.mono D k b off G⟩⟩
def B2(w:wO)(f:Fq)(a:oA)(i:Nat)(r:Nd):Prop:=r=.nil∨∃b off,a=some ⟨b,off,none⟩∧Za w f r b (off+i*6)
theorem B2.mono:G0 (λw f=>B2 w f a i r):=λ_ _ _ _ h D=>h.imp id λ⟨b,off,F,G⟩=>⟨b,off,F,Za.mono D r b _ G⟩
theorem Ba.at{c:Nat}(h:Ba w f k a c):B2 w f a 0 k:=h.2.imp id λ⟨b,off,D,F⟩=>⟨b,off,D,by simpa using F⟩
def Nk(op ln co:Int)(tx:lU)(nm:Int)(a:oA)(n c:Nat):lV:=[.int .i64 op,.int .i64 ln,.int .i64 co,S tx,.int .i64 nm,.slice a n c]
theorem B2.head{op nm:Int}{tx:lU}(h:B2 w f a i (.cons op ln co tx nm k r)):∃b off ka kc,a=some ⟨b,off,none⟩∧Cs w f b (off+i*6) (Nk op ln co tx nm ka k.len kc)∧Ba w f k ka kc∧B2 w f a (i+1) r:=by
 rcases h with h|⟨b,off,D,⟨ka,kc,F,G⟩,J⟩
 · cases h
 · exact⟨b,off,ka,kc,D,F,G,.inr ⟨b,off,D,by rw[show off+(i+1)*6=off+i*6+6 by omega];exact J⟩⟩
def Uj(w:wO):Fq:=λb=>match w.heap[b]? with
 |some (.cells cs _ (0,0))=>cs.size
 |_=>0
theorem Cs.all{m:lV}(D:AS w b l T)(h:l.drop off=m):Cs w (Uj w) b off m:=λj v G=>by
 have F:l[off+j]?=some v:=by rw[← List.getElem?_drop,h,G]
 obtain⟨J,_⟩:=List.getElem?_eq_some_iff.1 F;refine⟨?_,by rw[D.cell,F]⟩;unfold Uj;unfold AS at D;rw[D];simpa using J
theorem Cs.le{m:lV}(h:Cs w f b off (l++m)):Cs w f b off l:=λj v D=>h j v (by
 obtain⟨F,_⟩:=List.getElem?_eq_some_iff.1 D;rw[List.getElem?_append_left F];exact D)
theorem Gd.toG(D:AS w b l T):∀(k:Nd)(off:Nat),Gd U w k (l.drop off)→(∀(h:Nd)(a:oA)(n c:Nat),h.size<k.size→HC U w a n c h→Ba w (Uj w) h a c)→Za w (Uj w) k b off
 |.nil,_,_,_=>trivial
 |.cons op ln co tx nm kids r,off,⟨a,n,c,l',F,G,K⟩,J=>by
   have L:n=kids.len:=G.1;have O:=J kids a n c (by simp only[Nd.size];omega) G;refine⟨⟨a,c,?_,O⟩,Gd.toG D r (off+6) ?_ (λh a n c Q=>J h a n c (by simp only[Nd.size];omega))⟩
   · have:=Cs.all D F
     rw[L] at this;exact Cs.le (m:=l') this
   · rw[← List.drop_drop,F];exact K
theorem HC.toF:∀(m:Nat)(k:Nd)(a:oA)(n c:Nat),k.size<m→HC U w a n c k→Ba w (Uj w) k a c
 |0,_,_,_,_,h,_=>by omega
 |m+1,k,a,n,c,hm,⟨F,O,D⟩=>by
   refine⟨oM,?_⟩;rcases D with D|⟨b,off,l,T,_,G,J,K⟩
   · left
     cases k with
     |nil=>rfl
     |cons _ _ _ _ _ _ _=>rw[D] at F;cases F
   · exact .inr ⟨b,off,G,Gd.toG J k off K (λL a n c Q=>HC.toF m L a n c oM)⟩
end Go.SP
namespace Go.SP
open Go.SW Go.RowKit
def Ci(w:wO)(f:Fq)(l:List Int)(a:oA)(c:Nat):Prop:=l.length≤c∧(l=[]∨∃b off,a=some ⟨b,off,none⟩∧Cs w f b off (l.map λn=>Value.int .i64 n))
variable {f:Fq}{l:lV}{b i off:Nat}{a:oA}{w:wO}
theorem Ci.mono{l:List Int}{c:Nat}:G0 (λw f=>Ci w f l a c):=λ_ _ _ _ h D=>⟨h.1,h.2.imp id λ⟨b,off,F,G⟩=>⟨b,off,F,G.mono D⟩⟩
theorem Cs.at{v:Value}(h:Cs w f b off l)(F:l[i]?=some v):Cs w f b (off+i) [v]:=λj u D=>by
 cases j with
 |zero=>simp at D;subst D;simpa using h i v F
 |succ j=>simp at D
theorem Ci.get{l:List Int}{c:Nat}{n:Int}(h:Ci w f l a c)(D:l[i]?=some n):∃b off,a=some ⟨b,off,none⟩∧Cs w f b (off+i*1) [.int .i64 n]:=by
 rcases h.2 with h|⟨b,off,F,G⟩
 · subst h;simp at D
 · exact⟨b,off,F,by rw[Nat.mul_one];exact Cs.at G (by rw[List.getElem?_map,D];rfl)⟩
theorem MR{n:Int}:∀{l:List Int},C1 l n=none→l.contains n=false
 | [],_=>rfl
 |k::l,h=>by
   unfold C1 at h
   split at h
   · cases h
   · rename_i D
     have:C1 l n=none:=by cases F:C1 l n with|none=>rfl|some i=>rw[F] at h;cases h
     rw[List.contains_cons,MR this];have:¬n=k:=λe=>D (by simp[e]);simp[this]
theorem Il{n:Int}:∀{l:List Int}{i:Nat},C1 l n=some i→l.contains n=true∧i<l.length∧l[i]?=some n
 | [],_,h=>by cases h
 |k::l,i,h=>by
   unfold C1 at h
   split at h
   · rename_i F
     have e:k=n:=by simpa using F
     cases h
     subst e;simp
   · cases D:C1 l n with
     |none=>rw[D] at h;cases h
     |some j =>
       rw[D] at h
       cases h
       have:=Il D;exact⟨by rw[List.contains_cons,this.1,Bool.or_true],by simp;exact this.2.1,by simpa using this.2.2⟩
theorem X7{n:Int}:∀{l:List Int}{i:Nat},(l.take i).contains n=false→l[i]?=some n→C1 l n=some i
 | [],i,_,h=>by simp at h
 |k::l,0,_,h=>by simp at h;subst h;simp[C1]
 |k::l,i+1,D,h=>by
   simp only[List.take_succ_cons,List.contains_cons,Bool.or_eq_false_iff] at D
   have F:(k==n)=false:=by
     have:=D.1
     cases G:k==n with
     |false=>rfl
     |true =>
       have e:k=n:=by simpa using G
       subst e;simp at this
   have:=X7 D.2 (by simpa using h);simp[C1,F,this]
theorem NB{n:Int}{l:List Int}(h:l.contains n=false):C1 l n=none:=by
 cases D:C1 l n with
 |none=>rfl
 |some i=>rw[(Il D).1] at h;cases h
def ZH(l:List Int)(n:Int):Int:=match C1 l n with
 |some i=>i
 |none => -1
theorem D6{α:Type}{l:List α}{x:α}(h:l[i]?=some x):l.take (i+1)=l.take i++[x]:=by
 obtain⟨D,he⟩:=List.getElem?_eq_some_iff.1 h;rw[List.take_succ_eq_append_getElem D,he]
end Go.SP
namespace Go.SP
open Go.SW Go.RowKit
def Ty.size:Ty→Nat
 |.nil=>0
 |.var _ r=>r.size+1
 |.con _ k r=>k.size+r.size+1
def Ty.bnd:Ty→Prop
 |.nil=>True
 |.var _ r=>r.bnd
 |.con tx k r=>(k.len≤200000∧tx.length≤1000000)∧k.bnd∧r.bnd
def T1.bnd(t:T1):Prop:=(t.kids.len≤200000∧t.tx.length≤1000000)∧t.kids.bnd
theorem T1.bnd_cons{t:T1}{r:Ty}:(t.cons r).bnd↔t.bnd∧r.bnd:=by
 cases t with
 |var n=>exact⟨λh=>⟨⟨⟨Nat.zero_le _,Nat.zero_le _⟩,tQ⟩,h⟩,λh=>h.2⟩
 |con tx k=>exact⟨λh=>⟨⟨h.1,h.2.1⟩,h.2.2⟩,λh=>⟨h.1.1,h.1.2,h.2⟩⟩
theorem T1.len_cons(t:T1)(r:Ty):(t.cons r).len=r.len+1:=by cases t <;> rfl
theorem T1.size_cons(t:T1)(r:Ty):(t.cons r).size=t.kids.size+r.size+1:=by cases t <;> simp[T1.cons,Ty.size,T1.kids]
theorem Ty.len_app:∀x y:Ty,(x.app y).len=x.len+y.len
 |.nil,y=>by simp[Ty.app,Ty.len]
 |.var _ r,y=>by simp[Ty.app,Ty.len,Ty.len_app r y];omega
 |.con _ _ r,y=>by simp[Ty.app,Ty.len,Ty.len_app r y];omega
theorem Ty.app_assoc:∀x y z:Ty,(x.app y).app z=x.app (y.app z)
 |.nil,_,_=>rfl
 |.var _ r,y,z=>by simp[Ty.app,Ty.app_assoc r y z]
 |.con _ _ r,y,z=>by simp[Ty.app,Ty.app_assoc r y z]
theorem Ty.app_nil:∀x:Ty,x.app .nil=x
 |.nil=>rfl
 |.var _ r=>by simp[Ty.app,Ty.app_nil r]
 |.con _ _ r=>by simp[Ty.app,Ty.app_nil r]
theorem T1.one_app(t:T1)(r:Ty):t.one.app r=t.cons r:=by cases t <;> rfl
theorem Ty.len_snoc(x:Ty)(t:T1):(x.snoc t).len=x.len+1:=by unfold Ty.snoc T1.one;rw[Ty.len_app,T1.len_cons];rfl
theorem Ty.snoc_app(x:Ty)(t:T1)(r:Ty):(x.snoc t).app r=x.app (t.cons r):=by unfold Ty.snoc;rw[Ty.app_assoc,T1.one_app]
theorem Ty.cases1(k:Ty)(h:0<k.len):∃t r,k=T1.cons t r:=by
 cases k with
 |nil=>simp[Ty.len] at h
 |var n r=>exact⟨.var n,r,C⟩
 |con tx k r=>exact⟨.con tx k,r,C⟩
theorem Ty.len0{k:Ty}(h:k.len=0):k=.nil:=by cases k <;> simp_all [Ty.len]
def Bn(w:wO)(f:Fq):Ty→lV→Prop
 |.nil,xs=>xs=[]
 |.var n r,xs=>∃a c xs',xs=[.int .i64 0,.int .i64 n,S [],.slice a 0 c]++xs'∧Bn w f r xs'
 |.con tx k r,xs=>∃a c xs',xs=[.int .i64 1,.int .i64 0,S tx,.slice a k.len c]++xs'∧Ai w f k a c∧Bn w f r xs'
variable {f f':Fq}{l xs:lV}{b off:Nat}{a:oA}{w w':wO}
theorem Bn.mono'(D:Ji w f w' f'):∀(k:Ty)(xs:lV),Bn w f k xs→Bn w' f' k xs
 |.nil,_,h=>h
 |.var _ r,_,⟨a,c,xs',F,G⟩=>⟨a,c,xs',F,Bn.mono' D r xs' G⟩
 |.con _ k r,_,⟨a,c,xs',F,G,J⟩=>⟨a,c,xs',F,Ai.mono _ _ _ _ G D,Bn.mono' D r xs' J⟩
theorem Bn.mono{k:Ty}:G0 (λw f=>Bn w f k xs):=λ_ _ _ _ h D=>Bn.mono' D k xs h
theorem Bn.snoc{t:T1}{c:Nat}(D:Ai w f t.kids a c):∀{k:Ty}{xs:lV},Bn w f k xs→Bn w f (k.snoc t) (xs++tC t a c)
 |.nil,xs,h=>by
   have h:xs=[]:=h;subst h
   cases t with
   |var n=>exact⟨a,c,[],C,C⟩
   |con tx k=>exact⟨a,c,[],C,D,C⟩
 |.var _ r,_,⟨a',c',xs',F,G⟩=>⟨a',c',xs'++tC t a c,by rw[F,List.append_assoc],Bn.snoc D G⟩
 |.con _ k r,_,⟨a',c',xs',F,G,J⟩=>⟨a',c',xs'++tC t a c,by rw[F,List.append_assoc],G,Bn.snoc D J⟩
theorem Cs.drop{m:lV}(h:Cs w f b off (l++m)):Cs w f b (off+l.length) m:=λj v D=>by
 have:=h (l.length+j) v (by rw[List.getElem?_append_right (by omega)];simpa using D);rwa[← Nat.add_assoc] at this
theorem Bn.toG:∀{k:Ty}{xs:lV}{off:Nat},Bn w f k xs→Cs w f b off xs→Jf w f k b off
 |.nil,_,_,_,_=>trivial
 |.var _ r,_,off,⟨a,c,xs',D,F⟩,h=>by
   subst D;exact⟨⟨a,c,Cs.le h⟩,Bn.toG F (Cs.drop h)⟩
 |.con _ k r,_,off,⟨a,c,xs',D,F,G⟩,h=>by
   subst D;exact⟨⟨a,c,Cs.le h,F⟩,Bn.toG G (Cs.drop h)⟩
theorem Bn.toF{c:Nat}{k:Ty}(h:Bn w f k xs)(D:Cs w f b 0 xs)(F:k.len≤c):Ai w f k (some ⟨b,0,none⟩) c:=⟨F,.inr ⟨b,0,C,Bn.toG h D⟩⟩
theorem Bn.len:∀{k:Ty}{xs:lV},Bn w f k xs→xs.length=k.len*4
 |.nil,xs,h=>by have h:xs=[]:=h;subst h;rfl
 |.var _ r,_,⟨a,c,xs',D,F⟩=>by subst D;have:=Bn.len F;simp[Ty.len,this];omega
 |.con _ k r,_,⟨a,c,xs',D,F,G⟩=>by subst D;have:=Bn.len G;simp[Ty.len,this];omega
theorem T4(a b c vs:lV)(h:b.length=vs.length):EF (a++(b++c)) a.length vs=(a++vs)++c:=by
 rw[N5 vs _ _ (by simp;omega)];have D:(a++(b++c)).take a.length=a:=by simp
 have F:(a++(b++c)).drop (a.length+vs.length)=c:=by
   rw[← List.drop_drop];simp[← h]
 rw[D,F]
def OwnF(P:Program)(h:FuncId)(m:Nat):Prop:=∀(w:wO)(f:Fq)(_:Vl w f)(t:T1)(a:oA)(c:Nat),t.kids.size<m→t.bnd→Ai w f t.kids a c →
 BF P h #[tV t a c] w (Ce (α:=oA×Nat) (λx=>tV t x.1 x.2) (λ_=>True) (λx=>[λw f=>Ai w f t.kids x.1 x.2]) w f)
end Go.SP
namespace Go.SP
open Go.SW Go.RowKit
theorem eZ(t:T1)(a:oA)(c:Nat):∀v∈tC t a c,v.oneCell'=true:=by
 intro v h;unfold tC at h;simp only[List.mem_cons,List.not_mem_nil,or_false] at h;rcases h with rfl|rfl|rfl|rfl <;> rfl
variable {f:Fq}{b:Nat}{w:wO}
theorem Jf.cells:∀{k:Ty}{off:Nat},Jf w f k b off→∃xs,Bn w f k xs∧Cs w f b off xs∧∀v∈xs,v.oneCell'=true
 |.nil,_,_=>⟨[],C,(λj v F=>by simp at F),λv D=>by cases D⟩
 |.var n r,off,⟨⟨a,c,G⟩,J⟩=>by
   obtain⟨xs,K,L,O⟩:=Jf.cells J;refine⟨_++xs,⟨a,c,xs,C,K⟩,?_,?_⟩
   · intro j v F
     rcases Nat.lt_or_ge j 4 with h|h
     · exact G j v (by rwa[List.getElem?_append_left (by simpa using h)] at F)
     · rw[List.getElem?_append_right (by simpa using h)] at F
       have:=L (j-4) v (by simpa using F);rwa[show off+4+(j-4)=off+j by omega] at this
   · intro v D
     rcases List.mem_append.1 D with D|D
     · exact eZ (.var n) a c v D
     · exact O v D
 |.con tx k r,off,⟨⟨a,c,G,Q⟩,J⟩=>by
   obtain⟨xs,K,L,O⟩:=Jf.cells J;refine⟨_++xs,⟨a,c,xs,C,Q,K⟩,?_,?_⟩
   · intro j v F
     rcases Nat.lt_or_ge j 4 with h|h
     · exact G j v (by rwa[List.getElem?_append_left (by simpa using h)] at F)
     · rw[List.getElem?_append_right (by simpa using h)] at F
       have:=L (j-4) v (by simpa using F);rwa[show off+4+(j-4)=off+j by omega] at this
   · intro v D
     rcases List.mem_append.1 D with D|D
     · exact eZ (.con tx k) a c v D
     · exact O v D
end Go.SP
namespace Go.SP
open Go.SW Go.RowKit
variable {X:Cx}{f:Fq}{Fs:List (wO→Fq→Prop)}{B:List FB}{H:List HB}{xs:lV}{m:Nat}{a:oA}{e:tI}{w:wO}
theorem OQ{R:List RB}{c:Nat}{k:Ty}(G:AU X w f H (⟨e,4,a,c,m,xs⟩::R) B Fs)(J:Bn w f k xs)(O:0<k.len):∃f',AU X w f' H R B Fs∧Ai w f' k a c:=by
 have K:=G.row _ (.head _);have hlen:=Bn.len J;have hm:m=k.len:=by have:=K.1;simp only at this;omega
 rcases K.2 with ⟨_,_,h⟩|⟨b,l,L,_,F,_⟩
 · simp only at h;omega
 · simp only at L F
   subst L;obtain⟨f',D⟩:=(G.more (B':=[]) (F':=[λw f=>Bn w f k xs]) (λ_ h=>by cases h) (AM.mem ⟨J,tQ⟩) (A2.mem ⟨Bn.mono,tQ⟩)).done (i:=0) C C;exact⟨f',D.less (List.Sublist.refl _) (List.Sublist.refl _) (λe he=>.tail _ he) (λφ h=>.tail _ h),Bn.toF (D.fact (i:=0) C) (D.fro _ (.head _)) oM⟩
end Go.SP
namespace Go.SP
open Go.SW Go.RowKit
variable {f:Fq}{a:oA}{w:wO}
theorem Ai.cells{k:Ty}{c:Nat}(h:Ai w f k a c)(F:0<k.len):∃x:Nat×Nat×lV,(a=some ⟨x.1,x.2.1,none⟩∧(∀v∈x.2.2,v.oneCell'=true)∧x.2.2.length=k.len*4)∧Cs w f x.1 x.2.1 x.2.2∧Bn w f k x.2.2:=by
 rcases h.2 with h|⟨b,off,G,J⟩
 · subst h;cases F
 · obtain⟨xs,D,K,L⟩:=Jf.cells J
   exact⟨(b,off,xs),⟨G,L,Bn.len D⟩,K,D⟩
def Gu(w:wO)(f:Fq):Bk→List (Int×Value)→Prop
 | [],es=>es=[]
 |(n,t)::s,es=>∃a c h,es=(n,tV t a c)::h∧Ai w f t.kids a c∧Gu w f s h
variable {f':Fq}{fr pr:Int}{Fs:List (wO→Fq→Prop)}{mb sb:Nat}{MI:Nat→Prop}{T:tI}{w':wO}
theorem Gu.mono(F:Ji w f w' f'):∀(s:Bk)(es:List (Int×Value)),Gu w f s es→Gu w' f' s es
 | [],_,h=>h
 |(_,_)::s,_,⟨a,c,D,G,J,K⟩=>⟨a,c,D,G,Ai.mono _ _ _ _ J F,Gu.mono F s D K⟩
def Jl:Bk→Prop
 | []=>True
 |(n,t)::s=>A8 s n=none∧(∀m,t=.var m→m≠n∧A8 s m=none)∧t.bnd∧Jl s
def Lz:Bk→Prop
 | []=>True
 |(n,t)::s=>A8 s n=none∧(∀m,t=.var m→m≠n∧A8 s m=none)∧Lz s
theorem Jl.v:∀{s:Bk},Jl s→Lz s
 | [],_=>trivial
 |(_,_)::_,h=>⟨h.1,h.2.1,Jl.v h.2.2.2⟩
theorem Gu.look:∀{s:Bk}{es:List (Int×Value)},Gu w f s es→∀n,(A8 s n=none→FF es n=none)∧∀t,A8 s n=some t→∃a c,FF es n=some (tV t a c)∧Ai w f t.kids a c
 | [],es,h,n=>by
   have h:es=[]:=h;subst h;exact⟨λ_=>C,λt h=>by cases h⟩
 |(k,t)::s,es,⟨a,c,F,G,J,K⟩,n=>by
   subst G;have L:=Gu.look K n;simp only[A8,FF]
   by_cases D:k=n
   · subst D
     refine⟨λh=>by simp at h,λt' h=>?_⟩;simp at h;subst h;exact⟨a,c,by simp,J⟩
   · have O:(k==n)=false:=by simpa using D
     have Q:(n==k)=false:=by simpa using λe=>D e.symm
     rw[O,Q];simpa using L
theorem Gu.dis:∀{s:Bk}{es:List (Int×Value)},Gu w f s es→Jl s→Lj es
 | [],es,h,_=>by have h:es=[]:=h;subst h;trivial
 |(k,t)::s,es,⟨a,c,F,G,J,D⟩,hw=>by
   subst G;exact⟨(Gu.look D k).1 hw.1,Gu.dis D hw.2.2.2⟩
def BP(T:tI)(sb mb:Nat)(s:Bk)(fr pr:Int)(w:wO)(f:Fq):Prop:=AS w sb [.map (some mb),.int .i64 fr,.int .i64 pr] T∧∃es,Cz Fu w mb es∧Gu w f s es
theorem BP.stab{s:Bk}(D:MI sb)(F:MI mb):G4 MI (BP T sb mb s fr pr):=λ_ _ _ _ ⟨G,es,hm,J⟩ K h=>⟨(h sb D).trans G,es,hm.heap (h mb F),Gu.mono K s es J⟩
abbrev Nn(sb mb:Nat):Nat→Prop:=λb=>b=sb∨b=mb
abbrev XS(T:tI)(sb mb:Nat)(s:Bk)(fr pr:Int)(w:wO)(f:Fq):Cx:=⟨Nn sb mb,Nn sb mb,BP T sb mb s fr pr,w,f⟩
theorem nB{s:Bk}(G:Vl w f)(D:BP T sb mb s fr pr w f)(F:f sb=0∧f mb=0)(J:AM Fs w f)(hm:A2 Fs):AU (XS T sb mb s fr pr w f) w f [] [] [] Fs where
 stp:=Ni.refl _ _
 old _ _:=rfl
 val:=G
 ent:=Ji.refl _ _
 res:=D
 stab:=BP.stab (.inl C) (.inr C)
 mi b K:=by
   rcases K with rfl|rfl
   · exact⟨D.1.lt,F.1,.inr (.inl C)⟩
   · obtain⟨_,es,h,_⟩:=D;exact⟨h.lt,F.2,.inr (.inr C)⟩
 blk _ h:=by cases h
 row _ h:=by cases h
 nd:=List.nodup_nil
 own _ h:=by cases h
 hnw _ h:=by cases h
 rnw _ h:=by cases h
 fro _ h:=by cases h
 fac:=J.mem
 mono:=hm.mem
def JG:Bk→Int→Option Nat
 | [],_=>none
 |(k,_)::s,n=>if k==n then some 0 else (JG s n).map (· + 1)
def Ei(s:Bk):T1→Nat
 |.con _ _=>0
 |.var n=>match JG s n with
   |none=>0
   |some p=>p+1
theorem Ux{n:Int}:∀{s:Bk},A8 s n=none↔JG s n=none
 | []=>by simp[A8,JG]
 |(k,t)::s=>by
   have:=Ux (n:=n) (s:=s);simp only[A8,JG]
   split <;> simp[this]
theorem Jc{n:Int}{t:T1}:∀{s:Bk},Lz s→A8 s n=some t→∃p,JG s n=some p∧Ei s t≤p
 | [],_,h=>by cases h
 |(k,t0)::s,hw,h=>by
   simp only[A8] at h
   split at h
   · rename_i F
     cases h
     have e:k=n:=by simpa using F
     subst e;refine⟨0,by simp[JG],?_⟩
     cases t with
     |con _ _=>simp[Ei]
     |var m =>
       obtain⟨G,D⟩:=hw.2.1 m C;have J:(k==m)=false:=by simpa using λe=>G e.symm
       simp[Ei,JG,J,Ux.1 D]
   · rename_i F
     obtain⟨p,G,D⟩:=Jc hw.2.2 h;have J:(k==n)=false:=by simpa using F
     refine⟨p+1,by simp[JG,J,G],?_⟩
     cases t with
     |con _ _=>simp[Ei]
     |var m =>
       have K:∀s:Bk,Ei s (.var m)=(match JG s m with|none=>0|some p=>p+1):=λ_=>C;rw[K] at D ⊢;simp only[JG]
       cases L:(k==m) with
       |true=>simp
       |false =>
         simp only[Bool.false_eq_true,if_false]
         cases O:JG s m with
         |none=>simp
         |some q =>
           rw[O] at D;simp only[Option.map_some] at D ⊢;have Q:q+1≤p:=D;show q+1+1≤p+1;exact Nat.succ_le_succ Q
theorem V3{n:Int}:∀{s:Bk}{p:Nat},JG s n=some p→p<s.length
 | [],_,h=>by cases h
 |(k,t)::s,p,h=>by
   simp only[JG] at h
   split at h
   · cases h;simp
   · cases D:JG s n with
     |none=>rw[D] at h;cases h
     |some q=>rw[D] at h;cases h;have:=V3 D;simp;exact this
theorem Xk(s:Bk)(t:T1):Ei s t≤s.length:=by
 cases t with
 |con _ _=>simp[Ei]
 |var n =>
   have h:Ei s (.var n)=(match JG s n with|none=>0|some p=>p+1):=rfl;rw[h]
   cases D:JG s n with
   |none=>simp
   |some p=>exact V3 D
theorem L1{s:Bk}(hw:Lz s):∀(k j:Nat)(t:T1),Ei s t≤k→Ei s t≤j→G9 s k t=G9 s j t
 |k,j,.con tx K,_,_=>by cases k <;> cases j <;> rfl
 |k,j,.var n,D,F=>by
   cases h:A8 s n with
   |none =>
     have:∀k,G9 s k (.var n)=.var n:=λk=>by cases k <;> simp[G9,h]
     rw[this,this]
   |some t =>
     obtain⟨p,G,L⟩:=Jc hw h;have J:Ei s (.var n)=p+1:=by simp[Ei,G]
     rw[J] at D F
     cases k with
     |zero=>omega
     |succ k =>
       cases j with
       |zero=>omega
       |succ j =>
         simp only[G9,h];exact L1 hw k j t oM oM
theorem AK{s:Bk}{n:Int}(h:A8 s n=none):Af s (.var n)=.var n:=by simp[Af,G9,h]
theorem Fj(s:Bk)(tx:lU)(k:Ty):Af s (.con tx k)=.con tx k:=rfl
theorem BH{s:Bk}{n:Int}{t:T1}(hw:Lz s)(h:A8 s n=some t):Af s (.var n)=Af s t:=by
 obtain⟨p,D,F⟩:=Jc hw h;have:=V3 D;unfold Af
 conv=>lhs;rw[G9];simp only[h]
 exact L1 hw _ _ t oM (by have:=Xk s t;omega)
theorem F8{s:Bk}{n:Int}{t:T1}(hw:Lz s)(h:A8 s n=some t):Ei s t<Ei s (.var n):=by
 obtain⟨p,D,G⟩:=Jc hw h;have F:Ei s (.var n)=p+1:=by simp[Ei,D]
 rw[F];omega
theorem Wg{s:Bk}{n:Int}{t:T1}(hw:Jl s)(h:A8 s n=some t):Af s (.var n)=Af s t:=BH hw.v h
theorem nF{s:Bk}{n:Int}{t:T1}(hw:Jl s)(h:A8 s n=some t):Ei s t<Ei s (.var n):=F8 hw.v h
theorem Ol{n:Int}{t:T1}:∀{s:Bk},Jl s→A8 s n=some t→t.bnd
 | [],_,h=>by cases h
 |(k,t0)::s,hw,h=>by
   simp only[A8] at h
   split at h
   · cases h;exact hw.2.2.1
   · exact Ol hw.2.2.2 h
theorem EJ{t:T1}(h:(t.op==0)=true):∃n,t=.var n:=by
 cases t with
 |var n=>exact⟨n,C⟩
 |con _ _=>cases h
theorem FY{t:T1}(h:(t.op==0)=false):∃tx k,t=.con tx k:=by
 cases t with
 |var n=>cases h
 |con tx k=>exact⟨tx,k,C⟩
end Go.SP
namespace Go.SW
open Go.RowKit
section
variable{P:Program}{σ:Bp}{w:wO}{ty:tI}
variable {caps:List Operand}{vs:lV}
theorem W4{f:FuncId}{g:Operand}{args:List Operand}{caps:lV}{ts:Array tI}(he:Ca P f)(F:ev σ g=some (.func (.func f) #[] caps.toArray))(G:Jd σ args=some vs) :
   Enters P σ (.call {callee:=.value g,args:=args.toArray,argTypes:=ts}) ty w f (vs++caps).toArray:=λJ _ _ _ _ D=>by
 have h:=EZ D G;have e:=he (vs++caps).toArray w;simp[execOp,resolve,D _ _ F,Deferred.ofValue,invoke,h];simpa using e
theorem Sh{f:FuncId}(F:Jd σ caps=some vs):AR P σ (.makeFunc (.func f) #[] caps.toArray) ty w (.func (.func f) #[] vs.toArray) w:=λG _ _ _ _ D=>by
 have h:=EZ D F;simp[execOp,Instr.makeFunc,h]
end
end Go.SW
namespace Go.SP
open Go.SW Go.RowKit
def B9(b:Bk):Nat→Ty→Option Nat
 |k,.nil=>some k
 |0,.var _ _=>none
 |0,.con _ _ _=>none
 |k+1,.var n r=>match Af b (.var n) with
   |.var _=>B9 b k r
   |.con _ h=>B9 b k (h.app r)
 |k+1,.con _ h r=>B9 b k (h.app r)
theorem DA(b:Bk):∀(k:Nat)(t:Ty),By b k t=(B9 b k t).isSome
 |k,.nil=>by cases k <;> rfl
 |0,.var _ _=>rfl
 |0,.con _ _ _=>rfl
 |k+1,.var n r=>by
   simp only[By,B9]
   cases Af b (.var n) with
   |var _=>exact DA b k r
   |con _ h=>exact DA b k _
 |k+1,.con _ h r=>by simp only[By,B9];exact DA b k _
theorem HL(b:Bk):∀(k:Nat)(x y:Ty),B9 b k (x.app y)=(B9 b k x).bind λj=>B9 b j y
 |k,.nil,y=>by cases k <;> rfl
 |0,.var _ _,y=>rfl
 |0,.con _ _ _,y=>rfl
 |k+1,.var n r,y=>by
   simp only[Ty.app,B9]
   cases Af b (.var n) with
   |var _=>exact HL b k r y
   |con _ h =>
     simp only;rw[← Ty.app_assoc];exact HL b k _ y
 |k+1,.con _ h r,y=>by
   simp only[Ty.app,B9];rw[← Ty.app_assoc];exact HL b k _ y
theorem EH(b:Bk):∀(k:Nat)(x:Ty)(j:Nat),B9 b k x=some j→j≤k
 |k,.nil,j,h=>by cases k <;> (cases h;exact Nat.le_refl _)
 |0,.var _ _,_,h=>by cases h
 |0,.con _ _ _,_,h=>by cases h
 |k+1,.var n r,j,h=>by
   simp only[B9] at h
   split at h
   · have:=EH b k _ j h;omega
   · have:=EH b k _ j h;omega
 |k+1,.con _ D r,j,h=>by
   simp only[B9] at h;have:=EH b k _ j h;omega
theorem Jt(b:Bk)(k:Nat)(t:T1)(r:Ty):B9 b k (t.cons r)=(B9 b k t.one).bind λj=>B9 b j r:=by rw[← T1.one_app,HL]
theorem Kn(b:Bk)(k:Nat)(t:T1):B9 b (k+1) t.one=B9 b k (Af b t).kids:=by
 cases t with
 |var n =>
   simp only[T1.one,T1.cons,B9]
   cases Af b (.var n) with
   |var _=>cases k <;> rfl
   |con _ h=>simp only[Ty.app_nil];rfl
 |con tx h =>
   simp only[T1.one,T1.cons,B9,Fj,Ty.app_nil];rfl
theorem LJ(b:Bk)(t:T1):B9 b 0 t.one=none:=by cases t <;> rfl
theorem Qr{s:Bk}(hw:Jl s):∀(k:Nat)(t:T1),t.bnd→(G9 s k t).bnd
 |0,t,h=>h
 |k+1,.con _ _,h=>h
 |k+1,.var n,h=>by
   simp only[G9]
   split
   · exact h
   · rename_i t' D;exact Qr hw k t' (Ol hw D)
theorem CB{s:Bk}(hw:Jl s){t:T1}(h:t.bnd):(Af s t).bnd:=Qr hw _ t h
end Go.SP
namespace Go.SP
open Go.SW Go.RowKit
variable {f f':Fq}{fr pr:Int}{Fs:List (wO→Fq→Prop)}{l:lV}{mb nb sb:Nat}{M MI:Nat→Prop}{T:tI}{w':wO}
theorem BP.keep{s:Bk}{w:wO}(h:BP T sb mb s fr pr w f)(D:CQ M w f w' f')(G:Ji w f w' f')(J:¬M sb)(K:¬M mb):BP T sb mb s fr pr w' f':=by
 obtain⟨F,es,hm,L⟩:=h;exact⟨(D.stp.block sb F.lt J).trans F,es,hm.heap (D.stp.block mb hm.lt K),Gu.mono G s es L⟩
theorem Aa5{w:wO}(D:Vl w f)(F:AS w nb l T)(G:f nb=0)(J:AM Fs w f)(hm:A2 Fs):AU ⟨λb=>b=nb,λ_=>False,λ_ _=>True,w,f⟩ w f [⟨nb,l,T,false⟩] [] [] Fs where
 stp:=Ni.refl _ _
 old _ _:=rfl
 val:=D
 ent:=Ji.refl _ _
 res:=trivial
 stab _ _ _ _ _ _ _:=trivial
 mi _ h:=h.elim
 blk e h:=by
   rcases List.mem_cons.1 h with rfl|h
   · exact F
   · cases h
 row _ h:=by cases h
 nd:=by simp[CX]
 own b h:=by
   have:b=nb:=by simpa[CX] using h
   subst this;exact⟨G,.inr C,λh=>h⟩
 hnw e h K:=by
   rcases List.mem_cons.1 h with rfl|h
   · cases K
   · cases h
 rnw _ h:=by cases h
 fro _ h:=by cases h
 fac:=J.mem
 mono:=hm.mem
theorem cI{I:wO→Fq→Prop}{w:wO}(G:Vl w f)(J:I w f)(D:G4 M I)(hm:∀b,M b→b<w.heap.size∧f b=0)(K:AM Fs w f)(F:A2 Fs):AU ⟨M,M,I,w,f⟩ w f [] [] [] Fs where
 stp:=Ni.refl _ _
 old _ _:=rfl
 val:=G
 ent:=Ji.refl _ _
 res:=J
 stab:=D
 mi b h:=⟨(hm b h).1,(hm b h).2,.inr h⟩
 blk _ h:=by cases h
 row _ h:=by cases h
 nd:=List.nodup_nil
 own _ h:=by cases h
 hnw _ h:=by cases h
 rnw _ h:=by cases h
 fro _ h:=by cases h
 fac:=K.mem
 mono:=F.mem
def K7(nb:Nat)(n:Int)(w:wO)(_:Fq):Prop:=AS w nb [.int .i64 n] 3
theorem K7.stab{n:Int}(h:MI nb):G4 MI (K7 nb n):=λ_ _ _ _ D _ hm=>(hm nb h).trans D
def VisF(P:Program)(h:FuncId)(T:tI)(g:FuncId)(k:Nat):Prop:=∀(w:wO)(f:Fq)(_:Vl w f)(sb mb:Nat)(s:Bk)(fr pr:Int)(nb:Nat),BP T sb mb s fr pr w f→Jl s→sb≠nb→mb≠nb→f nb=0→K7 nb (1000-(k:Int)) w f→k≤1000→∀(t:T1)(a:oA)(c:Nat),t.bnd→Ai w f t.kids a c →
 BF P h #[.pointer (some ⟨sb,0,none⟩),tV t a c,.func (.func g) #[] #[.pointer (some ⟨nb,0,none⟩)]] w (Fv (α:=Int) (λ_=>.bool (B9 s k t.one).isSome) (λx=>∀j,B9 s k t.one=some j→x=1000-(j:Int)) (λb=>b=nb) (λx=>K7 nb x) (λ_=>[]) w f)
end Go.SP
namespace Go.SW
open Go.RowKit
variable {Q:Bh}{nw:Bool}{X:Cx}{f:Fq}{Fs:List (wO→Fq→Prop)}{ds:List Deferred}{B:List FB}{fs:List Fr}{H H':List HB}{l:lV}{b i n:Nat}{T:tI}
theorem AU.give{w:wO}{R:List RB}(h:AU X w f H R B Fs)(O:HY H i=some ⟨b,l,T,nw⟩)(Y:LM H i=some H') :
   AU {X with MI:=λk=>X.MI k∨k=b,I:=λw f=>X.I w f∧AS w b l T} w f H' R B Fs:=by
 have G:AS w b l T:=h.blk _ (Cm O);have J:=h.own b (List.mem_append.2 (.inl (List.mem_map.2 ⟨_,Cm O,C⟩)));have D:=LD Y;have U:(H.map HB.b++Jw R).Nodup:=h.nd;have W:b∉CX H' R:=LC (L:=Jw R) O Y U;have F:(CX H' R).Sublist (CX H R):=List.Sublist.append (D.map _) (List.Sublist.refl _)
 exact {h with
         res:=⟨h.res,G⟩,
         stab:=λw1 f1 w2 f2 Z hF hb=>⟨h.stab w1 f1 w2 f2 Z.1 hF λk hm=>hb k (.inl hm),(hb b (.inr C)).trans Z.2⟩,
         mi:=λk K=>by
           rcases K with K|rfl
           · exact h.mi k K
           · exact⟨G.lt,J.1,J.2.1⟩,
         blk:=λe he=>h.blk e (D.subset he),nd:=F.nodup h.nd,
         own:=λk K=>⟨(h.own k (F.subset K)).1,(h.own k (F.subset K)).2.1,λhm=>by
           rcases hm with hm|rfl
           · exact (h.own k (F.subset K)).2.2 hm
           · exact W K⟩,
         hnw:=λe he=>h.hnw e (D.subset he)}
theorem mgv{P:Program}{R:List RB}{σ:Bp}{k:Mj}(i:Nat)(D:HY H i=some ⟨b,l,T,nw⟩)(F:LM H i=some H')
   (h:A7 P n Q ds {X with MI:=λk=>X.MI k∨k=b,I:=λw f=>X.I w f∧AS w b l T} R B Fs k fs σ H'):A7 P n Q ds X R B Fs k fs σ H:=λw f G=>h w f (G.give D F)
end Go.SW
namespace Go.SW
open Go.RowKit
variable {Q:Bh}{X:Cx}{f:Fq}{Fs:List (wO→Fq→Prop)}{ds:List Deferred}{B:List FB}{fs:List Fr}{H:List HB}{b n:Nat}{w':wO}
theorem GW.fle{w:wO}(h:GW b w w')(D:f b=0):Ji w f w' f:=λk=>⟨Nat.le_refl _,λo F=>Es (h.block k (λe=>by rw[e,D] at F;omega)) o⟩
theorem mxi{P:Program}{R:List RB}{σ:Bp}{k:Mj}{α:Type}(D:α→wO→Fq→Prop)(J:∀w f,X.I w f→∃x,D x w f)(F:∀x,G4 X.MI (D x))
   (h:∀x,A7 P n Q ds {X with I:=D x} R B Fs k fs σ H):A7 P n Q ds X R B Fs k fs σ H:=λw f G=>by
 obtain⟨x,K⟩:=J w f G.res;exact h x w f {G with res:=K,stab:=F x}
end Go.SW
namespace Go.SP
open Go.SW Go.RowKit
theorem Ll{s:Bk}{x:Int}:∀(k:Nat)(a b:Ty)(j:Nat),B9 s k a=some j→BB s x k (a.app b)=(BB s x k a&&BB s x j b)
 |k,.nil,b,j,h=>by
   have e:j=k:=by cases k <;> (cases h;rfl)
   subst e
   cases j <;> simp[Ty.app,BB]
 |0,.var _ _,_,_,h=>by cases h
 |0,.con _ _ _,_,_,h=>by cases h
 |k+1,.var n r,b,j,h=>by
   simp only[Ty.app,B9,BB] at h ⊢
   cases D:Af s (.var n) with
   |var m=>rw[D] at h;simp only at h ⊢;rw[Ll k r b j h,Bool.and_assoc]
   |con tx F=>rw[D] at h;simp only at h ⊢;rw[← Ty.app_assoc];exact Ll k _ b j h
 |k+1,.con tx F r,b,j,h=>by
   simp only[Ty.app,B9,BB] at h ⊢;rw[← Ty.app_assoc];exact Ll k _ b j h
variable {j:Nat}
theorem Qx{s:Bk}{x:Int}{k:Nat}{t:T1}{r:Ty}(h:B9 s k t.one=some j):BB s x k (t.cons r)=(BB s x k t.one&&BB s x j r):=by rw[← T1.one_app];exact Ll k t.one r j h
def W8(x:Int):T1→Bool
 |.var m=>!(m==x)
 |.con _ _=>true
theorem I4(s:Bk)(x:Int)(k:Nat)(t:T1):BB s x (k+1) t.one=(W8 x (Af s t)&&BB s x k (Af s t).kids):=by
 cases t with
 |var n =>
   simp only[T1.one,T1.cons,BB]
   cases Af s (.var n) with
   |var m=>cases k <;> simp[W8,T1.kids,BB]
   |con tx h=>simp[W8,T1.kids,Ty.app_nil]
 |con tx h=>simp[T1.one,T1.cons,BB,Fj,W8,T1.kids,Ty.app_nil]
def zK(P:Program)(h:FuncId)(T:tI)(g:FuncId)(k:Nat):Prop:=∀(w:wO)(f:Fq)(_:Vl w f)(sb mb:Nat)(s:Bk)(fr pr:Int)(D:Nat)(x:Int),BP T sb mb s fr pr w f→Jl s→AS w D [.int .i64 x] 3→∀(t:T1)(a:oA)(c j:Nat),t.bnd→Ai w f t.kids a c→B9 s k t.one=some j →
 BF P h #[.pointer (some ⟨sb,0,none⟩),tV t a c,.func (.func g) #[] #[.pointer (some ⟨D,0,none⟩)]] w (Ce (α:=Unit) (λ_=>.bool (BB s x k t.one)) (λ_=>True) (λ_=>[]) w f)
def J8(s:Bk)(n:Int)(t:T1):Int×Bk:=match BG s n t with
 |.error e=>(e,s)
 |.ok s'=>(0,s')
end Go.SP
namespace Go.SP
open Go.SW Go.RowKit
def lP(T:tI)(sb mb:Nat)(s:Bk)(fr pr:Int)(es:List (Int×Value))(w:wO)(f:Fq):Prop:=AS w sb [.map (some mb),.int .i64 fr,.int .i64 pr] T∧Cz Fu w mb es∧Gu w f s es
variable {fr pr:Int}{es:List (Int×Value)}{mb sb:Nat}{MI:Nat→Prop}{T:tI}
theorem lP.stab{s:Bk}(D:MI sb)(F:MI mb):G4 MI (lP T sb mb s fr pr es):=λ_ _ _ _ ⟨G,hm,J⟩ K h=>⟨(h sb D).trans G,hm.heap (h mb F),Gu.mono K s es J⟩
theorem YC{s:Bk}{n:Int}{t:T1}(h:D0 s t=false):J8 s n t=(4,s):=by simp[J8,BG,h]
theorem fK{s:Bk}{n:Int}{t:T1}(h:D0 s t=true)(D:BB s n 1000 t.one=false):J8 s n t=(11,s):=by simp[J8,BG,h,D]
theorem cH{s:Bk}{n:Int}{t:T1}(h:D0 s t=true)(D:BB s n 1000 t.one=true):J8 s n t=(0,(n,t)::s):=by simp[J8,BG,h,D]
end Go.SP
namespace Go.SW
open Go.RowKit
variable {af:Array Edge}{Q:Bh}{ag:Bool}{X:Cx}{Fs:List (wO→Fq→Prop)}{ds:List Deferred}{B:List FB}{fs:List Fr}{H:List HB}{l l' vs:lV}{b n off:Nat}{x:Operand}{g:Option (Nat×Bool)}{T:tI}{I':wO→Fq→Prop}
theorem iP{P:Program}{R:List RB}{σ:Bp}{all r:List Oper}{ty K:tI}{AX:String}{y:Operand}{k:Nat}{v:Value}
   (O:gd all σ g=some true) (U:ev σ x=some (.pointer (some ⟨b,off,none⟩))) (W:ev σ y=some v) (Y:HU v=some vs) (Z:Be P T=some (ag,k)) (hk:Nat.beq vs.length k=true) (h1:No vs=true) (hp:P2 l off vs=some l') (F:X.MI b)
   (hb:∀w f,X.I w f→AS w b l K) (hI:∀w f w',X.I w f→AU X w f H R B Fs→GW b w w'→AS w' b l' K→I' w' f) (G:G4 X.MI I')
   (h:A7 P n Q ds {X with I:=I' } R B Fs (.ops all r) fs σ H):A7 P n Q ds X R B Fs (.ops all (⟨none,.store T x y,ty,AX,af,g⟩::r)) fs σ H:=λw f D =>
 BE O (A3 U W Y Z hk (hb w f D.res) h1 hp λw' J L=>h w' f (D.chgI F L (hI w f w' D.res D L J) G))
def yR(P:Program)(n:Nat){α:Type}(p:α→Prop)(s:α→Bp)(X:α→Cx)(H:α→List HB)(R:α→List RB)(B:α→List FB)(Fs:α→List (wO→Fq→Prop))(ds:List Deferred)(Q:Bh):Bh :=
 {q:=λe σ h w=>match e with
     |.normal=>∃x,p x∧h=ds∧Le (s x) σ∧∃f,AU (X x) w f (H x) (R x) (B x) (Fs x)
     |e=>Q.q e σ h w,
   p:=Q.p}
section
variable{P:Program}{n:Nat}{Q:Bh}{ds:List Deferred}{X:Cx}{R:List RB}{B:List FB}{Fs:List (wO→Fq→Prop)}{fs:List Fr}{σ:Bp}{H:List HB}
theorem YJ{c:Code}{α:Type}(p:α→Prop)(s:α→Bp)(h:α→Cx)(H':α→List HB)(R':α→List RB)(B':α→List FB)(F':α→List (wO→Fq→Prop))(D:A7 P n (yR P n p s h H' R' B' F' ds (MU P n Q fs)) ds X R B Fs (.code c) [] σ H)
   (F:∀x,p x→A7 P n Q ds (h x) (R' x) (B' x) (F' x) (.out .normal) fs (s x) (H' x)):A7 P n Q ds X R B Fs (.code c) fs σ H:=λw f G a J=>by
 refine wp_mono (D w f G a J) λe a' w' he=>?_
 cases e with
 |normal =>
   obtain⟨K,L,O,x,U,rfl,W,f',hm⟩:=he;exact⟨s x,_,O.le W,F x U w' f' hm⟩
 |panic c=>exact he
 |outgrown=>exact he
 |ret=>exact he
 |exit i=>exact he
 |goto i=>exact he
theorem Mn{α:Type}{p:α→Prop}{s:α→Bp}{h:α→Cx}{H':α→List HB}{R':α→List RB}{B':α→List FB}{F':α→List (wO→Fq→Prop)}(x:α)(D:p x)(F:Le (s x) σ)(G:∀w f,AU X w f H R B Fs→∃f,AU (h x) w f (H' x) (R' x) (B' x) (F' x)):A7 P n (yR P n p s h H' R' B' F' ds Q) ds X R B Fs (.out .normal) [] σ H :=
 λw f hm=>⟨x,D,C,F,G w f hm⟩
end
end Go.SW
namespace Go.SP
open Go.SW Go.RowKit
def Li(f:Bk→Ty→Ty→Except Int (Nat×Bk))(b:Bk)(x y:T1)(r q:Ty):Except Int (Nat×Bk) :=
 match x,y with
 |.var n,.var m=>if n==m then f b r q else (match BG b n (.var m) with|.error e=>.error e|.ok b'=>f b' r q)
 |.var n,.con ty h=>(match BG b n (.con ty h) with|.error e=>.error e|.ok b'=>f b' r q)
 |.con tx ka,.var m=>(match BG b m (.con tx ka) with|.error e=>.error e|.ok b'=>f b' r q)
 |.con tx ka,.con ty h=>if !(tx==ty)||(ka.len:Int) != h.len then .error 11 else f b (ka.app r) (h.app q)
def GU:Nat→Bk→Ty→Ty→Except Int (Nat×Bk)
 |k,b,.nil,_=>.ok (k,b)
 |0,_,.var _ _,_=>.error 4
 |0,_,.con _ _ _,_=>.error 4
 |k+1,b,.var n r,y=>Li (GU k) b (Af b (.var n)) (Af b y.hd) r y.tl
 |k+1,b,.con tx ka r,y=>Li (GU k) b (.con tx ka) (Af b y.hd) r y.tl
def zR{α β:Type}(g:α→β):Except Int α→Except Int β
 |.error e=>.error e
 |.ok x=>.ok (g x)
def Tz{α β:Type}(g:α→Except Int β):Except Int α→Except Int β
 |.error e=>.error e
 |.ok x=>g x
theorem SH:∀(k:Nat)(b:Bk)(x y:Ty),Bz k b x y=zR (·.2) (GU k b x y):=by
 intro k
 induction k with
 |zero=>intro b x y;cases x <;> rfl
 |succ k h =>
   have D:∀b x y r q,BV (Bz k) b x y r q=zR (·.2) (Li (GU k) b x y r q):=by
     intro b x y r q
     cases x with
     |var n =>
       cases y with
       |var m =>
         simp only[BV,Li]
         cases (n==m) with
         |true=>simp only[if_true];exact h _ _ _
         |false =>
           simp only[Bool.false_eq_true,if_false]
           cases BG b n (.var m) with
           |error e=>rfl
           |ok b'=>exact h _ _ _
       |con ty F =>
         simp only[BV,Li]
         cases BG b n (.con ty F) with
         |error e=>rfl
         |ok b'=>exact h _ _ _
     |con tx ka =>
       cases y with
       |var m =>
         simp only[BV,Li]
         cases BG b m (.con tx ka) with
         |error e=>rfl
         |ok b'=>exact h _ _ _
       |con ty F =>
         simp only[BV,Li]
         split
         · rfl
         · exact h _ _ _
   intro b x y
   cases x with
   |nil=>rfl
   |var n r=>exact D _ _ _ _ _
   |con tx ka r=>exact D _ _ _ _ _
theorem T1.hd_cons(t:T1)(r:Ty):(t.cons r).hd=t:=by cases t <;> rfl
theorem T1.tl_cons(t:T1)(r:Ty):(t.cons r).tl=r:=by cases t <;> rfl
theorem nW(k:Nat)(b:Bk)(x:T1)(r y:Ty):GU (k+1) b (x.cons r) y=Li (GU k) b (Af b x) (Af b y.hd) r y.tl:=by cases x <;> rfl
theorem uU:∀(k:Nat)(b:Bk)(x y r q:Ty),x.len=y.len→GU k b (x.app r) (y.app q)=Tz (λz=>GU z.1 z.2 r q) (GU k b x y):=by
 intro k
 induction k with
 |zero =>
   intro b x y r q h
   cases x with
   |nil =>
     have:y=.nil:=Ty.len0 (by simpa[Ty.len] using h.symm);subst this;rfl
   |var n x=>rfl
   |con tx ka x=>rfl
 |succ k D =>
   have J:∀b u v x y r q,x.len=y.len→Li (GU k) b u v (x.app r) (y.app q)=Tz (λz=>GU z.1 z.2 r q) (Li (GU k) b u v x y):=by
     intro b u v x y r q h
     cases u with
     |var n =>
       cases v with
       |var m =>
         simp only[Li]
         cases (n==m) with
         |true=>simp only[if_true];exact D _ _ _ _ _ h
         |false =>
           simp only[Bool.false_eq_true,if_false]
           cases BG b n (.var m) with
           |error e=>rfl
           |ok b'=>exact D _ _ _ _ _ h
       |con ty F =>
         simp only[Li]
         cases BG b n (.con ty F) with
         |error e=>rfl
         |ok b'=>exact D _ _ _ _ _ h
     |con tx ka =>
       cases v with
       |var m =>
         simp only[Li]
         cases BG b m (.con tx ka) with
         |error e=>rfl
         |ok b'=>exact D _ _ _ _ _ h
       |con ty F =>
         simp only[Li]
         split
         · rfl
         · rename_i K
           have L:ka.len=F.len:=by
             simp only[Bool.or_eq_true,not_or,bne_iff_ne,ne_eq,Decidable.not_not] at K;omega
           rw[← Ty.app_assoc,← Ty.app_assoc];exact D _ _ _ _ _ (by rw[Ty.len_app,Ty.len_app,L,h])
   intro b x y r q h
   cases x with
   |nil =>
     have:y=.nil:=Ty.len0 (by simpa[Ty.len] using h.symm);subst this;rfl
   |var n x =>
     obtain⟨u,y,rfl⟩:=Ty.cases1 y (by rw[← h];simp[Ty.len]);have G:(u.cons y).app q=u.cons (y.app q):=by cases u <;> rfl
     rw[G];show Li (GU k) b (Af b (.var n)) (Af b (u.cons (y.app q)).hd) (x.app r) (u.cons (y.app q)).tl=Tz _ (Li (GU k) b (Af b (.var n)) (Af b (u.cons y).hd) x (u.cons y).tl);rw[T1.hd_cons,T1.tl_cons,T1.hd_cons,T1.tl_cons];exact J _ _ _ _ _ _ _ (by rw[T1.len_cons] at h;simpa[Ty.len] using h)
   |con tx ka x =>
     obtain⟨u,y,rfl⟩:=Ty.cases1 y (by rw[← h];simp[Ty.len]);have G:(u.cons y).app q=u.cons (y.app q):=by cases u <;> rfl
     rw[G];show Li (GU k) b (.con tx ka) (Af b (u.cons (y.app q)).hd) (x.app r) (u.cons (y.app q)).tl=Tz _ (Li (GU k) b (.con tx ka) (Af b (u.cons y).hd) x (u.cons y).tl);rw[T1.hd_cons,T1.tl_cons,T1.hd_cons,T1.tl_cons];exact J _ _ _ _ _ _ _ (by rw[T1.len_cons] at h;simpa[Ty.len] using h)
theorem Tk(k:Nat)(b:Bk)(x y:T1)(r q:Ty)(h:r.len=q.len):GU k b (x.cons r) (y.cons q)=Tz (λz=>GU z.1 z.2 r q) (GU k b x.one y.one):=by
 rw[← T1.one_app,← T1.one_app];exact uU k b x.one y.one r q (by unfold T1.one;rw[T1.len_cons,T1.len_cons])
theorem KQ(k:Nat)(b:Bk)(x y:T1):GU (k+1) b x.one y.one=Li (GU k) b (Af b x) (Af b y) .nil .nil:=by
 unfold T1.one;rw[nW,T1.hd_cons,T1.tl_cons]
theorem mL(b:Bk)(x y:T1):GU 0 b x.one y.one=.error 4:=by cases x <;> rfl
theorem Oa{s:Bk}(hw:Lz s):∀(k:Nat)(t:T1)(n:Int),Ei s t≤k→G9 s k t=.var n→A8 s n=none
 |0,.con _ _,_,_,h=>by cases h
 |0,.var m,n,F,h=>by
   cases h
   cases D:A8 s m with
   |none=>rfl
   |some t=>have:=F8 hw D;omega
 |k+1,.con _ _,_,_,h=>by cases h
 |k+1,.var m,n,F,h=>by
   simp only[G9] at h
   cases D:A8 s m with
   |none=>rw[D] at h;cases h;exact D
   |some t =>
     rw[D] at h;exact Oa hw k t n (by have:=F8 hw D;omega) h
theorem DK{s:Bk}(hw:Lz s){t:T1}{n:Int}(h:Af s t=.var n):A8 s n=none:=Oa hw _ t n (by have:=Xk s t;omega) h
theorem FT{s:Bk}(hw:Jl s){t:T1}{n:Int}(h:Af s t=.var n):A8 s n=none:=DK hw.v h
theorem Hi{s:Bk}(hw:Lz s)(t:T1):Af s (Af s t)=Af s t:=by
 cases h:Af s t with
 |con tx k=>exact Fj s tx k
 |var n=>exact AK (DK hw h)
theorem Mv{s:Bk}(hw:Jl s)(t:T1):Af s (Af s t)=Af s t:=Hi hw.v t
theorem RJ{s s':Bk}(hw:Jl s){n:Int}{t:T1}(F:A8 s n=none)(D:Af s t=t)(G:t.bnd)(h:BG s n t=.ok s'):Jl s':=by
 unfold BG at h
 split at h
 · split at h
   · rename_i K J
     cases h
     refine⟨F,λm hm=>?_,G,hw⟩;subst hm;refine⟨λe=>?_,FT hw D⟩;have:=I4 s n 999 (.var m);rw[J,D,e] at this;simp[W8] at this
   · cases h
 · cases h
def oT(P:Program)(h:FuncId)(T:tI)(k:Nat):Prop:=∀(w:wO)(f:Fq)(_:Vl w f)(sb mb:Nat)(s:Bk)(fr:Int),BP T sb mb s fr (10000-(k:Int)) w f→(f sb=0∧f mb=0)→sb≠mb→Jl s→k≤10000→∀(t u:T1)(a:oA)(c:Nat)(a2:oA)(c2:Nat),t.bnd→u.bnd→Ai w f t.kids a c→Ai w f u.kids a2 c2 →
 BF P h #[.pointer (some ⟨sb,0,none⟩),tV t a c,tV u a2 c2] w (Fv (α:=Int×Bk×Int) (λx=>.int .i64 x.1) (λx=>(∀z,GU k s t.one u.one=.ok z→x.1=0∧x.2.1=z.2∧x.2.2=10000-(z.1:Int)∧Jl z.2)∧∀e,GU k s t.one u.one=.error e→x.1=e∧e≠0) (Nn sb mb) (λx=>BP T sb mb x.2.1 fr x.2.2) (λ_=>[]) w f)
theorem yG:∀(k:Nat)(b:Bk)(x y:Ty)(z:Nat×Bk),GU k b x y=.ok z→z.1≤k:=by
 intro k
 induction k with
 |zero=>intro b x y z h;cases x <;> cases h;exact Nat.le_refl _
 |succ k F =>
   have D:∀b u v r q z,Li (GU k) b u v r q=.ok z→z.1≤k:=by
     intro b u v r q z h;unfold Li at h
     repeat' split at h
     all_goals first|exact F _ _ _ _ h|cases h
   intro b x y z h
   cases x with
   |nil=>cases h;exact Nat.le_refl _
   |var n r=>have:=D _ _ _ _ _ _ h;omega
   |con tx ka r=>have:=D _ _ _ _ _ _ h;omega
end Go.SP
namespace Go.SP
theorem R3{s:Bk}{n:Int}{t:T1}{e:Int}(h:BG s n t=.error e):e≠0:=by
 unfold BG at h
 split at h
 · split at h
   · cases h
   · cases h;decide
 · cases h;decide
end Go.SP
namespace Go.SP
open Go.SW Go.RowKit
theorem HA(s:Bk)(k:Nat):AE s k .nil=.nil:=by cases k <;> rfl
theorem Qk{s:Bk}:∀(k:Nat)(x:Ty)(j:Nat),B9 s k x=some j→∀m,k-j≤m→AE s m x=AE s k x:=by
 intro k
 induction k using Nat.strongRecOn with
 |_ k O =>
   intro x j h m hm
   have key:∀(G D:Nat)(F r:Ty),G<k→B9 s G (F.app r)=some j→G-j≤D→AE s D F=AE s G F∧AE s D r=AE s G r:=by
     intro G D F r U J W;rw[HL] at J
     cases K:B9 s G F with
     |none=>rw[K] at J;cases J
     |some j1 =>
       rw[K] at J;have J:B9 s j1 r=some j:=J;have Y:=EH s _ _ _ K;have Z:=EH s _ _ _ J;exact⟨O G U F j1 K D oM,(O j1 oM r j J D oM).trans (O j1 oM r j J G oM).symm⟩
   cases x with
   |nil=>rw[HA,HA]
   |var n r =>
     cases k with
     |zero=>cases h
     |succ k =>
       simp only[B9] at h
       cases L:Af s (.var n) with
       |var q =>
         rw[L] at h;have Q:=EH s _ _ _ h;obtain⟨m,rfl⟩:∃D,m=D+1:=⟨m-1,oM⟩;simp only[AE,L];rw[(key k m .nil r (by omega) h (by omega)).2]
       |con tx F =>
         rw[L] at h;have Q:=EH s _ _ _ h;obtain⟨m,rfl⟩:∃D,m=D+1:=⟨m-1,oM⟩;simp only[AE,L];have:=key k m F r oM h oM;rw[this.1,this.2]
   |con tx F r =>
     cases k with
     |zero=>cases h
     |succ k =>
       simp only[B9] at h;have Q:=EH s _ _ _ h;obtain⟨m,rfl⟩:∃D,m=D+1:=⟨m-1,oM⟩;simp only[AE];have:=key k m F r oM h oM;rw[this.1,this.2]
theorem OY{s:Bk}(k:Nat)(t:T1):(AE s (k+1) t.one).hd=(match Af s t with|.var m=>.var m|.con tx h=>.con tx (AE s k h)):=by
 cases t with
 |var n =>
   simp only[T1.one,T1.cons,AE]
   cases Af s (.var n) <;> rfl
 |con tx h=>rw[Fj];rfl
variable {j:Nat}
theorem MJ{s:Bk}{k:Nat}{t:T1}{r:Ty}{j2:Nat}(h:B9 s k t.one=some j)(F:B9 s j r=some j2):AE s k (t.cons r)=(AE s k t.one).hd.cons (AE s j r):=by
 cases k with
 |zero=>rw[LJ] at h;cases h
 |succ k =>
   have J:j≤k:=by rw[Kn] at h;exact EH s _ _ _ h
   have D:=Qk j r j2 F k oM;rw[OY]
   cases t with
   |var n =>
     simp only[T1.cons,AE]
     cases Af s (.var n) with
     |var m=>simp only[T1.cons];rw[D]
     |con tx G=>simp only[T1.cons];rw[D]
   |con tx G=>rw[Fj];simp only[T1.cons,AE];rw[D]
theorem YR{s:Bk}(hw:Jl s):∀(k:Nat)(x:Ty),x.bnd→(AE s k x).bnd∧(AE s k x).len≤x.len:=by
 intro k
 induction k with
 |zero=>intro x _;cases x <;> exact⟨tQ,Nat.zero_le _⟩
 |succ k F =>
   intro x h
   cases x with
   |nil=>exact⟨tQ,Nat.le_refl _⟩
   |var n r =>
     have G:=CB hw (t:=.var n) ⟨⟨Nat.zero_le _,Nat.zero_le _⟩,tQ⟩;have J:=F r h;simp only[AE]
     cases L:Af s (.var n) with
     |var m=>exact⟨J.1,by simp only[Ty.len];omega⟩
     |con tx K =>
       rw[L] at G;have D:=F K G.2;exact⟨⟨⟨Nat.le_trans D.2 G.1.1,G.1.2⟩,D.1,J.1⟩,by simp only[Ty.len];omega⟩
   |con tx K r =>
     have J:=F r h.2.2;have D:=F K h.2.1;exact⟨⟨⟨Nat.le_trans D.2 h.1.1,h.1.2⟩,D.1,J.1⟩,by simp only[AE,Ty.len];omega⟩
theorem GH{t:T1}(h:t.bnd):t.one.bnd:=T1.bnd_cons.2 ⟨h,tQ⟩
theorem cL{x:Ty}(h:x.bnd):x.hd.bnd:=by
 cases x with
 |nil=>exact⟨⟨Nat.zero_le _,Nat.zero_le _⟩,tQ⟩
 |var n r=>exact⟨⟨Nat.zero_le _,Nat.zero_le _⟩,tQ⟩
 |con tx k r=>exact⟨h.1,h.2.1⟩
theorem bO{s:Bk}(hw:Jl s){t:T1}(h:t.bnd)(k:Nat):(AE s k t.one).hd.bnd:=cL (YR hw k _ (GH h)).1
def pD(P:Program)(h:FuncId)(T:tI)(k:Nat):Prop:=∀(w:wO)(f:Fq)(_:Vl w f)(sb mb:Nat)(s:Bk)(fr pr:Int),BP T sb mb s fr pr w f→Jl s→∀(t:T1)(a:oA)(c j:Nat),t.bnd→Ai w f t.kids a c→B9 s k t.one=some j →
 BF P h #[.pointer (some ⟨sb,0,none⟩),tV t a c] w (Ce (α:=oA×Nat) (λx=>tV (AE s k t.one).hd x.1 x.2) (λ_=>True) (λx=>[λw f=>Ai w f (AE s k t.one).hd.kids x.1 x.2]) w f)
end Go.SP
namespace Go.SP
open Go.SW Go.RowKit
variable {f:Fq}{i:Nat}{a:oA}{w:wO}
theorem Ai.get{t:T1}:∀{k:Ty}{b off i:Nat},Jf w f k b off→k.get i=some t→∃ka kc,Cs w f b (off+i*4) (tC t ka kc)∧Ai w f t.kids ka kc
 |k,b,off,0,h,D=>by
   obtain⟨t2,r,rfl⟩:∃t r,k=T1.cons t r:=by
     cases k with
     |nil=>cases D
     |var n r=>exact⟨.var n,r,C⟩
     |con tx q r=>exact⟨.con tx q,r,C⟩
   have e:t2=t:=by cases t2 <;> (cases D;rfl)
   subst e;obtain⟨b2,F,ka,kc,G,K,L,_⟩:=Cc.head (a:=some ⟨b,off,none⟩) (i:=0) (.inr ⟨b,off,C,by simpa using h⟩)
   cases G
   exact⟨ka,kc,by simpa using K,L⟩
 |k,b,off,i+1,h,D=>by
   obtain⟨t2,r,rfl⟩:∃t r,k=T1.cons t r:=by
     cases k with
     |nil=>cases D
     |var n r=>exact⟨.var n,r,C⟩
     |con tx q r=>exact⟨.con tx q,r,C⟩
   have e:r.get i=some t:=by cases t2 <;> exact D
   obtain⟨b2,F,ka,kc,G,_,_,O⟩:=Cc.head (a:=some ⟨b,off,none⟩) (i:=0) (.inr ⟨b,off,C,by simpa using h⟩);rcases O with rfl|⟨b3,J,Q,U⟩
   · cases e
   · cases Q
     obtain⟨ka,kc,W,Y⟩:=Ai.get U e;exact⟨ka,kc,by rw[show off+(i+1)*4=off+(0+1)*4+i*4 by omega];exact W,Y⟩
theorem Ai.nth{t:T1}{k:Ty}{c:Nat}(h:Ai w f k a c)(D:k.get i=some t):∃b off ka kc,a=some ⟨b,off,none⟩∧Cs w f b (off+i*4) (tC t ka kc)∧Ai w f t.kids ka kc:=by
 rcases h.2 with rfl|⟨b,off,F,G⟩
 · cases D
 · obtain⟨ka,kc,J,K⟩:=Ai.get G D
   exact⟨b,off,ka,kc,F,J,K⟩
theorem HP{t:T1}:∀{k:Ty}{i:Nat},k.bnd→k.get i=some t→t.bnd
 |.nil,_,_,h=>by cases h
 |.var n r,0,_,h=>by cases h;exact⟨⟨Nat.zero_le _,Nat.zero_le _⟩,tQ⟩
 |.con tx q r,0,D,h=>by cases h;exact⟨D.1,D.2.1⟩
 |.var n r,i+1,D,h=>HP (k:=r) D h
 |.con tx q r,i+1,D,h=>HP (k:=r) D.2.2 h
theorem UT{k:Ty}(h:i<k.len):∃t,k.get i=some t:=by
 induction k generalizing i with
 |nil=>simp[Ty.len] at h
 |var n r D=>cases i with
   |zero=>exact⟨_,C⟩
   |succ i=>exact D (by simp only[Ty.len] at h;omega)
 |con tx q r _ D=>cases i with
   |zero=>exact⟨_,C⟩
   |succ i=>exact D (by simp only[Ty.len] at h;omega)
theorem bG{k:Ty}(h:k.len≤i):k.get i=none:=by
 induction k generalizing i with
 |nil=>rfl
 |var n r D=>cases i with
   |zero=>simp[Ty.len] at h
   |succ i=>exact D (by simp only[Ty.len] at h;omega)
 |con tx q r _ D=>cases i with
   |zero=>simp[Ty.len] at h
   |succ i=>exact D (by simp only[Ty.len] at h;omega)
theorem Q2(l:List Int)(y:Ty)(t:T1)(r:Ty):C2 l y (t.cons r)=(Cf t l y).cons (C2 l y r):=by
 cases t with
 |var n =>
   simp only[T1.cons,C2,Cf,T1.one]
   cases (C1 l n).bind y.get with
   |none=>rfl
   |some t=>cases t <;> rfl
 |con tx k=>rfl
theorem Io{l:List Int}{y:Ty}(D:y.bnd):∀x:Ty,x.bnd→(C2 l y x).bnd∧(C2 l y x).len=x.len
 |.nil,_=>⟨tQ,C⟩
 |.var n r,h=>by
   have F:=Io (l:=l) D r h;simp only[C2]
   cases J:(C1 l n).bind y.get with
   |none=>exact⟨F.1,by simp only[Ty.len];omega⟩
   |some t =>
     obtain⟨i,_,K⟩:=Option.bind_eq_some_iff.1 J;exact⟨T1.bnd_cons.2 ⟨HP D K,F.1⟩,by rw[T1.len_cons];simp only[Ty.len];omega⟩
 |.con tx k r,h=>by
   have F:=Io (l:=l) D r h.2.2;have G:=Io (l:=l) D k h.2.1;exact⟨⟨⟨by rw[G.2];exact h.1.1,h.1.2⟩,G.1,F.1⟩,by simp only[C2,Ty.len];omega⟩
theorem J6{l:List Int}{y:Ty}(D:y.bnd){t:T1}(h:t.bnd):(Cf t l y).bnd:=cL (Io D _ (GH h)).1
theorem Ot{l:List Int}{y:Ty}{n:Int}:Cf (.var n) l y=((C1 l n).bind y.get).getD (.var n):=by
 simp only[Cf,T1.one,T1.cons,C2]
 cases (C1 l n).bind y.get with
 |none=>rfl
 |some t=>cases t <;> rfl
theorem aF{l:List Int}{y:Ty}{tx:lU}{k:Ty}:Cf (.con tx k) l y=.con tx (C2 l y k):=rfl
def pH(P:Program)(h:FuncId)(m:Nat):Prop:=∀(w:wO)(f:Fq)(_:Vl w f)(l:List Int)(D:oA)(lc:Nat)(y:Ty)(F:oA)(G:Nat),l.length≤1000000→y.len≤200000→y.bnd→Ci w f l D lc→Ai w f y F G→∀(t:T1)(a:oA)(c:Nat),t.kids.size<m→t.bnd→Ai w f t.kids a c →
 BF P h #[tV t a c,.slice D l.length lc,.slice F y.len G] w (Ce (α:=oA×Nat) (λx=>tV (Cf t l y) x.1 x.2) (λ_=>True) (λx=>[λw f=>Ai w f (Cf t l y).kids x.1 x.2]) w f)
end Go.SP
namespace Go.SW
open Go.RowKit
section
variable{X:Cx}{w w':wO}{f f':Fq}{H:List HB}{R:List RB}{B:List FB}{Fs:List (wO→Fq→Prop)}
variable {I':wO→Fq→Prop}
theorem AU.callJ{MI':Nat→Prop}(h:AU X w f H R B Fs)(he:CQ X.MI w f w' f')(L:I' w' f')(J:G4 MI' I')(F:∀b,MI' b→X.MI b∨(w.heap.size≤b∧b<w'.heap.size∧f' b=0)):AU {X with MI:=MI',I:=I' } w' f' H R B Fs :=
 have G:AU {X with I:=λ_ _=>True} w' f' H R B Fs:=h.callI he tQ (λ_ _ _ _ _ _ _=>trivial)
 {G with
   res:=L,stab:=J,
   mi:=λb D=>by
     rcases F b D with D|⟨K,O,U⟩
     · exact G.mi b D
     · exact⟨O,U,.inl (Nat.le_trans h.stp.size K)⟩,
   own:=λb D=>⟨(G.own b D).1,(G.own b D).2.1,λhm=>by
     rcases F b hm with hm|⟨K,_,_⟩
     · exact (G.own b D).2.2 hm
     · exact Nat.lt_irrefl _ (Nat.lt_of_lt_of_le (h.lt D) K)⟩}
end
def P4{α:Type}(val:α→Value)(q:α→Prop)(M:Nat→Prop)(MI':α→Nat→Prop)(I':α→wO→Fq→Prop)(F':α→List (wO→Fq→Prop))(w:wO)(f:Fq)(v:Value)(w':wO):Prop:=∃x f',v=val x∧q x∧CQ M w f w' f'∧(∀b,MI' x b→M b∨(w.heap.size≤b∧b<w'.heap.size∧f' b=0))∧I' x w' f'∧AM (F' x) w' f'
section
variable{P:Program}{n:Nat}{Q:Bh}{ds:List Deferred}{X:Cx}{R:List RB}{B:List FB}{Fs:List (wO→Fq→Prop)}{fs:List Fr}{σ:Bp}{H:List HB}
variable{all r:List Oper}{ty T:tI}{AX:String}{af:Array Edge}{g:Option (Nat×Bool)}{d:Nat}{x y:Operand}
variable {args:Array Value}{nw:Bool}{fid:FuncId}{XX:List PanicEntry→wO→Prop}{xs zl:lV}{bytes cs:Nat}{Ts e:tI}
theorem mG{op:Op}{α:Type}{val:α→Value}{q:α→Prop}{MI':α→Nat→Prop}{I':α→wO→Fq→Prop}{F':α→List (wO→Fq→Prop)}
   (J:gd all σ g=some true) (hd:Nat.blt d n=true) (he:∀w,Enters P σ op ty w fid args)
   (K:∀w f,AU X w f H R B Fs→BU P fid args w (P4 val q X.MI MI' I' F' w f) XX) (D:∀x,G4 (MI' x) (I' x)) (hm:∀x,A2 (F' x))
   (L:∀w f c w',AU X w f H R B Fs→XX c w'→Q.p c σ ds w')
   (h:∀x,q x→A7 P n Q ds {X with MI:=MI' x,I:=I' x} R B (F' x++Fs) (.ops all r) fs (AH σ d (val x)) H):A7 P n Q ds X R B Fs (.ops all (⟨some d,op,ty,AX,af,g⟩::r)) fs σ H:=λw f F=>by
 refine BE J (Cw hd (he w) (K w f F) ?_ ?_)
 · rintro v w' ⟨x,f',rfl,O,U,G,W,Y⟩
   exact h x O w' f' ((F.callJ U W (D x) G).more (B':=[]) (λ_ h=>by cases h) Y.mem (hm x).mem)
 · intro c w' Z
   rw[Na];exact L w f c w' F Z
theorem TQ{size:Nat}{a:oA}{c k src:Nat}{news:lV}{MI':oA→Nat→Prop}{I':oA→Nat→wO→Fq→Prop}(j:Nat)(hg:gd all σ g=some true)(hd:Nat.blt d n=true)(hT:P0 P T=some (e,size,bytes,zl))(L:Nat.beq zl.length size=true)(O:Nat.blt 0 size=true)
   (hs:ev σ x=some (.slice a k c)) (hx:ev σ y=some (.slice (some ⟨src,0,none⟩) 1 cs)) (hH:HY H j=some ⟨src,news,Ts,nw⟩) (hl:Nat.beq news.length size=true) (h1:No news=true) (U:(k+1)*bytes≤140737488355328) (W:k+1≤9223372036854775807)
   (J:∀w f,X.I w f→C0 w e size a c k xs) (K:∀b,rb a=some b→X.MI b) (Y:∀a' b,MI' a' b→X.MI b∨rb a'=some b) (hI:∀w f w' a' c',X.I w f→AU X w f H R B Fs→C0 w' e size a' c' (k+1) (xs++news)→G1 a w a' w'→I' a' c' w' f) (Z:∀a' c',G4 (MI' a') (I' a' c'))
   (h:∀a' c',A7 P n Q ds {X with MI:=MI' a',I:=I' a' c' } R B Fs (.ops all r) fs (AH σ d (.slice a' (k+1) c')) H) :
   A7 P n Q ds X R B Fs (.ops all (⟨some d,.call {callee:=.builtin .append,args:=#[x,y],argTypes:=#[T,T]},ty,AX,af,g⟩::r)) fs σ H:=λw f G =>
 BE hg (Bi hd hT L O hs hx (J w f G.res) (G.blk _ (Cm hH)) hl h1 U W λa' c' w' hr F=>h a' c' w' f (G.callJ ⟨⟨F.os,F.tape,F.output,F.size,λb D hm=>F.block b D λe=>hm (K b e.symm)⟩,λ_ _=>C,λb D=>G.val b (Nat.le_trans F.size D)⟩ (hI w f w' a' c' G.res G hr F) (Z a' c') λb D=>by
   rcases Y a' b D with D|D
   · exact .inl D
   · rcases F.own with ho|ho
     · exact .inl (K b (ho.symm.trans D))
     · have e:b=w.heap.size:=Option.some.inj (D.symm.trans ho)
       subst e;exact .inr ⟨Nat.le_refl _,hr.lt D,G.val _ (Nat.le_refl _)⟩))
end
variable {b:Nat}{M:Nat→Prop}
theorem CQ.done{w w':wO}{f f':Fq}(h:CQ M w f w' f')(F:w.heap.size≤b)(G:b<w'.heap.size)(n:Nat):CQ M w f w' (λk=>if k=b then n else f' k) :=
 ⟨h.stp,λk D=>by show (if k=b then n else f' k)=f k;rw[if_neg (by omega)];exact h.old k D,λk D=>by show (if k=b then n else f' k)=0;rw[if_neg (by omega)];exact h.val k D⟩
end Go.SW
namespace Go.SP
open Go.SW Go.RowKit
def HN(l:List Int):List (Int×Value):=l.reverse.map λn=>(n,.bool true)
theorem Ru(n:Int):∀l:List Int,FF (l.map λn=>(n,Value.bool true)) n=if l.contains n then some (.bool true) else none
 | []=>rfl
 |k::l=>by
   have:=Ru n l;simp only[List.map,FF,List.contains_cons]
   by_cases h:n=k
   · subst h;simp
   · have e:(n==k)=false:=by simpa using h
     rw[e,this];simp
theorem Ww(n:Int)(l:List Int):FF (HN l) n=if l.contains n then some (.bool true) else none:=by
 unfold HN;rw[Ru];simp
theorem U8:∀l:List Int,l.Nodup→Lj (l.map λn=>(n,Value.bool true))
 | [],_=>trivial
 |k::l,h=>by
   have D:=List.nodup_cons.1 h;refine⟨?_,U8 l D.2⟩;rw[Ru,if_neg];simpa using D.1
theorem Ln{l:List Int}(h:l.Nodup):Lj (HN l):=U8 _ ((List.reverse_perm l).nodup_iff.2 h)
def N6(ob mb:Nat)(a:oA)(b:Nat):Prop:=b=ob∨b=mb∨rb a=some b
structure Ek(T:tI)(ob mb:Nat)(sl:Value)(lm:List Int)(a:oA)(c:Nat)(l:List Int)(w:wO)(f:Fq):Prop where
 blk:AS w ob [sl] T
 map:Cz Fu w mb (HN lm)
 row:C0 w 3 1 a c l.length (l.map λn=>.int .i64 n)
 ne:ob≠mb∧rb a≠some ob∧rb a≠some mb
 nd:lm.Nodup
theorem Ek.stab{T:tI}{ob mb:Nat}{sl:Value}{lm:List Int}{a:oA}{c:Nat}{l:List Int}:G4 (N6 ob mb a) (Ek T ob mb sl lm a c l):=λ_ _ _ _ h K D =>
 ⟨(D ob (.inl C)).trans h.blk,h.map.heap (D mb (.inr (.inl C))),⟨h.row.1,h.row.2.imp id λ⟨b,q,F,G,J⟩=>⟨b,q,F,(D b (.inr (.inr (by rw[F];rfl)))).trans G,J⟩⟩,h.ne,h.nd⟩
abbrev RM(T:tI)(ob mb:Nat)(a:oA)(c:Nat)(l:List Int):wO→Fq→Prop:=Ek T ob mb (.slice a l.length c) l a c l
variable {b:Nat}{M:Nat→Prop}{w0:wO}
theorem Ek.lt{T:tI}{ob mb:Nat}{sl:Value}{lm:List Int}{a:oA}{c:Nat}{l:List Int}{w:wO}{f:Fq}(h:Ek T ob mb sl lm a c l w f)(D:N6 ob mb a b):b<w.heap.size:=by
 rcases D with rfl|rfl|D
 · exact h.blk.lt
 · exact h.map.lt
 · exact h.row.lt D
theorem Zz(t:T1)(r:Ty)(l:List Int):BZ (t.cons r) l=BZ r (BZ t.one l):=by cases t <;> rfl
theorem JN:∀(x:Ty)(l:List Int),(BZ x l).length≤x.size+l.length
 |.nil,l=>by simp[BZ]
 |.var n r,l=>by
   have:=JN r (if l.contains n then l else l++[n]);simp only[BZ,Ty.size]
   split at this <;> simp_all <;> omega
 |.con tx k r,l=>by
   have h:=JN k l;have D:=JN r (BZ k l);simp only[BZ,Ty.size];omega
def oY(P:Program)(fid:FuncId)(T:tI)(m:Nat):Prop:=∀(w:wO)(f:Fq)(_:Vl w f)(ob mb:Nat)(a:oA)(c:Nat)(l:List Int),RM T ob mb a c l w f→(∀b,N6 ob mb a b→f b=0)→∀(t:T1)(h:oA)(D:Nat),t.kids.size<m→t.kids.size+1+l.length≤1000000→t.bnd→Ai w f t.kids h D →
 BF P fid #[tV t h D,.map (some mb),.pointer (some ⟨ob,0,none⟩)] w (P4 (α:=oA×Nat) (λ_=>.tuple #[]) (λ_=>True) (N6 ob mb a) (λx=>N6 ob mb x.1) (λx=>RM T ob mb x.1 x.2 (BZ t.one l)) (λ_=>[]) w f)
theorem Ek.int{T:tI}{ob mb:Nat}{sl:Value}{lm:List Int}{a:oA}{c:Nat}{l:List Int}{w:wO}{f0 f:Fq}(h:Ek T ob mb sl lm a c l w f)(J:CQ M w0 f0 w f)(L:∀b,rb a=some b→w0.heap.size≤b):∃f',CQ M w0 f0 w f'∧Ci w f' l a c:=by
 obtain⟨W,⟨F,Y,hz⟩|⟨b,q,F,K,G,_,Z,O⟩⟩:=h.row
 · exact⟨f,J,oM,.inl (by cases l with|nil=>rfl|cons _ _=>simp at hz)⟩
 · refine⟨λk=>if k=b then l.length else f k,J.done (L b (by rw[F];rfl)) K.lt _,G,.inr ⟨b,0,F,λj v D=>?_⟩⟩
   have U:j<l.length:=by have:=(List.getElem?_eq_some_iff.1 D).1;simpa using this
   refine⟨?_,?_⟩
   · show 0+j<(if b=b then l.length else f b)
     rw[if_pos C];omega
   · rw[Nat.zero_add,K.cell]
     rw[← O,List.getElem?_take] at D
     split at D
     · exact D
     · cases D
end Go.SP
namespace Go.SP
open Go.SW Go.RowKit
theorem Yn(n:Int)(l:List Int):(FF (HN l) n).getD (.bool false)=.bool (l.contains n):=by
 rw[Ww];cases l.contains n <;> rfl
theorem Xn{n:Int}{l:List Int}(h:l.contains n=false):FF (HN l) n=none:=by rw[Ww,h];rfl
theorem QE(n:Int)(l:List Int):HN (l++[n])=(n,.bool true)::HN l:=by simp[HN]
section
variable{T:tI}{ob mb:Nat}{sl sl':Value}{lm l:List Int}{a a':oA}{c c':Nat}{w w':wO}{f f':Fq}{n:Int}
theorem Ek.app(h:Ek T ob mb sl lm a c l w f)(F:C0 w' 3 1 a' c' (l.length+1) (l.map (λn=>Value.int .i64 n)++[.int .i64 n]))(D:G1 a w a' w'):Ek T ob mb sl lm a' c' (l++[n]) w' f' where
 blk:=h.blk.grow D (λe=>h.ne.2.1 e.symm)
 map:=h.map.heap (D.block mb h.map.lt (λe=>h.ne.2.2 e.symm))
 row:=by simpa using F
 ne:=⟨h.ne.1,λe=>D.own.elim (λo=>h.ne.2.1 (o.symm.trans e)) (λo=>absurd h.blk.lt (by rw[← Option.some.inj (o.symm.trans e)];exact Nat.lt_irrefl _)),λe=>D.own.elim (λo=>h.ne.2.2 (o.symm.trans e)) (λo=>absurd h.map.lt (by rw[← Option.some.inj (o.symm.trans e)];exact Nat.lt_irrefl _))⟩
 nd:=h.nd
variable {xs:lV}{b:Nat}{e:tI}
theorem C0.chgB{size:Nat}{a:oA}{c n:Nat}(h:C0 w e size a c n xs)(G:GW b w w')(D:rb a≠some b):C0 w' e size a c n xs :=
 ⟨h.1,h.2.imp id λ⟨g,q,F,J,K⟩=>⟨g,q,F,(G.block g (λe=>D (by rw[F,← e];rfl))).trans J,K⟩⟩
theorem Ek.mapped{q:List Int}(h:Ek T ob mb sl l a c q w f)(D:GW mb w w')(hm:Cz Fu w' mb ((n,.bool true)::HN l))(G:l.contains n=false):Ek T ob mb sl (l++[n]) a c q w' f' where
 blk:=(D.block ob h.ne.1).trans h.blk
 map:=by rw[QE];exact hm
 row:=C0.chgB h.row D h.ne.2.2
 ne:=h.ne
 nd:=by
   have J:n∉l:=by simpa using G
   exact List.nodup_append.2 ⟨h.nd,List.nodup_cons.2 ⟨by simp,List.nodup_nil⟩,λx K y F e=>by simp at F;subst F;subst e;exact J K⟩
theorem Ek.store(h:Ek T ob mb sl lm a c l w f)(D:GW ob w w')(F:AS w' ob [sl'] T):Ek T ob mb sl' lm a c l w' f' where
 blk:=F
 map:=h.map.heap (D.block mb (λe=>h.ne.1 e.symm))
 row:=C0.chgB h.row D h.ne.2.1
 ne:=h.ne
 nd:=h.nd
end
variable {b:Nat}
theorem N6.or{ob mb:Nat}{a a':oA}(h:N6 ob mb a' b):N6 ob mb a b∨rb a'=some b:=h.elim (λh=>.inl (.inl h)) λh=>h.elim (λh=>.inl (.inr (.inl h))) .inr
theorem OJ(n:Int)(l:List Int):BZ (T1.var n).one l=if l.contains n then l else l++[n]:=rfl
theorem iM(tx:lU)(k:Ty)(l:List Int):BZ (T1.con tx k).one l=BZ k l:=rfl
end Go.SP
namespace Go.SW
open Go.RowKit
section
variable{P:Program}{σ:Bp}{w:wO}{ty T T':tI}{x y:Operand}
variable {t':tI}
theorem jN{t:tI}{k:IntKind}{a b:Int}(m:Int)(F:ev σ x=some (.int k a))(G:ev σ y=some (.int k b))(J:b≠0)(h:k.wrap (a.tdiv b)=m):AR P σ (.binOp .quo t x y t') ty w (.int k m) w :=
 λK _ _ _ _ D=>by simp[execOp,D _ _ F,D _ _ G,eqGuard,binOp,Op.intDiv,J,h]
theorem jJ{t:tI}{k:IntKind}{a b:Int}(m:Int)(F:ev σ x=some (.int k a))(G:ev σ y=some (.int k b))(J:b≠0)(h:a.tmod b=m):AR P σ (.binOp .rem t x y t') ty w (.int k m) w :=
 λK _ _ _ _ D=>by simp[execOp,D _ _ F,D _ _ G,eqGuard,binOp,Op.intDiv,J,h]
theorem wB{k:IntKind}{n:Int}{l:lU}(J:ev σ x=some (.int k n))(D:vF P T T'=true)(h:Utf8.encode n=⟨l.toArray⟩):AR P σ (.convert T T' x) ty w (S l) w:=by
 unfold vF at D
 cases F:P.underlying T with
 |none=>rw[F] at D;cases D
 |some s =>
   cases hd:P.underlying T' with
   |none=>rw[F,hd] at D;cases D
   |some d =>
     rw[F,hd] at D
     cases d <;> simp at D
     exact λK _ _ _ _ G=>by
       simp[execOp,G _ _ J,convert,run_underlying F,run_underlying hd,Conv.intToString,h,S]
end
variable {Q:Bh}{X:Cx}{f:Fq}{Fs:List (wO→Fq→Prop)}{ds:List Deferred}{B:List FB}{fs:List Fr}{H H':List HB}{l:lV}{b i n:Nat}{w':wO}
theorem AU.toRow{w:wO}{R:List RB}{T:tI}(h:AU X w f H R B Fs)(Y:HY H i=some ⟨b,l,T,true⟩)(hs:LM H i=some H')(size c:Nat)(Z:l.length=c*size)(hc:c≤maxLen):AU X w f H' (⟨T,size,some ⟨b,0,none⟩,c,c,l⟩::R) B Fs:=by
 have K:AS w b l T:=h.blk _ (Cm Y);have O:b∈CX H R:=List.mem_append.2 (.inl (List.mem_map.2 ⟨_,Cm Y,C⟩));have U:=h.own b O;have F:=LD hs;have hnd:(H.map HB.b++Jw R).Nodup:=h.nd;have hbR:b∉CX H' R:=LC (L:=Jw R) Y hs hnd;have W:(CX H' R).Sublist (CX H R):=List.Sublist.append (F.map _) (List.Sublist.refl _)
 have hp:∀k,k∈CX H' (⟨T,size,some ⟨b,0,none⟩,c,c,l⟩::R)→k=b∨k∈CX H' R:=λk G=>by
   have D:k∈H'.map HB.b++b::R.filterMap (λr=>rb r.a):=G;rcases List.mem_append.1 D with D | D
   · exact .inr (List.mem_append.2 (.inl D))
   · rcases List.mem_cons.1 D with rfl|D
     · exact .inl C
     · exact .inr (List.mem_append.2 (.inr D))
 exact {h with
         blk:=λe he=>h.blk e (F.subset he),
         row:=λr J=>by
           rcases List.mem_cons.1 J with rfl|J
           · exact⟨Z,.inr ⟨b,l,C,K,Nat.le_refl _,hc,Z,by rw[← Z];exact List.take_length⟩⟩
           · exact h.row r J,
         nd:=by
           show (H'.map HB.b++b::R.filterMap (λr=>rb r.a)).Nodup;exact List.perm_middle.nodup_iff.2 (List.nodup_cons.2 ⟨hbR,W.nodup h.nd⟩),
         own:=λk G=>by
           rcases hp k G with rfl|G
           · exact U
           · exact h.own k (W.subset G),
         hnw:=λe he=>h.hnw e (F.subset he),
         rnw:=λr J k G=>by
           rcases List.mem_cons.1 J with rfl|J
           · cases G;exact h.hnw _ (Cm Y) C
           · exact h.rnw r J k G}
theorem mhr{P:Program}{R:List RB}{σ:Bp}{k:Mj}{T:tI}(i size c:Nat)(D:HY H i=some ⟨b,l,T,true⟩)(F:LM H i=some H')(G:Nat.beq l.length (c*size)=true)(J:c≤maxLen)
   (h:A7 P n Q ds X (⟨T,size,some ⟨b,0,none⟩,c,c,l⟩::R) B Fs k fs σ H'):A7 P n Q ds X R B Fs k fs σ H:=λw f K=>h w f (K.toRow D F size c (Nat.eq_of_beq_eq_true G) J)
theorem Below.exm{w:wO}(h:Below w.heap.size w w')(D:∀b,w.heap.size≤b→f b=0)(M:Nat→Prop):CQ M w f w' f:=⟨⟨h.os,h.tape,h.output,h.size,λk F _=>h.block k F⟩,λ_ _=>C,λb G=>D b (Nat.le_trans h.size G)⟩
end Go.SW
namespace Go.SP
open Go.SW Go.RowKit
def PA(vs:List Int)(t:T1):lU:=(C4 vs t.one).drop 1
theorem M4(vs:List Int)(t:T1)(r:Ty):C4 vs (t.cons r)=32::(PA vs t++C4 vs r):=by
 cases t with
 |var n=>simp[PA,T1.one,T1.cons,C4]
 |con tx k=>cases k <;> simp[PA,T1.one,T1.cons,C4]
theorem fS(vs:List Int)(n:Int):PA vs (.var n)=(match C1 vs n with|some i=>DM i|none=>[]):=by
 simp[PA,T1.one,T1.cons,C4] <;> cases C1 vs n <;> rfl
theorem Xu(vs:List Int)(tx:lU):PA vs (.con tx .nil)=tx:=by simp[PA,T1.one,T1.cons,C4]
theorem ZR(vs:List Int)(tx:lU)(k:Ty)(h:k.len≠0):PA vs (.con tx k)=[40]++(tx++C4 vs k)++[41]:=by
 cases k with
 |nil=>exact absurd C h
 |var n r=>simp[PA,T1.one,T1.cons,C4]
 |con tx k r=>simp[PA,T1.one,T1.cons,C4]
theorem Wx(s:lU)(l:List lU)(x:lU):Lib.joinTail s (l++[x])=Lib.joinTail s l++(s++x):=by simp[Lib.joinTail]
theorem NK:∀k n,(VU k n).length≤k
 |0,_=>Nat.le_refl _
 |k+1,n=>by
   unfold VU
   split
   · simp
   · have:=NK k (n / 10);simp;omega
theorem VF(i:Nat):(DM i).length≤22:=by
 unfold DM
 split
 · simp
 · have:=NK 20 (i / 26);simp;omega
theorem L4(vs:List Int):∀x:Ty,x.bnd→(C4 vs x).length≤x.size*1000100
 |.nil,_=>by simp[C4]
 |.var n r,h=>by
   have G:=L4 vs r h;rw[show Ty.var n r=(T1.var n).cons r from C,M4,T1.size_cons,fS]
   have D:(match C1 vs n with|some i=>DM i|none=>[]).length≤22:=by
     cases C1 vs n with
     |none=>simp
     |some i=>exact VF i
   simp only[List.length_cons,List.length_append,T1.kids,Ty.size] at D ⊢;omega
 |.con tx k r,h=>by
   have G:=L4 vs r h.2.2;have D:=L4 vs k h.2.1;have K:=h.1.2;rw[show Ty.con tx k r=(T1.con tx k).cons r from C,M4,T1.size_cons]
   have J:(PA vs (.con tx k)).length≤tx.length+k.size*1000100+2:=by
     by_cases F:k.len=0
     · obtain rfl:=Ty.len0 F
       rw[Xu];exact Nat.le_trans (Nat.le_add_right _ _) (Nat.le_add_right _ _)
     · rw[ZR vs tx k F];simp;omega
   simp only[List.length_cons,List.length_append,T1.kids] at J ⊢;omega
theorem UU(i:Nat):Utf8.encode (97+((i % 26:Nat):Int))=⟨[UInt8.ofNat (97+i % 26)].toArray⟩:=by
 have h:∀j,j<26→Utf8.encode (97+((j:Nat):Int))=⟨[UInt8.ofNat (97+j)].toArray⟩:=dC;exact h _ (Nat.mod_lt _ oM)
theorem Sm:∀(k n:Nat),n<10 ^ (k+1)→VU (k+1) n=Lib.decDigits n
 |0,n,h=>by
   have:n<10:=by simpa using h
   rw[Lib.decDigits,VU,if_pos this,dif_pos this]
 |k+1,n,h=>by
   rw[Lib.decDigits,VU]
   by_cases D:n<10
   · rw[if_pos D,dif_pos D]
   · rw[if_neg D,dif_neg D,Sm k (n / 10) (by rw[Nat.pow_succ] at h;omega)]
def MB(vs:List Int)(es:List (Int×Value)):Prop:=Lj es∧∀n,FF es n=(C1 vs n).map λi=>S (DM i)
variable {es:List (Int×Value)}
theorem MB.get{vs:List Int}(h:MB vs es)(n:Int):(FF es n).getD (S [])=S (PA vs (.var n)):=by
 rw[h.2,fS]
 cases C1 vs n <;> rfl
def pG(P:Program)(h:FuncId)(m:Nat):Prop:=∀(w:wO)(f:Fq)(_:Vl w f)(mb:Nat)(vs:List Int)(es:List (Int×Value)),Cz Fu w mb es→MB vs es→∀(t:T1)(a:oA)(c:Nat),t.kids.size<m→t.kids.size≤1000000→t.bnd→Ai w f t.kids a c →
 BF P h #[tV t a c,.map (some mb)] w (Ce (α:=Unit) (λ_=>S (PA vs t)) (λ_=>True) (λ_=>[]) w f)
end Go.SP
namespace Go.SP
open Go.SW Go.RowKit
theorem S0(x n:Int):∀l:List Int,C1 (l++[n]) x=(match C1 l x with|some j=>some j|none=>if n==x then some l.length else none)
 | []=>by simp[C1]
 |k::l=>by
   have D:=S0 x n l;simp only[List.cons_append,C1]
   by_cases h:(k==x)=true
   · rw[if_pos h,if_pos h]
   · rw[if_neg h,if_neg h,D]
     cases C1 l x with
     |some j=>rfl
     |none=>by_cases F:(n==x)=true <;> simp[F]
theorem MB.nil:MB [] []:=⟨tQ,λ_=>C⟩
variable {f:Fq}{es:List (Int×Value)}{l:lV}{b i m mb sb:Nat}
theorem MB.snoc{l:List Int}(h:MB l es){n:Int}(F:l.contains n=false):FF es n=none∧MB (l++[n]) ((n,S (DM l.length))::es):=by
 have G:FF es n=none:=by rw[h.2,NB F];rfl
 refine⟨G,⟨G,h.1⟩,λx=>?_⟩;rw[S0];simp only[FF]
 by_cases D:x=n
 · subst D;rw[NB F];simp
 · have J:(x==n)=false:=by simpa using D
   have K:(n==x)=false:=by simpa using λe:n=x=>D e.symm
   rw[J,K,h.2]
   cases C1 l x <;> simp
theorem I9:∀(x:Ty)(l:List Int),l.Nodup→(BZ x l).Nodup
 |.nil,_,h=>h
 |.var n r,l,h=>by
   simp only[BZ];apply I9 r
   split
   · exact h
   · rename_i F
     have G:n∉l:=by simpa using F
     exact List.nodup_append.2 ⟨h,List.nodup_cons.2 ⟨by simp,List.nodup_nil⟩,λx J y D e=>by simp at D;subst D;subst e;exact G J⟩
 |.con tx k r,l,h=>I9 r _ (I9 k l h)
theorem WK{l:List Int}(h:l.Nodup){n:Int}(F:l[i]?=some n):(l.take i).contains n=false:=by
 have D:=(List.getElem?_eq_some_iff.1 F).1;have e:l=l.take i++l.drop i:=(List.take_append_drop i l).symm
 have hd:n∈l.drop i:=by
   rw[List.drop_eq_getElem_cons D,(List.getElem?_eq_some_iff.1 F).2];exact .head _
 rw[e] at h;have:=(List.nodup_append.1 h).2.2;have G:n∉l.take i:=λhm=>this n hm n hd C;simpa using G
theorem GR(t:T1):(Ak t).length≤t.kids.size+1:=by
 have:=JN t.one [];have e:t.one.size=t.kids.size+0+1:=T1.size_cons t .nil;rw[e] at this;simpa[Ak] using this
theorem BP.new{T:tI}{w:wO}(h:AS w sb [.map (some mb),.int .i64 0,.int .i64 0] T)(D:Cz Fu w mb []):BP T sb mb [] 0 0 w f:=⟨h,[],D,C⟩
theorem uW{w:wO}{T:tI}(h:AS w b l T)(hm:Cz Fu w m es):b≠m:=λe=>by
 subst e;obtain⟨es,c,D,_⟩:=hm;have F:=h.symm.trans D
 cases F
structure Ad where
 cb:Nat
 sb:Nat
 mb:Nat
 km:Nat
 dm:Nat
 rm:Nat
def BD(A:Ad)(b:Nat):Prop:=b=A.cb∨b=A.sb∨b=A.mb∨b=A.km∨b=A.dm∨b=A.rm
structure Ad.ok(A:Ad):Prop where
 cs:A.cb≠A.sb
 cm:A.cb≠A.mb∧A.cb≠A.km∧A.cb≠A.dm∧A.cb≠A.rm
 sm:A.sb≠A.mb∧A.sb≠A.km∧A.sb≠A.dm∧A.sb≠A.rm
 mm:A.mb≠A.km∧A.mb≠A.dm∧A.mb≠A.rm∧A.km≠A.dm∧A.km≠A.rm∧A.dm≠A.rm
def iQ(m:Mk)(aa:oA)(ac:Nat)(oa:oA)(oc:Nat)(va:oA)(vc:Nat):lV:=.slice aa m.args.len ac::(tC m.out oa oc++[.slice va m.vars.length vc])
def Ct(w:wO)(f:Fq):List (lU×Mk)→List (lU×Value)→Prop
 | [],es=>es=[]
 |(k,m)::l,es=>∃aa ac oa oc va vc h,es=(k,.agg (iQ m aa ac oa oc va vc).toArray)::h∧Ai w f m.args aa ac∧Ai w f m.out.kids oa oc∧Ci w f m.vars va vc∧Ct w f l h
variable {A:Ad}{s:CS}{f f':Fq}{b:Nat}{a:oA}{TS:tI}{w w':wO}
theorem Ct.mono(F:Ji w f w' f'):∀(l:List (lU×Mk))(es:List (lU×Value)),Ct w f l es→Ct w' f' l es
 | [],_,h=>h
 |(_,_)::l,_,⟨aa,ac,oa,oc,va,vc,D,G,J,K,L,O⟩=>⟨aa,ac,oa,oc,va,vc,D,G,Ai.mono _ _ _ _ J F,Ai.mono _ _ _ _ K F,Ci.mono _ _ _ _ L F,Ct.mono F l D O⟩
theorem Ct.look{n:lU}:∀{l:List (lU×Mk)}{es:List (lU×Value)},Ct w f l es→(Cb l n=none→FF es n=none)∧∀m,Cb l n=some m→∃aa ac oa oc va vc,FF es n=some (.agg (iQ m aa ac oa oc va vc).toArray)∧Ai w f m.args aa ac∧Ai w f m.out.kids oa oc∧Ci w f m.vars va vc
 | [],es,h=>by
   have h:es=[]:=h;subst h;exact⟨λ_=>C,λt h=>by cases h⟩
 |(k,m)::l,es,⟨aa,ac,oa,oc,va,vc,F,G,J,K,L,O⟩=>by
   subst G;have U:=Ct.look (n:=n) O;simp only[Cb,FF]
   by_cases D:k=n
   · subst D
     refine⟨λh=>by simp at h,λt' h=>?_⟩;simp at h;subst h;exact⟨aa,ac,oa,oc,va,vc,by simp,J,K,L⟩
   · have W:(k==n)=false:=by simpa using D
     have Y:(n==k)=false:=by simpa using λe:n=k=>D e.symm
     rw[W,Y];simpa using U
structure Aw(T TS:tI)(A:Ad)(s:CS)(w:wO)(f:Fq):Prop where
 blk:AS w A.cb [.pointer (some ⟨A.sb,0,none⟩),.map (some A.km),.map (some A.dm),.map (some A.rm),.int .i64 s.vars] T
 sol:∃pr,BP TS A.sb A.mb s.sol s.fresh pr w f
 cons:∃es,Cz CJ w A.km es∧Ct w f s.cons es
 datas:Cz CJ w A.dm (s.datas.map λp=>(p.1,.int .i64 p.2))
 roots:Cz CJ w A.rm (s.roots.map λk=>(k,.bool true))
theorem Aw.stab{T:tI}:G4 (BD A) (Aw T TS A s):=λw f w' f' h F D =>
 ⟨(
   D _ (.inl C)).trans h.blk,let ⟨pr,G⟩:=h.sol;⟨pr,BP.stab (MI:=Nn A.sb A.mb) (.inl C) (.inr C) _ _ _ _ G F λb hm=>D b (hm.elim (λe=>.inr (.inl e)) λe=>.inr (.inr (.inl e)))⟩,
   let ⟨es,J,K⟩:=h.cons;⟨es,J.heap (D _ (.inr (.inr (.inr (.inl C))))),Ct.mono F _ _ K⟩,h.datas.heap (D _ (.inr (.inr (.inr (.inr (.inl C)))))),h.roots.heap (D _ (.inr (.inr (.inr (.inr (.inr C))))))⟩
theorem Aw.lt{T:tI}(h:Aw T TS A s w f)(D:BD A b):b<w.heap.size:=by
 rcases D with rfl|rfl|rfl|rfl|rfl|rfl
 · exact h.blk.lt
 · obtain⟨_,F⟩:=h.sol;exact F.1.lt
 · obtain⟨_,_,_,hm,_⟩:=h.sol;exact hm.lt
 · obtain⟨_,hm,_⟩:=h.cons;exact hm.lt
 · exact h.datas.lt
 · exact h.roots.lt
structure DQ(s:CS):Prop where
 sol:Jl s.sol
 cons:∀k m,Cb s.cons k=some m→m.args.len≤200000∧m.args.bnd∧m.out.bnd∧m.vars.length≤200000
 dc:Lj (s.cons.map λp=>(p.1,Value.bool true))
 dd:Lj (s.datas.map λp=>(p.1,Value.int .i64 p.2))
 dr:Lj (s.roots.map λk=>(k,Value.bool true))
 fr:0≤s.fresh
def AN(w:wO)(f:Fq):AB→oA→Prop
 | [],a=>a=none
 |b::e,a=>∃k h D va vc F,a=some ⟨k,0,none⟩∧Cs w f k 0 (S b.name::(tC b.t h D++[.slice va b.all.length vc,.pointer F]))∧Ai w f b.t.kids h D∧Ci w f b.all va vc∧AN w f e F
theorem AN.mono'(D:Ji w f w' f'):∀(e:AB)(a:oA),AN w f e a→AN w' f' e a
 | [],_,h=>h
 |_::e,_,⟨k,G,J,va,vc,F,K,L,O,U,W⟩=>⟨k,G,J,va,vc,F,K,L.mono D,Ai.mono _ _ _ _ O D,Ci.mono _ _ _ _ U D,AN.mono' D e F W⟩
theorem AN.mono{e:AB}:G0 (λw f=>AN w f e a):=λ_ _ _ _ h D=>AN.mono' D e a h
def Gi(e:AB):Prop:=∀b,b∈e→b.t.bnd∧b.all.length≤1000000
def trI(T:tI)(e:Er):List PanicEntry:=[{v:=.iface T (.agg #[.int .i64 e.1,.int .i64 e.2.1,.int .i64 e.2.2]),recovered:=false}]
def PanE(T:tI)(M:Nat→Prop)(q:Er→Prop)(w:wO)(f:Fq)(c:List PanicEntry)(w':wO):Prop:=∃er f',c=trI T er∧q er∧CQ M w f w' f'
abbrev XC(T TS:tI)(A:Ad)(s:CS)(w:wO)(f:Fq):Cx:=⟨BD A,BD A,Aw T TS A s,w,f⟩
theorem Ma{T:tI}{Fs:List (wO→Fq→Prop)}(F:Vl w f)(h:Aw T TS A s w f)(G:∀b,BD A b→f b=0)(J:AM Fs w f)(hm:A2 Fs):AU (XC T TS A s w f) w f [] [] [] Fs :=
 cI (M:=BD A) F h Aw.stab (λb D=>⟨h.lt D,G b D⟩) J hm
theorem Zs{s:Bk}:∀(k:Nat)(x:Ty)(j:Nat),B9 s k x=some j→(AE s k x).size+j≤k:=by
 intro k
 induction k using Nat.strongRecOn with
 |_ k L =>
   intro x j h
   have key:∀(D:Nat)(F r:Ty),D<k→B9 s D (F.app r)=some j→(AE s D F).size+(AE s D r).size+j≤D:=by
     intro D F r O G;rw[HL] at G
     cases J:B9 s D F with
     |none=>rw[J] at G;cases G
     |some j1 =>
       rw[J] at G;have G:B9 s j1 r=some j:=G;have U:=EH s _ _ _ J;have W:=L D O F j1 J;have Y:=L j1 oM r j G;rw[Qk j1 r j G D (by omega)];omega
   cases x with
   |nil=>rw[HA];cases k <;> (cases h;simp[Ty.size])
   |var n r =>
     cases k with
     |zero=>cases h
     |succ k =>
       simp only[B9] at h
       cases K:Af s (.var n) with
       |var q =>
         rw[K] at h;have:=key k .nil r oM h;simp only[AE,K,Ty.size];rw[HA] at this;simp only[Ty.size] at this;omega
       |con tx F =>
         rw[K] at h;have:=key k F r oM h;simp only[AE,K,Ty.size];omega
   |con tx F r =>
     cases k with
     |zero=>cases h
     |succ k =>
       simp only[B9] at h;have:=key k F r oM h;simp only[AE,Ty.size];omega
theorem eH(s:Bk)(k:Nat)(t:T1):AE s (k+1) t.one=(AE s (k+1) t.one).hd.one:=by
 cases t with
 |var n =>
   simp only[T1.one,T1.cons,AE]
   cases Af s (.var n) <;> (simp only[HA];rfl)
 |con tx h=>simp only[T1.one,T1.cons,AE,HA];rfl
theorem Ja{s:Bk}{t u:T1}(h:fullS s t=some u):u.kids.size+1≤1000:=by
 unfold fullS at h
 split at h
 · rename_i D
   rw[D0,DA] at D;obtain⟨j,F⟩:=Option.isSome_iff_exists.1 D;have J:=Zs 1000 t.one j F;have G:=eH s 999 t
   cases h
   have K:(AE s 1000 t.one).size=(AE s 1000 t.one).hd.kids.size+0+1:=(congrArg Ty.size G).trans (T1.size_cons _ .nil);omega
 · cases h
theorem K2{s:Bk}(hw:Jl s){t u:T1}(D:t.bnd)(h:fullS s t=some u):u.bnd:=by
 unfold fullS at h
 split at h
 · cases h;exact bO hw D 1000
 · cases h
end Go.SP
namespace Go.SW
open Go.RowKit Go.SP
variable {args:Array Value}{f f':Fq}{fid:FuncId}{M:Nat→Prop}{w w':wO}
theorem AU.exmI{X:Cx}{H:List HB}{R:List RB}{B:List FB}{Fs:List (wO→Fq→Prop)}(h:AU X w f H R B Fs)(D:∀b,M b→X.MI b)(he:CQ M w f w' f'):CQ X.M X.w0 X.f0 w' f' :=
 (h.callI (I':=λ_ _=>True) (he.mono D) tQ (λ_ _ _ _ _ _ _=>trivial)).exm
section
variable{P:Program}{n:Nat}{Q:Bh}{ds:List Deferred}{X:Cx}{R:List RB}{B:List FB}{Fs:List (wO→Fq→Prop)}{fs:List Fr}{σ:Bp}{H:List HB}
variable{all r:List Oper}{ty T:tI}{AX:String}{af:Array Edge}{g:Option (Nat×Bool)}{d:Nat}
theorem Ef{op:Op}{α:Type}{val:α→Value}{q:α→Prop}{I':α→wO→Fq→Prop}{F':α→List (wO→Fq→Prop)}{pe:Er→Prop}
   (L:gd all σ g=some true) (hd:Nat.blt d n=true) (he:∀w,Enters P σ op ty w fid args) (O:∀b,M b→X.MI b)
   (U:∀w f,AU X w f H R B Fs→BU P fid args w (Fv val q X.MI I' F' w f) (PanE T M pe w f)) (D:∀x,G4 X.MI (I' x)) (hm:∀x,A2 (F' x))
   (W:∀er w' f',pe er→CQ X.M X.w0 X.f0 w' f'→Q.p (trI T er) σ ds w')
   (h:∀x,q x→A7 P n Q ds {X with I:=I' x} R B (F' x++Fs) (.ops all r) fs (AH σ d (val x)) H):A7 P n Q ds X R B Fs (.ops all (⟨some d,op,ty,AX,af,g⟩::r)) fs σ H :=
 P9 (XX:=λc w'=>∃er f',c=trI T er∧pe er∧CQ X.M X.w0 X.f0 w' f') L hd he (λw f K=>(U w f K).mono (λ_ _ h=>h) λ_ _ ⟨er,f',F,G,J⟩=>⟨er,f',F,G,K.exmI O J⟩) D hm (λ_ _ _ _ _ ⟨er,f',F,G,J⟩=>F▸W er _ f' G J) h
theorem NN{op:Op}{pe:Er→Prop}
   (D:gd all σ g=some true) (hd:Nat.blt d n=true) (he:∀w,Enters P σ op ty w fid args) (F:∀b,M b→X.MI b)
   (G:∀w f,AU X w f H R B Fs→BU P fid args w (λ_ _=>False) (PanE T M pe w f))
   (J:∀er w' f',pe er→CQ X.M X.w0 X.f0 w' f'→Q.p (trI T er) σ ds w'):A7 P n Q ds X R B Fs (.ops all (⟨some d,op,ty,AX,af,g⟩::r)) fs σ H :=
 Ef (α:=Unit) (val:=λ_=>.tuple #[]) (q:=λ_=>False) (I':=λ_ _ _=>True) (F':=λ_=>[]) D hd he F (λw f K=>(G w f K).mono (λ_ _ h=>h.elim) λ_ _ h=>h) (λ_ _ _ _ _ _ _ _=>trivial) (λ_=>trivial) J (λ_ h=>h.elim)
end
end Go.SW
namespace Go.SP
open Go.SW Go.RowKit
variable {A:Ad}{s:CS}{f f':Fq}{fr pr:Int}{M:Nat→Prop}{TS:tI}{w w' w0:wO}
theorem Nn.c:∀b,Nn A.sb A.mb b→BD A b:=λ_ h=>h.elim (λe=>.inr (.inl e)) λe=>.inr (.inr (.inl e))
theorem Aw.solved{T:tI}(h:Aw T TS A s w f)(D:A.ok)(J:Vl w f)(hz:∀b,Nn A.sb A.mb b→f b=0)(F:CQ (Nn A.sb A.mb) w f w' f'){s':Bk}(K:BP TS A.sb A.mb s' fr pr w' f'):Aw T TS A {s with sol:=s',fresh:=fr} w' f' where
 blk:=(F.stp.block _ (h.lt (.inl C)) (λe=>e.elim D.cs D.cm.1)).trans h.blk
 sol:=⟨pr,K⟩
 cons:=let ⟨es,G,L⟩:=h.cons;⟨es,G.heap (F.stp.block _ G.lt (λe=>e.elim (λe=>D.sm.2.1 e.symm) (λe=>D.mm.1 e.symm))),Ct.mono (F.fle J hz) _ _ L⟩
 datas:=h.datas.heap (F.stp.block _ h.datas.lt (λe=>e.elim (λe=>D.sm.2.2.1 e.symm) (λe=>D.mm.2.1 e.symm)))
 roots:=h.roots.heap (F.stp.block _ h.roots.lt (λe=>e.elim (λe=>D.sm.2.2.2 e.symm) (λe=>D.mm.2.2.1 e.symm)))
theorem iS{P:Program}{n:Nat}{Q:Bh}{ds:List Deferred}{f0:Fq}{T:tI}{R:List RB}{B:List FB}{Fs:List (wO→Fq→Prop)}{fs:List Fr}{σ:Bp}{H:List HB}{k:Mj}
   (h:∀pr,A7 P n Q ds ⟨M,BD A,λw f=>Aw T TS A s w f∧BP TS A.sb A.mb s.sol s.fresh pr w f,w0,f0⟩ R B Fs k fs σ H):A7 P n Q ds ⟨M,BD A,Aw T TS A s,w0,f0⟩ R B Fs k fs σ H :=
 mxi (X:=⟨M,BD A,Aw T TS A s,w0,f0⟩) (λpr w f=>Aw T TS A s w f∧BP TS A.sb A.mb s.sol s.fresh pr w f) (λw f h=>let ⟨pr,G⟩:=h.sol;⟨pr,h,G⟩) (λpr w f w' f' h D F=>⟨Aw.stab w f w' f' h.1 D F,BP.stab (MI:=Nn A.sb A.mb) (.inl C) (.inr C) _ _ _ _ h.2 D λb hm=>F b (Nn.c b hm)⟩) h
end Go.SP
namespace Go.SP
open Go.SW Go.RowKit
def EI(fr:Int):Nat→Ty
 |0=>.nil
 |n+1=>.var (fr+1) (EI (fr+1) n)
theorem FW:∀(n:Nat)(fr:Int),(EI fr n).len=n
 |0,_=>rfl
 |n+1,fr=>by simp only[EI,Ty.len];rw[FW n]
theorem IT:∀(n:Nat)(fr:Int),(EI fr n).bnd
 |0,_=>trivial
 |n+1,fr=>IT n (fr+1)
theorem MW:∀(n:Nat)(fr:Int),EI fr (n+1)=(EI fr n).snoc (.var (fr+n+1))
 |0,fr=>by simp[EI,Ty.snoc,Ty.app,T1.one,T1.cons]
 |n+1,fr=>by
   have:=MW n (fr+1);rw[EI,this];show _=Ty.var _ _
   congr 2
   simp;omega
theorem BW:∀(l:List Int)(s:CS),AL l s=(EI s.fresh l.length,{s with fresh:=s.fresh+l.length})
 | [],s=>by simp[AL,EI]
 |_::l,s=>by
   have h:=BW l (Au s).2;simp only[AL,T1.cons,EI,List.length_cons];rw[h];simp only[Au,T1.cons];have e:s.fresh+1+(l.length:Int)=s.fresh+((l.length+1:Nat):Int):=oM;rw[e]
variable {s:CS}
theorem DQ.fresh(h:DQ s){n:Int}(D:0≤n):DQ {s with fresh:=n}:={h with fr:=D}
end Go.SP
namespace Go.SP
open Go.SW Go.RowKit
variable {A:Ad}{Q:Bh}{σ:Bp}{s:CS}{f:Fq}{Fs:List (wO→Fq→Prop)}{ds:List Deferred}{B:List FB}{fs:List Fr}{H:List HB}{n:Nat}{M:Nat→Prop}{P:Program}{T TS:tI}{w w0:wO}
theorem Ct.keys{n:lU}:∀{l:List (lU×Mk)}{es:List (lU×Value)},Ct w f l es→(FF (l.map λp=>(p.1,Value.bool true)) n=none→FF es n=none)
 | [],es,h,_=>by have h:es=[]:=h;subst h;rfl
 |(k,m)::l,es,⟨_,_,_,_,_,_,F,G,_,_,_,J⟩,D=>by
   subst G;simp only[List.map,FF] at D ⊢
   split at D
   · cases D
   · rename_i K;rw[if_neg K];exact Ct.keys J D
theorem Ct.dis:∀{l:List (lU×Mk)}{es:List (lU×Value)},Ct w f l es→Lj (l.map λp=>(p.1,Value.bool true))→Lj es
 | [],es,h,_=>by have h:es=[]:=h;subst h;trivial
 |(k,m)::l,es,⟨_,_,_,_,_,_,F,G,_,_,_,D⟩,hd=>by
   subst G;exact⟨Ct.keys D hd.1,Ct.dis D hd.2⟩
theorem mxk{f0:Fq}{R:List RB}{k:Mj}
   (h:∀es,A7 P n Q ds ⟨M,BD A,λw f=>Aw T TS A s w f∧Cz CJ w A.km es∧Ct w f s.cons es,w0,f0⟩ R B Fs k fs σ H):A7 P n Q ds ⟨M,BD A,Aw T TS A s,w0,f0⟩ R B Fs k fs σ H :=
 mxi (X:=⟨M,BD A,Aw T TS A s,w0,f0⟩) (λes w f=>Aw T TS A s w f∧Cz CJ w A.km es∧Ct w f s.cons es) (λw f h=>let ⟨es,G,J⟩:=h.cons;⟨es,h,G,J⟩) (λes w f w' f' h D F=>⟨Aw.stab w f w' f' h.1 D F,h.2.1.heap (F _ (.inr (.inr (.inr (.inl C))))),Ct.mono D _ _ h.2.2⟩) h
end Go.SP
namespace Go.SW
open Go.RowKit Go.SP
variable {Q:Bh}{σ:Bp}{X:Cx}{Fs:List (wO→Fq→Prop)}{ds:List Deferred}{B:List FB}{fs:List Fr}{H:List HB}{n:Nat}{P:Program}
theorem Sp{R:List RB}{k:Mj}{r:RB}(φ:wO→Fq→Prop)(hm:G0 φ)(G:∀w f,AU X w f H (r::R) B Fs→∃f',AU X w f' H R B Fs∧φ w f')
   (h:A7 P n Q ds X R B (φ::Fs) k fs σ H):A7 P n Q ds X (r::R) B Fs k fs σ H:=λw f J=>by
 obtain⟨f',D,F⟩:=G w f J;exact h w f' (D.more (B':=[]) (F':=[φ]) (λ_ h=>by cases h) (AM.mem ⟨F,tQ⟩) (A2.mem ⟨hm,tQ⟩))
end Go.SW
namespace Go.SP
open Go.SW Go.RowKit
variable {X:Cx}{f:Fq}{Fs:List (wO→Fq→Prop)}{B:List FB}{H:List HB}{xs:lV}{m:Nat}{a:oA}{e:tI}{w:wO}
theorem HQ{R:List RB}{c:Nat}{k:Ty}(F:AU X w f H (⟨e,4,a,c,m,xs⟩::R) B Fs)(G:Bn w f k xs):∃f',AU X w f' H R B Fs∧Ai w f' k a c:=by
 rcases Nat.eq_zero_or_pos k.len with D|D
 · obtain rfl:=Ty.len0 D
   exact⟨f,F.less (List.Sublist.refl _) (List.sublist_cons_self _ _) (λ_ h=>h) (λ_ h=>h),Ai.nil _ _ _ _⟩
 · exact OQ F G D
theorem Nt{R:List RB}{c:Nat}{l:List Int}(F:AU X w f H (⟨3,1,a,c,l.length,l.map λn=>.int .i64 n⟩::R) B Fs):∃f',AU X w f' H R B Fs∧Ci w f' l a c:=by
 have K:=F.row _ (.head _);rcases K.2 with ⟨_,_,hz⟩|⟨b,q,J,L,G,_,O,U⟩
 · simp only at hz
   exact⟨f,F.less (List.Sublist.refl _) (List.sublist_cons_self _ _) (λ_ h=>h) (λ_ h=>h),oM,.inl (by cases l with|nil=>rfl|cons _ _=>simp at hz)⟩
 · simp only at J
   subst J;obtain⟨f',D⟩:=F.done (i:=0) C C;refine⟨f',D.less (List.Sublist.refl _) (List.Sublist.refl _) (λ_ h=>.tail _ h) (λ_ h=>h),G,.inr ⟨b,0,C,D.fro _ (.head _)⟩⟩
end Go.SP
namespace Go.SW
open Go.RowKit Go.SP
section
variable{κ:Type}[BEq κ]{K:Key κ}[LawfulBEq κ]
theorem Qo(x:κ):∀(es:List MapEntry)(l:List (κ×Value))(i:Nat)(v:Value),es.map (λe=>(e.key,e.val))=l.map (λp=>(K.enc p.1,p.2))→Mz x l=some v →
   ∃j e,Instr.findNow K.desc (K.enc x) es i=some (some (i+j,v))∧es[j]?=some e∧e.key=K.enc x∧e.val=v
 | [],[],i,v,_,h=>by cases h
 | [],_::_,_,_,h,_=>by simp at h
 |_::_,[],_,_,h,_=>by simp at h
 |e::es,p::l,i,v,h,D=>by
   simp only[List.map_cons,List.cons.injEq,Prod.mk.injEq] at h;obtain⟨⟨G,J⟩,O⟩:=h;have U:Instr.sameNow K.desc (K.enc x) e.key=some (x==p.1):=by rw[G];exact K.same x p.1
   obtain⟨L,pv⟩:=p;unfold Instr.findNow;unfold Mz at D;rw[U]
   cases F:x==L with
   |true =>
     rw[F] at D;have D:pv=v:=by simpa using D
     have he:x=L:=by simpa using F
     subst he;exact⟨0,e,by simp[J,D],C,G,J.trans D⟩
   |false =>
     rw[F] at D;obtain⟨j,W,Y,Z,h3⟩:=Qo x es l (i+1) v O (by simpa using D);exact⟨j+1,W,by simp only[Y];congr 3;omega,Z,h3⟩
variable{P:Program}{n:Nat}{Q:Bh}{ds:List Deferred}{X:Cx}{R:List RB}{B:List FB}{Fs:List (wO→Fq→Prop)}{fs:List Fr}{σ:Bp}{H:List HB}{w:wO}
variable{all r:List Oper}{ty T k e:tI}{AX:String}{af:Array Edge}{g:Option (Nat×Bool)}{d m:Nat}{x y z:Operand}{a:κ}{l:List (κ×Value)}
theorem VB{v:Value}(hT:G8 P T=some (k,e))(Y:P.underlying k=some K.desc)(J:Instr.sameBits 10000 (K.enc a) (K.enc a)=true)(hm:Cz K w m l)(hd:Lj l)(hn:FF l a=some v):∃w',(Instr.mapUpdate T (.map (some m)) (K.enc a) v).run P w=.ok () w'∧Cz K w' m l∧GW m w w':=by
 have hu:=Kd hT;obtain⟨es,c,Z,h2⟩:=id hm;obtain⟨j,e',hj,he,h,L⟩:=Qo (K:=K) a es l.reverse 0 v h2 (by rw[R4 a l hd];exact hn);have D:(getObj m).run P w=.ok (.map es.toArray c) w:=by simp[getObj,Sem.run,Z]
 have O:=hm.lt;have U:=λb=>K.chk P k w a b Y
 have F:∀o,(setObj m o).run P w=.ok () {w with heap:=w.heap.setIfInBounds m o}:=λo=>by
   simp[setObj,Sem.run,Z]
 rw[Nat.zero_add] at hj;refine⟨{w with heap:=w.heap.setIfInBounds m (.map (es.toArray.modify j λe=>{e with key:=K.enc a,val:=v}) c)},?_,?_,?_⟩
 · simp only[Instr.mapUpdate,Sem.run_bind,run_underlying hu,Result.andThen_ok,D]
   simp only[U,Result.andThen_ok,Instr.findKey,Sem.run_bind,run_underlying Y,hj];simp only[Sem.run_pure,Result.andThen_ok,List.getElem?_toArray,he,Option.map_some,Option.getD_some,h,Instr.keyThatStays,J,if_true];exact F _
 · refine⟨es.modify j λe=>{e with key:=K.enc a,val:=v},c,?_,?_⟩
   · rw[show (es.modify j λe=>{e with key:=K.enc a,val:=v}).toArray=es.toArray.modify j λe=>{e with key:=K.enc a,val:=v} from Array.ext' (by simp)]
     simp[O]
   · rw[← h2]
     apply List.ext_getElem?;intro i;rw[List.getElem?_map,List.getElem?_map,List.getElem?_modify]
     by_cases G:j=i
     · subst G
       rw[he];simp[h,L]
     · simp[G]
 · refine⟨C,C,C,by simp,λi W=>?_⟩
   show (w.heap.setIfInBounds m _)[i]?=_;rw[Array.getElem?_setIfInBounds_ne (λe=>W e.symm)]
variable {I':wO→Fq→Prop}
theorem mupS{v:Value}(U:gd all σ g=some true)(W:ev σ x=some (.map (some m)))(Y:ev σ y=some (K.enc a))(hz:ev σ z=some v)(Z:G8 P T=some (k,e))(hk:P.underlying k=some K.desc)(G:Instr.sameBits 10000 (K.enc a) (K.enc a)=true)(J:X.MI m)(hd:Lj l)(hn:FF l a=some v)
   (hm:∀w f,X.I w f→Cz K w m l) (hI:∀w f w',X.I w f→AU X w f H R B Fs→GW m w w'→Cz K w' m l→I' w' f) (L:G4 X.MI I')
   (h:A7 P n Q ds {X with I:=I' } R B Fs (.ops all r) fs σ H):A7 P n Q ds X R B Fs (.ops all (⟨none,.mapUpdate T x y z,ty,AX,af,g⟩::r)) fs σ H:=λw f F=>by
 obtain⟨w',h1,h2,O⟩:=VB (v:=v) Z hk G (hm w f F.res) hd hn;refine BE U (JD (w':=w') (λρ _ _ _ _ D=>?_) (h w' f (F.chgI J O (hI w f w' F.res F O h2) L)));simp only[execOp,D _ _ W,D _ _ Y,D _ _ hz];rw[Sem.run_bind,h1];rfl
omit [LawfulBEq κ] in
theorem dL(O:gd all σ g=some true)(hd:Nat.blt d n=true)
   (h:∀m,¬X.MI m→A7 P n Q ds {X with MI:=λb=>X.MI b∨b=m,I:=λw f=>X.I w f∧Cz K w m []} R B Fs (.ops all r) fs (AH σ d (.map (some m))) H):A7 P n Q ds X R B Fs (.ops all (⟨some d,.makeMap T none,ty,AX,af,g⟩::r)) fs σ H:=λw f G=>by
 refine BE O (Ab (v:=.map (some w.heap.size)) (w':=w.alloc (.map #[] 0)) hd (λρ _ _ _ _ U=>by simp[execOp,Instr.makeMap]) (h w.heap.size (λhm=>Nat.lt_irrefl _ (G.mi _ hm).1) _ f ?_));have F:AU X (w.alloc (.map #[] 0)) f H R B Fs:=G.call0 (CQ.of_ext (Ku w _) G.val);have J:∀b,b∈CX H R→b≠w.heap.size:=λb D e=>Nat.lt_irrefl _ (e▸G.lt D)
 exact {F with
         res:=⟨F.res,[],0,heap_alloc_new w _,C⟩,
         stab:=λW f1 Y f2 L Z D=>⟨F.stab W f1 Y f2 L.1 Z λb hm=>D b (.inl hm),L.2.heap (D _ (.inr C))⟩,
         mi:=λb D=>by
           rcases D with D|rfl
           · exact F.mi b D
           · exact⟨by rw[Hw];omega,G.val _ (Nat.le_refl _),.inl G.stp.size⟩,
         own:=λb D=>⟨(F.own b D).1,(F.own b D).2.1,λhm=>by
           rcases hm with hm|rfl
           · exact (F.own b D).2.2 hm
           · exact J _ D C⟩}
end
end Go.SW
namespace Go.SP
open Go.SW Go.RowKit
def L5(T TS:tI)(A:Ad)(s:CS)(m:Nat)(l:List Int)(w:wO)(f:Fq):Prop:=Aw T TS A s w f∧Cz Fu w m (HN l)
variable {A:Ad}{s:CS}{f:Fq}{mb:Nat}{M:Nat→Prop}{TS:tI}{w' w0:wO}
theorem L5.stab{T:tI}{m:Nat}{l:List Int}:G4 (λb=>BD A b∨b=m) (L5 T TS A s m l):=λw f w' f' h F D =>
 ⟨Aw.stab w f w' f' h.1 F λb hm=>D b (.inl hm),h.2.heap (D _ (.inr C))⟩
theorem Aw.chg{T:tI}{m:Nat}{w:wO}(h:Aw T TS A s w f)(D:GW m w w')(hm:¬BD A m)(F:f m=0):Aw T TS A s w' f :=
 Aw.stab w f w' f h (GW.fle D F) λb G=>D.block b λe=>hm (e▸G)
theorem P3(l:List Int)(v n:Int):(l++[v]).contains n=(l.contains n||v==n):=by
 cases h:(v==n) with
 |true =>
   have:v=n:=by simpa using h
   subst this;simp
 |false =>
   have:¬v=n:=by simpa using h
   simp;intro D;exact absurd D.symm this
theorem sbI(n:Int):Instr.sameBits 10000 (Fu.enc n) (Fu.enc n)=true:=by
 show Instr.sameBits 10000 (.int .i64 n) (.int .i64 n)=true;simp[Instr.sameBits]
theorem Lm(l:List Int)(v n:Int)(q:List Int)(b:Bool):(((if l.contains v then l else l++[v]).contains n||q.contains n)||b)=((l.contains n||(v::q).contains n)||b):=by
 have D:(v::q).contains n=((v==n)||q.contains n):=by
   rw[List.contains_cons];congr 1
   cases h:(v==n) with
   |true =>
     have:v=n:=by simpa using h
     subst this;simp
   |false =>
     have:¬v=n:=by simpa using h
     simpa using λe:n=v=>this e.symm
 rw[D]
 split
 · rename_i F
   cases G:(v==n) with
   |true =>
     have:v=n:=by simpa using G
     subst this;rw[F];simp
   |false=>simp
 · rw[P3,Bool.or_assoc (l.contains n)]
theorem Qv{l:List Int}{v:Int}(h:l.Nodup):(if l.contains v then l else l++[v]).Nodup:=by
 split
 · exact h
 · rename_i D
   refine List.nodup_append.2 ⟨h,List.pairwise_singleton _ _,λa F b G e=>?_⟩;obtain rfl:b=v:=by simpa using G
   subst e;exact D (by simpa using F)
theorem xV{P:Program}{n:Nat}{Q:Bh}{ds:List Deferred}{f0:Fq}{T:tI}{R:List RB}{B:List FB}{Fs:List (wO→Fq→Prop)}{fs:List Fr}{σ:Bp}{H:List HB}
   {all r:List Oper} {ty O k e:tI} {AX:String} {af:Array Edge} {g:Option (Nat×Bool)} {x y z:Operand} {l:List Int} {v:Int} (U:gd all σ g=some true) (W:ev σ x=some (.map (some mb))) (Y:ev σ y=some (.int .i64 v)) (hz:ev σ z=some (.bool true))
   (Z:G8 P O=some (k,e)) (hk:P.underlying k=some (.int .i64)) (D:¬BD A mb) (F:l.Nodup)
   (h:A7 P n Q ds ⟨M,λb=>BD A b∨b=mb,L5 T TS A s mb (if l.contains v then l else l++[v]),w0,f0⟩ R B Fs (.ops all r) fs σ H) :
   A7 P n Q ds ⟨M,λb=>BD A b∨b=mb,L5 T TS A s mb l,w0,f0⟩ R B Fs (.ops all (⟨none,.mapUpdate O x y z,ty,AX,af,g⟩::r)) fs σ H:=by
 cases G:l.contains v with
 |true =>
   rw[G] at h;exact mupS (K:=Fu) (a:=v) (l:=HN l) (I':=L5 T TS A s mb l) U W Y hz Z hk (sbI v) (.inr C) (Ln F) (by rw[Ww,G];rfl) (λw f h=>h.2) (λw f w2 h J L hm=>⟨h.1.chg L D (J.mi mb (.inr C)).2.1,hm⟩) L5.stab h
 |false =>
   rw[G] at h;exact iT (K:=Fu) (a:=v) (l:=HN l) (I':=L5 T TS A s mb (l++[v])) U W Y hz Z hk (.inr C) (Ln F) (Xn G) (λw f h=>h.2) (λw f w2 h J L hm=>⟨h.1.chg L D (J.mi mb (.inr C)).2.1,by rw[QE];exact hm⟩) L5.stab h
theorem Gi.cons{e:AB}(h:Gi e){b:Bd}(F:b.t.bnd)(G:b.all.length≤1000000):Gi (b::e):=λb2 D=>by
 rcases List.mem_cons.1 D with rfl|D
 · exact⟨F,G⟩
 · exact h b2 D
theorem Nd.len_le:∀x:Nd,x.len≤x.size
 |.nil=>Nat.le_refl _
 |.cons _ _ _ _ _ k r=>by have:=Nd.len_le r;simp only[Nd.len,Nd.size];omega
theorem Nd.cases1(x:Nd)(h:0<x.len):∃op ln co tx nm k r,x=.cons op ln co tx nm k r:=by
 cases x with
 |nil=>simp[Nd.len] at h
 |cons op ln co tx nm k r=>exact⟨op,ln,co,tx,nm,k,r,C⟩
theorem Nd.len0{x:Nd}(h:x.len=0):x=.nil:=by
 cases x with
 |nil=>rfl
 |cons=>simp[Nd.len] at h
def Nd.wfm:Nd→Nat→Prop
 |.nil,m=>m=0∨m=1∨m=9
 |.cons op _ _ _ _ k r,m =>
   let X:Prop:=(1≤op∧op≤5)∨(op=6∧k.wfm 0)∨(op=7∧k.wfm 4)∨((op=8∨op=12)∧0<k.len∧k.wfm 0)∨((op=9∨op=10)∧k.wfm 6)∨(op=11∧k.wfm 7)∨(op=13∧k.wfm 0)∨((op=14∨op=15)∧k.wfm 5)∨((op=16∨op=17)∧k.wfm 3)
   match m with
   |0=>X∧r.wfm 0
   |1=>k.wfm 8∧r.wfm 1
   |2=>r.wfm 3
   |3=>X
   |4=>(r=.nil∧X)∨(r≠.nil∧r.wfm 4)
   |5=>X∧0<r.len∧r.wfm 1
   |6=>X∧r.wfm 3
   |7=>X∧r.wfm 6
   |8=>((21≤op∧op≤27)∧k.wfm 9)∧r.wfm 3
   |9=>((21≤op∧op≤27)∧k.wfm 9)∧r.wfm 9
   |_=>False
def FK(op:Int)(k:Nd):Prop:=(1≤op∧op≤5)∨(op=6∧k.wfm 0)∨(op=7∧k.wfm 4)∨((op=8∨op=12)∧0<k.len∧k.wfm 0)∨((op=9∨op=10)∧k.wfm 6)∨(op=11∧k.wfm 7)∨(op=13∧k.wfm 0)∨((op=14∨op=15)∧k.wfm 5)∨((op=16∨op=17)∧k.wfm 3)
section
variable{op ln co nm:Int}{tx:lU}{k r:Nd}
theorem uO:(Nd.cons op ln co tx nm k r).wfm 0↔FK op k∧r.wfm 0:=Iff.rfl
theorem wfm1:(Nd.cons op ln co tx nm k r).wfm 1↔k.wfm 8∧r.wfm 1:=Iff.rfl
theorem wfm8:(Nd.cons op ln co tx nm k r).wfm 8↔((21≤op∧op≤27)∧k.wfm 9)∧r.wfm 3:=Iff.rfl
theorem Y7:(Nd.cons op ln co tx nm k r).wfm 3↔FK op k:=Iff.rfl
theorem mC:(Nd.cons op ln co tx nm k r).wfm 4↔(r=.nil∧FK op k)∨(r≠.nil∧r.wfm 4):=Iff.rfl
theorem wfm6:(Nd.cons op ln co tx nm k r).wfm 6↔FK op k∧r.wfm 3:=Iff.rfl
end
abbrev nV(op ln co:Int)(tx:lU)(nm:Int)(k:Nd)(h:oA)(nc:Nat):Value:=.agg #[.int .i64 op,.int .i64 ln,.int .i64 co,S tx,.int .i64 nm,.slice h k.len nc]
def dO(P:Program)(h:FuncId)(n:Nat):Prop:=∀(w:wO)(f:Fq)(_:Vl w f)(op ln co nm:Int)(tx:lU)(kids:Nd)(D:oA)(nc:Nat),kids.size<n→kids.size≤1000000→Ba w f kids D nc →
 BF P h #[nV op ln co tx nm kids D nc] w (Ce (α:=Unit) (λ_=>.bool (Br n op kids)) (λ_=>True) (λ_=>[]) w f)
end Go.SP
namespace Go.SW
open Go.RowKit
variable {σ':Bp}{vs:lV}{x0 x1 x10 x2 x3 x4 x5 x6 x7 x8 x9:Value}{a0 a1 a10 a11 a12 a13 a2 a3 a4 a5 a6 a7 a8 a9:wO→Fq→Prop}
theorem lE{σ:Bp}(h:Le σ' σ:=by (repeat (first|exact KF _|refine AD ?_ rfl))):Le σ' σ:=h
theorem lu1{σ:Bp}{a0:Nat}(h:σ a0=some x0):Le (AH e0 a0 x0) σ:=AD (KF _) h
@[reducible] def E2(a0:Nat)(x0:Value)(a1:Nat)(x1:Value):Bp:=AH (AH e0 a0 x0) a1 x1
theorem lu3{σ:Bp}{a0 a1 a2:Nat}(h:σ a0=some x0)(D:σ a1=some x1)(F:σ a2=some x2):Le (AH (AH (AH e0 a0 x0) a1 x1) a2 x2) σ:=AD (AD (AD (KF _) h) D) F
@[reducible] def E3(a0:Nat)(x0:Value)(a1:Nat)(x1:Value)(a2:Nat)(x2:Value):Bp:=AH (AH (AH e0 a0 x0) a1 x1) a2 x2
theorem lu4{σ:Bp}{a0 a1 a2 a3:Nat}(h:σ a0=some x0)(D:σ a1=some x1)(F:σ a2=some x2)(G:σ a3=some x3):Le (AH (AH (AH (AH e0 a0 x0) a1 x1) a2 x2) a3 x3) σ:=AD (AD (AD (AD (KF _) h) D) F) G
@[reducible] def E4(a0:Nat)(x0:Value)(a1:Nat)(x1:Value)(a2:Nat)(x2:Value)(a3:Nat)(x3:Value):Bp:=AH (AH (AH (AH e0 a0 x0) a1 x1) a2 x2) a3 x3
theorem lu5{σ:Bp}{a0 a1 a2 a3 a4:Nat}(h:σ a0=some x0)(D:σ a1=some x1)(F:σ a2=some x2)(G:σ a3=some x3)(J:σ a4=some x4):Le (AH (AH (AH (AH (AH e0 a0 x0) a1 x1) a2 x2) a3 x3) a4 x4) σ:=AD (AD (AD (AD (AD (KF _) h) D) F) G) J
@[reducible] def E5(a0:Nat)(x0:Value)(a1:Nat)(x1:Value)(a2:Nat)(x2:Value)(a3:Nat)(x3:Value)(a4:Nat)(x4:Value):Bp:=AH (AH (AH (AH (AH e0 a0 x0) a1 x1) a2 x2) a3 x3) a4 x4
@[reducible] def E6(a0:Nat)(x0:Value)(a1:Nat)(x1:Value)(a2:Nat)(x2:Value)(a3:Nat)(x3:Value)(a4:Nat)(x4:Value)(a5:Nat)(x5:Value):Bp:=AH (AH (AH (AH (AH (AH e0 a0 x0) a1 x1) a2 x2) a3 x3) a4 x4) a5 x5
theorem lu7{σ:Bp}{a0 a1 a2 a3 a4 a5 a6:Nat}(h:σ a0=some x0)(D:σ a1=some x1)(F:σ a2=some x2)(G:σ a3=some x3)(J:σ a4=some x4)(K:σ a5=some x5)(L:σ a6=some x6):Le (AH (AH (AH (AH (AH (AH (AH e0 a0 x0) a1 x1) a2 x2) a3 x3) a4 x4) a5 x5) a6 x6) σ:=AD (AD (AD (AD (AD (AD (AD (KF _) h) D) F) G) J) K) L
@[reducible] def E7(a0:Nat)(x0:Value)(a1:Nat)(x1:Value)(a2:Nat)(x2:Value)(a3:Nat)(x3:Value)(a4:Nat)(x4:Value)(a5:Nat)(x5:Value)(a6:Nat)(x6:Value):Bp:=AH (AH (AH (AH (AH (AH (AH e0 a0 x0) a1 x1) a2 x2) a3 x3) a4 x4) a5 x5) a6 x6
theorem lu8{σ:Bp}{a0 a1 a2 a3 a4 a5 a6 a7:Nat}(h:σ a0=some x0)(D:σ a1=some x1)(F:σ a2=some x2)(G:σ a3=some x3)(J:σ a4=some x4)(K:σ a5=some x5)(L:σ a6=some x6)(O:σ a7=some x7):Le (AH (AH (AH (AH (AH (AH (AH (AH e0 a0 x0) a1 x1) a2 x2) a3 x3) a4 x4) a5 x5) a6 x6) a7 x7) σ:=AD (AD (AD (AD (AD (AD (AD (AD (KF _) h) D) F) G) J) K) L) O
@[reducible] def E8(a0:Nat)(x0:Value)(a1:Nat)(x1:Value)(a2:Nat)(x2:Value)(a3:Nat)(x3:Value)(a4:Nat)(x4:Value)(a5:Nat)(x5:Value)(a6:Nat)(x6:Value)(a7:Nat)(x7:Value):Bp:=AH (AH (AH (AH (AH (AH (AH (AH e0 a0 x0) a1 x1) a2 x2) a3 x3) a4 x4) a5 x5) a6 x6) a7 x7
theorem qC{σ:Bp}{a0 a1 a2 a3 a4 a5 a6 a7 a8:Nat}(h:σ a0=some x0)(D:σ a1=some x1)(F:σ a2=some x2)(G:σ a3=some x3)(J:σ a4=some x4)(K:σ a5=some x5)(L:σ a6=some x6)(O:σ a7=some x7)(Q:σ a8=some x8):Le (AH (AH (AH (AH (AH (AH (AH (AH (AH e0 a0 x0) a1 x1) a2 x2) a3 x3) a4 x4) a5 x5) a6 x6) a7 x7) a8 x8) σ:=AD (AD (AD (AD (AD (AD (AD (AD (AD (KF _) h) D) F) G) J) K) L) O) Q
@[reducible] def E9(a0:Nat)(x0:Value)(a1:Nat)(x1:Value)(a2:Nat)(x2:Value)(a3:Nat)(x3:Value)(a4:Nat)(x4:Value)(a5:Nat)(x5:Value)(a6:Nat)(x6:Value)(a7:Nat)(x7:Value)(a8:Nat)(x8:Value):Bp:=AH (AH (AH (AH (AH (AH (AH (AH (AH e0 a0 x0) a1 x1) a2 x2) a3 x3) a4 x4) a5 x5) a6 x6) a7 x7) a8 x8
@[reducible] def E10(a0:Nat)(x0:Value)(a1:Nat)(x1:Value)(a2:Nat)(x2:Value)(a3:Nat)(x3:Value)(a4:Nat)(x4:Value)(a5:Nat)(x5:Value)(a6:Nat)(x6:Value)(a7:Nat)(x7:Value)(a8:Nat)(x8:Value)(a9:Nat)(x9:Value):Bp:=AH (AH (AH (AH (AH (AH (AH (AH (AH (AH e0 a0 x0) a1 x1) a2 x2) a3 x3) a4 x4) a5 x5) a6 x6) a7 x7) a8 x8) a9 x9
theorem lu11{σ:Bp}{a0 a1 a2 a3 a4 a5 a6 a7 a8 a9 a10:Nat}(D:σ a0=some x0)(F:σ a1=some x1)(G:σ a2=some x2)(J:σ a3=some x3)(K:σ a4=some x4)(L:σ a5=some x5)(O:σ a6=some x6)(Q:σ a7=some x7)(U:σ a8=some x8)(W:σ a9=some x9)(h:σ a10=some x10):Le (AH (AH (AH (AH (AH (AH (AH (AH (AH (AH (AH e0 a0 x0) a1 x1) a2 x2) a3 x3) a4 x4) a5 x5) a6 x6) a7 x7) a8 x8) a9 x9) a10 x10) σ:=AD (AD (AD (AD (AD (AD (AD (AD (AD (AD (AD (KF _) D) F) G) J) K) L) O) Q) U) W) h
@[reducible] def E11(a0:Nat)(x0:Value)(a1:Nat)(x1:Value)(a2:Nat)(x2:Value)(a3:Nat)(x3:Value)(a4:Nat)(x4:Value)(a5:Nat)(x5:Value)(a6:Nat)(x6:Value)(a7:Nat)(x7:Value)(a8:Nat)(x8:Value)(a9:Nat)(x9:Value)(a10:Nat)(x10:Value):Bp:=AH (AH (AH (AH (AH (AH (AH (AH (AH (AH (AH e0 a0 x0) a1 x1) a2 x2) a3 x3) a4 x4) a5 x5) a6 x6) a7 x7) a8 x8) a9 x9) a10 x10
@[reducible] def E12(a0:Nat)(x0:Value)(a1:Nat)(x1:Value)(a2:Nat)(x2:Value)(a3:Nat)(x3:Value)(a4:Nat)(x4:Value)(a5:Nat)(x5:Value)(a6:Nat)(x6:Value)(a7:Nat)(x7:Value)(a8:Nat)(x8:Value)(a9:Nat)(x9:Value)(a10:Nat)(x10:Value)(a11:Nat)(h:Value):Bp:=AH (AH (AH (AH (AH (AH (AH (AH (AH (AH (AH (AH e0 a0 x0) a1 x1) a2 x2) a3 x3) a4 x4) a5 x5) a6 x6) a7 x7) a8 x8) a9 x9) a10 x10) a11 h
theorem lu16{σ:Bp}{a0 a1 a2 a3 a4 a5 a6 a7 a8 a9 a10 a11 a12 a13 h D:Nat}{F G J K L:Value}(h0:σ a0=some x0)(h1:σ a1=some x1)(h2:σ a2=some x2)(h3:σ a3=some x3)(h4:σ a4=some x4)(h5:σ a5=some x5)(h6:σ a6=some x6)(h7:σ a7=some x7)(h8:σ a8=some x8)(h9:σ a9=some x9)(O:σ a10=some x10)(Q:σ a11=some F)(U:σ a12=some G)(W:σ a13=some J)(Y:σ h=some K)(Z:σ D=some L):Le (AH (AH (AH (AH (AH (AH (AH (AH (AH (AH (AH (AH (AH (AH (AH (AH e0 a0 x0) a1 x1) a2 x2) a3 x3) a4 x4) a5 x5) a6 x6) a7 x7) a8 x8) a9 x9) a10 x10) a11 F) a12 G) a13 J) h K) D L) σ:=AD (AD (AD (AD (AD (AD (AD (AD (AD (AD (AD (AD (AD (AD (AD (AD (KF _) h0) h1) h2) h3) h4) h5) h6) h7) h8) h9) O) Q) U) W) Y) Z
@[reducible] def wQ(a0:Nat)(x0:Value)(a1:Nat)(x1:Value)(a2:Nat)(x2:Value)(a3:Nat)(x3:Value)(a4:Nat)(x4:Value)(a5:Nat)(x5:Value)(a6:Nat)(x6:Value)(a7:Nat)(x7:Value)(a8:Nat)(x8:Value)(a9:Nat)(x9:Value)(a10:Nat)(x10:Value)(a11:Nat)(h:Value)(a12:Nat)(D:Value)(a13:Nat)(F:Value)(G:Nat)(J:Value)(K:Nat)(L:Value):Bp:=AH (AH (AH (AH (AH (AH (AH (AH (AH (AH (AH (AH (AH (AH (AH (AH e0 a0 x0) a1 x1) a2 x2) a3 x3) a4 x4) a5 x5) a6 x6) a7 x7) a8 x8) a9 x9) a10 x10) a11 h) a12 D) a13 F) G J) K L
theorem mR{α:Type}{F' Fs:List α}(F:List Nat)(h:F.map (nth Fs)=F'.map some:=by rfl):∀φ,φ∈F'→φ∈Fs:=λφ D=>by
 have J:some φ∈F.map (nth Fs):=by rw[h];exact List.mem_map.2 ⟨φ,D,C⟩
 obtain⟨i,_,G⟩:=List.mem_map.1 J;rw[Fc] at G;exact List.mem_of_getElem? G
theorem sK{α:Type}{a:α}{l l':List α}(h:l.Sublist l'):(a::l).Sublist (a::l'):=.cons_cons _ h
theorem sD{α:Type}{a:α}{l l':List α}(h:l.Sublist l'):l.Sublist (a::l'):=.cons _ h
theorem sZ{α:Type}:([]:List α).Sublist []:=.slnil
theorem sR{α:Type}{l:List α}:l.Sublist l:=List.Sublist.refl _
theorem nE{α:Type _}{p:α→Prop}:∀e,e∈([]:List α)→p e:=λ_ h=>by cases h
theorem Fy{α:Sort _}{β:α→Sort _}{h:(a:α)→β a→Sort _}{D:(a:α)→(b:β a)→h a b→Sort _}:∀(a:α)(b:β a)(c:h a b)(_:D a b c),True:=λ_ _ _ _=>trivial
@[reducible] def rd:List Nat→OT→OT
 | [],t=>t
 |i::l,t=>.rd i (rd l t)
section
variable{X:Cx}{w:wO}{f:Fq}{H:List HB}{R:List RB}{B:List FB}{Fs:List (wO→Fq→Prop)}
theorem AU.mz(h:AU X w f H R B Fs):∀b,X.MI b→f b=0:=λb D=>(h.mi b D).2.1
theorem AU.f0(h:AU X w f H R B (a0::Fs)):a0 w f:=h.fac _ (List.mem_of_getElem? (i:=0) C)
theorem AU.f1(h:AU X w f H R B (a0::a1::Fs)):a1 w f:=h.fac _ (List.mem_of_getElem? (i:=1) C)
theorem AU.f2(h:AU X w f H R B (a0::a1::a2::Fs)):a2 w f:=h.fac _ (List.mem_of_getElem? (i:=2) C)
theorem AU.f3(h:AU X w f H R B (a0::a1::a2::a3::Fs)):a3 w f:=h.fac _ (List.mem_of_getElem? (i:=3) C)
theorem AU.f4(h:AU X w f H R B (a0::a1::a2::a3::a4::Fs)):a4 w f:=h.fac _ (List.mem_of_getElem? (i:=4) C)
theorem AU.f5(h:AU X w f H R B (a0::a1::a2::a3::a4::a5::Fs)):a5 w f:=h.fac _ (List.mem_of_getElem? (i:=5) C)
theorem AU.f6(h:AU X w f H R B (a0::a1::a2::a3::a4::a5::a6::Fs)):a6 w f:=h.fac _ (List.mem_of_getElem? (i:=6) C)
theorem AU.f7(h:AU X w f H R B (a0::a1::a2::a3::a4::a5::a6::a7::Fs)):a7 w f:=h.fac _ (List.mem_of_getElem? (i:=7) C)
theorem AU.f8(h:AU X w f H R B (a0::a1::a2::a3::a4::a5::a6::a7::a8::Fs)):a8 w f:=h.fac _ (List.mem_of_getElem? (i:=8) C)
theorem AU.f9(h:AU X w f H R B (a0::a1::a2::a3::a4::a5::a6::a7::a8::a9::Fs)):a9 w f:=h.fac _ (List.mem_of_getElem? (i:=9) C)
theorem AU.f10(h:AU X w f H R B (a0::a1::a2::a3::a4::a5::a6::a7::a8::a9::a10::Fs)):a10 w f:=h.fac _ (List.mem_of_getElem? (i:=10) C)
theorem AU.f12(h:AU X w f H R B (a0::a1::a2::a3::a4::a5::a6::a7::a8::a9::a10::a11::a12::Fs)):a12 w f:=h.fac _ (List.mem_of_getElem? (i:=12) C)
theorem AU.f13(h:AU X w f H R B (a0::a1::a2::a3::a4::a5::a6::a7::a8::a9::a10::a11::a12::a13::Fs)):a13 w f:=h.fac _ (List.mem_of_getElem? (i:=13) C)
theorem AU.f16{F G D:wO→Fq→Prop}(h:AU X w f H R B (a0::a1::a2::a3::a4::a5::a6::a7::a8::a9::a10::a11::a12::a13::F::G::D::Fs)):D w f:=h.fac _ (List.mem_of_getElem? (i:=16) C)
theorem AU.b0{a0:FB}(h:AU X w f H R (a0::B) Fs):Cs w f a0.b a0.off a0.l:=h.fro _ (List.mem_of_getElem? (i:=0) C)
theorem AU.b1{a0 a1:FB}(h:AU X w f H R (a0::a1::B) Fs):Cs w f a1.b a1.off a1.l:=h.fro _ (List.mem_of_getElem? (i:=1) C)
theorem AU.b2{a0 a1 a2:FB}(h:AU X w f H R (a0::a1::a2::B) Fs):Cs w f a2.b a2.off a2.l:=h.fro _ (List.mem_of_getElem? (i:=2) C)
theorem AU.b3{a0 a1 a2 a3:FB}(h:AU X w f H R (a0::a1::a2::a3::B) Fs):Cs w f a3.b a3.off a3.l:=h.fro _ (List.mem_of_getElem? (i:=3) C)
theorem AU.b4{a0 a1 a2 a3 a4:FB}(h:AU X w f H R (a0::a1::a2::a3::a4::B) Fs):Cs w f a4.b a4.off a4.l:=h.fro _ (List.mem_of_getElem? (i:=4) C)
theorem AU.b5{a0 a1 a2 a3 a4 a5:FB}(h:AU X w f H R (a0::a1::a2::a3::a4::a5::B) Fs):Cs w f a5.b a5.off a5.l:=h.fro _ (List.mem_of_getElem? (i:=5) C)
theorem AU.b6{a0 a1 a2 a3 a4 a5 a6:FB}(h:AU X w f H R (a0::a1::a2::a3::a4::a5::a6::B) Fs):Cs w f a6.b a6.off a6.l:=h.fro _ (List.mem_of_getElem? (i:=6) C)
theorem AU.b7{a0 a1 a2 a3 a4 a5 a6 a7:FB}(h:AU X w f H R (a0::a1::a2::a3::a4::a5::a6::a7::B) Fs):Cs w f a7.b a7.off a7.l:=h.fro _ (List.mem_of_getElem? (i:=7) C)
theorem AU.k0{a0:HB}(h:AU X w f (a0::H) R B Fs):AS w a0.b a0.l a0.T:=h.blk _ (List.mem_of_getElem? (i:=0) C)
theorem om0{a0:HB}{H:List HB}:a0∈a0::H:=List.mem_of_getElem? (i:=0) C
theorem AU.k1{a0 a1:HB}(h:AU X w f (a0::a1::H) R B Fs):AS w a1.b a1.l a1.T:=h.blk _ (List.mem_of_getElem? (i:=1) C)
theorem sT{a0 a1:HB}{H:List HB}:a1∈a0::a1::H:=List.mem_of_getElem? (i:=1) C
theorem AU.k2{a0 a1 a2:HB}(h:AU X w f (a0::a1::a2::H) R B Fs):AS w a2.b a2.l a2.T:=h.blk _ (List.mem_of_getElem? (i:=2) C)
theorem Yp{a0 a1 a2:HB}{H:List HB}:a2∈a0::a1::a2::H:=List.mem_of_getElem? (i:=2) C
theorem AU.k3{a0 a1 a2 a3:HB}(h:AU X w f (a0::a1::a2::a3::H) R B Fs):AS w a3.b a3.l a3.T:=h.blk _ (List.mem_of_getElem? (i:=3) C)
theorem WU{a0 a1 a2 a3:HB}{H:List HB}:a3∈a0::a1::a2::a3::H:=List.mem_of_getElem? (i:=3) C
theorem AU.k4{a0 a1 a2 a3 a4:HB}(h:AU X w f (a0::a1::a2::a3::a4::H) R B Fs):AS w a4.b a4.l a4.T:=h.blk _ (List.mem_of_getElem? (i:=4) C)
theorem ZZ{a0 a1 a2 a3 a4:HB}{H:List HB}:a4∈a0::a1::a2::a3::a4::H:=List.mem_of_getElem? (i:=4) C
theorem AU.k5{a0 a1 a2 a3 a4 a5:HB}(h:AU X w f (a0::a1::a2::a3::a4::a5::H) R B Fs):AS w a5.b a5.l a5.T:=h.blk _ (List.mem_of_getElem? (i:=5) C)
theorem om5{a0 a1 a2 a3 a4 a5:HB}{H:List HB}:a5∈a0::a1::a2::a3::a4::a5::H:=List.mem_of_getElem? (i:=5) C
end
section
variable{P:Program}{σ:Bp}{ty:tI}
theorem eC{f:FuncId}{g:Operand}{args:List Operand}{ts:Array tI}(he:Ca P f)(h:ev σ g=some (.func (.func f) #[] #[]))(D:Jd σ args=some vs) :
   ∀w,Enters P σ (.call {callee:=.value g,args:=args.toArray,argTypes:=ts}) ty w f vs.toArray:=λ_=>Ay he h D
theorem DE{fn:Func}{d:Nat}{v:Value}{X:Cx}{H:List HB}{R:List RB}{B:List FB}{Fs:List (wO→Fq→Prop)}(D:fn.results=#[.tmp d])(h:σ d=some v):∀w f,AU X w f H R B Fs→WW P fn σ w v:=λ_ _ _=>AG D (Al h)
end
section
variable{P:Program}{n:Nat}{Q:Bh}{ds:List Deferred}{X:Cx}{R:List RB}{B:List FB}{Fs:List (wO→Fq→Prop)}{fs:List Fr}{σ:Bp}{H Hk:List HB}{l:List Oper}
variable {id:Nat}
theorem Dh(G:List Nat)(hm:P.follows .mixedOrders=true)(t:OT)(J:Nh H G=some Hk)(D:(t.ok l.toArray true (Array.replicate l.length false)&&(t.even true l.length&&Region.noSelect l.toArray))=true) 
   (h:Du P n (MU P n Q fs) ds X R B Fs l Hk B (λ_=>True) true t σ H) (F:PI Q:=by exact λ_ _ _ _ _ h=>h):A7 P n Q ds X R B Fs (.code (.region id l.toArray true)) fs σ H:=by
 simp only[Bool.and_eq_true] at D;exact MT (λ_=>True) (λ_ _ _ _=>trivial) G hm t J D.1 D.2.1 D.2.2 F h
theorem Az{D:List FB}{k:OT}(F:List Nat)(G:Nh H F=some Hk)(h:Du P n Q ds X R D Fs l Hk D (λ_=>True) true k σ H):A7 P n (Z8 P n l Q (Kp Hk D (λ_=>True)) k) ds X R D Fs (.out .normal) [] σ H :=
 Bl F (λ_ _ _ _=>trivial) G (λ_ h=>h) h
theorem DN{k:Mj}(φ:wO→Fq→Prop)(F:∀w f,AU X w f H R B Fs→φ w f)(hm:G0 φ)(h:A7 P n Q ds X R B (φ::Fs) k fs σ H):A7 P n Q ds X R B Fs k fs σ H:=λw f D =>
 h w f (D.more (B':=[]) (F':=[φ]) (λ_ h=>by cases h) (AM.mem ⟨F w f D,tQ⟩) (A2.mem ⟨hm,tQ⟩))
variable{all r:List Oper}{ty T:tI}{AX:String}{af:Array Edge}{g:Option (Nat×Bool)}{d:Nat}{op:Op}{fid:FuncId}{args:Array Value}
theorem D1{c:Value}(F:gd all σ g=some true)(hd:Nat.blt d n=true)(he:∀w,Enters P σ op ty w fid args)(G:∀w f,AU X w f H R B Fs→BF P fid args w λv w'=>v=c∧AY w w')
   (h:A7 P n Q ds X R B Fs (.ops all r) fs (AH σ d c) H):A7 P n Q ds X R B Fs (.ops all (⟨some d,op,ty,AX,af,g⟩::r)) fs σ H :=
 BA (α:=Unit) (val:=λ_=>c) (q:=λ_=>True) (F':=λ_=>[]) F hd he (λw f D=>(G w f D).mono λ_ _ ⟨J,K⟩=>⟨(),f,J,tQ,CQ.of_ext K D.val,tQ⟩) (λ_=>trivial) (λ_ _=>h)
end
theorem oE{α:Type}{p:α→Prop}{a:α}(h:p a):∀e,e∈[a]→p e:=λe he=>by
 cases he with
 |head=>exact h
 |tail _ h=>cases h
end Go.SW
namespace Go.SW
open Go.RowKit Go.SP
variable {f:Fq}{co ln:Int}{j:Nat}{r:Nd}{w:wO}{φ:wO→Fq→Prop}
theorem AU.fn{X:Cx}{H:List HB}{R:List RB}{B:List FB}{Fs:List (wO→Fq→Prop)}(h:AU X w f H R B Fs)(D:nth Fs j=some φ):φ w f:=h.fac _ (by rw[Fc] at D;exact List.mem_of_getElem? D)
section
variable{P:Program}{n:Nat}{Q:Bh}{ds:List Deferred}{X:Cx}{R:List RB}{B:List FB}{Fs:List (wO→Fq→Prop)}{fs:List Fr}{σ:Bp}{H:List HB}{k:Mj}{na:oA}{i c:Nat}
theorem Kw{op nm:Int}{tx:lU}{q:Nd}(j:Nat)(D:nth Fs j=some (λw f=>B2 w f na i (.cons op ln co tx nm q r)))
   (h:∀x:Nat×Nat×oA×Nat,na=some ⟨x.1,x.2.1,none⟩→A7 P n Q ds X R (⟨x.1,x.2.1+i*6,Nk op ln co tx nm x.2.2.1 q.len x.2.2.2⟩::B) ((λw f=>Ba w f q x.2.2.1 x.2.2.2)::(λw f=>B2 w f na (i+1) r)::Fs) k fs σ H):A7 P n Q ds X R B Fs k fs σ H :=
 Nq (α:=Nat×Nat×oA×Nat) (λx=>na=some ⟨x.1,x.2.1,none⟩) (λ_=>[_]) (λ_=>[_,_]) (λ_ _ F=>let ⟨b,off,ka,kc,G,J,K,L⟩:=B2.head (F.fn D);⟨(b,off,ka,kc),G,oE J,AM.mem ⟨K,L,tQ⟩⟩) (λ_=>A2.mem ⟨Ba.mono,B2.mono,tQ⟩) h
theorem mna{x:Nd}(j:Nat)(D:nth Fs j=some (λw f=>Ba w f x na c))(h:A7 P n Q ds X R B ((λw f=>B2 w f na 0 x)::Fs) k fs σ H):A7 P n Q ds X R B Fs k fs σ H:=DN _ (λ_ _ F=>Ba.at (F.fn D)) B2.mono h
theorem aY{x y:Nd}(j:Nat)(D:nth Fs j=some (λw f=>Ba w f x na c))(e:x=y)(h:A7 P n Q ds X R B ((λw f=>B2 w f na 0 y)::Fs) k fs σ H):A7 P n Q ds X R B Fs k fs σ H:=DN _ (λ_ _ F=>by rw[← e];exact Ba.at (F.fn D)) B2.mono h
theorem ZJ{t:T1}{r:Ty}(j:Nat)(D:nth Fs j=some (λw f=>Cc w f na i (t.cons r)))
   (h:∀x:Nat×Nat×oA×Nat,na=some ⟨x.1,x.2.1,none⟩→A7 P n Q ds X R (⟨x.1,x.2.1+i*4,tC t x.2.2.1 x.2.2.2⟩::B) ((λw f=>Ai w f t.kids x.2.2.1 x.2.2.2)::(λw f=>Cc w f na (i+1) r)::Fs) k fs σ H):A7 P n Q ds X R B Fs k fs σ H :=
 Nq (α:=Nat×Nat×oA×Nat) (λx=>na=some ⟨x.1,x.2.1,none⟩) (λ_=>[_]) (λ_=>[_,_]) (λ_ _ F=>let ⟨b,off,ka,kc,G,J,K,L⟩:=Cc.head (F.fn D);⟨(b,off,ka,kc),G,oE J,AM.mem ⟨K,L,tQ⟩⟩) (λ_=>A2.mem ⟨Ai.mono,Cc.mono,tQ⟩) h
theorem sB{l:List Int}{v:Int}(j:Nat)(D:nth Fs j=some (λw f=>Ci w f l na c))(F:l[i]?=some v)
   (h:∀x:Nat×Nat,na=some ⟨x.1,x.2,none⟩→A7 P n Q ds X R (⟨x.1,x.2+i*1,[.int .i64 v]⟩::B) Fs k fs σ H):A7 P n Q ds X R B Fs k fs σ H :=
 Nq (α:=Nat×Nat) (λx=>na=some ⟨x.1,x.2,none⟩) (λ_=>[_]) (λ_=>[]) (λ_ _ G=>let ⟨b,off,J,K⟩:=Ci.get (G.fn D) F;⟨(b,off),J,oE K,nE⟩) (λ_=>A2.mem tQ) h
end
end Go.SW
namespace Go.SW
open Go.RowKit
open Go.SP (Sn)
def SD(T:tI)(q:Int×Int→Prop)(w:wO)(f:Fq)(c:List PanicEntry)(w':wO):Prop:=∃e f',c=Sn T e∧q e∧CQ (λ_=>False) w f w' f'
def fP{α:Type}(e:tI)(size:Nat)(n:α→Nat)(xs:α→lV)(q:α→Prop)(F':α→List (wO→Fq→Prop))(w:wO)(f:Fq)(v:Value)(w':wO):Prop :=
 ∃x a c f',v=.slice a (n x) c∧q x∧CQ (λ_=>False) w f w' f'∧C0 w' e size a c (n x) (xs x)∧(∀b,rb a=some b→w.heap.size≤b∧f' b=0)∧AM (F' x) w' f'
variable {f f':Fq}{pe:Int×Int→Prop}{xs:lV}{w w':wO}
theorem AU.addRow{X:Cx}{H:List HB}{R:List RB}{B:List FB}{Fs:List (wO→Fq→Prop)}(h:AU X w f H R B Fs)(Y:CQ (λ_=>False) w f w' f'){e:tI}{size c n:Nat}{a:oA}
   (U:C0 w' e size a c n xs) (G:∀b,rb a=some b→w.heap.size≤b∧f' b=0):AU X w' f' H (⟨e,size,a,c,n,xs⟩::R) B Fs:=by
 have D:=h.call0 Y
 cases J:rb a with
 |none =>
   have K:CX H (⟨e,size,a,c,n,xs⟩::R)=CX H R:=by simp only[CX,List.filterMap_cons,J]
   exact {D with
     row:=λr hm=>by rcases List.mem_cons.1 hm with rfl|hm;exact U;exact D.row r hm,
     nd:=by rw[K];exact D.nd,
     own:=by rw[K];exact D.own,
     rnw:=λr hm b G=>by rcases List.mem_cons.1 hm with rfl|hm;(rw[J] at G;cases G);exact D.rnw r hm b G}
 |some b =>
   obtain⟨Z,hz⟩:=G b J;have K:CX H (⟨e,size,a,c,n,xs⟩::R)=H.map (·.b)++b::(R.filterMap λr=>rb r.a):=by simp only[CX,List.filterMap_cons,J]
   have W:(H.map (·.b)++b::(R.filterMap λr=>rb r.a)).Perm (b::CX H R):=List.perm_middle;have L:X.w0.heap.size≤b:=Nat.le_trans h.stp.size Z
   exact {D with
     row:=λr hm=>by rcases List.mem_cons.1 hm with rfl|hm;exact U;exact D.row r hm,
     nd:=by rw[K];exact W.nodup_iff.2 (List.nodup_cons.2 ⟨λhm=>by have:=h.lt hm;omega,D.nd⟩),
     own:=λk O=>by
       rw[K] at O;rcases List.mem_cons.1 (W.mem_iff.1 O) with rfl|O
       · exact⟨hz,.inl L,λhm=>by have:=(h.mi _ hm).1;omega⟩
       · exact D.own k O,
     rnw:=λr hm b' F=>by
       rcases List.mem_cons.1 hm with rfl|hm
       · rw[J] at F;cases F;exact L
       · exact D.rnw r hm b' F }
section
variable{P:Program}{n:Nat}{Q:Bh}{ds:List Deferred}{X:Cx}{R:List RB}{B:List FB}{Fs:List (wO→Fq→Prop)}{fs:List Fr}{σ:Bp}{H:List HB}
variable{all r:List Oper}{ty T:tI}{AX:String}{af:Array Edge}{g:Option (Nat×Bool)}{d:Nat}{op:Op}{fid:FuncId}{args:Array Value}{α:Type}
theorem JX{val:α→Value}{q:α→Prop}{F':α→List (wO→Fq→Prop)}
   (J:gd all σ g=some true) (hd:Nat.blt d n=true) (he:∀w,Enters P σ op ty w fid args)
   (K:∀w f,AU X w f H R B Fs→BU P fid args w (Ce val q F' w f) (SD T pe w f)) (hm:∀x,A2 (F' x))
   (L:∀e w' f',pe e→CQ X.M X.w0 X.f0 w' f'→Q.p (Sn T e) σ ds w')
   (h:∀x,q x→A7 P n Q ds X R B (F' x++Fs) (.ops all r) fs (AH σ d (val x)) H):A7 P n Q ds X R B Fs (.ops all (⟨some d,op,ty,AX,af,g⟩::r)) fs σ H:=λw f D=>by
 refine BE J (Cw hd (he w) (K w f D) ?_ ?_)
 · rintro v w' ⟨x,f',rfl,F,G,O⟩
   exact h x F w' f' ((D.call0 G).more (B':=[]) (λ_ h=>by cases h) O.mem (hm x).mem)
 · rintro c w' ⟨e,f',rfl,F,G⟩
   rw[Na];exact L e w' f' F (D.call0 G).exm
theorem sA(D:gd all σ g=some true)(hd:Nat.blt d n=true)(he:∀w,Enters P σ op ty w fid args)
   (F:∀w f,AU X w f H R B Fs→BU P fid args w (λ_ _=>False) (SD T pe w f))
   (G:∀e w' f',pe e→CQ X.M X.w0 X.f0 w' f'→Q.p (Sn T e) σ ds w'):A7 P n Q ds X R B Fs (.ops all (⟨some d,op,ty,AX,af,g⟩::r)) fs σ H :=
 JX (α:=Unit) (val:=λ_=>.tuple #[]) (q:=λ_=>False) (F':=λ_=>[]) D hd he (λw f J=>(F w f J).mono (λ_ _ h=>h.elim) λ_ _ h=>h) (λ_=>trivial) G (λ_ h=>h.elim)
theorem YZ{e:tI}{size:Nat}{m:α→Nat}{xs:α→lV}{q:α→Prop}{F':α→List (wO→Fq→Prop)}
   (J:gd all σ g=some true) (hd:Nat.blt d n=true) (he:∀w,Enters P σ op ty w fid args)
   (K:∀w f,AU X w f H R B Fs→BU P fid args w (fP e size m xs q F' w f) (SD T pe w f)) (hm:∀x,A2 (F' x))
   (L:∀e w' f',pe e→CQ X.M X.w0 X.f0 w' f'→Q.p (Sn T e) σ ds w')
   (h:∀x a c,q x→A7 P n Q ds X (⟨e,size,a,c,m x,xs x⟩::R) B (F' x++Fs) (.ops all r) fs (AH σ d (.slice a (m x) c)) H):A7 P n Q ds X R B Fs (.ops all (⟨some d,op,ty,AX,af,g⟩::r)) fs σ H:=λw f D=>by
 refine BE J (Cw hd (he w) (K w f D) ?_ ?_)
 · rintro v w' ⟨x,a,c,f',rfl,F,G,O,U,W⟩
   exact h x a c F w' f' ((D.addRow G O U).more (B':=[]) (λ_ h=>by cases h) W.mem (hm x).mem)
 · rintro c w' ⟨e,f',rfl,F,G⟩
   rw[Na];exact L e w' f' F (D.call0 G).exm
end
end Go.SW
namespace Go.SP
open Go.SW Go.RowKit
def ZM(w:wO)(f:Fq):Fo→Nat→Nat→Prop
 |.nil,_,_=>True
 |.cons t k r,b,off=>(∃a c,Cs w f b off [.int .i64 t.k,.int .i64 t.ln,.int .i64 t.co,.int .i64 t.nm,S t.tx,.slice a k.len c]∧k.len≤c∧(k=.nil∨∃b' h,a=some ⟨b',h,none⟩∧ZM w f k b' h))∧ZM w f r b (off+6)
def Eo(w:wO)(f:Fq)(k:Fo)(a:oA)(c:Nat):Prop:=k.len≤c∧(k=.nil∨∃b off,a=some ⟨b,off,none⟩∧ZM w f k b off)
variable {f f':Fq}{co ln:Int}{xs ys:lV}{b:Nat}{w w':wO}
theorem ZM.mono(D:Ji w f w' f'):∀(k:Fo)(b off:Nat),ZM w f k b off→ZM w' f' k b off
 |.nil,_,_,_=>trivial
 |.cons _ k r,b,off,⟨⟨a,c,F,G,J⟩,K⟩=>⟨⟨a,c,F.mono D,G,J.imp id λ⟨b',h,L,O⟩=>⟨b',h,L,ZM.mono D k b' h O⟩⟩,ZM.mono D r b _ K⟩
theorem Eo.mono{k:Fo}{a:oA}{c:Nat}:G0 (λw f=>Eo w f k a c):=λ_ _ _ _ h D=>⟨h.1,h.2.imp id λ⟨b,off,F,G⟩=>⟨b,off,F,ZM.mono D k b off G⟩⟩
theorem Eo.nil(w:wO)(f:Fq)(a:oA)(c:Nat):Eo w f .nil a c:=⟨Nat.zero_le _,.inl C⟩
def FC(w:wO)(f:Fq)(a:oA)(i:Nat)(r:Fo):Prop:=r=.nil∨∃b off,a=some ⟨b,off,none⟩∧ZM w f r b (off+i*6)
theorem FC.mono{a:oA}{i:Nat}{r:Fo}:G0 (λw f=>FC w f a i r):=λ_ _ _ _ h D=>h.imp id λ⟨b,off,F,G⟩=>⟨b,off,F,ZM.mono D r b _ G⟩
theorem Eo.at{k:Fo}{a:oA}{c:Nat}(h:Eo w f k a c):FC w f a 0 k:=h.2.imp id λ⟨b,off,D,F⟩=>⟨b,off,D,by simpa using F⟩
def foC(t:A4)(a:oA)(n c:Nat):lV:=[.int .i64 t.k,.int .i64 t.ln,.int .i64 t.co,.int .i64 t.nm,S t.tx,.slice a n c]
abbrev fV(t:A4)(a:oA)(n c:Nat):Value:=.agg #[.int .i64 t.k,.int .i64 t.ln,.int .i64 t.co,.int .i64 t.nm,S t.tx,.slice a n c]
theorem FC.head{a:oA}{i:Nat}{t:A4}{k r:Fo}(h:FC w f a i (.cons t k r)):∃b off ka kc,a=some ⟨b,off,none⟩∧Cs w f b (off+i*6) (foC t ka k.len kc)∧Eo w f k ka kc∧FC w f a (i+1) r:=by
 rcases h with h|⟨b,off,D,⟨ka,kc,F,G⟩,J⟩
 · cases h
 · exact⟨b,off,ka,kc,D,F,G,.inr ⟨b,off,D,by rw[show off+(i+1)*6=off+i*6+6 by omega];exact J⟩⟩
theorem FC.rest{a:oA}{t:A4}{k r:Fo}{c:Nat}(h:Eo w f (.cons t k r) a c):Eo w f r (F3 a c 6) (c-1):=by
 obtain⟨F,D⟩:=h;simp only[Fo.len] at F;refine⟨oM,?_⟩;rcases D with D|⟨b,off,rfl,K,G⟩
 · cases D
 · by_cases J:c=1
   · left
     cases r with
     |nil=>rfl
     |cons _ _ _=>simp only[Fo.len] at F;omega
   · exact .inr ⟨b,off+1*6,by unfold F3;rw[if_neg J];rfl,G⟩
def Cu(w:wO)(f:Fq):Nd→lV→Prop
 |.nil,xs=>xs=[]
 |.cons op ln co tx nm k r,xs=>∃a c xs',xs=Nk op ln co tx nm a k.len c++xs'∧Ba w f k a c∧Cu w f r xs'
theorem Cu.mono'(D:Ji w f w' f'):∀(k:Nd)(xs:lV),Cu w f k xs→Cu w' f' k xs
 |.nil,_,h=>h
 |.cons _ _ _ _ _ _ r,_,⟨a,c,xs',F,G,J⟩=>⟨a,c,xs',F,Ba.mono _ _ _ _ G D,Cu.mono' D r xs' J⟩
theorem Cu.mono{k:Nd}:G0 (λw f=>Cu w f k xs):=λ_ _ _ _ h D=>Cu.mono' D k xs h
theorem Cu.app{y:Nd}(D:Cu w f y ys):∀{x:Nd}{xs:lV},Cu w f x xs→Cu w f (x.app y) (xs++ys)
 |.nil,xs,h=>by have h:xs=[]:=h;subst h;exact D
 |.cons _ _ _ _ _ _ r,_,⟨a,c,xs',F,G,J⟩=>⟨a,c,xs'++ys,by rw[F,List.append_assoc],G,Cu.app D J⟩
theorem Cu.one{op nm:Int}{tx:lU}{k:Nd}{a:oA}{c:Nat}(h:Ba w f k a c):Cu w f (.cons op ln co tx nm k .nil) (Nk op ln co tx nm a k.len c):=⟨a,c,[],by simp,h,C⟩
theorem Cu.len:∀{k:Nd}{xs:lV},Cu w f k xs→xs.length=k.len*6
 |.nil,xs,h=>by have h:xs=[]:=h;subst h;rfl
 |.cons _ _ _ _ _ _ r,_,⟨a,c,xs',D,G,F⟩=>by subst D;have:=Cu.len F;simp[Nd.len,Nk,this];omega
theorem Cu.toG:∀{k:Nd}{xs:lV}{off:Nat},Cu w f k xs→Cs w f b off xs→Za w f k b off
 |.nil,_,_,_,_=>trivial
 |.cons _ _ _ _ _ k r,_,off,⟨a,c,xs',D,F,G⟩,h=>by
   subst D;exact⟨⟨a,c,Cs.le h,F⟩,Cu.toG G (Cs.drop h)⟩
theorem Cu.toF{c:Nat}{k:Nd}(h:Cu w f k xs)(D:Cs w f b 0 xs)(F:k.len≤c):Ba w f k (some ⟨b,0,none⟩) c:=⟨F,.inr ⟨b,0,C,Cu.toG h D⟩⟩
theorem KR{X:Cx}{H:List HB}{R:List RB}{B:List FB}{Fs:List (wO→Fq→Prop)}{e:tI}{a:oA}{c m:Nat}{k:Nd}(F:AU X w f H (⟨e,6,a,c,m,xs⟩::R) B Fs)(J:Cu w f k xs):∃f',AU X w f' H R B Fs∧Ba w f' k a c:=by
 have K:=F.row _ (.head _);have hlen:=Cu.len J;have hm:m=k.len:=by have:=K.1;simp only at this;omega
 rcases K.2 with ⟨_,_,h⟩|⟨b,l,L,_,G,_⟩
 · simp only at h
   have O:k=.nil:=by
     cases k with
     |nil=>rfl
     |cons _ _ _ _ _ _ _=>simp only[Nd.len] at hm;omega
   exact⟨f,F.less (List.Sublist.refl _) (List.sublist_cons_self _ _) (λ_ h=>h) (λ_ h=>h),by rw[O];exact⟨Nat.zero_le _,.inl C⟩⟩
 · simp only at L G
   subst L;obtain⟨f',D⟩:=(F.more (B':=[]) (F':=[λw f=>Cu w f k xs]) (λ_ h=>by cases h) (AM.mem ⟨J,tQ⟩) (A2.mem ⟨Cu.mono,tQ⟩)).done (i:=0) C C;exact⟨f',D.less (List.Sublist.refl _) (List.Sublist.refl _) (λe he=>.tail _ he) (λφ h=>.tail _ h),Cu.toF (D.fact (i:=0) C) (D.fro _ (.head _)) oM⟩
end Go.SP
namespace Go.SP
open Go.SW Go.RowKit
theorem Nd.app_len:∀x y:Nd,(x.app y).len=x.len+y.len
 |.nil,y=>by simp[Nd.app,Nd.len]
 |.cons _ _ _ _ _ _ r,y=>by simp only[Nd.app,Nd.len,Nd.app_len r y];omega
section
variable{m:A4→Fo→R N}{t:A4}{k r:Fo}{a:N}{dn:Nd}{e:Int×Int}
theorem V4(h:m t k=.ok a):(match AA m (.cons t k r) with|.error e=>.error e|.ok b=>.ok (dn.app b):R Nd)=(match AA m r with|.error e=>.error e|.ok b=>.ok ((dn.app a.one).app b)):=by
 simp only[AA,h]
 cases AA m r with
 |error e=>rfl
 |ok b=>simp only[Nd.app_assoc];rfl
theorem Zf(h:m t k=.error e):(match AA m (.cons t k r) with|.error e=>.error e|.ok b=>.ok (dn.app b):R Nd)=.error e:=by simp only[AA,h]
theorem Tp{l:Fo}:AA m l=(match AA m l with|.error e=>.error e|.ok b=>.ok (Nd.nil.app b)):=by cases AA m l <;> rfl
end
theorem Fo.cases1:∀r:Fo,0<r.len→∃t k q,r=.cons t k q
 |.nil,h=>by cases h
 |.cons t k q,_=>⟨t,k,q,C⟩
theorem Fo.len0:∀{r:Fo},r.len=0→r=.nil
 |.nil,_=>rfl
 |.cons _ _ _,h=>by simp[Fo.len] at h
abbrev Im(x:R N)(w:wO)(f:Fq):Value→wO→Prop:=Ce (α:=N×oA×Nat) (λy=>nV y.1.op y.1.ln y.1.co y.1.tx y.1.nm y.1.kids y.2.1 y.2.2) (λy=>x=.ok y.1) (λy=>[λw f=>Ba w f y.1.kids y.2.1 y.2.2]) w f
abbrev IA(T:tI)(x:R N)(w:wO)(f:Fq):List PanicEntry→wO→Prop:=SD T (λe=>x=.error e) w f
end Go.SP
namespace Go.SP
open Go.SW Go.RowKit
variable {f:Fq}{w w':wO}
theorem fP.fro{T:tI}{q:Nd×lV→Prop}{v:Value}(F:Vl w f)(h:fP T 6 (λx:Nd×lV=>x.1.len) (λx=>x.2) q (λx=>[λw f=>Cu w f x.1 x.2]) w f v w') :
   Ce (α:=(Nd×lV)×oA×Nat) (λy=>.slice y.2.1 y.1.1.len y.2.2) (λy=>q y.1) (λy=>[λw f=>Ba w f y.1.1 y.2.1 y.2.2]) w f v w':=by
 obtain⟨x,a,c,f',G,J,K,L,O,U,-⟩:=h;have W:=(CC F (Fs:=[]) tQ tQ).addRow K L O;obtain⟨f2,D,Y⟩:=KR W U;exact⟨(x,a,c),f2,G,J,D.exm,Y,tQ⟩
end Go.SP
namespace Go.SP
open Go.SW Go.RowKit
variable {x:Operand}{w:wO}
theorem Hm{P:Program}{σ:Bp}{ty T e:tI}{lo:Operand}{k len m c:Nat}{a:oA}(D:len=m+1)(F:ev σ x=some (.slice a len c))(h:ev σ lo=some (.int .i64 1))(G:Kj P T=some (e,k)):AR P σ (.slice T x (some lo) none none) ty w (.slice (F3 a c k) m (c-1)) w:=by
 subst D;exact Xy F h G
end Go.SP
namespace Go.SP
open Go.SW Go.RowKit
variable {f:Fq}{xs:lV}{w:wO}
theorem Cu.one':∀{k:Nd}{xs:lV},Cu w f k xs→∀v∈xs,v.oneCell'=true
 |.nil,xs,h,v,D=>by have h:xs=[]:=h;subst h;cases D
 |.cons _ _ _ _ _ _ r,_,⟨a,c,xs',F,J,G⟩,v,D=>by
   subst F;rcases List.mem_append.1 D with D|D
   · simp only[Nk,List.mem_cons,List.not_mem_nil,or_false] at D
     rcases D with rfl|rfl|rfl|rfl|rfl|rfl <;> rfl
   · exact Cu.one' G v D
theorem Cu.cons'{nd:N}{r:Nd}{a:oA}{c:Nat}(h:Ba w f nd.kids a c)(D:Cu w f r xs):Cu w f (nd.cons r) (Nk nd.op nd.ln nd.co nd.tx nd.nm a nd.kids.len c++xs):=⟨a,c,xs,C,h,D⟩
theorem Fo.two:∀l:Fo,(∃p h b bk,l=.cons p h (.cons b bk .nil))∨l.len≠2
 |.nil=>.inr (by simp[Fo.len])
 |.cons _ _ .nil=>.inr (by simp[Fo.len])
 |.cons p h (.cons b bk .nil)=>.inl ⟨p,h,b,bk,C⟩
 |.cons _ _ (.cons _ _ (.cons _ _ r))=>.inr (by simp only[Fo.len];omega)
theorem Fo.three:∀l:Fo,(∃p h b bk c D,l=.cons p h (.cons b bk (.cons c D .nil)))∨l.len≠3
 |.nil=>.inr (by simp[Fo.len])
 |.cons _ _ .nil=>.inr (by simp[Fo.len])
 |.cons _ _ (.cons _ _ .nil)=>.inr (by simp[Fo.len])
 |.cons p h (.cons b bk (.cons c D .nil))=>.inl ⟨p,h,b,bk,c,D,C⟩
 |.cons _ _ (.cons _ _ (.cons _ _ (.cons _ _ r)))=>.inr (by simp only[Fo.len];omega)
theorem Fo.single:∀l:Fo,(∃p h,l=.cons p h .nil)∨l.len≠1
 |.nil=>.inr (by simp[Fo.len])
 |.cons p h .nil=>.inl ⟨p,h,C⟩
 |.cons _ _ (.cons _ _ r)=>.inr (by simp only[Fo.len];omega)
section
variable{n:Nat}{ex:A4→Fo→R N}{t:A4}{l:Fo}
theorem zW(h:l.len≠2):Bf n ex t [102,110] l=.error (t.ln,t.co):=by
 unfold Bf;rw[if_pos (by decide)]
 split
 · simp[Fo.len] at h
 · rfl
theorem vI(h:l.len≠3):Bf n ex t [108,101,116] l=.error (t.ln,t.co):=by
 unfold Bf;rw[if_neg (by decide),if_pos (by decide)]
 split
 · simp[Fo.len] at h
 · rfl
theorem uK(h:l.len≠3):Bf n ex t [114,101,99] l=.error (t.ln,t.co):=by
 unfold Bf;rw[if_neg (by decide),if_neg (by decide),if_pos (by decide)]
 split
 · simp[Fo.len] at h
 · rfl
theorem aM{w:lU}(hw:w=[114,97,105,115,101]∨w=[116,114,97,110,115,97,99,116])(h:l.len≠1):Bf n ex t w l=.error (t.ln,t.co):=by
 unfold Bf;rw[if_neg (by rcases hw with rfl|rfl <;> decide),if_neg (by rcases hw with rfl|rfl <;> decide),if_neg (by rcases hw with rfl|rfl <;> decide),if_neg (by rcases hw with rfl|rfl <;> decide),if_neg (by rcases hw with rfl|rfl <;> decide),if_neg (by rcases hw with rfl|rfl <;> decide),if_neg (by rcases hw with rfl|rfl <;> decide),if_pos (by rcases hw with rfl|rfl <;> decide)]
 split
 · simp[Fo.len] at h
 · rfl
end
end Go.SP
namespace Go.SW
open Go.RowKit Go.SP
section
variable{P:Program}{n:Nat}{Q:Bh}{ds:List Deferred}{X:Cx}{R:List RB}{B:List FB}{Fs:List (wO→Fq→Prop)}{fs:List Fr}{σ:Bp}{H:List HB}{k:Mj}{na:oA}{i c:Nat}{t:A4}{q r:Fo}
theorem Pf(j:Nat)(D:nth Fs j=some (λw f=>FC w f na i (.cons t q r)))
   (h:∀x:Nat×Nat×oA×Nat,na=some ⟨x.1,x.2.1,none⟩→A7 P n Q ds X R (⟨x.1,x.2.1+i*6,foC t x.2.2.1 q.len x.2.2.2⟩::B) ((λw f=>Eo w f q x.2.2.1 x.2.2.2)::(λw f=>FC w f na (i+1) r)::Fs) k fs σ H):A7 P n Q ds X R B Fs k fs σ H :=
 Nq (α:=Nat×Nat×oA×Nat) (λx=>na=some ⟨x.1,x.2.1,none⟩) (λ_=>[_]) (λ_=>[_,_]) (λ_ _ F=>let ⟨b,off,ka,kc,G,J,K,L⟩:=FC.head (F.fn D);⟨(b,off,ka,kc),G,oE J,AM.mem ⟨K,L,tQ⟩⟩) (λ_=>A2.mem ⟨Eo.mono,FC.mono,tQ⟩) h
variable {b o:Nat}
theorem ZN(j:Nat)(D:nth Fs j=some (λw f=>FC w f (some ⟨b,o,none⟩) i (.cons t q r)))
   (h:∀x:oA×Nat,A7 P n Q ds X R (⟨b,o+i*6,foC t x.1 q.len x.2⟩::B) ((λw f=>Eo w f q x.1 x.2)::(λw f=>FC w f (some ⟨b,o,none⟩) (i+1) r)::Fs) k fs σ H):A7 P n Q ds X R B Fs k fs σ H :=
 Pf j D λx e=>by
   obtain⟨b',F,ka,kc⟩:=x
   cases e
   exact h (ka,kc)
theorem QQ{x:Fo}(j:Nat)(D:nth Fs j=some (λw f=>Eo w f x na c))(h:A7 P n Q ds X R B ((λw f=>FC w f na 0 x)::Fs) k fs σ H):A7 P n Q ds X R B Fs k fs σ H:=DN _ (λ_ _ F=>Eo.at (F.fn D)) FC.mono h
theorem sH(j:Nat)(D:nth Fs j=some (λw f=>Eo w f (.cons t q r) na c))(h:A7 P n Q ds X R B ((λw f=>Eo w f r (F3 na c 6) (c-1))::Fs) k fs σ H):A7 P n Q ds X R B Fs k fs σ H:=DN _ (λ_ _ F=>FC.rest (F.fn D)) Eo.mono h
end
end Go.SW
namespace Go.SW
open Go.RowKit
def CsW(w:wO)(e:FB):Prop:=∀j v,e.l[j]?=some v→w.cell? ⟨e.b,e.off+j,none⟩=some v
def BK(w:wO):List FB→Prop
 | []=>True
 |e::l=>CsW w e∧BK w l
theorem As(w:wO):BK w []:=trivial
variable {σ:Bp}{l:lV}{b:Nat}{T:tI}
theorem kB{w:wO}{B:List FB}(h:AS w b l T)(D:BK w B):BK w (⟨b,0,l⟩::B) :=
 ⟨λj v F=>by rw[h.cell,Nat.zero_add];exact F,D⟩
theorem BK.get{w:wO}:∀{B:List FB}{i:Nat}{e:FB},BK w B→nth B i=some e→CsW w e
 |_::_,0,_,h,D=>by cases D;exact h.1
 |_::B,i+1,e,h,D=>BK.get (B:=B) h.2 D
section
variable(P:Program)(n:Nat)(Q:Bh)(ds:List Deferred)(w:wO)(B:List FB)(tb:Y9)
def yQ(k:Mj)(fs:List Fr)(σ:Bp):Prop:=match k with
 |.code c=>HI P n c (MU P n Q fs) σ ds w
 |.ops all l=>Hd P n all.toArray (MU P n Q fs) l σ ds w
 |.out e=>(MU P n Q fs).q e σ ds w
def J2:Nat→List Nat→Mj→List Fr→Bp→Prop
 |0,_,k,fs,σ=>True→yQ P n Q ds w k fs σ
 |m+1,D,.code c,fs,σ=>(match c with
   |.skip=>J2 m D (.out .normal) fs σ
   |.ret=>J2 m D (.out .ret) fs σ
   |.exit i=>J2 m D (.out (.exit i)) fs σ
   |.seq a b=>J2 m D (.code a) (.sq b::fs) σ
   |.block i a=>J2 m D (.code a) (.bk i::fs) σ
   |.region _ ⟨l⟩ false=>J2 m D (.ops l l) fs σ
   |.cond x a b=>(match ev σ x with
     |some (.bool true)=>J2 m D (.code a) fs σ
     |some (.bool false)=>J2 m D (.code b) fs σ
     |_=>False)
   |_=>False)
 |m+1,D,.out e,fs,σ=>(match fs with
   | []=>False
   |.sq y::fs=>(match e with
     |.normal=>J2 m D (.code y) fs σ
     |.ret=>J2 m D (.out .ret) fs σ
     |.exit i=>J2 m D (.out (.exit i)) fs σ
     |_=>False)
   |.bk i::fs=>(match e with
     |.normal=>J2 m D (.out .normal) fs σ
     |.ret=>J2 m D (.out .ret) fs σ
     |.exit j=>(match Nat.beq j i with
       |true=>J2 m D (.out .normal) fs σ
       |false=>J2 m D (.out (.exit j)) fs σ)
     |_=>False))
 |m+1,D,.ops all [],fs,σ=>J2 m D (.out .normal) fs σ
 |m+1,D,.ops all (⟨dst,op,ty,AX,G,g⟩::r),fs,σ=>(match gd all σ g with
   |none=>False
   |some false=>(match dst with
     |some d=>(match Nat.blt d n with
       |true=>J2 m D (.ops all r) fs (AH σ d undef)
       |false=>False)
     |none=>False)
   |some true=>(match dst with
     |none=>False
     |some d=>(match Nat.blt d n with|false=>False|true=>(match op with
       |.load T x=>(match D with
         |h::q::D=>(match ev σ x,wA tb.ti T with
           |some (.pointer (some ⟨b,o,none⟩)),some (a,k)=>(match nth B h with
             |some ⟨b',off,l⟩=>(match a with
               |false=>(match nth l q with
                 |some v=>(b'=b∧off+q=o)∧J2 m D (.ops all r) fs (AH σ d v)
                 |none=>False)
               |true=>(match WH l q k with
                 |some vs=>(b'=b∧off+q=o)∧J2 m D (.ops all r) fs (AH σ d (.agg ⟨vs⟩))
                 |none=>False))
             |none=>False)
           |_,_=>False)
         |_=>False)
       |.indexAddr T x y=>(match ev σ x,ev σ y,XW tb.sl T with
         |some (.slice (some ⟨b,o,none⟩) len _),some (.int _ i),some (_,k)=>(0≤i∧i<len)∧J2 m D (.ops all r) fs (AH σ d (.pointer (some ⟨b,o+i.toNat*k,none⟩)))
         |_,_,_=>False)
       |.index T x y=>(match ev σ x,ev σ y,wV tb.st T with
         |some (.string ⟨⟨s⟩⟩),some (.int _ i),true=>(0≤i∧i<s.length)∧∀c,s[i.toNat]?=some c→J2 m D (.ops all r) fs (AH σ d (.int .u8 c.toNat))
         |_,_,_=>False)
       |.binOp .add T x y F=>(match ev σ x,ev σ y with
         |some (.int .i64 a),some (.int .i64 b)=>RT (a+b)∧J2 m D (.ops all r) fs (AH σ d (.int .i64 (a+b)))
         |_,_=>False)
       |.binOp .sub T x y F=>(match ev σ x,ev σ y with
         |some (.int .i64 a),some (.int .i64 b)=>RT (a-b)∧J2 m D (.ops all r) fs (AH σ d (.int .i64 (a-b)))
         |_,_=>False)
       |op=>(match pv tb σ op with
         |some v=>J2 m D (.ops all r) fs (AH σ d v)
         |none=>False)))))
end
section
variable{P:Program}{n:Nat}{Q:Bh}{ds:List Deferred}{w:wO}{B:List FB}{tb:Y9}
theorem FP(G:tb.Ok P)(O:BK w B):∀(m:Nat)(U:List Nat)(k:Mj)(fs:List Fr)(σ:Bp),J2 P n Q ds w B tb m U k fs σ→yQ P n Q ds w k fs σ
 |0,_,_,_,_,h=>h tQ
 |m+1,U,.code c,fs,σ,h=>by
   have D:=FP G O m;unfold J2 at h
   split at h
   · exact I7 (D _ _ _ _ h)
   · exact Km (D _ _ _ _ h)
   · exact L8 (D _ _ _ _ h)
   · exact Cp (D _ _ _ _ h)
   · exact Ew (D _ _ _ _ h)
   · exact CL (D _ _ _ _ h)
   · split at h
     · rename_i F;exact Gb F C (D _ _ _ _ h)
     · rename_i F;exact Ko F C (D _ _ _ _ h)
     · exact h.elim
   · exact h.elim
 |m+1,U,.out e,fs,σ,h=>by
   have D:=FP G O m;unfold J2 at h
   split at h
   · exact h.elim
   · split at h
     · exact DD (D _ _ _ _ h)
     · exact XA (D _ _ _ _ h)
     · exact XM (D _ _ _ _ h)
     · exact h.elim
   · split at h
     · exact Ec (D _ _ _ _ h)
     · exact WR (D _ _ _ _ h)
     · split at h
       · rename_i Y
         have e:=Nat.eq_of_beq_eq_true Y;subst e;exact PE (D _ _ _ _ h)
       · rename_i Y;exact pP Y (D _ _ _ _ h)
     · exact h.elim
 |m+1,U,.ops all [],fs,σ,h=>by
   unfold J2 at h;exact Ac (FP G O m _ _ _ _ h)
 |m+1,U,.ops all (⟨dst,op,ty,AX,af,g⟩::r),fs,σ,h=>by
   have D:=FP G O m;unfold J2 at h
   split at h
   · exact h.elim
   · rename_i Z
     split at h
     · split at h
       · rename_i hd;exact Pc Z hd (D _ _ _ _ h)
       · exact h.elim
     · exact h.elim
   · rename_i Z
     refine BE Z ?_
     split at h
     · exact h.elim
     · split at h
       · exact h.elim
       rename_i hd
       split at h
       · split at h
         · split at h
           · rename_i F K
             split at h
             · rename_i hB'
               have hc:=O.get hB'
               split at h
               · split at h
                 · rename_i v L
                   obtain⟨⟨rfl,rfl⟩,h⟩:=h;rw[Fc] at L;exact Ab hd (JR F (Gy G.ti K) (hc _ v L)) (D _ _ _ _ h)
                 · exact h.elim
               · split at h
                 · rename_i vs L
                   obtain⟨⟨rfl,rfl⟩,h⟩:=h;obtain⟨hk,hg2⟩:=Rb L;exact Ab hd (LQ F (Gy G.ti K) hk (λj v hj=>by have:=hc _ v (hg2 j v hj);rwa[← Nat.add_assoc] at this)) (D _ _ _ _ h)
                 · exact h.elim
             · exact h.elim
           · exact h.elim
         · exact h.elim
       · split at h
         · rename_i F J K
           exact Ab hd (Oo F J (La G.sl K) h.1) (D _ _ _ _ h.2)
         · exact h.elim
       · split at h
         · rename_i s _ i F J K
           obtain⟨h1,h⟩:=h;have W:i.toNat<s.length:=oM;exact Ab hd (DC F J (Sf G.st K) h1.1 (List.getElem?_eq_getElem W)) (D _ _ _ _ (h _ (List.getElem?_eq_getElem W)))
         · exact h.elim
       · split at h
         · rename_i F J
           exact Ab hd (Oi F J h.1) (D _ _ _ _ h.2)
         · exact h.elim
       · split at h
         · rename_i F J
           exact Ab hd (H9 F J h.1) (D _ _ _ _ h.2)
         · exact h.elim
       · split at h
         · rename_i v L
           exact Ab hd (RO G L) (D _ _ _ _ h)
         · exact h.elim
theorem gL{all r:List Oper}(fs:List Fr)(F:tb.Ok P)(m:Nat)(D:List Nat)(G:BK w B)(h:J2 P n Q ds w B tb m D (.ops all r) fs σ):Hd P n all.toArray (MU P n Q fs) r σ ds w:=FP F G m D _ fs σ h
theorem gP{c:Code}(fs:List Fr)(F:tb.Ok P)(m:Nat)(D:List Nat)(G:BK w B)(h:J2 P n Q ds w B tb m D (.code c) fs σ):HI P n c (MU P n Q fs) σ ds w:=FP F G m D _ fs σ h
theorem gQ{e:Exit}(fs:List Fr)(F:tb.Ok P)(m:Nat)(D:List Nat)(G:BK w B)(h:J2 P n Q ds w B tb m D (.out e) fs σ):(MU P n Q fs).q e σ ds w:=FP F G m D _ fs σ h
theorem sL{all:Array Oper}{r:List Oper}{Q:Bh}{b:Bool}(t:Nat)(D:σ t=some (.bool b))(F:b=true→Hd P n all Q r (AH σ t (.bool true)) ds w)(G:b=false→Hd P n all Q r (AH σ t (.bool false)) ds w):Hd P n all Q r σ ds w:=by
 cases b with
 |true=>exact λa h=>F C a (h.le (AD (le_refl _) D))
 |false=>exact λa h=>G C a (h.le (AD (le_refl _) D))
theorem sP{c:Code}{Q:Bh}{b:Bool}(t:Nat)(h:σ t=some (.bool b))(D:b=true→HI P n c Q (AH σ t (.bool true)) ds w)(F:b=false→HI P n c Q (AH σ t (.bool false)) ds w):HI P n c Q σ ds w:=by
 cases b with
 |true=>exact NU (AD (le_refl _) h) (D C)
 |false=>exact NU (AD (le_refl _) h) (F C)
theorem kP{c:Code}{Q:Bh}{b:Bool}(t:Nat)(c':Bool)(D:σ t=some (.bool b))(F:b=c')(h:HI P n c Q (AH σ t (.bool c')) ds w):HI P n c Q σ ds w:=by
 subst F;exact NU (AD (le_refl _) D) h
end
def xS(h:Bp)(I:wO→Prop)(D:List Deferred)(Q:Bh):Bh :=
 {q:=λe σ ds w=>match e with|.normal=>Le h σ∧ds=D∧I w|e=>Q.q e σ ds w,p:=Q.p}
theorem RH{P:Program}{n:Nat}{Q:Bh}{ds:List Deferred}{w:wO}{x y:Code}(h:Bp)(I:wO→Prop)(F:HI P n x (xS h I ds Q) σ ds w)(G:∀w',I w'→HI P n y Q h ds w'):HI P n (.seq x y) Q σ ds w :=
 Cp λa J=>wp_mono (F a J) λe a' w' he=>by
   cases e with
   |normal=>obtain⟨D,K,L,O,rfl,U⟩:=he;exact⟨D,_,L,NU O (G w' U)⟩
   |panic c=>exact he
   |outgrown=>exact he
   |ret=>exact he
   |exit i=>exact he
   |goto i=>exact he
theorem Qw{D:Bp}{I:wO→Prop}{ds:List Deferred}{Q:Bh}{w:wO}(F:Le D σ)(h:I w):(xS D I ds Q).q .normal σ ds w:=⟨F,C,h⟩
end Go.SW
namespace Go.Proofs.YtgdndhedjlmagaaGreatDoor
open Go.SW Go.RowKit Go.Proofs.Tryz
theorem xN:P0 prog 32=some (9,1,16,[.string ⟨#[]⟩]):=kR
theorem Dq:P0 prog 66=some (68,4,56,[.int .i64 0,.int .i64 0,.string ⟨#[]⟩,.slice none 0 0]):=kR
theorem MZ:P0 prog 97=some (3,1,8,[.int .i64 0]):=kR
theorem jP:jQ prog 3 21=some .i32:=kR
theorem B4:Ca prog 35:=Ao func35 kR kR
theorem D5:Ca prog 52:=Ao func52 kR kR
theorem Hr:Ca prog 53:=Ao func53 kR kR
theorem bL:Ca prog 57:=Ao func57 kR kR
theorem MM:Ca prog 59:=Ao func59 kR kR
theorem rW:Ca prog 63:=Ao func63 kR kR
theorem aR:Ca prog 64:=Ao func64 kR kR
theorem dE:Ca prog 81:=Ao func81 kR kR
theorem Rj:Ca prog 82:=Ao func82 kR kR
theorem bW:Ca prog 83:=Ao func83 kR kR
theorem bE:Ca prog 89:=Ao func89 kR kR
theorem uS:Ca prog 91:=Ao func91 kR kR
theorem rN:Ca prog 92:=Ao func92 kR kR
theorem ZT:Ca prog 93:=Ao func93 kR kR
theorem Vi:Ca prog 94:=Ao func94 kR kR
theorem GN:Ca prog 109:=Ao func109 kR kR
theorem Rd:Ca prog 110:=Ao func110 kR kR
theorem N2:Ca prog 117:=Ao func117 kR kR
theorem mO:Ca prog 118:=Ao func118 kR kR
theorem mX:Ca prog 138:=Ao func138 kR kR
theorem nC:Gv prog 68 0=some 0:=kR
theorem kM:Gv prog 68 1=some 1:=kR
theorem kC:Gv prog 68 2=some 2:=kR
theorem nX:Gv prog 68 3=some 3:=kR
theorem cY:Gv prog 140 0=some 0:=kR
theorem dP:Gv prog 140 1=some 1:=kR
theorem fR:Gv prog 140 2=some 2:=kR
theorem jW:vF prog 21 9=true:=kR
theorem Ox:G8 prog 117=some (3,4):=kR
theorem iD:G8 prog 122=some (3,9):=kR
theorem V1:G8 prog 138=some (3,68):=kR
theorem Aq:prog.follows .mixedOrders=true:=kR
theorem qpl68:Pz prog 68=some [(0,1),(1,1),(2,1),(3,1)]:=kR
theorem vA:Pz prog 140=some [(0,1),(1,1),(2,1)]:=kR
theorem xX:Kj prog 32=some (9,1):=kR
theorem U9:Kj prog 66=some (68,4):=kR
theorem qsl97:Kj prog 97=some (3,1):=kR
theorem Iv:Be prog 3=some (false,1):=kR
theorem zM:Be prog 9=some (false,1):=kR
theorem cB:Be prog 66=some (false,1):=kR
theorem AZ:Be prog 68=some (true,4):=kR
theorem QB:Be prog 97=some (false,1):=kR
theorem VJ:Be prog 138=some (false,1):=kR
theorem P8:prog.underlying 3=some (.int .i64):=kR
theorem xQ:prog.underlying 71=some (.pointer 140):=kR
theorem kH:zO prog 4=some (.bool false):=kR
theorem qzo9:zO prog 9=some (.string ⟨#[]⟩):=kR
theorem OA:zO prog 68=some (.agg #[.int .i64 0,.int .i64 0,.string ⟨#[]⟩,.slice none 0 0]):=kR
theorem qzr3:HZ prog 3=some [.int .i64 0]:=kR
theorem qzr9:HZ prog 9=some [.string ⟨#[]⟩]:=kR
theorem yO:HZ prog 68=some [.int .i64 0,.int .i64 0,.string ⟨#[]⟩,.slice none 0 0]:=kR
theorem zF:HZ prog 97=some [.slice none 0 0]:=kR
theorem tE:HZ prog 140=some [.map none,.int .i64 0,.int .i64 0]:=kR
theorem Fe:Ca prog 31:=Ao func31 kR kR
theorem G2:Ca prog 33:=Ao func33 kR kR
theorem Db:Ca prog 34:=Ao func34 kR kR
theorem II:Ca prog 36:=Ao func36 kR kR
theorem VN:Ca prog 37:=Ao func37 kR kR
theorem FU:Ca prog 40:=Ao func40 kR kR
theorem Rt:Ca prog 54:=Ao func54 kR kR
theorem uJ:Ca prog 55:=Ao func55 kR kR
theorem qW:Ca prog 56:=Ao func56 kR kR
theorem tL:Ca prog 58:=Ao func58 kR kR
theorem cD:Ca prog 60:=Ao func60 kR kR
theorem vN:Ca prog 61:=Ao func61 kR kR
theorem KY:Ca prog 62:=Ao func62 kR kR
theorem QY:Ca prog 65:=Ao func65 kR kR
theorem cP:Ca prog 85:=Ao func85 kR kR
theorem Se:Ca prog 88:=Ao func88 kR kR
theorem qX:Ca prog 90:=Ao func90 kR kR
theorem jH:Ca prog 108:=Ao func108 kR kR
theorem QK:Ca prog 111:=Ao func111 kR kR
theorem QZ:Ca prog 112:=Ao func112 kR kR
theorem lR:Ca prog 137:=Ao func137 kR kR
theorem lF:Gv prog 56 0=some 0:=kR
theorem lJ:Gv prog 56 1=some 1:=kR
theorem kD:Gv prog 56 2=some 3:=kR
theorem lN:Gv prog 56 4=some 5:=kR
theorem lL:Gv prog 76 0=some 0:=kR
theorem mW:Gv prog 76 1=some 1:=kR
theorem nA:Gv prog 99 0=some 0:=kR
theorem kE:Gv prog 99 1=some 1:=kR
theorem kT:Gv prog 99 2=some 5:=kR
theorem gH:Gv prog 107 0=some 0:=kR
theorem bA:Gv prog 107 1=some 4:=kR
theorem eQ:Gv prog 109 0=some 0:=kR
theorem eO:Gv prog 109 1=some 1:=kR
theorem cJ:Gv prog 109 2=some 6:=kR
theorem Qh:G8 prog 72=some (9,99):=kR
theorem yW:wP prog 61=true:=kR
theorem yZ:Pz prog 61=some [(0,2),(2,1)]:=kR
theorem rR:Pz prog 107=some [(0,4),(4,1)]:=kR
theorem sV:Pz prog 109=some [(0,1),(1,5),(6,1)]:=kR
theorem TN:Kj prog 23=some (56,6):=kR
theorem JS:Be prog 23=some (false,1):=kR
theorem Ho:Be prog 25=some (true,2):=kR
theorem BI:Be prog 56=some (true,6):=kR
theorem Aa6:Be prog 63=some (false,1):=kR
theorem J4:Be prog 71=some (false,1):=kR
theorem PV:Be prog 72=some (false,1):=kR
theorem wZ:Be prog 99=some (true,6):=kR
theorem uE:Be prog 107=some (true,5):=kR
theorem HG:prog.underlying 9=some .string:=kR
theorem zI:prog.underlying 63=some (.pointer 109):=kR
theorem X3:zO prog 99=some (.agg #[.slice none 0 0,.int .i64 0,.int .i64 0,.string ⟨#[]⟩,.slice none 0 0,.slice none 0 0]):=kR
theorem Aa8:HZ prog 56=some [.int .i64 0,.int .i64 0,.int .i64 0,.string ⟨#[]⟩,.int .i64 0,.slice none 0 0]:=kR
theorem zQ:HZ prog 61=some [.int .i64 0,.int .i64 0,.int .i64 0]:=kR
theorem zA:HZ prog 99=some [.slice none 0 0,.int .i64 0,.int .i64 0,.string ⟨#[]⟩,.slice none 0 0,.slice none 0 0]:=kR
theorem tT:HZ prog 107=some [.int .i64 0,.int .i64 0,.string ⟨#[]⟩,.slice none 0 0,.slice none 0 0]:=kR
theorem vU:HZ prog 109=some [.string ⟨#[]⟩,.int .i64 0,.int .i64 0,.string ⟨#[]⟩,.slice none 0 0,.slice none 0 0,.pointer none]:=kR
theorem X2:P0 prog 29=some (34,2,32,[.string ⟨#[]⟩,.string ⟨#[]⟩]):=kR
theorem Ve:P0 prog 100=some (103,6,80,[.string ⟨#[]⟩,.int .i64 0,.int .i64 0,.int .i64 0,.string ⟨#[]⟩,.slice none 0 0]):=kR
theorem aZ:Ca prog 28:=Ao func28 kR kR
theorem rZ:Ca prog 29:=Ao func29 kR kR
theorem qZ:Ca prog 30:=Ao func30 kR kR
theorem Pa:Ca prog 32:=Ao func32 kR kR
theorem fU:Ca prog 38:=Ao func38 kR kR
theorem vM:Ca prog 39:=Ao func39 kR kR
theorem Rk:Ca prog 45:=Ao func45 kR kR
theorem uN:Ca prog 49:=Ao func49 kR kR
theorem tN:Ca prog 50:=Ao func50 kR kR
theorem vC:Ca prog 51:=Ao func51 kR kR
theorem uL:Ca prog 78:=Ao func78 kR kR
theorem qM:Ca prog 79:=Ao func79 kR kR
theorem QS:Ca prog 80:=Ao func80 kR kR
theorem vX:Ca prog 84:=Ao func84 kR kR
theorem dH:Ca prog 86:=Ao func86 kR kR
theorem gE:Ca prog 87:=Ao func87 kR kR
theorem mJ:Gv prog 34 1=some 1:=kR
theorem mS:Gv prog 61 0=some 0:=kR
theorem kZ:Gv prog 61 1=some 2:=kR
theorem mK:Gv prog 76 2=some 2:=kR
theorem mI:Gv prog 76 3=some 3:=kR
theorem nG:Gv prog 76 4=some 4:=kR
theorem mU:Gv prog 96 0=some 0:=kR
theorem nU:Gv prog 96 1=some 1:=kR
theorem lY:Gv prog 96 3=some 3:=kR
theorem dA:Gv prog 103 0=some 0:=kR
theorem gZ:Gv prog 103 2=some 2:=kR
theorem R9:gC prog 20=true:=kR
theorem SI:G8 prog 73=some (9,3):=kR
theorem WT:G8 prog 74=some (9,4):=kR
theorem M3:G8 prog 111=some (9,68):=kR
theorem qpl25:Pz prog 25=some [(0,1),(1,1)]:=kR
theorem zL:Pz prog 34=some [(0,1),(1,1)]:=kR
theorem zP:Pz prog 76=some [(0,1),(1,1),(2,1),(3,1),(4,1)]:=kR
theorem qpl96:Pz prog 96=some [(0,1),(1,1),(2,1),(3,1)]:=kR
theorem zH:Pz prog 99=some [(0,1),(1,4),(5,1)]:=kR
theorem rF:Pz prog 103=some [(0,1),(1,1),(2,4)]:=kR
theorem qsl29:Kj prog 29=some (34,2):=kR
theorem qsl93:Kj prog 93=some (96,4):=kR
theorem sM:Kj prog 100=some (103,6):=kR
theorem qJ:tas prog 61=true:=kR
theorem Ix:Be prog 26=some (false,1):=kR
theorem dI:Be prog 29=some (false,1):=kR
theorem Aa7:Be prog 61=some (true,3):=kR
theorem SN:Be prog 73=some (false,1):=kR
theorem pK:Be prog 74=some (false,1):=kR
theorem yN:Be prog 96=some (true,4):=kR
theorem KO:Be prog 100=some (false,1):=kR
theorem rE:Be prog 103=some (true,6):=kR
theorem mN:zO prog 3=some (.int .i64 0):=kR
theorem zJ:HZ prog 25=some [.int .i64 0,.int .i64 0]:=kR
theorem Aa1:HZ prog 26=some [.int .i64 0]:=kR
theorem qzr29:HZ prog 29=some [.slice none 0 0]:=kR
theorem yK:HZ prog 34=some [.string ⟨#[]⟩,.string ⟨#[]⟩]:=kR
theorem yT:HZ prog 76=some [.pointer none,.map none,.map none,.map none,.int .i64 0]:=kR
theorem zZ:HZ prog 96=some [.string ⟨#[]⟩,.string ⟨#[]⟩,.int .i64 0,.int .i64 0]:=kR
theorem tG:HZ prog 100=some [.slice none 0 0]:=kR
theorem qT:HZ prog 103=some [.string ⟨#[]⟩,.int .i64 0,.int .i64 0,.int .i64 0,.string ⟨#[]⟩,.slice none 0 0]:=kR
theorem MV:P0 prog 23=some (56,6,72,[.int .i64 0,.int .i64 0,.int .i64 0,.string ⟨#[]⟩,.int .i64 0,.slice none 0 0]):=kR
theorem oS:Ca prog 7:=Ao func7 kR kR
theorem qE:Ca prog 8:=Ao func8 kR kR
theorem EK:Ca prog 9:=Ao func9 kR kR
theorem vB:Ca prog 10:=Ao func10 kR kR
theorem sO:Ca prog 11:=Ao func11 kR kR
theorem AI:Ca prog 16:=Ao func16 kR kR
theorem Hg:Ca prog 17:=Ao func17 kR kR
theorem dD:Ca prog 18:=Ao func18 kR kR
theorem WN:Ca prog 19:=Ao func19 kR kR
theorem eA:Ca prog 20:=Ao func20 kR kR
theorem Bq:Ca prog 21:=Ao func21 kR kR
theorem wL:Ca prog 22:=Ao func22 kR kR
theorem O9:Ca prog 23:=Ao func23 kR kR
theorem KZ:Ca prog 24:=Ao func24 kR kR
theorem DB:Ca prog 25:=Ao func25 kR kR
theorem fW:Ca prog 26:=Ao func26 kR kR
theorem UX:Ca prog 27:=Ao func27 kR kR
theorem KU:Ca prog 46:=Ao func46 kR kR
theorem IC:Ca prog 47:=Ao func47 kR kR
theorem rV:Ca prog 48:=Ao func48 kR kR
theorem uQ:Ca prog 74:=Ao func74 kR kR
theorem cF:Ca prog 75:=Ao func75 kR kR
theorem Vx:Ca prog 76:=Ao func76 kR kR
theorem QX:Ca prog 77:=Ao func77 kR kR
theorem RP:Ca prog 104:=Ao func104 kR kR
theorem Si:Ca prog 105:=Ao func105 kR kR
theorem kL:Gv prog 40 0=some 0:=kR
theorem jA:Gv prog 52 0=some 0:=kR
theorem lC:Gv prog 52 1=some 1:=kR
theorem nZ:Gv prog 52 2=some 3:=kR
theorem nK:Gv prog 52 3=some 4:=kR
theorem nD:Gv prog 54 0=some 0:=kR
theorem mY:Gv prog 54 1=some 5:=kR
theorem xK:Pz prog 56=some [(0,1),(1,2),(3,1),(4,1),(5,1)]:=kR
theorem LG:Kj prog 42=some (54,6):=kR
theorem uX:tas prog 40=true:=kR
theorem xW:Be prog 40=some (true,2):=kR
theorem zX:Be prog 42=some (false,1):=kR
theorem yM:Be prog 54=some (true,6):=kR
theorem Aa9:HZ prog 23=some [.slice none 0 0]:=kR
theorem qzr40:HZ prog 40=some [.int .i64 0,.int .i64 0]:=kR
theorem Aa3:HZ prog 54=some [.int .i64 0,.int .i64 0,.int .i64 0,.int .i64 0,.string ⟨#[]⟩,.slice none 0 0]:=kR
theorem XB:Ca prog 4:=Ao func4 kR kR
theorem oK:Ca prog 5:=Ao func5 kR kR
theorem Xa:Ca prog 6:=Ao func6 kR kR
theorem rU:Ca prog 12:=Ao func12 kR kR
theorem tR:bP prog 25=true:=kR
end Go.Proofs.YtgdndhedjlmagaaGreatDoor
namespace Go.Proofs.YtgdndhedjlmagaaGreatDoor
open Go.SW Go.SP Go.RowKit Go.Proofs.Tryz
def gT:Y9:=⟨[(68,3,3),(56,4,5),(54,0,0),(52,3,4),(56,2,3),(56,1,1),(54,1,5),(68,0,0),(56,0,0),(68,1,1),(76,0,0),(52,0,0),(52,1,1),(50,2,2),(68,2,2),(76,1,1),(99,0,0),(107,0,0),(107,1,4),(34,1,1),(52,2,3),(140,0,0),(140,2,2),(109,2,6),(109,1,1),(76,2,2),(76,4,4),(40,0,0),(50,1,1),(25,1,1),(25,0,0),(266,0,0),(140,1,1),(99,2,5),(99,1,1),(109,0,0),(96,1,1),(96,3,3),(96,0,0),(103,0,0),(103,2,2),(61,0,0),(61,1,2),(76,3,3)],[(66,68,4),(23,56,6),(42,54,6),(97,3,1),(32,9,1),(29,34,2),(127,5,1),(100,103,6),(93,96,4),(36,52,5),(57,42,1)],[9],[],[(3,false,1),(68,true,4),(9,false,1),(25,true,2),(56,true,6),(66,false,1),(54,true,6),(23,false,1),(42,false,1),(97,false,1),(71,false,1),(26,false,1),(99,true,6),(63,false,1),(29,false,1),(52,true,5),(4,false,1),(40,true,2),(36,false,1),(107,true,5),(96,true,4),(103,true,6),(61,true,3)],[(68,zT),(56,zN),(54,[iV 0,iV 0,iV 0,iV 0,.string ⟨#[]⟩,.slice none 0 0]),(3,[iV 0]),(25,[iV 0,iV 0]),(40,[iV 0,iV 0]),(47,[iV 0,iV 0]),(99,[.slice none 0 0,iV 0,iV 0,.string ⟨#[]⟩,.slice none 0 0,.slice none 0 0]),(26,[iV 0]),(52,[iV 0,iV 0,iV 0,iV 0,.string ⟨#[]⟩]),(9,[.string ⟨#[]⟩]),(61,[iV 0,iV 0,iV 0]),(107,[iV 0,iV 0,.string ⟨#[]⟩,.slice none 0 0,.slice none 0 0]),(109,[.string ⟨#[]⟩,iV 0,iV 0,.string ⟨#[]⟩,.slice none 0 0,.slice none 0 0,.pointer none]),(103,[.string ⟨#[]⟩,iV 0,iV 0,iV 0,.string ⟨#[]⟩,.slice none 0 0]),(96,[.string ⟨#[]⟩,.string ⟨#[]⟩,iV 0,iV 0]),(23,[.slice none 0 0]),(97,[.slice none 0 0]),(140,[.map none,iV 0,iV 0]),(100,[.slice none 0 0]),(76,[.pointer none,.map none,.map none,.map none,iV 0]),(29,[.slice none 0 0]),(34,[.string ⟨#[]⟩,.string ⟨#[]⟩])],[(68,[(0,1),(1,1),(2,1),(3,1)]),(25,[(0,1),(1,1)]),(56,[(0,1),(1,2),(3,1),(4,1),(5,1)]),(47,[(0,2)]),(40,[(0,2)]),(52,[(0,1),(1,2),(3,1),(4,1)]),(107,[(0,4),(4,1)]),(109,[(0,1),(1,5),(6,1)]),(99,[(0,1),(1,4),(5,1)]),(140,[(0,1),(1,1),(2,1)]),(61,[(0,2),(2,1)]),(103,[(0,1),(1,1),(2,4)]),(96,[(0,1),(1,1),(2,1),(3,1)]),(76,[(0,1),(1,1),(2,1),(3,1),(4,1)]),(34,[(0,1),(1,1)])],[(71,140),(63,109)]⟩
theorem gTk:gT.Ok prog:=⟨(aI nX (aI lN (aI nD (aI nK (aI kD (aI lJ (aI mY (aI nC (aI lF (aI kM (aI lL (aI jA (aI lC (aI V5 (aI kC (aI mW (aI nA (aI gH (aI bA (aI mJ (aI nZ (aI cY (aI fR (aI cJ (aI eO (aI mK (aI nG (aI kL (aI Hf (aI vZ (aI uM (aI mA (aI dP (aI kT (aI kE (aI eQ (aI nU (aI lY (aI mU (aI dA (aI gZ (aI mS (aI kZ (aI mI tQ)))))))))))))))))))))))))))))))))))))))))))),(aI U9 (aI TN (aI LG (aI qsl97 (aI xX (aI qsl29 (aI UE (aI sM (aI qsl93 (aI H4 (aI KK tQ))))))))))),(aI HG tQ),tQ,(aI Iv (aI AZ (aI zM (aI Ho (aI BI (aI cB (aI yM (aI JS (aI zX (aI QB (aI J4 (aI Ix (aI wZ (aI Aa6 (aI dI (aI Ha (aI pJ (aI xW (aI D8 (aI uE (aI yN (aI rE (aI Aa7 tQ))))))))))))))))))))))),(aI yO (aI Aa8 (aI Aa3 (aI qzr3 (aI zJ (aI qzr40 (aI zr47 (aI zA (aI Aa1 (aI Gm (aI qzr9 (aI zQ (aI tT (aI vU (aI qT (aI zZ (aI Aa9 (aI zF (aI tE (aI tG (aI yT (aI qzr29 (aI yK tQ))))))))))))))))))))))),(aI qpl68 (aI qpl25 (aI xK (aI pl47 (aI pl40 (aI aD (aI rR (aI sV (aI zH (aI vA (aI yZ (aI rF (aI qpl96 (aI zP (aI zL tQ))))))))))))))),(aI xQ (aI zI tQ))⟩
section
variable{n:Nat}{Q:Bh}{ds:List Deferred}{X:Cx}{R:List RB}{B B0:List FB}{Fs:List (wO→Fq→Prop)}{fs:List Fr}{σ:Bp}{H Hk:List HB}{l:List Oper}{J:wO→Prop}{w:wO}
theorem Aa{k:Mj}(m:Nat)(D:List Nat)(h:ex prog n Q ds X R B Fs gT m D k fs σ H):A7 prog n Q ds X R B Fs k fs σ H:=go gTk m D h
theorem A9{t:OT}(m:Nat)(D:List Nat)(h:XZ prog n Q ds X R B Fs gT l Hk B0 J m D t σ H):Du prog n Q ds X R B Fs l Hk B0 J true t σ H:=goT gTk m D h
theorem AP{all r:List Oper}(fs:List Fr)(m:Nat)(D:List Nat)(F:BK w B)(h:J2 prog n Q ds w B gT m D (.ops all r) fs σ):Hd prog n all.toArray (MU prog n Q fs) r σ ds w:=gL fs gTk m D F h
theorem AW{c:Code}(fs:List Fr)(m:Nat)(D:List Nat)(F:BK w B)(h:J2 prog n Q ds w B gT m D (.code c) fs σ):HI prog n c (MU prog n Q fs) σ ds w:=gP fs gTk m D F h
theorem KG{e:Exit}(fs:List Fr)(m:Nat)(D:List Nat)(F:BK w B)(h:J2 prog n Q ds w B gT m D (.out e) fs σ):(MU prog n Q fs).q e σ ds w:=gQ fs gTk m D F h
end
theorem Xr{l:lU}(h:l≠[]):l[(0:Int).toNat]?=some (iC l):=by cases l <;> simp_all [iC]
theorem CD(w:wO)(t:A4)(G:Value) :
  BF prog 17 #[.agg #[iV t.k,iV t.ln,iV t.co,iV t.nm,S t.tx,G]] w λv w'=>v=.bool (t.k==0)∧AY w w':=by
 have h:=AY.refl w;refine enter func17 C C C<|AW [] 2 [] (As _) (λ_=>Ev C C C λb1 L D F J K=>?_);replace h:=h.trans F;exact AP [.sq _] 13 [0,0] (kB D (As _)) (y2<|λ_=>Bv (AG C (Al C))<|⟨C,h⟩)
theorem Gh(w:wO)(t:A4)(G:Value) :
  BF prog 18 #[.agg #[iV t.k,iV t.ln,iV t.co,iV t.nm,S t.tx,G]] w λv w'=>v=.bool (t.k==5)∧AY w w':=by
 have h:=AY.refl w;refine enter func18 C C C<|AW [] 2 [] (As _) (λ_=>Ev C C C λb1 L D F J K=>?_);replace h:=h.trans F;exact AP [.sq _] 13 [0,0] (kB D (As _)) (y2<|λ_=>Bv (AG C (Al C))<|⟨C,h⟩)
theorem DF(w:wO)(t:A4)(K:Value)(s:lU) :
  BF prog 46 #[.agg #[iV t.k,iV t.ln,iV t.co,iV t.nm,S t.tx,K],S s] w λv w'=>v=.bool (t.isWord s)∧AY w w':=by
 have F:=AY.refl w;refine enter func46 C C C<|AW [] 2 [] (As _) (λ_=>Ev C C C λb1 U h G L O=>?_);replace F:=F.trans G;refine AP [.sq _] 6 [0,0] (kB h (As _)) (y2<|λ_=>A5 C (Ay eD C C) (Gh _ ⟨_,_,_,_,_⟩ _) ?_);rintro _ W ⟨rfl,D⟩;replace h:=h.ext D;replace F:=F.trans D;have Q:=D.size;refine Ab C (A0 C)<|sL 7 C (λJ=>?_) (λJ=>?_);exact AP [.sq _] 10 [0,4] (kB h (As _)) (y2<|λ_=>Bv (AG C (Al C))<|⟨by simp[A4.isWord,J],F⟩);exact AP [.sq _] 10 [] (As _) (λ_=>Bv (AG C (Al C))<|⟨by simp[A4.isWord,J],F⟩)
theorem Dz(w:wO)(n lo D:Int) :
  BF prog 47 #[iV n,iV lo,iV D] w λv w'=>v=.bool (SP.within n lo D)∧AY w w':=by
 have F:=AY.refl w;refine enter func47 C C C<|AW [] 11 [] (As _) (λ_=>sL 10 C (λh=>?_) (λh=>?_));exact AP [.sq _] 8 [] (As _) (λ_=>Bv (AG C (Al C))<|⟨by simp[SP.within,h],F⟩);exact AP [.sq _] 8 [] (As _) (λ_=>Bv (AG C (Al C))<|⟨by simp[SP.within,h],F⟩)
theorem ET(w:wO)(U:Gl w)(t:A4)(W:Value)(L:t.k=5→t.tx≠[])(hlen:t.tx.length≤100000) :
  BF prog 23 #[.agg #[iV t.k,iV t.ln,iV t.co,iV t.nm,S t.tx,W]] w λv w'=>v=.bool t.isVar∧AY w w':=by
 have D:=AY.refl w;refine enter func23 C C C<|AW [] 2 [] (As _) (λ_=>Ev C C C λb1 w1 h O Y Z=>?_);replace D:=D.trans O;refine AP [.sq _] 6 [0,0] (kB h (As _)) (y2<|λ_=>A5 C (Ay eD C C) (Gh _ ⟨_,_,_,_,_⟩ _) ?_);rintro _ w2 ⟨rfl,F⟩;replace h:=h.ext F;replace D:=D.trans F;have sz1:=F.size;refine Ab C (A0 C)<|sL 5 C (λJ=>?_) (λJ=>?_);refine AP [.sq _] 6 [0,4] (kB h (As _)) (y2<|λ_=>sL 11 C (λK=>?_) (λK=>?_));refine AP [.sq _] 3 [0,4] (kB h (As _)) (y2<|λ_=>BN C C C<|Ab C (DC C C Jv dC (Xr (L (by simpa using J))))<|AP [.sq _] 3 [] (As _) (λ_=>sL 18 C (λQ=>?_) (λQ=>?_)));refine AP [.sq _] 3 [0,4] (kB h (As _)) (y2<|λ_=>BN C C C<|Ab C (Ky C C (by simp;omega))<|BN C C C<|Ab C (Ky C C (by simp;omega))<|BN C C C<|A5 C (Ay qH C C) (HV _ (U.ext D) _ _ dC) ?_);rintro _ w3 ⟨rfl,G⟩;replace h:=h.ext G;replace D:=D.trans G;have sz2:=G.size;refine AP [.sq _] 6 [] (As _) (λ_=>Bv (AG C (Al C))<|⟨?_,D⟩);show _=Value.bool (t.k==5&&(!(t.tx==[95])&&(((iC t.tx).toNat:Int) != 39&&!NJ t.tx)));rw[J,K,Q];rfl;refine AP [.sq _] 12 [] (As _) (λ_=>Bv (AG C (Al C))<|⟨?_,D⟩);show _=Value.bool (t.k==5&&(!(t.tx==[95])&&(((iC t.tx).toNat:Int) != 39&&!NJ t.tx)));simp[J,K,Q];refine AP [.sq _] 19 [] (As _) (λ_=>Bv (AG C (Al C))<|⟨?_,D⟩);show _=Value.bool (t.k==5&&(!(t.tx==[95])&&(((iC t.tx).toNat:Int) != 39&&!NJ t.tx)));simp[J,K];refine AP [.sq _] 25 [] (As _) (λ_=>Bv (AG C (Al C))<|⟨?_,D⟩);show _=Value.bool (t.k==5&&(!(t.tx==[95])&&(((iC t.tx).toNat:Int) != 39&&!NJ t.tx)));simp[J]
theorem J3(w:wO)(O:Gl w)(t:A4)(Q:Value)(J:t.k=5→t.tx≠[])(hlen:t.tx.length≤100000) :
  BF prog 76 #[.agg #[iV t.k,iV t.ln,iV t.co,iV t.nm,S t.tx,Q]] w λv w'=>v=.bool t.isHole∧AY w w':=by
 have D:=AY.refl w;refine enter func76 C C C<|AW [] 2 [] (As _) (λ_=>Ev C C C λb1 w1 h K U W=>?_);replace D:=D.trans K;refine AP [.sq _] 6 [0,0] (kB h (As _)) (y2<|λ_=>A5 C (Ay oX C C) (ET _ (O.ext D) ⟨_,_,_,_,_⟩ _ J hlen) ?_);rintro _ w2 ⟨rfl,F⟩;replace h:=h.ext F;replace D:=D.trans F;have Y:=F.size;refine Ab C (A0 C)<|sL 5 C (λL=>?_) (λL=>?_);exact AP [.sq _] 7 [] (As _) (λ_=>Bv (AG C (Al C))<|⟨by simp[A4.isHole,L],D⟩);refine AP [.sq _] 1 [0,0] (kB h (As _)) (y2<|λ_=>BN C C C<|A5 C (Ay zG C C) (DF _ ⟨_,_,_,_,_⟩ _ _) ?_);rintro _ w3 ⟨rfl,G⟩;replace h:=h.ext G;replace D:=D.trans G;have Z:=G.size;exact AP [.sq _] 5 [] (As _) (λ_=>Bv (AG C (Al C))<|⟨by simp[A4.isHole,L],D⟩)
theorem Gz(w:wO)(O:Gl w)(t:A4)(Q:Value)(J:t.k=5→t.tx≠[])(hlen:t.tx.length≤100000) :
  BF prog 19 #[.agg #[iV t.k,iV t.ln,iV t.co,iV t.nm,S t.tx,Q]] w λv w'=>v=.bool t.isTypeName∧AY w w':=by
 have D:=AY.refl w;refine enter func19 C C C<|AW [] 2 [] (As _) (λ_=>Ev C C C λb1 w1 h K U W=>?_);replace D:=D.trans K;refine AP [.sq _] 6 [0,0] (kB h (As _)) (y2<|λ_=>A5 C (Ay oX C C) (ET _ (O.ext D) ⟨_,_,_,_,_⟩ _ J hlen) ?_);rintro _ w2 ⟨rfl,F⟩;replace h:=h.ext F;replace D:=D.trans F;have Y:=F.size;refine Ab C (A0 C)<|sL 5 C (λL=>?_) (λL=>?_);refine AP [.sq _] 3 [0,4] (kB h (As _)) (y2<|λ_=>BN C C C<|Ab C (Ky C C (by simp;omega))<|BN C C C<|Ab C (Ky C C (by simp;omega))<|BN C C C<|A5 C (Ay qH C C) (HV _ (O.ext D) _ _ dC) ?_);rintro _ w3 ⟨rfl,G⟩;replace h:=h.ext G;replace D:=D.trans G;have Z:=G.size;refine AP [.sq _] 6 [] (As _) (λ_=>Bv (AG C (Al C))<|⟨?_,D⟩);show _=Value.bool (t.isVar&&!Vf t.tx);rw[L];rfl;refine AP [.sq _] 12 [] (As _) (λ_=>Bv (AG C (Al C))<|⟨?_,D⟩);show _=Value.bool (t.isVar&&!Vf t.tx);simp[L]
theorem JM(w:wO)(t:A4)(O:Value)(J:t.k=5→t.tx≠[]) :
  BF prog 20 #[.agg #[iV t.k,iV t.ln,iV t.co,iV t.nm,S t.tx,O]] w λv w'=>v=.bool t.isTypeVar∧AY w w':=by
 have D:=AY.refl w;refine enter func20 C C C<|AW [] 2 [] (As _) (λ_=>Ev C C C λb1 Y h K Q U=>?_);replace D:=D.trans K;refine AP [.sq _] 6 [0,0] (kB h (As _)) (y2<|λ_=>A5 C (Ay eD C C) (Gh _ ⟨_,_,_,_,_⟩ _) ?_);rintro _ Z ⟨rfl,F⟩;replace h:=h.ext F;replace D:=D.trans F;have W:=F.size;refine Ab C (A0 C)<|sL 5 C (λG=>?_) (λG=>?_);refine AP [.sq _] 3 [0,4] (kB h (As _)) (y2<|λ_=>BN C C C<|Ab C (DC C C Jv dC (Xr (J (by simpa using G))))<|AP [.sq _] 3 [] (As _) (λ_=>sL 12 C (λL=>?_) (λL=>?_)));refine AP [.sq _] 10 [0,4] (kB h (As _)) (y2<|λ_=>Bv (AG C (Al C))<|⟨?_,D⟩);show _=Value.bool (t.k==5&&(((iC t.tx).toNat:Int)==39&&decide (1<(t.tx.length:Int))));rw[G,L];rfl;refine AP [.sq _] 10 [] (As _) (λ_=>Bv (AG C (Al C))<|⟨?_,D⟩);show _=Value.bool (t.k==5&&(((iC t.tx).toNat:Int)==39&&decide (1<(t.tx.length:Int))));simp[G,L];refine AP [.sq _] 17 [] (As _) (λ_=>Bv (AG C (Al C))<|⟨?_,D⟩);show _=Value.bool (t.k==5&&(((iC t.tx).toNat:Int)==39&&decide (1<(t.tx.length:Int))));simp[G]
theorem IY(w:wO)(t:A4)(G:Value) :
  BU prog 27 #[.agg #[iV t.k,iV t.ln,iV t.co,iV t.nm,S t.tx,G]] w (λv w'=>False) (λc w'=>c=Sn 40 (t.ln,t.co)∧AY w w'):=by
 have h:=AY.refl w;refine ID func27 C C C<|AW [] 2 [] (As _) (λ_=>Ev C C C λb1 L D F J K=>?_);replace h:=h.trans F;exact AP [.sq _] 7 [0,1] (kB D (As _)) (y2<|λ_=>Ab C (Ck C lQ)<|C6 (BR C) (aI C<|⟨C,h⟩))
theorem WD(w:wO)(t:A4)(K:Value)(ok:Bool) :
  BU prog 16 #[.agg #[iV t.k,iV t.ln,iV t.co,iV t.nm,S t.tx,K],.bool ok] w (λv w'=>ok=true∧v=.tuple #[]∧AY w w') (λc w'=>ok=false∧c=Sn 40 (t.ln,t.co)∧AY w w'):=by
 have D:=AY.refl w;refine ID func16 C C C<|AW [] 2 [] (As _) (λ_=>Ev C C C λb1 U F G L O=>?_);replace D:=D.trans G;refine AP [.sq _] 8 [] (As _) (λ_=>sP 5 C (λh=>?_) (λh=>?_));replace h:=FM h;refine AW [] 3 [0,0] (kB F (As _)) (y2<|λ_=>Cw C (Ay xB C C) (IY _ ⟨_,_,_,_,_⟩ _) (λ_ _ Q=>Q.elim) (λc wp J=>aI C (⟨h,J.1,D.trans J.2⟩)));replace h:=Gt h;exact AW [] 2 [] (As _) (λ_=>G6 (DZ C)<|⟨h,C,D⟩)
theorem AF(w:wO)(t:A4)(O:Value)(op:Int)(tx:lU)(ka:oA)(kn kc:Nat) :
  BF prog 21 #[.agg #[iV t.k,iV t.ln,iV t.co,iV t.nm,S t.tx,O],iV op,S tx,.slice ka kn kc] w λv w'=>v=.agg #[iV op,iV t.ln,iV t.co,S tx,iV 0,.slice ka kn kc]∧AY w w':=by
 have D:=AY.refl w;refine enter func21 C C C<|AW [] 2 [] (As _) (λ_=>Ev C C C λb1 w1 h J Q U=>?_);replace D:=D.trans J;refine CP C zr56 λb2 w2 K G W Y=>?_;replace h:=h.ext G;replace D:=D.trans G;refine AP [.sq _] 11 [0,1] (kB h (As _)) (y2<|λ_=>A3 C C C ti56 C K C C λw3 L F=>?_);replace h:=h.chg F oM;replace D:=D.chg F oM;have Z:=F.size;exact AP [.sq _] 3 [] (As _) (λ_=>Bv (AG C (Ae C ti56 L C))<|⟨C,D⟩)
def D3(w:wO)(f:Fq):Prop:=∀w' f',Ji w f w' f'→Gl w'
theorem D3.mono:G0 (λw f=>D3 w f):=λ_ _ _ _ h F w' f' D=>h w' f' (F.trans D)
variable {f:Fq}{w:wO}
theorem D3.gl(h:D3 w f):Gl w:=h w f (Ji.refl _ _)
theorem Hx(F:Nat)(he:Ca prog F)(m:A4→Fo→R N)(D:A4→Fo→Prop)(hm:∀ (w:wO) (f:Fq) (_:Vl w f) (_:D3 w f) (t:A4) (k:Fo) (a:oA) (c:Nat),D t k→Eo w f k a c→BU prog F #[fV t a k.len c] w (Im (m t k) w f) (IA 40 (m t k) w f))(w:wO)(f:Fq)(hv:Vl w f)(hJ:D3 w f)(l:Fo)(L:oA)(lc:Nat)(hD:l.all D)(hlen:l.len≤100000)(hL:Eo w f l L lc) :
  BU prog 9 #[.slice L l.len lc,.func (.func F) #[] #[]] w (fP (α:=Nd×lV) 56 6 (λx=>x.1.len) (λx=>x.2) (λx=>AA m l=.ok x.1) (λx=>[λw f=>Cu w f x.1 x.2]) w f) (SD 40 (λe=>AA m l=.error e) w f):=by
 refine Oe (X:=X0 w f) (H:=[]) (R:=[]) (B:=[]) (Fs:=[λw f=>Eo w f l L lc,λw f=>D3 w f]) (f:=f) func9 C C C (CC hv ⟨hL,hJ,tQ⟩ ⟨Eo.mono,D3.mono,tQ⟩)<|Aa 19 [] (λ_=>So 56 6 ?_);refine HE (α:=Nat×Fo×Nd×lV×oA×Nat) (λx=>x.2.1.len) (λx=>x.1+x.2.1.len=l.len∧x.2.2.1.len=x.1∧(AA m l=match AA m x.2.1 with|.error e=>.error e|.ok b=>.ok (x.2.2.1.app b))∧x.2.1.all D) (λx=>(E5 1 (.func (.func F) #[] #[]) 5 (.slice x.2.2.2.2.1 x.1 x.2.2.2.2.2) 8 (.slice L l.len lc) 9 (iV (l.len:Int)) 10 (iV (x.1:Int)))) (λx=>X0 w f) (λx=>[]) (λx=>[⟨56,6,x.2.2.2.2.1,x.2.2.2.2.2,x.1,x.2.2.2.1⟩]) (λx=>[]) (λx=>[λw f=>FC w f L x.1 x.2.1,λw f=>Cu w f x.2.2.1 x.2.2.2.1,λw f=>D3 w f]) (0,l,.nil,[],none,0) ⟨Nat.zero_add _,C,Tp,hD⟩ lE (λw f h=>h.more (B':=[]) (F':=[λw f=>FC w f L 0 l,λw f=>Cu w f .nil []]) nE (AM.mem ⟨Eo.at h.f0,C,tQ⟩) (A2.mem ⟨FC.mono,Cu.mono,tQ⟩) |>.less sR sR nE (mR [0,1,3])) ?_;rintro⟨i,r,O,xs,ra,rc⟩ ⟨Z,J,G,K⟩;dsimp only at Z J G K ⊢;refine Aa 6 [] (λ_=>Bb 11 C C (λU=>?_) (λU=>?_));refine Aa 6 [] (λ_=>?_);have hil:i<l.len:=by have:=dT U;omega
 obtain⟨t,k,r,rfl⟩:=Fo.cases1 r oM;have hi2:i+(r.len+1)=l.len:=Z;refine Pf 0 C ?_;rintro⟨eb,eo,ka,kc⟩ rfl;refine Aa 11 [100,0,0,0] (aI oM<|y2<|λb1=>y<|y<|λ_=>?_);refine JX C C (eC he C C) (λw f h=>hm w f h.vl h.f4 t k ka kc K.1 h.f0) (λ_=>⟨Ba.mono,tQ⟩) (λe w2 f2 he hE=>⟨C,e,f2,C,(by rw[G];exact Zf he),hE⟩) ?_;rintro⟨nd,na,nc⟩ Q;dsimp only at Q ⊢;exact Aa 1 [] (λb2=>λ_=>DI 0 0 C C MV C C C C C C C C (λ_ _=>C) oM oM λW Y=>Aa 8 [] (aI ⟨oM,oM⟩<|λ_=>DW ((i+1,r,O.app nd.one,xs++Nk nd.op nd.ln nd.co nd.tx nd.nm na nd.kids.len nc,W,Y)) (show r.len<r.len+1 from Nat.lt_succ_self _) ⟨show i+1+r.len=_ by omega,show (O.app nd.one).len=i+1 by rw[Nd.app_len,J];rfl,G.trans (V4 Q),K.2⟩ lE (λw f h=>⟨_,(h.more (B':=[]) (F':=[λw f=>Cu w f (O.app nd.one) (xs++Nk nd.op nd.ln nd.co nd.tx nd.nm na nd.kids.len nc)]) nE (AM.mem ⟨Cu.app (Cu.one h.f0) h.f4,tQ⟩) (A2.mem ⟨Cu.mono,tQ⟩)).less (sD (sD sZ)) sR nE (mR [3,0,6])⟩)));refine Aa 3 [] (λ_=>GP<|Aa 3 [] (λ_=>?_));obtain rfl:r=.nil:=Fo.len0 (by have:=dF U;omega);subst J;exact Aa 6 [] (λ_=>Bc (DE C C) (λw f h=>⟨(O,xs),ra,rc,f,C,(by rw[G];show (Except.ok (O.app .nil):R Nd)=_;rw[Nd.app_nil]),h.exm,h.row _ (.head _),(λb hb=>⟨h.rnw _ (.head _) b hb,(h.own b (List.mem_append.2 (.inr (List.mem_filterMap.2 ⟨_,.head _,hb⟩)))).1⟩),⟨h.f1,tQ⟩⟩))
variable {af:Array Edge}{Q:Bh}{σ:Bp}{X:Cx}{Fs:List (wO→Fq→Prop)}{ds:List Deferred}{B:List FB}{fs:List Fr}{H:List HB}{n:Nat}{g:Option (Nat×Bool)}{ty:tI}
theorem Bg{R:List RB}{all r:List Oper}{AX:String}{d:Nat}{op:Op}{t:A4}{O:Value}{b:Bool}
  (U:gd all σ g=some true) (hd:Nat.blt d n=true) (he:∀w,SW.Enters prog σ op ty w 16 #[.agg #[iV t.k,iV t.ln,iV t.co,iV t.nm,S t.tx,O],.bool b]) (W:∀w' f',b=false→CQ X.M X.w0 X.f0 w' f'→Q.p (Sn 40 (t.ln,t.co)) σ ds w')
  (h:b=true→A7 prog n Q ds X R B Fs (.ops all r) fs (AH σ d (.tuple #[])) H):A7 prog n Q ds X R B Fs (.ops all (⟨some d,op,ty,AX,af,g⟩::r)) fs σ H :=
 JX (α:=Unit) (val:=λ_=>.tuple #[]) (q:=λ_=>b=true) (F':=λ_=>[]) (pe:=λe=>b=false∧e=(t.ln,t.co)) (T:=40) U hd he (λw f L=>(WD w t _ _).mono (λ_ F ⟨D,G,J⟩=>⟨(),f,G,D,CQ.of_ext J L.vl,tQ⟩) λ_ F ⟨D,G,J⟩=>⟨_,f,G,⟨D,C⟩,CQ.of_ext J L.vl⟩) (λ_=>trivial) (λe F f2 ⟨he,K⟩ Y=>by subst K;exact W F f2 he Y) (λ_ D=>h D)
theorem Cg(F:Nat)(he:Ca prog F)(m:A4→Fo→R N)(D:A4→Fo→Prop)(hm:∀ (w:wO) (f:Fq) (_:Vl w f) (_:D3 w f) (t:A4) (k:Fo) (a:oA) (c:Nat),D t k→Eo w f k a c→BU prog F #[fV t a k.len c] w (Im (m t k) w f) (IA 40 (m t k) w f))(w:wO)(f:Fq)(J:Vl w f)(K:D3 w f)(l:Fo)(G:oA)(lc:Nat)(L:l.all D)(hlen:l.len≤100000)(O:Eo w f l G lc) :
  BU prog 9 #[.slice G l.len lc,.func (.func F) #[] #[]] w (Ce (α:=(Nd×lV)×oA×Nat) (λy=>.slice y.2.1 y.1.1.len y.2.2) (λy=>AA m l=.ok y.1.1) (λy=>[λw f=>Ba w f y.1.1 y.2.1 y.2.2]) w f) (SD 40 (λe=>AA m l=.error e) w f) :=
 (Hx F he m D hm w f J K l G lc L hlen O).mono (λ_ _ h=>fP.fro J h) λ_ _ h=>h
theorem UB(w:wO)(f:Fq)(O:Vl w f)(U:D3 w f)(l:Fo)(J:oA)(lc:Nat)(W:l.all (λt _=>t.ok))(hlen:l.len≤100000)(Y:Eo w f l J lc) :
  BF prog 74 #[.slice J l.len lc] w (Ce (α:=Unit) (λ_=>.bool (KE l)) (λ_=>True) (λ_=>[]) w f):=by
 refine Df (X:=X0 w f) (H:=[]) (R:=[]) (B:=[]) (Fs:=[λw f=>Eo w f l J lc,λw f=>D3 w f]) (f:=f) func74 C C C (CC O ⟨Y,U,tQ⟩ ⟨Eo.mono,D3.mono,tQ⟩)<|Aa 14 [] (λ_=>?_);refine HE (α:=Nat×Fo) (λx=>x.2.len) (λx=>x.1+x.2.len=l.len∧KE l=KE x.2∧x.2.all (λt _=>t.ok)) (λx=>(E3 5 (.slice J l.len lc) 6 (iV (l.len:Int)) 7 (iV (x.1:Int)))) (λx=>X0 w f) (λx=>[]) (λx=>[]) (λx=>[]) (λx=>[λw f=>FC w f J x.1 x.2,λw f=>D3 w f]) (0,l) ⟨Nat.zero_add _,C,W⟩ lE (λw f h=>h.more (B':=[]) (F':=[λw f=>FC w f J 0 l]) nE (AM.mem ⟨Eo.at h.f0,tQ⟩) (A2.mem ⟨FC.mono,tQ⟩) |>.less sR sR nE (mR [0,2])) ?_;rintro⟨i,r⟩ ⟨L,D,F⟩;dsimp only at L D F ⊢;refine Aa 6 [] (λ_=>Bb 8 C C (λK=>?_) (λK=>?_));refine Aa 6 [] (λ_=>?_);have Z:i<l.len:=by have:=dT K;omega
 obtain⟨t,k,r,rfl⟩:=Fo.cases1 r oM;have hi2:i+(r.len+1)=l.len:=L;refine Pf 0 C ?_;rintro⟨eb,eo,ka,kc⟩ rfl;refine Aa 10 [100,0,0,0] (aI oM<|y2<|λb1=>y<|y<|λ_=>D1 C C (eC Vx C C) (λw f h=>J3 _ (D3.gl h.f3) t _ F.1.1 F.1.2)<|Aa 3 [] (λ_=>Bb 13 C C (λG=>?_) (λG=>?_)));replace G:=FM G;exact Aa 9 [] (λ_=>pM<|Aa 2 [] (λ_=>Bc (DE C C) (λw f h=>⟨(),f,(by rw[D];show _=Value.bool (t.isHole&&KE r);rw[G];rfl),tQ,h.exm,tQ⟩)));replace G:=Gt G;exact Aa 8 [] (aI ⟨oM,oM⟩<|λ_=>DW ((i+1,r)) (show r.len<r.len+1 from Nat.lt_succ_self _) ⟨show i+1+r.len=_ by omega,D.trans (by show (t.isHole&&KE r)=_;rw[G];rfl),F.2⟩ lE (λw f h=>⟨_,h.less (sD sZ) sR nE (mR [1,3])⟩));refine Aa 3 [] (λ_=>GP<|Aa 3 [] (λ_=>?_));obtain rfl:r=.nil:=Fo.len0 (by have:=dF K;omega);exact Aa 5 [] (λ_=>Bc (DE C C) (λw f h=>⟨(),f,(by rw[D];rfl),tQ,h.exm,tQ⟩))
theorem Og(w:wO)(f:Fq)(F:Vl w f)(G:D3 w f)(t:A4)(k:Fo)(ka:oA)(kc:Nat) :
  BF prog 75 #[fV t ka k.len kc] w (Im (H2 t k) w f):=by
 refine Df (X:=X0 w f) (H:=[]) (R:=[]) (B:=[]) (Fs:=[λw f=>D3 w f]) (f:=f) func75 C C C (CC F ⟨G,tQ⟩ ⟨D3.mono,tQ⟩)<|Aa 10 [1] (λb1=>λb2=>y<|λ_=>D1 C C (eC KU C C) (λw f h=>DF _ t _ _)<|Aa 2 [] (λ_=>Bb 4 C C (λD=>?_) (λD=>?_)));exact Aa 4 [1] (y<|λ_=>D1 C C (eC Bq C C) (λw f h=>AF _ t _ _ _ _ _ _)<|Aa 5 [0] (y<|λ_=>Bc (λw f h=>AG C (Ae C BI h.k0 C)) (λw f h=>⟨(⟨21,t.ln,t.co,[],0,.nil⟩,none,0),f,C,(by simp[H2,Av,D]),h.exm,⟨⟨Nat.zero_le _,.inl C⟩,tQ⟩⟩)));exact Aa 9 [1,1] (y<|y<|λ_=>D1 C C (eC Bq C C) (λw f h=>AF _ t _ _ _ _ _ _)<|Aa 4 [0] (y<|λ_=>Bc (λw f h=>AG C (Ae C BI h.k0 C)) (λw f h=>⟨(⟨22,t.ln,t.co,t.tx,0,.nil⟩,none,0),f,C,(by simp[H2,Av,D]),h.exm,⟨⟨Nat.zero_le _,.inl C⟩,tQ⟩⟩)))
end Go.Proofs.YtgdndhedjlmagaaGreatDoor
