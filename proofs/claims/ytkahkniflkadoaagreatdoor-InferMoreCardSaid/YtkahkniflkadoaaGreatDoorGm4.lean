/- What it rests on, part 4. -/
import Derived.Test.YtkahkniflkadoaaGreatDoorGm3
set_option linter.unusedVariables false
set_option linter.unusedSimpArgs false
namespace Go.Proofs.YtkahkniflkadoaaGreatDoor
open Go.SW Go.SP Go.RowKit Go.Proofs.Tryz
theorem P4(w:World)(c2 c3 c4:Nat) :
  CallsD prog 9 [pB c2,pB c3,pB c4].toArray .returning w λr m w'=>∃x,r=.returned x∧m=.returning∧AR w w':=by
 refine Du (R:=λw'=>AR w w') func9 rfl rfl rfl rfl Nb<|(?_:A5 prog _ (F8 prog _ (λ_ w'=>AR w w') λ_ _=>False) [] (X0 w (λ_=>0)) [] [] [] (.code _) [] _ []) w (λ_=>0) (Cz (λ_ _=>rfl) tQ tQ);exact Aa 3 [] (λ_=>Fm rfl rfl (λw f hM=>PS QH rfl)<|Aa 7 [] (λ_=>eU (λw f hM=>DE rfl) (λw f hM=>hM.exm.stp.ext)))
theorem Tc(w:World)(f:Fq)(hv:Vl w f)(c2 c3 c4:Nat)(v2 x3 y3 v4:Value)(hc2:AM w c2 [v2] 32)(hc3:AM w c3 [x3,y3] 25)(hc4:AM w c4 [v4] 26)(hf:f c2=0∧f c3=0∧f c4=0)(hn:c2≠c3∧c2≠c4∧c3≠c4)(er:Int×Int) :
  CallsD prog 9 [pB c2,pB c3,pB c4].toArray (.panicking (QS 40 er)) w λr m w'=>∃x,r=.returned x∧m=.panicking [{v:=.iface 40 (.agg #[iV er.1,iV er.2]),recovered:=true}]∧(∃f',CD (λb=>b=c2∨b=c3∨b=c4) w f w' f'∧AM w' c2 [.slice none 0 0] 32∧AM w' c3 [iV er.1,iV er.2] 25∧AM w' c4 [iV 10] 26):=by
 refine Du (R:=λw'=>∃f',CD (λb=>b=c2∨b=c3∨b=c4) w f w' f'∧AM w' c2 [.slice none 0 0] 32∧AM w' c3 [iV er.1,iV er.2] 25∧AM w' c4 [iV 10] 26) func9 rfl rfl rfl rfl PL<|(?_:A5 prog _ (F8 prog _ (λ_ w'=>∃f',CD (λb=>b=c2∨b=c3∨b=c4) w f w' f'∧AM w' c2 [.slice none 0 0] 32∧AM w' c3 [iV er.1,iV er.2] 25∧AM w' c4 [iV 10] 26) λ_ _=>False) [] ⟨λb=>b=c2∨b=c3∨b=c4,λ_=>False,λ_ _=>True,w,f⟩ [] [] [] (.code _) [] _ [⟨c2,[v2],32,false⟩,⟨c3,[x3,y3],25,false⟩,⟨c4,[v4],26,false⟩]) w f (iH hv hc2 hc3 hc4 hf hn);refine Aa 3 [] (λ_=>Fm rfl rfl (λw f hM=>Q2 QH rfl)<|Aa 5 [] (λ_=>Fm rfl rfl (λw f hM=>Uk rfl oN)<|Aa 11 [0] (λb1=>y<|λ_=>CU [0] Aq (.rd 0 (.rd 1 (.br 2 (.br 3 (.br 4 .fin .fin) .fin) .fin))) rfl kR<|A6 2 [0] (y<|λ_=>Ag rfl ?_ Aj))));refine Aa 2 [1] (y<|λ_=>Ax [0] rfl<|Ag rfl ?_ Aj);refine Aa 2 [2] (y<|λ_=>Ax [0] rfl<|Ag rfl ?_ Aj);exact Aa 2 [3] (y<|λ_=>Ax [0] rfl<|Bo<|Aa 1 [] (λ_=>eU (λw f hM=>DE rfl) (λw f hM=>⟨f,hM.exm,hM.blk _ oW,hM.blk _ Wj,hM.blk _ Vj⟩)))
variable {σ:Bj}{f f':Fq}{a:Option Addr}{v2 v4 x3 y3:Value}{w w':World}
theorem uB{p:Nd×Int×Int×Int}{b2 b3 b4:Nat}(hn:b2≠b3∧b2≠b4∧b3≠b4){fn:Func}(hr:fn.results=#[.cell 2 32,.cell 3 25,.cell 4 26])(h2:σ 2=some (pB b2))(h3:σ 3=some (pB b3))(h4:σ 4=some (pB b4)){er:Int×Int}(hm:p=(.nil,er.1,er.2,10))(hE:CD (λ_=>False) w f w' f')
  (k2:AM w' b2 [v2] 32∧f' b2=0∧(true=true→w.heap.size≤b2)) (k3:AM w' b3 [x3,y3] 25∧f' b3=0∧(true=true→w.heap.size≤b3)) (k4:AM w' b4 [v4] 26∧f' b4=0∧(true=true→w.heap.size≤b4))
  (tmps:Array Value) (ht:∀t,t∈[2,3,4]→∀v,σ t=some v→tmps.getD t undef=v):Leaves prog fn tmps (λe w'=>∃v,e=.returned v∧SM p w f v w') [{target:=.fn (.func 9) ([pB b2,pB b3,pB b4]:List Value).toArray,args:=#[]}] (.panicking (QS 40 er)) w':=by
 refine F4 (by simp) jA (Tc w' f' hE.val b2 b3 b4 v2 x3 y3 v4 k2.1 k3.1 k4.1 ⟨k2.2.1,k3.2.1,k4.2.1⟩ hn er) λwz hz=>?_;rw[JX];obtain⟨f3,e3,z2,z3,z4⟩:=hz;refine BS (σ:=AF (E2 2 (pB b2) 3 (pB b3)) 4 (pB b4)) (λt v hv=>?_) (Ed hr (Bp rfl IU z2 rfl) (Ae rfl GH z3 rfl) (Bp rfl HT z4 rfl)) ⟨_,rfl,f3,none,0,CD.trans0 hE e3 (λb hb=>?_),by rw[hm];rfl,by rw[hm];exact⟨Nat.zero_le _,.inl rfl⟩⟩
 ·
  by_cases e4:t=4
  · subst e4;exact ht 4 (by simp) v (h4.trans hv)
  by_cases e5:t=3
  · subst e5;exact ht 3 (by simp) v (h3.trans hv)
  by_cases e2:t=2
  · subst e2;exact ht 2 (by simp) v (h2.trans hv)
  have n4:Nat.beq t 4=false:=by cases h:Nat.beq t 4 with|false=>rfl|true=>exact absurd (Nat.eq_of_beq_eq_true h) e4
  have n3:Nat.beq t 3=false:=by cases h:Nat.beq t 3 with|false=>rfl|true=>exact absurd (Nat.eq_of_beq_eq_true h) e5
  have n2:Nat.beq t 2=false:=by cases h:Nat.beq t 2 with|false=>rfl|true=>exact absurd (Nat.eq_of_beq_eq_true h) e2
  simp[AF,Go.SW.e0,n2,n3,n4] at hv
 ·
  rcases hb with rfl|rfl|rfl
  · exact k2.2.2 rfl
  · exact k3.2.2 rfl
  · exact k4.2.2 rfl
theorem qH{p:Nd×Int×Int×Int}{b2 b3 b4:Nat}{fn:Func}(hr:fn.results=#[.cell 2 32,.cell 3 25,.cell 4 26])(h2:σ 2=some (pB b2))(h3:σ 3=some (pB b3))(h4:σ 4=some (pB b4)){nds:Nd}(hm:p=(nds,0,0,0))(hE:CD (λ_=>False) w f w' f'){c:Nat}(hB:AU w' f' nds a c)
  (k2:AM w' b2 [.slice a nds.len c] 32) (k3:AM w' b3 [iV 0,iV 0] 25) (k4:AM w' b4 [iV 0] 26)
  (tmps:Array Value) (ht:∀t v,σ t=some v→tmps.getD t undef=v):Leaves prog fn tmps (λe w'=>∃v,e=.returned v∧SM p w f v w') [{target:=.fn (.func 9) ([pB b2,pB b3,pB b4]:List Value).toArray,args:=#[]}] .returning w':=by
 refine F4 (by simp) jA (P4 w' b2 b3 b4) λwz hz=>?_;have e3:=CD.of_ext hz hE.val;subst hm;exact BS ht (Ed hr (Bp h2 IU (k2.ext hz) rfl) (Ae h3 GH (k3.ext hz) rfl) (Bp h4 HT (k4.ext hz) rfl)) ⟨_,rfl,f',a,c,CD.trans0 hE e3 (λb hb=>hb.elim),rfl,AU.mono _ _ _ _ hB (e3.fle hE.val (λ_ h=>h.elim))⟩
theorem SK(w:World)(f:Fq)(hv:Vl w f)(ta:Option Addr)(tc:Nat)(toks:List AA)(hT:Ci w 78 5 ta tc toks.length (EV toks))(hlen:toks.length≤100000) :
  BD prog 11 #[.slice ta toks.length tc] w (BO (α:=Fo×Option Addr×Nat) (λx=>.slice x.2.1 x.1.len x.2.2) (λx=>A9 toks [] .nil=.ok x.1) (λx=>[λw f=>DS w f x.1 x.2.1 x.2.2]) w f) (Sj 40 (λe=>A9 toks [] .nil=.error e) w f) :=
 (Ua w ta _ tc toks hT rfl hlen).mono (λ_ w' ⟨fo,a,c,h1,h2,h3,h4⟩=>⟨(fo,a,c),gZ w w' f,h2,h1,cK h4,En.frz h3,tQ⟩) λ_ w' ⟨e,h1,h2,h3⟩=>⟨e,f,h2,h1,CD.of_ext h3 hv⟩
set_option maxHeartbeats 1000000 in
theorem Xf(w:World)(f:Fq)(hv:Vl w f)(hJ:Dl w f)(n:Nat)(src:lU)(e:Int×Int×Int)(hcd:(e.2.2 != 0)=true)(hs:∀w1,Gl w1→B3 prog 8 #[S src] w1 λv w'=>v=.tuple #[.slice none 0 0,.agg #[iV e.1,iV e.2.1],iV e.2.2]∧AR w1 w') :
  B3 prog 6 #[S src] w (SM (FP (n+1) (.error e)) w f):=by
 refine oO (K:=[2,3,4]) (X:=X0 w f) (H:=[]) (R:=[]) (B:=[]) (Fs:=[λw f=>Dl w f]) (f:=f) func6 rfl rfl rfl (Cz hv ⟨hJ,tQ⟩ ⟨Dl.mono,tQ⟩)<|Aa 8 [] (λb1=>λb2=>λb3=>λ_=>JU (p:=b1≠b2∧b1≠b3∧b2≠b3) (λw f hM=>by have h9:=hM.nd;simp[CM] at h9;exact⟨λe=>h9.2 e.symm,λe=>h9.1.2 e.symm,λe=>h9.1.1 e.symm⟩) λhn=>Aa 2 [] (λ_=>Dj rfl rfl (eC gM rfl rfl) (λw f hM=>hs _ (Dl.gl hM.f0))<|Aa 16 [1,0,0] (y<|y<|y<|λ_=>AZ 13 rfl rfl (λh1=>?_) (λh1=>?_))));refine Aa 2 [] (λ_=>Xu [2,3,4] (λ_=>True) ER [] Aq (.br 0 (.br 1 (.br 2 (.br 3 (.br 4 .fin .fin) .fin) .fin) (.br 2 (.br 1 (.br 3 (.br 4 .fin .fin) .fin) (.br 3 (.br 1 (.br 4 .fin .fin) .fin) .fin)) .fin)) (.br 1 (.br 0 (.br 2 (.br 3 (.br 4 .fin .fin) .fin) .fin) (.br 2 (.br 0 (.br 3 (.br 4 .fin .fin) .fin) .fin) .fin)) (.br 2 (.br 0 (.br 1 (.br 3 (.br 4 .fin .fin) .fin) (.br 3 (.br 1 (.br 4 .fin .fin) .fin) .fin)) (.br 1 (.br 0 (.br 3 (.br 4 .fin .fin) .fin) .fin) .fin)) .fin))) rfl kR kR kR rfl EE<|Ag rfl ?_ ?_);refine Aa 2 [1] (y<|λ_=>Ax [] rfl<|Ag rfl ?_ ?_);refine Aa 2 [0] (y<|λ_=>Ax [] rfl<|Ag rfl ?_ Aj);refine Aa 2 [2] (y<|λ_=>Ax [] rfl<|Ag rfl ?_ Aj);refine Aa 2 [1] (y<|λ_=>Ax [] rfl<|Ag rfl ?_ Aj);exact Aa 2 [0] (y<|λ_=>Ax [] rfl<|Bo<|Aa 3 [] (λ_=>λw9 f9 hM=>λtmps ht=>BS ht (Ed rfl (Bp rfl IU hM.k2 rfl) (Ae rfl GH hM.k1 rfl) (Bp rfl HT hM.k0 rfl)) ⟨_,rfl,f9,none,0,hM.exm,rfl,⟨Nat.zero_le _,.inl rfl⟩⟩));refine Ag rfl ?_ Aj;refine Aa 2 [2] (y<|λ_=>Ax [] rfl<|Ag rfl ?_ ?_);refine Aa 2 [0] (y<|λ_=>Ax [] rfl<|Ag rfl ?_ Aj);refine Aa 2 [1] (y<|λ_=>Ax [] rfl<|Ag rfl ?_ Aj);exact Aa 2 [0] (y<|λ_=>Ax [] rfl<|Bo<|Aa 3 [] (λ_=>λw9 f9 hM=>λtmps ht=>BS ht (Ed rfl (Bp rfl IU hM.k2 rfl) (Ae rfl GH hM.k1 rfl) (Bp rfl HT hM.k0 rfl)) ⟨_,rfl,f9,none,0,hM.exm,rfl,⟨Nat.zero_le _,.inl rfl⟩⟩));refine Ag rfl ?_ Aj;refine Aa 2 [1] (y<|λ_=>Ax [] rfl<|Ag rfl ?_ Aj);refine Aa 2 [0] (y<|λ_=>Ax [] rfl<|Ag rfl ?_ Aj);exact Aa 2 [0] (y<|λ_=>Ax [] rfl<|Bo<|Aa 3 [] (λ_=>λw9 f9 hM=>λtmps ht=>BS ht (Ed rfl (Bp rfl IU hM.k2 rfl) (Ae rfl GH hM.k1 rfl) (Bp rfl HT hM.k0 rfl)) ⟨_,rfl,f9,none,0,hM.exm,rfl,⟨Nat.zero_le _,.inl rfl⟩⟩));refine Ag rfl ?_ ?_;refine Aa 2 [0] (y<|λ_=>Ax [] rfl<|Ag rfl ?_ ?_);refine Aa 2 [1] (y<|λ_=>Ax [] rfl<|Ag rfl ?_ Aj);refine Aa 2 [2] (y<|λ_=>Ax [] rfl<|Ag rfl ?_ Aj);refine Aa 2 [1] (y<|λ_=>Ax [] rfl<|Ag rfl ?_ Aj);exact Aa 2 [0] (y<|λ_=>Ax [] rfl<|Bo<|Aa 3 [] (λ_=>λw9 f9 hM=>λtmps ht=>BS ht (Ed rfl (Bp rfl IU hM.k2 rfl) (Ae rfl GH hM.k1 rfl) (Bp rfl HT hM.k0 rfl)) ⟨_,rfl,f9,none,0,hM.exm,rfl,⟨Nat.zero_le _,.inl rfl⟩⟩));refine Ag rfl ?_ Aj;refine Aa 2 [2] (y<|λ_=>Ax [] rfl<|Ag rfl ?_ Aj);refine Aa 2 [1] (y<|λ_=>Ax [] rfl<|Ag rfl ?_ Aj);refine Aa 2 [1] (y<|λ_=>Ax [] rfl<|Ag rfl ?_ Aj);exact Aa 2 [0] (y<|λ_=>Ax [] rfl<|Bo<|Aa 3 [] (λ_=>λw9 f9 hM=>λtmps ht=>BS ht (Ed rfl (Bp rfl IU hM.k2 rfl) (Ae rfl GH hM.k1 rfl) (Bp rfl HT hM.k0 rfl)) ⟨_,rfl,f9,none,0,hM.exm,rfl,⟨Nat.zero_le _,.inl rfl⟩⟩));refine Ag rfl ?_ Aj
 refine Aa 2 [2] (y<|λ_=>Ax [] rfl<|Ag rfl ?_ ?_);refine Aa 2 [1] (y<|λ_=>Ax [] rfl<|Ag rfl ?_ ?_);refine Aa 2 [0] (y<|λ_=>Ax [] rfl<|Ag rfl ?_ Aj);refine Aa 2 [1] (y<|λ_=>Ax [] rfl<|Ag rfl ?_ Aj);exact Aa 2 [0] (y<|λ_=>Ax [] rfl<|Bo<|Aa 3 [] (λ_=>λw9 f9 hM=>λtmps ht=>BS ht (Ed rfl (Bp rfl IU hM.k2 rfl) (Ae rfl GH hM.k1 rfl) (Bp rfl HT hM.k0 rfl)) ⟨_,rfl,f9,none,0,hM.exm,rfl,⟨Nat.zero_le _,.inl rfl⟩⟩));refine Ag rfl ?_ Aj;refine Aa 2 [1] (y<|λ_=>Ax [] rfl<|Ag rfl ?_ Aj);refine Aa 2 [0] (y<|λ_=>Ax [] rfl<|Ag rfl ?_ Aj);exact Aa 2 [0] (y<|λ_=>Ax [] rfl<|Bo<|Aa 3 [] (λ_=>λw9 f9 hM=>λtmps ht=>BS ht (Ed rfl (Bp rfl IU hM.k2 rfl) (Ae rfl GH hM.k1 rfl) (Bp rfl HT hM.k0 rfl)) ⟨_,rfl,f9,none,0,hM.exm,rfl,⟨Nat.zero_le _,.inl rfl⟩⟩));refine Ag rfl ?_ Aj;refine Aa 2 [0] (y<|λ_=>Ax [] rfl<|Ag rfl ?_ Aj);refine Aa 2 [1] (y<|λ_=>Ax [] rfl<|Ag rfl ?_ Aj);refine Aa 2 [1] (y<|λ_=>Ax [] rfl<|Ag rfl ?_ Aj);exact Aa 2 [0] (y<|λ_=>Ax [] rfl<|Bo<|Aa 3 [] (λ_=>λw9 f9 hM=>λtmps ht=>BS ht (Ed rfl (Bp rfl IU hM.k2 rfl) (Ae rfl GH hM.k1 rfl) (Bp rfl HT hM.k0 rfl)) ⟨_,rfl,f9,none,0,hM.exm,rfl,⟨Nat.zero_le _,.inl rfl⟩⟩));exact absurd (hcd.symm.trans h1) dC
set_option maxHeartbeats 1000000 in
theorem Yd(w:World)(f:Fq)(hv:Vl w f)(hJ:Dl w f)(n:Nat)(src:lU)(toks:List AA)(hlen:toks.length≤100000)(hok:∀fo,A9 toks [] .nil=.ok fo→fo.all (Gs (n+1))∧fo.len≤100000)(hs:∀w1,Gl w1→B3 prog 8 #[S src] w1 λv w'=>∃ta tc,v=.tuple #[.slice ta toks.length tc,.agg #[iV 0,iV 0],iV 0]∧(Ci w' 78 5 ta tc toks.length (EV toks)∧∀b,rb ta=some b→w1.heap.size≤b)∧AR w1 w') :
  B3 prog 6 #[S src] w (SM (FP (n+1) (.ok toks)) w f):=by
 refine oO (K:=[2,3,4]) (X:=X0 w f) (H:=[]) (R:=[]) (B:=[]) (Fs:=[λw f=>Dl w f]) (f:=f) func6 rfl rfl rfl (Cz hv ⟨hJ,tQ⟩ ⟨Dl.mono,tQ⟩)<|Aa 8 [] (λb1=>λb2=>λb3=>λ_=>JU (p:=b1≠b2∧b1≠b3∧b2≠b3) (λw f hM=>by have h9:=hM.nd;simp[CM] at h9;exact⟨λe=>h9.2 e.symm,λe=>h9.1.2 e.symm,λe=>h9.1.1 e.symm⟩) λhn=>Aa 2 [] (λ_=>zA (val:=λa c=>.tuple #[.slice a toks.length c,.agg #[iV 0,iV 0],iV 0]) rfl rfl (eC gM rfl rfl) (λw f hM=>hs w (Dl.gl hM.f0)) λta tc=>Aa 21 [1,0,0] (y<|y<|y<|λ_=>Fm rfl rfl (λw f hM=>Va rfl)<|xX rfl rfl<|Aa 5 [] (λ_=>vB (pe:=λe=>A9 toks [] .nil=.error e) rfl rfl (eC nC rfl rfl) (λw f hM=>SK w f hM.vl ta tc toks (hM.row _ (.head _)) hlen) (λ_=>⟨DS.mono,tQ⟩) (λer w2 f2 he hE hH=>uB hn rfl rfl rfl rfl (by rw[FP,he]) hE (hH _ Wj) (hH _ oW) (hH _ xC)) ?_))));rintro⟨fo,fa,fc⟩ htr;dsimp only at htr ⊢;obtain⟨hall,hfl⟩:=hok fo htr;refine vB (pe:=λe=>AE (Ct (n+1)) fo=.error e) rfl rfl (eC Di rfl rfl) (λw f hM=>BQ 12 lD (Ct (n+1)) (Gs (n+1)) (λw f hv hJ t k a c hd hT=>WG n w f hv hJ t k a c hd hT) w f hM.vl hM.f1 fo _ _ hall hfl hM.f0) (λ_=>⟨AU.mono,tQ⟩) (λer w2 f2 he hE hH=>uB hn rfl rfl rfl rfl (by rw[FP,htr];simp only[he]) hE (hH _ Wj) (hH _ oW) (hH _ xC)) ?_;rintro⟨⟨nds,xnds⟩,na,nc⟩ hnds;dsimp only at hnds ⊢;exact Aa 7 [2,1,0] (y<|y<|y<|λ_=>λw9 f9 hM=>λtmps ht=>qH rfl rfl rfl rfl (show FP (n+1) (.ok toks)=(nds,0,0,0) by rw[FP,htr];simp only[hnds]) hM.exm hM.f0 hM.k2 hM.k1 hM.k0 tmps ht)
theorem HL(w:World)(b:Nat)(src:lU)(i:Nat)(p:Ps)(sl:Value)(hsc:AM w b [S src,iV (i:Int),iV p.1,iV p.2,sl] 76) :
  B3 prog 27 #[pB b] w λv w'=>v=.bool (decide ((i:Int)<(src.length:Int)))∧AR w w':=by
 have hbl:=hsc.lt;have hX:=AR.refl w;refine enter func27 rfl rfl rfl<|AQ [] 6 [] (Ar _) (λ_=>?_);have hr1:=hsc;refine DR mixed (A4 w [b]) [(true,0),(true,1),(true,2),(true,3),(true,4),(true,5),(true,6),(true,7),(true,8),(true,9),(true,10)] kR kR rfl rfl λw1 hE1 hz1=>?_;have hKp:A4 w [b] w1:=A4.cons hr1 hE1 (A4.nil _ _);refine⟨hKp,?_⟩;replace hsc:=hsc.ext hE1;replace hX:=hX.trans hE1;refine A0 rfl (λ_ hS=>Ay rfl)<|A0 rfl (λ_ hS=>Bw rfl)<|A0 rfl (λ_ hS=>B9 rfl GZ)<|A0 rfl (λ_ hS=>Al rfl UD (hr1.keep hS (.head _)) rfl)<|A0 rfl (λ_ hS=>Ay rfl)<|A0 rfl (λ_ hS=>Bw rfl)<|A0 rfl (λ_ hS=>B9 rfl Jn)<|A0 rfl (λ_ hS=>Al rfl XL (hr1.keep hS (.head _)) rfl)<|A0 rfl (λ_ hS=>Mh rfl Jo)<|A0 rfl (λ_ hS=>U6 rfl rfl) ?_;exact A0 rfl (λ_ hS=>CX rfl)<|DT<|JM [.sq _] 2 [] (Ar _) (λ_=>Bm (AB rfl (Ak rfl))<|⟨rfl,hX⟩)
theorem F9(w:World)(b:Nat)(src:lU)(i:Nat)(p:Ps)(sl:Value)(hsc:AM w b [S src,iV (i:Int),iV p.1,iV p.2,sl] 76)(c:UInt8)(hc:src[i]?=some c)(hi:i<1000000)(hp:Pk i p) :
  B3 prog 59 #[pB b] w λv w'=>v=.int .u8 c.toNat∧AM w' b [S src,iV ((i+1:Nat):Int),iV (adv c p).1,iV (adv c p).2,sl] 76∧Ku b w w':=by
 have hbl:=hsc.lt;obtain⟨hp1,hp2,hp3,hp4⟩:=hp;have hX:=Ku.refl b w;refine enter func59 rfl rfl rfl<|AQ [] 6 [] (Ar _) (λ_=>?_);have hr1:=hsc;refine DR mixed (A4 w [b]) [(true,0),(true,1),(true,2),(true,3),(true,4),(true,5),(true,6),(true,7),(true,8),(true,9)] kR kR rfl rfl λw1 hE1 hz1=>?_;have hKp:A4 w [b] w1:=A4.cons hr1 hE1 (A4.nil _ _);refine⟨hKp,?_⟩;replace hsc:=hsc.ext hE1;replace hX:=hX.trans hE1;refine A0 rfl (λ_ hS=>Ay rfl)<|A0 rfl (λ_ hS=>Bw rfl)<|A0 rfl (λ_ hS=>B9 rfl Jn)<|A0 rfl (λ_ hS=>Al rfl XL (hr1.keep hS (.head _)) rfl)<|A0 rfl (λ_ hS=>Ay rfl)<|A0 rfl (λ_ hS=>Bw rfl)<|A0 rfl (λ_ hS=>B9 rfl GZ)<|A0 rfl (λ_ hS=>Al rfl UD (hr1.keep hS (.head _)) rfl)<|A0 rfl (λ_ hS=>Dw rfl rfl Jo oM (by simpa using hc))<|A0 rfl (λ_ hS=>CX rfl) ?_;refine DT<|JM [.sq _] 4 [] (Ar _) (λ_=>Ab rfl (Bw rfl)<|AK [.sq _] 3 [0,1] (kB hsc (Ar _)) (y2<|aI ⟨oM,oM⟩<|λ_=>Ab rfl (Bw rfl)<|Ab rfl (B9 rfl GZ)<|A1 rfl rfl rfl UD rfl hsc rfl rfl λw2 hb1 hC1=>?_));replace hX:=hX.chg hC1 oM;have sz1:=hC1.size;refine AK [.sq _] 5 [] (Ar _) (λ_=>Ab rfl (Bw rfl)<|AK [.sq _] 4 [0,3] (kB hb1 (Ar _)) (y2<|aI ⟨oM,oM⟩<|λ_=>Ab rfl (Bw rfl)<|AK [.sq _] 2 [] (Ar _) (λ_=>A1 rfl rfl rfl UD rfl hb1 rfl rfl λw3 hb2 hC2=>?_)));replace hX:=hX.chg hC2 oM;have sz2:=hC2.size;refine AK [.sq _] 9 [] (Ar _) (λ_=>sP 30 rfl (λh1=>?_) (λh1=>?_));refine AQ [.sq _] 4 [] (Ar _) (λ_=>Ab rfl (Bw rfl)<|AK [.sq _] 5 [0,2] (kB hb2 (Ar _)) (y2<|aI ⟨oM,oM⟩<|λ_=>Ab rfl (Bw rfl)<|Ab rfl (B9 rfl U9)<|A1 rfl rfl rfl I1 rfl hb2 rfl rfl λw4 hb3 hC3=>?_));replace hX:=hX.chg hC3 oM;have sz3:=hC3.size;exact AK [.sq _] 9 [] (Ar _) (λ_=>Bm (AB rfl (Ak rfl))<|⟨rfl,by simp only[adv,h1];exact hb3,hX⟩);exact AQ [.sq _] 10 [] (Ar _) (λ_=>Bm (AB rfl (Ak rfl))<|⟨rfl,by simp only[adv,h1];exact hb2,hX⟩)
theorem Rs(w:World)(b:Nat)(src:lU)(i:Nat)(p:Ps)(sl:Value)(hsc:AM w b [S src,iV (i:Int),iV p.1,iV p.2,sl] 76)(c:UInt8)(hc:src[i]?=some c)(hi:i<100000)(hp:Pk i p) :
  BD prog 85 #[pB b] w (λv w'=>∃(c1:UInt8)(i1:Nat)(p1:Ps),Fh p (src.drop i)=.ok (c1,src.drop i1,p1)∧v=.int .u8 c1.toNat∧AM w' b [S src,iV ((i1:Nat):Int),iV p1.1,iV p1.2,sl] 76∧Ku b w w'∧i<i1∧i1≤src.length∧Pk i1 p1) (λcc w'=>∃e,Fh p (src.drop i)=.error e∧cc=QS 73 e∧Ku b w w'):=by
 have hbl:=hsc.lt;have hX:=Ku.refl b w;refine Ig func85 rfl rfl rfl<|AQ [] 8 [] (Ar _) (λ_=>Ab rfl (Bw rfl)<|AK [.sq _] 2 [0,2] (kB hsc (Ar _)) (y2<|λ_=>CH rfl TF λb1 w1 hb1 hE1 hs1 hz1=>?_));replace hsc:=hsc.ext hE1;replace hX:=hX.trans hE1;refine A1 rfl rfl rfl I1 rfl hb1 rfl rfl λw2 hb2 hC1=>?_;replace hsc:=hsc.chg hC1 oM;replace hX:=hX.chg hC1 oM;have sz1:=hC1.size;refine AK [.sq _] 6 [] (Ar _) (λ_=>A3 rfl (Aw Oc rfl rfl) (F9 _ b src i p sl hsc c hc oM hp) ?_);rintro _ w3 ⟨rfl,hb3,hE2⟩;replace hb2:=hb2.exb hE2 oM;replace hX:=hX.trans2 hE2;have sz2:=hE2.size;have hp1:=Pk.adv (c:=c) hp;refine AK [.sq _,.sq _] 16 [] (Ar _) (λ_=>sP 14 rfl (λh1=>?_) (λh1=>?_));exact AQ [.sq _,.bk _,.sq _] 13 [] (Ar _) (λ_=>Bm (AB rfl (Ak rfl))<|⟨c,i+1,adv c p,by rw[Bc hc];simp[Fh,h1],rfl,hb3,hX,oM,by have:=Cj hc;omega,hp1⟩);refine AQ [.sq _,.bk _,.sq _] 6 [] (Ar _) (λ_=>sP 14 rfl (λh2=>?_) (λh2=>?_));exact AQ [.bk _,.sq _] 10 [] (Ar _) (λ_=>Bm (AB rfl (Ak rfl))<|⟨c,i+1,adv c p,by rw[Bc hc];simp[Fh,h1,h2],rfl,hb3,hX,oM,by have:=Cj hc;omega,hp1⟩);refine AQ [.bk _,.sq _] 7 [] (Ar _) (λ_=>sP 18 rfl (λh3=>?_) (λh3=>?_));exact AQ [.bk _,.sq _] 9 [] (Ar _) (λ_=>Bm (AB rfl (Ak rfl))<|⟨10,i+1,adv c p,by rw[Bc hc];simp[Fh,h1,h2,h3],rfl,hb3,hX,oM,by have:=Cj hc;omega,hp1⟩);refine AQ [.bk _,.sq _] 7 [] (Ar _) (λ_=>sP 20 rfl (λh4=>?_) (λh4=>?_));refine AQ [.bk _,.sq _] 2 [] (Ar _) (λ_=>?_);have hr1:=hb3;have hr2:=hb2;refine DR mixed (A4 w3 [b,b1]) [(true,0),(true,1),(true,2),(true,3),(true,4),(true,5),(true,6),(true,7),(true,8),(true,9),(true,10)] kR kR rfl rfl λw4 hE3 hz2=>?_;have hKp:A4 w3 [b,b1] w4:=A4.cons hr1 hE3 (A4.cons hr2 hE3 (A4.nil _ _));refine⟨hKp,?_⟩;replace hb2:=hb2.ext hE3;replace hb3:=hb3.ext hE3;replace hX:=hX.trans hE3;refine A0 rfl (λ_ hS=>Ay rfl)<|A0 rfl (λ_ hS=>Bw rfl)<|A0 rfl (λ_ hS=>B9 rfl GZ)<|A0 rfl (λ_ hS=>Al rfl UD (hr1.keep hS (.head _)) rfl)<|A0 rfl (λ_ hS=>Nf rfl rfl ⟨oM,oM⟩)<|A0 rfl (λ_ hS=>Ay rfl)<|A0 rfl (λ_ hS=>Bw rfl)<|A0 rfl (λ_ hS=>B9 rfl Jn)<|A0 rfl (λ_ hS=>Al rfl XL (hr1.keep hS (.head _)) rfl)<|A0 rfl (λ_ hS=>Mh rfl Jo) ?_;refine A0 rfl (λ_ hS=>Yj rfl rfl)<|DT<|Dv<|sP 32 rfl (λh5=>?_) (λh5=>?_);refine AQ [.bk _,.sq _] 2 [] (Ar _) (λ_=>?_);have hlt2:i+3≤src.length:=by have:=h5;simp at this;omega
 obtain⟨a1,ha1⟩:=JO (show i+1<src.length by omega);obtain⟨a2,ha2⟩:=JO (show i+2<src.length by omega);have hr3:=hb3;have hr4:=hb2;refine DR mixed (A4 w4 [b,b1]) [(true,0),(true,1),(true,2),(true,3),(true,4),(true,5),(true,6),(true,7),(true,8),(true,10),(true,11),(true,12),(true,13),(true,14),(true,15),(true,16),(true,17),(true,18),(true,19),(false,9),(false,20),(true,21),(true,22)] kR kR rfl rfl λw5 hE4 hz3=>?_;have hKp:A4 w4 [b,b1] w5:=A4.cons hr3 hE4 (A4.cons hr4 hE4 (A4.nil _ _));refine⟨hKp,?_⟩;replace hb2:=hb2.ext hE4;replace hb3:=hb3.ext hE4;replace hX:=hX.trans hE4;refine A0 rfl (λ_ hS=>Ay rfl)<|A0 rfl (λ_ hS=>Bw rfl)<|A0 rfl (λ_ hS=>B9 rfl Jn)<|A0 rfl (λ_ hS=>Al rfl XL (hr3.keep hS (.head _)) rfl)<|A0 rfl (λ_ hS=>Ay rfl)<|A0 rfl (λ_ hS=>Bw rfl)<|A0 rfl (λ_ hS=>B9 rfl GZ)<|A0 rfl (λ_ hS=>Al rfl UD (hr3.keep hS (.head _)) rfl)<|A0 rfl (λ_ hS=>Dw rfl rfl Jo oM (show src[(((i+1:Nat):Int)).toNat]?=some a1 by rw[Int.toNat_natCast];exact ha1))<|A0 rfl (λ_ hS=>Ay rfl) ?_;refine A0 rfl (λ_ hS=>Bw rfl)<|A0 rfl (λ_ hS=>B9 rfl Jn)<|A0 rfl (λ_ hS=>Al rfl XL (hr3.keep hS (.head _)) rfl)<|A0 rfl (λ_ hS=>Ay rfl)<|A0 rfl (λ_ hS=>Bw rfl)<|A0 rfl (λ_ hS=>B9 rfl GZ)<|A0 rfl (λ_ hS=>Al rfl UD (hr3.keep hS (.head _)) rfl)<|A0 rfl (λ_ hS=>Nf rfl rfl ⟨oM,oM⟩)<|A0 rfl (λ_ hS=>Dw rfl rfl Jo oM (show src[(((i+1:Nat):Int)+1).toNat]?=some a2 by rw[show (((i+1:Nat):Int)+1).toNat=i+2 by omega];exact ha2))<|EA ?_;refine A3 rfl (Aw Wg rfl rfl) (Fa _ Fb _) ?_;rintro _ w6 ⟨rfl,hE5⟩;replace hb2:=hb2.ext hE5;replace hb3:=hb3.ext hE5;replace hX:=hX.trans hE5;replace hKp:=hKp.ext hE5;have sz3:=hE5.size;refine Ac (GP hKp<|EA<|A3 rfl (Aw Wg rfl rfl) (Fa _ Fb _) ?_);rintro _ w7 ⟨rfl,hE6⟩;replace hb2:=hb2.ext hE6;replace hb3:=hb3.ext hE6;replace hX:=hX.trans hE6;replace hKp:=hKp.ext hE6;have sz4:=hE6.size;refine Ac (GP hKp<|A0 rfl (λ_ hS=>CX rfl)<|A0 rfl (λ_ hS=>CX rfl)<|DT<|JM [.sq _,.bk _,.sq _] 6 [] (Ar _) (λ_=>sL 56 rfl (λh6=>?_) (λh6=>?_)));refine AK [.sq _,.bk _,.sq _] 5 [] (Ar _) (λ_=>sP 59 rfl (λh7=>?_) (λh7=>?_));refine AQ [.bk _,.sq _] 4 [] (Ar _) (λ_=>A3 rfl (Aw Oc rfl rfl) (F9 _ b src (i+1) (adv c p) sl hb3 a1 ha1 oM hp1) ?_);rintro _ w8 ⟨rfl,hb4,hE7⟩;replace hb2:=hb2.exb hE7 oM;replace hX:=hX.trans2 hE7;have sz5:=hE7.size;have hp2:=Pk.adv (c:=a1) hp1;refine AK [.sq _,.bk _,.sq _] 5 [] (Ar _) (λ_=>A3 rfl (Aw Oc rfl rfl) (F9 _ b src ((i+1)+1) (adv a1 (adv c p)) sl hb4 a2 ha2 oM hp2) ?_);rintro _ w9 ⟨rfl,hb5,hE8⟩;replace hb2:=hb2.exb hE8 oM;replace hX:=hX.trans2 hE8;have sz6:=hE8.size;have hp3:=Pk.adv (c:=a2) hp2;refine AK [.sq _,.bk _,.sq _] 3 [] (Ar _) (λ_=>?_);have hx1:0≤Lib.indexByte Fb a1:=by have:=h6;simpa using this
 have hx2:0≤Lib.indexByte Fb a2:=by have:=h7;simpa using this
 have hy1:=YH a1;have hy2:=YH a2;exact AQ [.sq _,.bk _,.sq _] 2 [] (Ar _) (λ_=>Ab rfl (eM rfl rfl ⟨hx1,hy1⟩)<|Ab rfl (Ay rfl)<|Ab rfl (cJ rfl rfl ⟨hx1,hy1⟩ ⟨hx2,hy2⟩)<|Ab rfl (D1 rfl iC (Wb ⟨oM,oM⟩))<|AK [.sq _,.bk _,.sq _] 6 [] (Ar _) (λ_=>Bm (AB rfl (Ak rfl))<|⟨UInt8.ofNat ((Lib.indexByte Fb a1).toNat*16+(Lib.indexByte Fb a2).toNat),i+3,adv a2 (adv a1 (adv c p)),by rw[Bc hc,bQ ha1 ha2];simp[Fh,h1,h2,h3,h4,hx1,hx2],by rw[vQ ⟨hx1,hy1⟩ ⟨hx2,hy2⟩],hb5,hX,oM,oM,hp3⟩));exact AQ [.bk _,.sq _] 7 [0,0] (kB hb2 (Ar _)) (y2<|λ_=>Ab rfl (BR rfl IW)<|Cm (B8 rfl) (aI rfl<|⟨p,by rw[Bc hc,bQ ha1 ha2];exact Re h1 h2 h3 h4 (.inr (by have:=h7;simpa using this)),rfl,hX⟩));exact AK [.sq _,.bk _,.sq _] 12 [0,0] (kB hb2 (Ar _)) (y2<|λ_=>Ab rfl (BR rfl IW)<|Cm (B8 rfl) (aI rfl<|⟨p,by rw[Bc hc,bQ ha1 ha2];exact Re h1 h2 h3 h4 (.inl (by have:=h6;simpa using this)),rfl,hX⟩));exact AQ [.bk _,.sq _] 7 [0,0] (kB hb2 (Ar _)) (y2<|λ_=>Ab rfl (BR rfl IW)<|Cm (B8 rfl) (aI rfl<|⟨p,by rw[Bc hc];exact YZ h1 h2 h3 (by have:=h5;simp at this;simp;omega),rfl,hX⟩));exact AQ [.bk _,.sq _] 7 [0,0] (kB hb2 (Ar _)) (y2<|λ_=>Ab rfl (BR rfl IW)<|Cm (B8 rfl) (aI rfl<|⟨p,by rw[Bc hc];simp[Fh,h1,h2,h3,h4],rfl,hX⟩))
theorem SZ(w:World)(b:Nat)(src:lU)(i:Nat)(p:Ps)(sl:Value)(hsc:AM w b [S src,iV (i:Int),iV p.1,iV p.2,sl] 76)(start:Ps)(hile:i≤src.length)(hi:src.length<100000)(hp:Pk i p) :
  BD prog 61 #[pB b,.agg #[iV start.1,iV start.2]] w (λv w'=>∃(tx:lU)(i1:Nat)(p1:Ps),Ee start (src.length+1) p [] (src.drop i)=.ok (tx,src.drop i1,p1)∧v=.agg #[iV 4,iV start.1,iV start.2,iV 0,S tx]∧AM w' b [S src,iV ((i1:Nat):Int),iV p1.1,iV p1.2,sl] 76∧Ku b w w'∧i<i1∧i1≤src.length∧Pk i1 p1) (λcc w'=>∃e,Ee start (src.length+1) p [] (src.drop i)=.error e∧cc=QS 73 e∧Ku b w w'):=by
 have hbl:=hsc.lt;have hX:=Ku.refl b w;refine Ig func61 rfl rfl rfl<|AQ [] 2 [] (Ar _) (λ_=>DU rfl rfl rfl λb1 w1 hb1 hE1 hs1 hz1=>?_);replace hsc:=hsc.ext hE1;replace hX:=hX.trans hE1;refine CH rfl FW λb2 w2 hb2 hE2 hs2 hz2=>?_;replace hsc:=hsc.ext hE2;replace hb1:=hb1.ext hE2;replace hX:=hX.trans hE2;refine AK [.sq _] 9 [] (Ar _) (λ_=>?_);refine DO (λk σ ds w'=>∃(j:Nat)(q:Ps)(acc:lU)(ra:Option Addr)(rc F:Nat),k=src.length-j∧ds=[]∧σ=(E4 0 (pB b) 3 (pB b1) 4 (pB b2) 5 (.slice ra acc.length rc))∧i≤j∧j≤src.length∧Pk j q∧src.length+1≤F+j∧Ee start (src.length+1) p [] (src.drop i)=Ee start F q acc (src.drop j)∧acc.length≤j∧AM w' b [S src,iV ((j:Nat):Int),iV q.1,iV q.2,sl] 76∧AM w' b1 [iV start.1,iV start.2] 25 ∧ AM w' b2 [iV 0,iV 0,iV 0,iV 0,.string ⟨#[]⟩] 78∧Ci w' 5 1 ra rc acc.length (bC acc)∧(∀x,rb ra=some x→w.heap.size≤x∧x≠b1∧x≠b2)∧Ku b w w') (src.length-i) (E4 0 (pB b) 3 (pB b1) 4 (pB b2) 5 (.slice none 0 0)) lE ⟨i,p,[],none,0,src.length+1,rfl,rfl,rfl,Nat.le_refl _,hile,hp,oM,rfl,by simp,hsc,hb1,hb2,Gy _ _ _,(λx hx=>by cases hx),hX⟩ ?_;rintro _ _ _ wl ⟨j,q,acc,ra,rc,F,rfl,rfl,rfl,hij,hjl,hq,hF,hm,hal,hscl,hl3,hl4,hrow,hlow,hX⟩;have szl:=hX.size;have lt3:=hl3.lt;have lt4:=hl4.lt;have lts:=hscl.lt;have hlowl:∀x,rb ra=some x→x<wl.heap.size:=λx hx=>hrow.lt hx;refine AQ [] 4 [] (Ar _) (λ_=>A3 rfl (Aw Sm rfl rfl) (HL _ b src j q sl hscl) ?_);rintro _ w3 ⟨rfl,hE3⟩;replace hscl:=hscl.ext hE3;replace hl3:=hl3.ext hE3;replace hl4:=hl4.ext hE3;replace hrow:=hrow.ext hE3;replace hX:=hX.trans hE3;have sz1:=hE3.size;refine AK [.sq _,.sq _] 2 [] (Ar _) (λ_=>sP 9 rfl (λh1=>?_) (λh1=>?_));refine AQ [.sq _] 5 [] (Ar _) (λ_=>?_);have hjlt:j<src.length:=by have:=h1;simpa using this
 obtain⟨c,hc⟩:=JO hjlt;obtain⟨F,rfl⟩:∃F1,F=F1+1:=⟨F-1,oM⟩;refine AQ [.sq _,.bk _] 2 [] (Ar _) (λ_=>Ab rfl (Bw rfl)<|AK [.sq _,.bk _] 2 [0,2] (kB hscl (Ar _)) (y2<|λ_=>CH rfl TF λb3 w4 hb3 hE4 hs3 hz3=>?_));replace hscl:=hscl.ext hE4;replace hl3:=hl3.ext hE4;replace hl4:=hl4.ext hE4;replace hrow:=hrow.ext hE4;replace hX:=hX.trans hE4;refine A1 rfl rfl rfl I1 rfl hb3 rfl rfl λw5 hb4 hC1=>?_;replace hscl:=hscl.chg hC1 oM;replace hl3:=hl3.chg hC1 oM;replace hl4:=hl4.chg hC1 oM;replace hrow:=Ci.chg hrow hC1 (λe=>by have:=hlow _ e;have:=hlowl _ e;omega);replace hX:=hX.chg hC1 oM;have sz2:=hC1.size;refine AK [.sq _,.bk _] 5 [] (Ar _) (λ_=>A3 rfl (Aw Oc rfl rfl) (F9 _ b src j q sl hscl c hc oM hq) ?_);rintro _ w6 ⟨rfl,hb5,hE5⟩;replace hl3:=hl3.exb hE5 oM;replace hl4:=hl4.exb hE5 oM;replace hrow:=Ci.exb hrow hE5 (λe=>by have:=hlow _ e;omega);replace hb4:=hb4.exb hE5 oM;replace hX:=hX.trans2 hE5;have sz3:=hE5.size;have hp1:=Pk.adv (c:=c) hq;refine AK [.sq _,.bk _] 11 [] (Ar _) (λ_=>sP 16 rfl (λh2=>?_) (λh2=>?_));refine AQ [.bk _,.bk _] 9 [] (Ar _) (λ_=>sP 21 rfl (λh3=>?_) (λh3=>?_));exact AQ [.sq _,.bk _,.bk _] 4 [0,0] (kB hl3 (Ar _)) (y2<|λ_=>Ab rfl (BR rfl IW)<|Cm (B8 rfl) (aI rfl<|⟨start,hm.trans (aS hc h2 h3),rfl,hX⟩));refine AQ [.sq _,.bk _,.bk _] 7 [0,0] (kB hl3 (Ar _)) (y2<|λ_=>Ab rfl (bR rfl Tg hrow)<|Ab rfl (D8 rfl YL FW rfl)<|A1 rfl rfl rfl Hg rfl hl4 rfl rfl λw7 hb6 hC2=>?_);replace hl3:=hl3.chg hC2 oM;replace hrow:=Ci.chg hrow hC2 (λe=>by have:=hlow _ e;have:=hlowl _ e;omega);replace hb4:=hb4.chg hC2 oM;replace hb5:=hb5.chg hC2 oM;replace hX:=hX.chg hC2 oM;have sz4:=hC2.size;exact AK [.sq _,.bk _,.bk _] 5 [] (Ar _) (λ_=>WU<|JM [.bk _,.sq _] 2 [] (Ar _) (λ_=>Bm (AB rfl (Ae rfl Hg hb6 rfl))<|⟨acc,j+1,adv c q,hm.trans (Zx hc h2 h3),rfl,hb5,hX,oM,oM,hp1⟩));refine AQ [.bk _,.bk _] 8 [] (Ar _) (λ_=>sP 29 rfl (λh4=>?_) (λh4=>?_));exact AQ [.bk _,.bk _] 4 [0,0] (kB hb4 (Ar _)) (y2<|λ_=>Ab rfl (BR rfl IW)<|Cm (B8 rfl) (aI rfl<|⟨q,hm.trans (Y1 hc h2 h4),rfl,hX⟩));refine AQ [.bk _,.bk _] 8 [] (Ar _) (λ_=>sP 35 rfl (λh5=>?_) (λh5=>?_));refine AQ [.bk _,.bk _] 4 [] (Ar _) (λ_=>Cc rfl rfl Sb xM rfl rfl rfl rfl rfl λb4 w8 hb7 hE6 hs4 hz4=>?_);replace hl3:=hl3.ext hE6;replace hl4:=hl4.ext hE6;replace hrow:=hrow.ext hE6;replace hb4:=hb4.ext hE6;replace hb5:=hb5.ext hE6;replace hX:=hX.trans hE6;refine Ba rfl Y6 rfl rfl rfl rfl hrow hb7 rfl rfl oM oM λra2 rc2 w9 hr2 hG=>?_;have hlow2:∀x,rb ra2=some x→w.heap.size≤x∧x≠b1∧x≠b2:=BU hG hlow oM;replace hl3:=hl3.grow hG (λe=>by have:=hlow _ e.symm;have:=hlowl _ e.symm;omega);replace hl4:=hl4.grow hG (λe=>by have:=hlow _ e.symm;have:=hlowl _ e.symm;omega);replace hb5:=hb5.grow hG (λe=>by have:=hlow _ e.symm;have:=hlowl _ e.symm;omega);replace hX:=hX.grow hG (λx hx=>(hlow x hx).1);have sz5:=hG.size;refine AK [.bk _,.bk _] 4 [] (Ar _) (λ_=>?_);have hl2:acc.length+1=(acc++[c]).length:=by simp
 refine Hj (src.length-(j+1)) (E4 0 (pB b) 3 (pB b1) 4 (pB b2) 5 (.slice ra2 (acc++[c]).length rc2)) (by have:=Cj hc;omega) (yD rfl rfl rfl (hl2▸rfl)) ⟨j+1,adv c q,acc++[c],ra2,rc2,F,rfl,rfl,rfl,oM,by have:=Cj hc;omega,hp1,oM,hm.trans (Xi hc h2 h4 h5),by rw[← hl2];omega,hb5,hl3,hl4,by rw[← hl2,bC_app];exact hr2,hlow2,hX⟩;refine AQ [.bk _,.bk _] 4 [] (Ar _) (λ_=>A3 rfl (Aw Sm rfl rfl) (HL _ b src (j+1) (adv c q) sl hb5) ?_);rintro _ w10 ⟨rfl,hE7⟩;replace hl3:=hl3.ext hE7;replace hl4:=hl4.ext hE7;replace hrow:=hrow.ext hE7;replace hb4:=hb4.ext hE7;replace hb5:=hb5.ext hE7;replace hX:=hX.trans hE7;have sz6:=hE7.size;refine AK [.sq _,.bk _,.bk _] 3 [] (Ar _) (λ_=>sP 42 rfl (λh6=>?_) (λh6=>?_));refine FJ rfl rfl ?_;obtain⟨c2,hc2⟩:=JO (show j+1<src.length by have:=of_decide_eq_true h6;omega);refine AQ [.bk _,.bk _] 3 [] (Ar _) (λ_=>Cf rfl (Aw tS rfl rfl) (Rs _ b src (j+1) (adv c q) sl hb5 c2 hc2 oM hp1) ?_ (λcc wp hc1=>aI rfl (let ⟨e,he,hcc,hE⟩:=hc1;⟨e,hm.trans (Xs hc h2 h4 h5 (by have:=of_decide_eq_true h6;omega) he),hcc,hX.trans2 hE⟩)));rintro _ w11 ⟨c1,i1,p1,hesc,rfl,hb8,hE8,hi1,hi2,hp1⟩;replace hl3:=hl3.exb hE8 oM;replace hl4:=hl4.exb hE8 oM;replace hrow:=Ci.exb hrow hE8 (λe=>by have:=hlow _ e;omega);replace hb4:=hb4.exb hE8 oM;replace hX:=hX.trans2 hE8;have sz7:=hE8.size;refine Cc rfl rfl Sb xM rfl rfl rfl rfl rfl λb5 w12 hb9 hE9 hs5 hz5=>?_;replace hl3:=hl3.ext hE9;replace hl4:=hl4.ext hE9;replace hrow:=hrow.ext hE9;replace hb4:=hb4.ext hE9;replace hb8:=hb8.ext hE9;replace hX:=hX.trans hE9;refine Ba rfl Y6 rfl rfl rfl rfl hrow hb9 rfl rfl oM oM λra2 rc2 w13 hr2 hG=>?_;have hlow2:∀x,rb ra2=some x→w.heap.size≤x∧x≠b1∧x≠b2:=BU hG hlow oM;replace hl3:=hl3.grow hG (λe=>by have:=hlow _ e.symm;have:=hlowl _ e.symm;omega);replace hl4:=hl4.grow hG (λe=>by have:=hlow _ e.symm;have:=hlowl _ e.symm;omega);replace hb8:=hb8.grow hG (λe=>by have:=hlow _ e.symm;have:=hlowl _ e.symm;omega);replace hX:=hX.grow hG (λx hx=>(hlow x hx).1);have sz8:=hG.size;refine AK [.bk _,.bk _] 4 [] (Ar _) (λ_=>?_);have hl2:acc.length+1=(acc++[c1]).length:=by simp
 refine Hj (src.length-(i1)) (E4 0 (pB b) 3 (pB b1) 4 (pB b2) 5 (.slice ra2 (acc++[c1]).length rc2)) (by have:=Cj hc;omega) (yD rfl rfl rfl (hl2▸rfl)) ⟨i1,p1,acc++[c1],ra2,rc2,F,rfl,rfl,rfl,oM,by have:=Cj hc;omega,hp1,oM,hm.trans (WD hc h2 h4 h5 (by have:=of_decide_eq_true h6;omega) hesc),by rw[← hl2];omega,hb8,hl3,hl4,by rw[← hl2,bC_app];exact hr2,hlow2,hX⟩;refine AQ [.bk _,.bk _] 4 [] (Ar _) (λ_=>Hj (src.length-(j+1)) (E4 0 (pB b) 3 (pB b1) 4 (pB b2) 5 (.slice ra acc.length rc)) (by have:=Cj hc;omega) lE ⟨j+1,adv c q,acc,ra,rc,F,rfl,rfl,rfl,oM,by have:=Cj hc;omega,hp1,oM,hm.trans ?_,oM,hb5,hl3,hl4,hrow,hlow,hX⟩);have hno:¬j+1<src.length:=by have:=h6;simp at this;omega
 rw[XD hc h2 h4 h5 hno,SQ (by have:=Cj hc;omega) hno];exact AQ [.sq _] 3 [] (Ar _) (λ_=>N1<|JM [.bk _,.sq _] 5 [0,0] (kB hl3 (Ar _)) (y2<|λ_=>Ab rfl (BR rfl IW)<|Cm (B8 rfl) (aI rfl<|⟨start,hm.trans (SQ oM (by have:=h1;simp at this;omega)),rfl,hX⟩)))
theorem CF(w:World)(s:lU)(hlen:s.length≤100000)(l:lU)(hl:l.length<4294967281)(h128:l.all (λc=>decide (c.toNat<128))=true) :
  B3 prog 90 #[S s,S l] w λv w'=>v=.bool (Hu s l)∧AR w w':=by
 have hX:=AR.refl w;refine enter func90 rfl rfl rfl<|AQ [] 9 [] (Ar _) (λ_=>A3 rfl (Aw ZM rfl rfl) (OZ _ s l oM hl h128) ?_);rintro _ w1 ⟨rfl,hE1⟩;replace hX:=hX.trans hE1;have sz1:=hE1.size;exact AK [.sq _] 5 [] (Ar _) (λ_=>Bm (AB rfl (Ak rfl))<|⟨rfl,hX⟩)
theorem Jf(w:World)(s:lU)(hlen:s.length≤100000) :
  B3 prog 110 #[S s] w λv w'=>v=.bool (Ey s)∧AR w w':=by
 have hX:=AR.refl w;refine enter func110 rfl rfl rfl<|AQ [] 10 [] (Ar _) (λ_=>sL 5 rfl (λh1=>?_) (λh1=>?_));refine AK [.sq _] 1 [] (Ar _) (λ_=>B6 rfl rfl rfl<|A3 rfl (Aw ZM rfl rfl) (OZ _ s FX oM dC dC) ?_);rintro _ w1 ⟨rfl,hE1⟩;replace hX:=hX.trans hE1;have sz1:=hE1.size;exact AK [.sq _] 6 [] (Ar _) (λ_=>Bm (AB rfl (Ak rfl))<|⟨by rw[Ey,h1];rfl,hX⟩);exact AK [.sq _] 8 [] (Ar _) (λ_=>Bm (AB rfl (Ak rfl))<|⟨by rw[Ey,h1];rfl,hX⟩)
theorem Jr(n:Nat)(c:UInt8)(l:lU):CP n (c::l)=CP (n*10+(c.toNat-48)) l:=by conv=>lhs;unfold CP
theorem Mt:∀(l:lU)(n:Nat),n≤CP n l
 | [],n=>Nat.le_refl _
 |c::l,n=>by
  have:=Mt l (n*10+(c.toNat-48));rw[Jr];omega
theorem Zb:lW prog 9 146=some 5:=kR
theorem Jb(w:World)(s:lU)(hlen:s.length≤100000)(hne:(s==[])=false)(hd:∀c∈s,48≤c.toNat∧c.toNat≤57) :
  B3 prog 151 #[S s,iV 10,iV 63] w λv w'=>((CP 0 s≤9223372036854775807∧v=.tuple #[.int .u64 (CP 0 s:Int),.nilIface])∨(9223372036854775807<CP 0 s∧v=.tuple #[.int .u64 9223372036854775807,.iface 227 (iV 1)]))∧AR w w':=by
 have hX:=AR.refl w;refine enter func151 rfl rfl rfl<|AQ [] 13 [] (Ar _) (λ_=>sP 19 rfl (λh1=>?_) (λh1=>?_))
 ·
  exfalso;rw[hne] at h1;contradiction
 refine AQ [.sq _] 81 [] (Ar _) (λ_=>Ab rfl (D1 (m:=63) rfl KA dC)<|Ab rfl (J0 (9223372036854775808) rfl rfl dC dC)<|Ab rfl (FE (9223372036854775807) rfl rfl dC)<|AK [.sq _] 17 [] (Ar _) (λ_=>dB rfl rfl Zb λbb bc w1 hbb hE1=>?_));replace hX:=hX.trans hE1;have sz1:=hE1.size;refine AK [.sq _,.sq _] 5 [] (Ar _) (λ_=>?_);refine DO (λk σ ds w'=>∃(i n:Nat),k=s.length-i∧ds=[]∧σ=(rB 0 (S s) 1 (iV 10) 8 (.bool (10==0)) 9 (S s) 10 (.int .u64 1844674407370955162) 11 (.int .u64 9223372036854775807) 12 (.bool false) 13 (.int .u64 (n:Int)) 99 (.slice (some ⟨bb,0,none⟩) s.length bc) 100 (iV (s.length:Int)) 101 (iV (i:Int)))∧i≤s.length∧n≤9223372036854775807∧CP 0 s=CP n (s.drop i)∧pU w' bb (bC s)∧AR w w') s.length (rB 0 (S s) 1 (iV 10) 8 (.bool (10==0)) 9 (S s) 10 (.int .u64 1844674407370955162) 11 (.int .u64 9223372036854775807) 12 (.bool false) 13 (.int .u64 ((0:Nat):Int)) 99 (.slice (some ⟨bb,0,none⟩) s.length bc) 100 (iV (s.length:Int)) 101 (iV ((0:Nat):Int))) lE ⟨0,0,rfl,rfl,rfl,Nat.zero_le _,Nat.zero_le _,rfl,hbb,hX⟩ ?_;rintro _ _ _ wl ⟨i,n,rfl,rfl,rfl,hi,hn,hm,hbb,hX⟩;refine AQ [] 6 [] (Ar _) (λ_=>sP 102 rfl (λh2=>?_) (λh2=>?_));refine AQ [.sq _] 7 [] (Ar _) (λ_=>?_);have hi2:i<s.length:=by have:=of_decide_eq_true h2;omega
 obtain⟨c,hc⟩:=JO hi2;obtain⟨hc1,hc2⟩:=hd c (List.mem_of_getElem? hc);have hcell:(bC s)[0+i*1]?=some (.int .u8 c.toNat):=by simp[bC,hc]
 refine Ab rfl (Kf (i:=i) rfl rfl Sb hi2)<|Ab rfl (ZU rfl zE hbb hcell)<|AK [.sq _,.bk _,.sq _] 15 [] (Ar _) (λ_=>sL 109 rfl (λh3=>?_) (λh3=>?_))
 ·
  exfalso;have:=(beq_iff_eq).1 h3;omega
 refine AK [.sq _,.bk _,.sq _,.bk _,.sq _] 11 [] (Ar _) (λ_=>sL 115 rfl (λh4=>?_) (λh4=>?_));refine AK [.sq _,.bk _,.sq _,.bk _,.sq _] 6 [] (Ar _) (λ_=>sP 112 rfl (λh5=>?_) (λh5=>?_));refine AQ [.bk _,.sq _,.bk _,.sq _] 3 [] (Ar _) (λ_=>Ab rfl (FE ((c.toNat:Int)-48) rfl rfl (Wb ⟨oM,oM⟩))<|AK [.bk _,.sq _,.bk _,.sq _] 9 [] (Ar _) (λ_=>Ab rfl (D1 (m:=10) rfl iC dC)<|AK [.sq _,.sq _,.bk _,.sq _] 3 [] (Ar _) (λ_=>sP 137 rfl (λh6=>?_) (λh6=>?_))))
 ·
  exfalso;have:=of_decide_eq_true h6;omega
 refine AQ [.sq _,.bk _,.sq _] 11 [] (Ar _) (λ_=>sP 141 rfl (λh7=>?_) (λh7=>?_));exact AQ [.sq _,.bk _,.sq _] 4 [] (Ar _) (λ_=>Ab rfl (BR rfl KG)<|AK [.sq _,.sq _,.bk _,.sq _] 8 [] (Ar _) (λ_=>WU<|JM [.bk _,.sq _] 2 [] (Ar _) (λ_=>Bm (Cn rfl (Ak rfl) (Ak rfl))<|⟨.inr ⟨by rw[hm,Bc hc,Jr];have:=Mt (s.drop (i+1)) (n*10+(c.toNat-48));have q4:=of_decide_eq_true h5;have q5:=of_decide_eq_false h6;have q6:=of_decide_eq_true h7;omega,rfl⟩,hX⟩)));refine AQ [.sq _,.bk _,.sq _] 7 [] (Ar _) (λ_=>Ab rfl (D1 (m:=10) rfl eW dC)<|Ab rfl (Qw ((n:Int)*10) rfl rfl (Ho ⟨oM,by have:=of_decide_eq_false h7;omega⟩))<|AK [.sq _,.bk _,.sq _] 7 [] (Ar _) (λ_=>Ab rfl (D1 (m:=(c.toNat:Int)-48) rfl Qc (Ho ⟨oM,oM⟩))<|Ab rfl (Mw (((n:Int)*10+((c.toNat:Int)-48)) % 18446744073709551616) rfl rfl (IntKind.wrap_u64 _))<|AK [.sq _,.bk _,.sq _] 10 [] (Ar _) (λ_=>sL 155 rfl (λh8=>?_) (λh8=>?_))));exact AK [.sq _,.sq _,.bk _,.sq _] 10 [] (Ar _) (λ_=>Ab rfl (BR rfl KG)<|AK [.sq _,.sq _,.bk _,.sq _] 8 [] (Ar _) (λ_=>WU<|JM [.bk _,.sq _] 2 [] (Ar _) (λ_=>Bm (Cn rfl (Ak rfl) (Ak rfl))<|⟨.inr ⟨by rw[hm,Bc hc,Jr];have:=Mt (s.drop (i+1)) (n*10+(c.toNat-48));have q5:=of_decide_eq_false h6;have q6:=of_decide_eq_false h7;have q7:=of_decide_eq_true h8;omega,rfl⟩,hX⟩)));refine AK [.sq _,.sq _,.bk _,.sq _] 6 [] (Ar _) (λ_=>sP 159 rfl (λh9=>?_) (λh9=>?_));exact AQ [.sq _,.bk _,.sq _] 4 [] (Ar _) (λ_=>Ab rfl (BR rfl KG)<|AK [.sq _,.sq _,.bk _,.sq _] 8 [] (Ar _) (λ_=>WU<|JM [.bk _,.sq _] 2 [] (Ar _) (λ_=>Bm (Cn rfl (Ak rfl) (Ak rfl))<|⟨.inr ⟨by rw[hm,Bc hc,Jr];have:=Mt (s.drop (i+1)) (n*10+(c.toNat-48));have q6:=of_decide_eq_false h7;have q7:=of_decide_eq_false h8;have q8:=of_decide_eq_true h9;omega,rfl⟩,hX⟩)));refine AQ [.sq _,.bk _,.sq _] 13 [] (Ar _) (aI ⟨oM,oM⟩<|λ_=>?_);have hN:(((n:Int)*10+((c.toNat:Int)-48)) % 18446744073709551616)=((n*10+(c.toNat-48):Nat):Int):=by have h1:=of_decide_eq_false h7;have h2:=of_decide_eq_false h8;have h3:=of_decide_eq_false h9;omega
 refine Hj (s.length-(i+1)) (rB 0 (S s) 1 (iV 10) 8 (.bool (10==0)) 9 (S s) 10 (.int .u64 1844674407370955162) 11 (.int .u64 9223372036854775807) 12 (.bool false) 13 (.int .u64 ((n*10+(c.toNat-48):Nat):Int)) 99 (.slice (some ⟨bb,0,none⟩) s.length bc) 100 (iV (s.length:Int)) 101 (iV ((i+1:Nat):Int))) oM (wD rfl rfl rfl rfl rfl rfl rfl (by rw[← hN];rfl) rfl rfl rfl) ⟨i+1,n*10+(c.toNat-48),rfl,rfl,rfl,oM,by have h1:=of_decide_eq_false h7;have h2:=of_decide_eq_false h8;have h3:=of_decide_eq_false h9;omega,by rw[hm,Bc hc];rfl,hbb,hX⟩
 ·
  exfalso;have:=of_decide_eq_false h5;omega
 ·
  exfalso;have:=of_decide_eq_false h4;omega
 exact AQ [.sq _] 3 [] (Ar _) (λ_=>N1<|JM [.bk _,.sq _] 24 [] (Ar _) (λ_=>Bm (Cn rfl (Ak rfl) (Ak rfl))<|⟨.inl ⟨by rw[hm,ID (by have:=of_decide_eq_false h2;omega)];exact hn,by rw[hm,ID (by have:=of_decide_eq_false h2;omega)];rfl⟩,hX⟩))
theorem yC:fS prog 227=true:=kR
theorem PW(w:World)(s:lU)(hlen:s.length≤100000)(hne:(s==[])=false)(hd:∀c∈s,48≤c.toNat∧c.toNat≤57) :
  B3 prog 128 #[S s,iV 10,iV 63] w λv w'=>((CP 0 s<4611686018427387904∧v=.tuple #[iV (CP 0 s:Int),.nilIface])∨(4611686018427387904≤CP 0 s∧∃z,v=.tuple #[iV z,.iface 227 (iV 1)]))∧AR w w':=by
 obtain⟨c0,r0,hs0⟩:∃c r,s=c::r:=by
  cases s with
  |nil=>simp at hne
  |cons c r=>exact⟨c,r,rfl⟩
 have hX:=AR.refl w;refine enter func128 rfl rfl rfl<|AQ [] 13 [] (Ar _) (λ_=>sP 13 rfl (λh1=>?_) (λh1=>?_))
 ·
  exfalso;rw[hne] at h1;contradiction
 refine AQ [.sq _] 12 [] (Ar _) (λ_=>Ab rfl (Dw (c:=c0) rfl rfl Jo dC (by rw[hs0];rfl))<|AK [.sq _,.sq _] 9 [] (Ar _) (λ_=>sP 17 rfl (λh2=>?_) (λh2=>?_)))
 ·
  exfalso;have h9:=hd c0 (hs0▸List.mem_cons_self);have:=(beq_iff_eq).1 h2;omega
 refine AQ [.bk _,.sq _] 7 [] (Ar _) (λ_=>sP 21 rfl (λh3=>?_) (λh3=>?_))
 ·
  exfalso;have h9:=hd c0 (hs0▸List.mem_cons_self);have:=(beq_iff_eq).1 h3;omega
 refine AQ [.bk _,.sq _] 14 [] (Ar _) (λ_=>A3 rfl (Aw ZS rfl rfl) (Jb _ s hlen hne hd) ?_);rintro _ w1 ⟨(⟨hle,rfl⟩|⟨hgt,rfl⟩),hE1⟩;replace hX:=hX.trans hE1;have sz1:=hE1.size;refine AK [.sq _] 11 [] (Ar _) (λ_=>Ab rfl (H9 Ga rfl)<|AK [.sq _,.sq _] 23 [] (Ar _) (λ_=>Ab rfl (FE (62) rfl rfl dC)<|Ab rfl (D1 (m:=62) rfl KA dC)<|Ab rfl (J0 (4611686018427387904) rfl rfl dC dC)<|AK [.sq _] 15 [] (Ar _) (λ_=>sP 52 rfl (λh4=>?_) (λh4=>?_))));exact AQ [.sq _] 4 [] (Ar _) (λ_=>Ab rfl (FE (4611686018427387903) rfl rfl dC)<|Ab rfl (D1 (m:=4611686018427387903) rfl Jy dC)<|Ab rfl (BR rfl KG)<|AK [.sq _,.sq _] 6 [] (Ar _) (λ_=>Bm (Cn rfl (Ak rfl) (Ak rfl))<|⟨.inr ⟨by have:=of_decide_eq_true h4;omega,_,rfl⟩,hX⟩));exact AQ [.sq _] 20 [] (Ar _) (λ_=>Ab rfl (D1 (m:=(CP 0 s:Int)) rfl Jy (J1 ⟨oM,by have:=of_decide_eq_false h4;omega⟩))<|AK [.sq _] 20 [] (Ar _) (λ_=>Bm (Cn rfl (Ak rfl) (Ak rfl))<|⟨.inl ⟨by have:=of_decide_eq_false h4;omega,rfl⟩,hX⟩));replace hX:=hX.trans hE1;have sz2:=hE1.size;refine AK [.sq _] 11 [] (Ar _) (λ_=>Ab rfl (KF Ga rfl)<|AK [.sq _,.sq _] 2 [] (Ar _) (λ_=>B6 rfl rfl rfl<|Ab rfl (BR rfl KG)<|B6 rfl rfl rfl<|Ab rfl (aW Ga yC rfl rfl)<|AK [.sq _,.sq _] 19 [] (Ar _) (λ_=>Ab rfl (FE (62) rfl rfl dC)<|Ab rfl (D1 (m:=62) rfl KA dC) ?_)));exact Ab rfl (J0 (4611686018427387904) rfl rfl dC dC)<|AK [.sq _] 19 [] (Ar _) (λ_=>Ab rfl (FE (4611686018427387903) rfl rfl dC)<|Ab rfl (D1 (m:=4611686018427387903) rfl Jy dC)<|Ab rfl (BR rfl KG)<|AK [.sq _,.sq _] 6 [] (Ar _) (λ_=>Bm (Cn rfl (Ak rfl) (Ak rfl))<|⟨.inr ⟨oM,_,rfl⟩,hX⟩))
theorem Qk(w:World)(r:lU)(hlen:(45::r).length≤100000)(hne:(r==[])=false)(hd:∀c∈r,48≤c.toNat∧c.toNat≤57) :
  B3 prog 128 #[S (45::r),iV 10,iV 63] w λv w'=>((CP 0 r<4611686018427387905∧v=.tuple #[iV (-(CP 0 r:Int)),.nilIface])∨(4611686018427387905≤CP 0 r∧∃z,v=.tuple #[iV z,.iface 227 (iV 1)]))∧AR w w':=by
 have hne2:((45::r:lU)==[])=false:=rfl;have hX:=AR.refl w;refine enter func128 rfl rfl rfl<|AQ [] 13 [] (Ar _) (λ_=>sP 13 rfl (λh1=>?_) (λh1=>?_))
 ·
  exfalso;rw[hne2] at h1;contradiction
 refine AQ [.sq _] 12 [] (Ar _) (λ_=>Ab rfl (Dw (c:=45) rfl rfl Jo dC rfl)<|AK [.sq _,.sq _] 20 [] (Ar _) (λ_=>Ab rfl (LR rfl rfl Jo)<|AK [.sq _,.bk _,.sq _] 18 [] (Ar _) (λ_=>A3 rfl (Aw ZS rfl rfl) (Jb _ r (by simp only[List.length_cons] at hlen;omega) hne hd) ?_)));rintro _ w1 ⟨(⟨hle,rfl⟩|⟨hgt,rfl⟩),hE1⟩;replace hX:=hX.trans hE1;have sz1:=hE1.size;refine AK [.sq _] 11 [] (Ar _) (λ_=>Ab rfl (H9 Ga rfl)<|AK [.sq _,.sq _] 23 [] (Ar _) (λ_=>Ab rfl (FE (62) rfl rfl dC)<|Ab rfl (D1 (m:=62) rfl KA dC)<|Ab rfl (J0 (4611686018427387904) rfl rfl dC dC)<|AK [.sq _] 29 [] (Ar _) (λ_=>sP 62 rfl (λh2=>?_) (λh2=>?_))));exact AQ [.sq _] 4 [] (Ar _) (λ_=>Ab rfl (D1 (m:=4611686018427387904) rfl Jy dC)<|Ab rfl (KJ (-4611686018427387904) rfl dC)<|Ab rfl (BR rfl KG)<|AK [.sq _,.sq _] 6 [] (Ar _) (λ_=>Bm (Cn rfl (Ak rfl) (Ak rfl))<|⟨.inr ⟨by have:=of_decide_eq_true h2;omega,_,rfl⟩,hX⟩));exact AQ [.sq _] 6 [] (Ar _) (λ_=>Ab rfl (D1 (m:=(CP 0 r:Int)) rfl Jy (J1 ⟨oM,by have:=of_decide_eq_false h2;omega⟩))<|AK [.sq _] 12 [] (Ar _) (λ_=>Ab rfl (KJ (-(CP 0 r:Int)) rfl (by rw[J1 ⟨by omega,by have:=of_decide_eq_false h2;omega⟩];omega))<|AK [.sq _] 11 [] (Ar _) (λ_=>Bm (Cn rfl (Ak rfl) (Ak rfl))<|⟨.inl ⟨by have:=of_decide_eq_false h2;omega,rfl⟩,hX⟩)));replace hX:=hX.trans hE1;have sz2:=hE1.size;refine AK [.sq _] 11 [] (Ar _) (λ_=>Ab rfl (KF Ga rfl)<|AK [.sq _,.sq _] 2 [] (Ar _) (λ_=>B6 rfl rfl rfl<|Ab rfl (BR rfl KG)<|B6 rfl rfl rfl<|Ab rfl (aW Ga yC rfl rfl)<|AK [.sq _,.sq _] 19 [] (Ar _) (λ_=>Ab rfl (FE (62) rfl rfl dC)<|Ab rfl (D1 (m:=62) rfl KA dC) ?_)));exact Ab rfl (J0 (4611686018427387904) rfl rfl dC dC)<|AK [.sq _] 33 [] (Ar _) (λ_=>Ab rfl (D1 (m:=4611686018427387904) rfl Jy dC)<|Ab rfl (KJ (-4611686018427387904) rfl dC)<|Ab rfl (BR rfl KG)<|AK [.sq _,.sq _] 6 [] (Ar _) (λ_=>Bm (Cn rfl (Ak rfl) (Ak rfl))<|⟨.inr ⟨oM,_,rfl⟩,hX⟩))
end Go.Proofs.YtkahkniflkadoaaGreatDoor
namespace Go.SP
open Go.SW Go.RowKit
theorem Hx{α:Type}(p:α→Bool):∀(l:List α),l.dropWhile p=[]↔∀x∈l,p x=true
 | []=>by simp
 |a::l=>by
   have ih:=Hx p l
   cases h:p a <;> simp[List.dropWhile,h,ih]
theorem II{α:Type}(p:α→Bool):∀(l:List α)(a:α)(r:List α),l.dropWhile p=a::r→p a=false
 | [],_,_,h=>by simp at h
 |b::l,a,r,h=>by
   cases hb:p b with
   |true=>rw[List.dropWhile_cons_of_pos hb] at h;exact II p l a r h
   |false=>rw[List.dropWhile_cons_of_neg (by simp[hb])] at h;cases h;exact hb
theorem bA(s l:lU):Hu s l=s.all (l.contains ·):=by
 have key:Lib.trimS s l=[]↔∀x∈s,l.contains x=true:=by
   unfold Lib.trimS Lib.trimLeftS Lib.trimRightS;rw[Hx];constructor
   · intro h
     cases hd:s.reverse.dropWhile (l.contains ·) with
     |nil=>intro x hx;exact (Hx _ _).1 hd x (by simpa using hx)
     |cons a r =>
       have h1:=II _ _ _ _ hd;have h2:=h a (by rw[hd];simp);rw[h1] at h2;cases h2
   · intro h x hx
     exact h x (by have:=(List.dropWhile_suffix (l.contains ·) (l:=s.reverse)).subset (by simpa using hx);simpa using this)
 unfold Hu
 cases h:s.all (l.contains ·) with
 |true=>rw[key.2 (by simpa using h)];rfl
 |false =>
   have:¬Lib.trimS s l=[]:=λe=>by
     have:=key.1 e;have h2:s.all (l.contains ·)=true:=by simpa using this
     rw[h] at h2;cases h2
   simp[this]
theorem aG{c:UInt8}(h:FX.contains c=true):48≤c.toNat∧c.toNat≤57:=by
 simp only[FX,List.contains_cons,List.contains_nil,Bool.or_false,Bool.or_eq_true,beq_iff_eq] at h;rcases h with rfl|rfl|rfl|rfl|rfl|rfl|rfl|rfl|rfl|rfl <;> decide
theorem Gw{s:lU}(h:Ey s=true):(s==[])=false∧∀c∈s,48≤c.toNat∧c.toNat≤57:=by
 unfold Ey at h;rw[bA,Bool.and_eq_true] at h;exact⟨by simpa using h.1,λc hc=>aG (List.all_eq_true.1 h.2 c hc)⟩
theorem It(r:lU):Bh (45::r)=r:=by
 simp[Bh,Lib.trimPrefix,Lib.hasPrefix,List.isPrefixOf]
theorem HX{s:lU}(h:Oy s=false):Bh s=s:=by
 unfold Bh Lib.trimPrefix
 cases s with
 |nil=>simp
 |cons c r =>
   have:c≠45:=by simpa[Oy] using h
   simp[Lib.hasPrefix,List.isPrefixOf,this.symm]
theorem Pr{r:lU}(h:Ey r=true):HJ (45::r)=if CP 0 r<4611686018427387905 then some (-(CP 0 r:Int)) else none:=by
 unfold HJ;rw[It,h];simp[Oy,Nat.lt_succ_iff]
theorem Pu{s:lU}(hn:Oy s=false)(h:Ey s=true):HJ s=if CP 0 s<4611686018427387904 then some (CP 0 s:Int) else none:=by
 unfold HJ;rw[HX hn,h,hn];simp
theorem Ka(s:lU):Oy s=false∨∃r,s=45::r:=by
 cases s with
 |nil=>exact .inl rfl
 |cons c r =>
   by_cases h:c=45
   · exact .inr ⟨r,by rw[h]⟩
   · left;simp[Oy,h]
theorem F7(s:lU):(Bh s).length≤s.length:=by
 rcases Ka s with h|⟨r,rfl⟩
 · rw[HX h];exact Nat.le_refl _
 · rw[It];simp
end Go.SP
namespace Go.SP
theorem SL(s t:lU):(Lib.cut s t).1.length≤s.length:=by
 unfold Lib.cut
 split
 · simp only[List.length_take];exact Nat.min_le_right _ _
 · exact Nat.le_refl _
theorem S8(s t:lU):(Lib.cut s t).2.1.length≤s.length:=by
 unfold Lib.cut
 split
 · simp
 · simp
end Go.SP
namespace Go.SP
def wI(s:lU)(a b c d e f g:Bool):Option (Int×Int×lU):=if a||(b&&c) then none else if d&&e then some (6,0,s) else if f&&g then some (5,0,s) else none
theorem C5{s:lU}(hr:HJ s=none)(hf:Iq s=none):GG s=wI s (decide ((40:Int)<s.length)) (!(Bh s==[])) (Hu (Bh s) FX) (Hu (s.take 1) ES) (Hu s (ES++Ek++FX)) (Hu (s.take 1) (Ek++Ge)) (Hu s (ES++Ek++FX++Ge)):=by
 rw[GG,hr];simp only[hf];rfl
end Go.SP
namespace Go.SP
variable {j:Nat}
theorem OP{p:Ps}{src:lU}(h:¬j<src.length∨∃c,src[j]?=some c∧((c.toNat:Int) != 10)=false):GK p (src.drop j)=(src.drop j,p):=by
 rcases h with h|⟨c,hc,h⟩
 · rw[List.drop_eq_nil_of_le (by omega)];rfl
 · rw[Bc hc,GK,if_neg (by rw[h];decide)]
theorem Xw{p:Ps}{src:lU}{c:UInt8}(hc:src[j]?=some c)(h:((c.toNat:Int) != 10)=true):GK p (src.drop j)=GK (adv c p) (src.drop (j+1)):=by
 rw[Bc hc,GK,if_pos h]
theorem NG{p:Ps}{src:lU}(h:¬j<src.length∨∃c,src[j]?=some c∧decide (Lib.indexByte M9 c<0)=false):BZ p (src.drop j)=([],src.drop j,p):=by
 rcases h with h|⟨c,hc,h⟩
 · rw[List.drop_eq_nil_of_le (by omega)];rfl
 · rw[Bc hc,BZ,if_neg (by rw[h];decide)]
theorem US{p:Ps}{src:lU}{c:UInt8}(hc:src[j]?=some c)(h:decide (Lib.indexByte M9 c<0)=true) :
   BZ p (src.drop j)=(c::(BZ (adv c p) (src.drop (j+1))).1,(BZ (adv c p) (src.drop (j+1))).2):=by
 rw[Bc hc,BZ,if_pos h]
def EH(src:lU)(i j:Nat):lU:=(src.take j).drop i
theorem TB(src:lU)(i:Nat):EH src i i=[]:=by
 unfold EH;rw[List.drop_eq_nil_of_le (by simp;omega)]
theorem TA{src:lU}{i:Nat}{c:UInt8}(hij:i≤j)(hc:src[j]?=some c):EH src i (j+1)=EH src i j++[c]:=by
 obtain⟨hl,he⟩:=List.getElem?_eq_some_iff.1 hc;unfold EH;rw[List.take_succ_eq_append_getElem hl,List.drop_append_of_le_length (by simp;omega),he]
theorem AP{src:lU}{i:Nat}{c:UInt8}(hij:i<j)(hc:src[i]?=some c):EH src i j=c::EH src (i+1) j:=by
 unfold EH;have:(src.take j)[i]?=some c:=by rw[List.getElem?_take,if_pos hij,hc]
 exact Bc this
theorem EI(src:lU)(i j:Nat):(EH src i j).length≤src.length:=by
 unfold EH;simp only[List.length_drop,List.length_take];omega
section
variable{F i:Nat}{p:Ps}{src:lU}{c:UInt8}
theorem Cq(r:lU):C1 F p (c::r) =
   (if decide ((0:Int)≤Lib.indexByte Gz c) then .ok ([],r,adv c p)
   else if (c.toNat:Int)==59 then .ok ([],GK (adv c p) r)
   else if (c.toNat:Int)==40 then .ok ([⟨0,p.1,p.2,0,[]⟩],r,adv c p)
   else if (c.toNat:Int)==41 then .ok ([⟨1,p.1,p.2,0,[]⟩],r,adv c p)
   else if (c.toNat:Int)==34 then (match Ee p F (adv c p) [] r with
     |.error e=>.error e
     |.ok (tx,r',p')=>.ok ([⟨4,p.1,p.2,0,tx⟩],r',p'))
   else (match GG (c::(BZ (adv c p) r).1) with
     |none=>.error p
     |some (k,nm,tx)=>.ok ([⟨k,p.1,p.2,nm,tx⟩],(BZ (adv c p) r).2))):=rfl
theorem RQ(hc:src[i]?=some c)(h1:decide ((0:Int)≤Lib.indexByte Gz c)=true):C1 F p (src.drop i)=.ok ([],src.drop (i+1),adv c p):=by rw[Bc hc,Cq,if_pos h1]
theorem OO(hc:src[i]?=some c)(h1:decide ((0:Int)≤Lib.indexByte Gz c)=false)(h2:((c.toNat:Int)==59)=true):C1 F p (src.drop i)=.ok ([],GK (adv c p) (src.drop (i+1))):=by
 rw[Bc hc,Cq,if_neg (by rw[h1];decide),if_pos h2]
theorem RW(hc:src[i]?=some c)(h1:decide ((0:Int)≤Lib.indexByte Gz c)=false)(h2:((c.toNat:Int)==59)=false)(h3:((c.toNat:Int)==40)=true):C1 F p (src.drop i)=.ok ([⟨0,p.1,p.2,0,[]⟩],src.drop (i+1),adv c p):=by
 rw[Bc hc,Cq,if_neg (by rw[h1];decide),if_neg (by rw[h2];decide),if_pos h3]
theorem Te(hc:src[i]?=some c)(h1:decide ((0:Int)≤Lib.indexByte Gz c)=false)(h2:((c.toNat:Int)==59)=false)(h3:((c.toNat:Int)==40)=false)(h4:((c.toNat:Int)==41)=true):C1 F p (src.drop i)=.ok ([⟨1,p.1,p.2,0,[]⟩],src.drop (i+1),adv c p):=by
 rw[Bc hc,Cq,if_neg (by rw[h1];decide),if_neg (by rw[h2];decide),if_neg (by rw[h3];decide),if_pos h4]
theorem H6(hc:src[i]?=some c)(h1:decide ((0:Int)≤Lib.indexByte Gz c)=false)(h2:((c.toNat:Int)==59)=false)(h3:((c.toNat:Int)==40)=false)(h4:((c.toNat:Int)==41)=false)(h5:((c.toNat:Int)==34)=true) :
   C1 F p (src.drop i)=(match Ee p F (adv c p) [] (src.drop (i+1)) with
     |.error e=>.error e
     |.ok (tx,r',p')=>.ok ([⟨4,p.1,p.2,0,tx⟩],r',p')):=by
 rw[Bc hc,Cq,if_neg (by rw[h1];decide),if_neg (by rw[h2];decide),if_neg (by rw[h3];decide),if_neg (by rw[h4];decide),if_pos h5]
theorem BE(hc:src[i]?=some c)(h1:decide ((0:Int)≤Lib.indexByte Gz c)=false)(h2:((c.toNat:Int)==59)=false)(h3:((c.toNat:Int)==40)=false)(h4:((c.toNat:Int)==41)=false)(h5:((c.toNat:Int)==34)=false) :
   C1 F p (src.drop i)=(match GG (c::(BZ (adv c p) (src.drop (i+1))).1) with
     |none=>.error p
     |some (k,nm,tx)=>.ok ([⟨k,p.1,p.2,nm,tx⟩],(BZ (adv c p) (src.drop (i+1))).2)):=by
 rw[Bc hc,Cq,if_neg (by rw[h1];decide),if_neg (by rw[h2];decide),if_neg (by rw[h3];decide),if_neg (by rw[h4];decide),if_neg (by rw[h5];decide)]
end
end Go.SP
namespace Go.SP
theorem G3(F n:Nat)(p:Ps):DJ F n p []=.ok []:=by cases n <;> rfl
def T6(t:List AA):Except Ps (List AA)→Except Ps (List AA)
 |.error e=>.error e
 |.ok l=>.ok (t++l)
theorem Yx(x:Except Ps (List AA)):T6 [] x=x:=by cases x <;> rfl
theorem DL(F n:Nat)(p:Ps)(c:UInt8)(r:lU):DJ F (n+1) p (c::r)=(match C1 F p (c::r) with
   |.error e=>.error e
   |.ok (t,r',p')=>match DJ F n p' r' with
     |.error e=>.error e
     |.ok l=>.ok (t++l)):=rfl
variable {ot toks:List AA}{j n:Nat}{p1:Ps}
theorem W1{F:Nat}{q e:Ps}{src:lU}{c:UInt8}(hc:src[j]?=some c)(he:C1 F q (src.drop j)=.error e):DJ F (n+1) q (src.drop j)=.error e:=by
 rw[Bc hc] at he ⊢;rw[DL,he]
theorem UU{F:Nat}{q:Ps}{src r1:lU}{c:UInt8}{x:Except Ps (List AA)}(hc:src[j]?=some c)(hs:C1 F q (src.drop j)=.ok (ot,r1,p1))
   (hm:x=T6 toks (DJ F (n+1) q (src.drop j))):x=T6 (toks++ot) (DJ F n p1 r1):=by
 rw[Bc hc] at hs hm;rw[hm,DL,hs];simp only[]
 cases DJ F n p1 r1 with
 |error e=>rfl
 |ok l=>simp[T6]
theorem OJ{F:Nat}{p:Ps}{l r:lU}(h:C1 F p l=.ok (ot,r,p1)):ot.length≤1:=by
 cases l with
 |nil=>cases h
 |cons c r =>
   rw[Cq] at h
   repeat' split at h
   all_goals first
     |(simp only[Except.ok.injEq,Prod.mk.injEq] at h;rw[← h.1];simp)
     |cases h
end Go.SP
namespace Go.Proofs.YtkahkniflkadoaaGreatDoor
open Go.SW Go.SP Go.RowKit Go.Proofs.Tryz
theorem Nh(w:World)(s:lU)(hlen:s.length≤100000)(hD:Ey (Bh s)=true) :
  B3 prog 128 #[S s,iV 10,iV 63] w λv w'=>((∃n,HJ s=some n∧v=.tuple #[iV n,.nilIface])∨(HJ s=none∧∃z,v=.tuple #[iV z,.iface 227 (iV 1)]))∧AR w w':=by
 rcases Ka s with hn|⟨r,rfl⟩
 ·
  rw[HX hn] at hD;obtain⟨h1,h2⟩:=Gw hD;refine (PW w s hlen h1 h2).mono ?_;rintro v w' ⟨⟨hl,rfl⟩|⟨hg,z,rfl⟩,hE⟩
  · exact⟨.inl ⟨_,by rw[Pu hn hD,if_pos hl],rfl⟩,hE⟩
  · exact⟨.inr ⟨by rw[Pu hn hD,if_neg (by omega)],z,rfl⟩,hE⟩
 ·
  rw[It] at hD;obtain⟨h1,h2⟩:=Gw hD;refine (Qk w r hlen h1 h2).mono ?_;rintro v w' ⟨⟨hl,rfl⟩|⟨hg,z,rfl⟩,hE⟩
  · exact⟨.inl ⟨_,by rw[Pr hD,if_pos hl],rfl⟩,hE⟩
  · exact⟨.inr ⟨by rw[Pr hD,if_neg (by omega)],z,rfl⟩,hE⟩
theorem Ox(w:World)(hG:Gl w)(s:lU)(hlen:s.length≤100000)(hD:Ey (Bh s)=true) :
  B3 prog 111 #[S s,iV 10,iV 63] w λv w'=>((∃n,HJ s=some n∧v=.tuple #[iV n,.nilIface])∨(HJ s=none∧∃z T u,v=.tuple #[iV z,.iface T u]))∧AR w w':=by
 have hX:=AR.refl w;refine enter func111 rfl rfl rfl<|AQ [] 11 [] (Ar _) (λ_=>A3 rfl (Aw kE rfl rfl) (Nh _ s hlen hD) ?_);rintro _ w1 ⟨(⟨n,hr,rfl⟩|⟨hr,z,rfl⟩),hE1⟩;replace hX:=hX.trans hE1;have sz1:=hE1.size;exact AK [.sq _] 11 [] (Ar _) (λ_=>Ab rfl (H9 Ga rfl)<|AK [.sq _,.sq _] 13 [] (Ar _) (λ_=>Bm (Cn rfl (Ak rfl) (Ak rfl))<|⟨.inl ⟨n,hr,rfl⟩,hX⟩));replace hX:=hX.trans hE1;have sz2:=hE1.size;refine AK [.sq _] 11 [] (Ar _) (λ_=>Ab rfl (KF Ga rfl)<|AK [.sq _,.sq _] 10 [] (Ar _) (λ_=>A3 rfl (Aw mV rfl rfl) (PN _ (hG.ext hX) _ s _ _ hlen) ?_));rintro _ w2 ⟨⟨eT,eV,rfl⟩,hE2⟩;replace hX:=hX.trans hE2;have sz3:=hE2.size;exact AK [.sq _,.sq _] 6 [] (Ar _) (λ_=>Bm (Cn rfl (Ak rfl) (Ak rfl))<|⟨.inr ⟨hr,z,_,_,rfl⟩,hX⟩)
theorem Xl(w:World)(hG:Gl w)(s:lU)(hlen:s.length≤100000) :
  B3 prog 86 #[S s] w λv w'=>((∃n,HJ s=some n∧v=.tuple #[iV n,iV 0])∨(HJ s=none∧∃e:Int,(e==0)=false∧v=.tuple #[iV 0,iV e]))∧AR w w':=by
 have hX:=AR.refl w;refine enter func86 rfl rfl rfl<|AQ [] 10 [] (Ar _) (λ_=>A3 rfl (Aw ZZ rfl rfl) (Gi _ s [45]) ?_);rintro _ w1 ⟨rfl,hE1⟩;replace hX:=hX.trans hE1;have sz1:=hE1.size;refine A3 rfl (Aw Tt rfl rfl) (Jf _ (Bh s) (by have:=F7 s;omega)) ?_;rintro _ w2 ⟨rfl,hE2⟩;replace hX:=hX.trans hE2;have sz2:=hE2.size;refine AK [.sq _,.sq _] 3 [] (Ar _) (λ_=>sP 9 rfl (λh1=>?_) (λh1=>?_));replace h1:=Fv h1;exact AQ [.sq _] 9 [] (Ar _) (λ_=>Bm (Cn rfl (Ak rfl) (Ak rfl))<|⟨.inr ⟨by rw[HJ,h1];rfl,2,dC,rfl⟩,hX⟩);replace h1:=FO h1;refine AQ [.sq _] 6 [] (Ar _) (λ_=>A3 rfl (Aw mB rfl rfl) (Ox _ (hG.ext hX) s hlen h1) ?_);rintro _ w3 ⟨(⟨n,hr,rfl⟩|⟨hr,z,eT,eV,rfl⟩),hE3⟩;replace hX:=hX.trans hE3;have sz3:=hE3.size;exact AK [.sq _] 11 [] (Ar _) (λ_=>Ab rfl (H9 Ga rfl)<|AK [.sq _,.sq _] 13 [] (Ar _) (λ_=>Bm (Cn rfl (Ak rfl) (Ak rfl))<|⟨.inl ⟨n,hr,rfl⟩,hX⟩));replace hX:=hX.trans hE3;have sz4:=hE3.size;exact AK [.sq _] 11 [] (Ar _) (λ_=>Ab rfl (KF Ga rfl)<|AK [.sq _,.sq _] 11 [] (Ar _) (λ_=>Bm (Cn rfl (Ak rfl) (Ak rfl))<|⟨.inr ⟨hr,4,dC,rfl⟩,hX⟩))
def uW:Prop:=∀(w:World)(s a b:lU),Gl w→s.length≤100000→Hz s=some (a,b)→B3 prog 113 #[S s,iV 64] w λv w'=>v=.tuple #[.float .f64 (LS (Oy s) a b),.nilIface]∧AR w w'
theorem pH:Extern.findNext Tryz.f133=none:=kR
theorem mI:Extern.find Tryz.f133=some Extern.MathFloatBits.float64bits:=kR
theorem TY(w:World)(f:Nat) :
  B3 prog 132 #[.float .f64 f] w λv w'=>v=.bool (!(Op.floatEq .f64 f f))∧AR w w':=by
 have hX:=AR.refl w;exact enter func132 rfl rfl rfl<|AQ [] 9 [] (Ar _) (λ_=>Ab rfl (jW rfl rfl)<|AK [.sq _] 4 [] (Ar _) (λ_=>Bm (AB rfl (Ak rfl))<|⟨rfl,hX⟩))
theorem dI(w:World)(f:Nat) :
  B3 prog 114 #[.float .f64 f] w λv w'=>v=.int .u64 ((if Op.floatEq .f64 f f then f else 9221120237041090560:Nat):Int)∧AR w w':=by
 have hX:=AR.refl w;refine enter func114 rfl rfl rfl<|AQ [] 9 [] (Ar _) (λ_=>A3 rfl (Aw oI rfl rfl) (TY _ f) ?_);rintro _ w1 ⟨rfl,hE1⟩;replace hX:=hX.trans hE1;have sz1:=hE1.size;refine AK [.sq _,.sq _] 2 [] (Ar _) (λ_=>sP 4 rfl (λh1=>?_) (λh1=>?_));refine AQ [.sq _] 8 [] (Ar _) (λ_=>Bm (AB rfl (Ak rfl))<|⟨?_,hX⟩);have hq:=h1;simp at hq;simp[hq];refine AQ [.sq _] 6 [] (Ar _) (λ_=>Ab rfl (Ym func133 rfl rfl pH mI rfl rfl rfl)<|AK [.sq _] 4 [] (Ar _) (λ_=>Bm (AB rfl (Ak rfl))<|⟨?_,hX⟩));have hq:=h1;simp at hq;simp[hq]
theorem NP(hPF:uW)(w:World)(hG:Gl w)(s:lU)(hlen:s.length≤100000) :
  B3 prog 87 #[S s] w λv w'=>((∃x:Nat,Iq s=some x∧v=.tuple #[.int .u64 (x:Int),iV 0])∨(Iq s=none∧∃e:Int,(e==0)=false∧v=.tuple #[.int .u64 0,iV e]))∧AR w w':=by
 have hcl1:=SL (Bh s) [46];have hcl2:=S8 (Bh s) [46];have hwl:=F7 s;have hX:=AR.refl w;refine enter func87 rfl rfl rfl<|AQ [] 9 [] (Ar _) (λ_=>A3 rfl (Aw ZZ rfl rfl) (Gi _ s [45]) ?_);rintro _ w1 ⟨rfl,hE1⟩;replace hX:=hX.trans hE1;have sz1:=hE1.size;refine A3 rfl (Aw lJ rfl rfl) (Zj _ (hG.ext hX) (Bh s) [46] (by have:=F7 s;omega)) ?_;rintro _ w2 ⟨rfl,hE2⟩;replace hX:=hX.trans hE2;have sz2:=hE2.size;refine AK [.sq _] 16 [] (Ar _) (λ_=>sL 19 rfl (λh1=>?_) (λh1=>?_));replace h1:=Fv h1;refine AK [.sq _,.bk _,.sq _] 22 [] (Ar _) (λ_=>Bm (Cn rfl (Ak rfl) (Ak rfl))<|⟨.inr ⟨?_,2,dC,rfl⟩,hX⟩);rw[Iq,Hz,if_neg];simp[h1];replace h1:=FO h1;refine AK [.sq _,.bk _,.sq _] 1 [] (Ar _) (λ_=>B6 rfl rfl rfl<|A3 rfl (Aw Tt rfl rfl) (Jf _ (Lib.cut (Bh s) [46]).1 (by have:=SL (Bh s) [46];have:=F7 s;omega)) ?_);rintro _ w3 ⟨rfl,hE3⟩;replace hX:=hX.trans hE3;have sz3:=hE3.size;refine AK [.sq _,.bk _,.sq _] 3 [] (Ar _) (λ_=>sL 24 rfl (λh2=>?_) (λh2=>?_));replace h2:=Fv h2;refine AK [.sq _,.bk _,.sq _] 17 [] (Ar _) (λ_=>Bm (Cn rfl (Ak rfl) (Ak rfl))<|⟨.inr ⟨?_,2,dC,rfl⟩,hX⟩);rw[Iq,Hz,if_neg];simp[h1,h2];replace h2:=FO h2;refine AK [.sq _,.bk _,.sq _] 1 [] (Ar _) (λ_=>B6 rfl rfl rfl<|A3 rfl (Aw Tt rfl rfl) (Jf _ (Lib.cut (Bh s) [46]).2.1 (by have:=S8 (Bh s) [46];have:=F7 s;omega)) ?_);rintro _ w4 ⟨rfl,hE4⟩;replace hX:=hX.trans hE4;have sz4:=hE4.size;refine AK [.sq _,.bk _,.sq _] 5 [] (Ar _) (λ_=>sP 16 rfl (λh3=>?_) (λh3=>?_));replace h3:=Fv h3;refine AQ [.bk _,.sq _] 10 [] (Ar _) (λ_=>Bm (Cn rfl (Ak rfl) (Ak rfl))<|⟨.inr ⟨?_,2,dC,rfl⟩,hX⟩);rw[Iq,Hz,if_neg];simp[h1,h2,h3];replace h3:=FO h3;refine AQ [.bk _,.sq _] 12 [] (Ar _) (aI ⟨oM,oM⟩<|λ_=>sP 29 rfl (λh4=>?_) (λh4=>?_));refine AQ [.bk _,.sq _] 10 [] (Ar _) (λ_=>Bm (Cn rfl (Ak rfl) (Ak rfl))<|⟨.inr ⟨?_,4,dC,rfl⟩,hX⟩);rw[Iq,Hz,if_neg];have h9:=h4;simp at h9;simp[h1,h2,h3] <;> omega
 refine AQ [.bk _,.sq _] 5 [] (Ar _) (λ_=>?_)
 have hform:Hz s=some ((Lib.cut (Bh s) [46]).1,(Lib.cut (Bh s) [46]).2.1):=by
  unfold Hz;rw[if_pos];have h9:=h4;simp at h9;simp[h1,h2,h3] <;> omega
 refine AQ [.sq _] 2 [] (Ar _) (λ_=>A3 rfl (Aw nJ rfl rfl) (hPF _ s _ _ (hG.ext hX) hlen hform) ?_);rintro _ w5 ⟨rfl,hE5⟩;replace hX:=hX.trans hE5;have sz5:=hE5.size;refine AK [.sq _] 11 [] (Ar _) (λ_=>Ab rfl (H9 Ga rfl)<|AK [.sq _,.sq _] 8 [] (Ar _) (λ_=>A3 rfl (Aw kC rfl rfl) (dI _ _) ?_));rintro _ w6 ⟨rfl,hE6⟩;replace hX:=hX.trans hE6;have sz6:=hE6.size;exact AK [.sq _] 5 [] (Ar _) (λ_=>Bm (Cn rfl (Ak rfl) (Ak rfl))<|⟨.inl ⟨_,by rw[Iq,hform],rfl⟩,hX⟩)
theorem T4(w:World)(x:Nat) :
  B3 prog 88 #[.int .u64 (x:Int)] w λv w'=>v=S (MG x)∧AR w w':=by
 have hX:=AR.refl w;refine enter func88 rfl rfl rfl<|AQ [] 17 [] (Ar _) (λ_=>?_);refine DO (λk σ ds w'=>∃(j:Nat)(acc:lU)(ra:Option Addr)(rc:Nat),k=j∧ds=[]∧σ=(E3 0 (.int .u64 (x:Int)) 3 (.slice ra acc.length rc) 4 (iV (8*(j:Int)-8)))∧j≤8∧MG x=acc++Pd x j∧acc.length+j=8∧Ci w' 5 1 ra rc acc.length (bC acc)∧(∀y,rb ra=some y→w.heap.size≤y)∧AR w w') 8 (E3 0 (.int .u64 (x:Int)) 3 (.slice none 0 0) 4 (iV (8*((8:Nat):Int)-8))) lE ⟨8,[],none,0,rfl,rfl,rfl,Nat.le_refl _,rfl,rfl,Gy _ _ _,(λy hy=>by cases hy),hX⟩ ?_;rintro j _ _ wl ⟨_,acc,ra,rc,rfl,rfl,rfl,hj,hm,hal,hrow,hlow,hX⟩;have szl:=hX.size;have hlowl:∀y,rb ra=some y→y<wl.heap.size:=λy hy=>hrow.lt hy;refine AQ [] 7 [] (Ar _) (λ_=>sP 6 rfl (λh1=>?_) (λh1=>?_));refine AQ [.sq _] 9 [] (Ar _) (λ_=>?_);obtain⟨j,rfl⟩:∃j1,j=j1+1:=⟨j-1,by have:=of_decide_eq_true h1;omega⟩;refine Ab rfl (Vy ((x / 2 ^ (8*j):Nat):Int) rfl rfl oM (by rw[show (8*((j+1:Nat):Int)-8).toNat=8*j by omega,show min (8*j) IntKind.u64.bits=8*j by simp[IntKind.bits];omega];exact Ry _ _))<|Ab rfl (D1 (m:=((UInt8.ofNat (x / 2 ^ (8*j))).toNat:Int)) rfl dE (kX _))<|Cc rfl rfl Sb xM rfl rfl rfl rfl rfl λb1 w1 hb1 hE1 hs1 hz1=>?_;replace hrow:=hrow.ext hE1;replace hX:=hX.trans hE1;refine Ba rfl Y6 rfl rfl rfl rfl hrow hb1 rfl rfl oM oM λra2 rc2 w2 hr2 hG=>?_;have hlow2:∀y,rb ra2=some y→w.heap.size≤y:=BU hG hlow oM;replace hX:=hX.grow hG hlow;refine AK [.bk _,.sq _] 9 [] (Ar _) (aI ⟨oM,oM⟩<|λ_=>?_);have hl2:acc.length+1=(acc++[UInt8.ofNat (x / 2 ^ (8*j))]).length:=by simp
 refine Hj j (E3 0 (.int .u64 (x:Int)) 3 (.slice ra2 (acc++[UInt8.ofNat (x / 2 ^ (8*j))]).length rc2) 4 (iV (8*(j:Int)-8))) oM (yZ rfl (hl2▸rfl) (congrArg (λz:Int=>some (Value.int .i64 z)) (show (8*((j+1:Nat):Int)-8)-8=8*(j:Int)-8 by omega))) ⟨j,acc++[UInt8.ofNat (x / 2 ^ (8*j))],ra2,rc2,rfl,rfl,rfl,oM,by rw[hm];simp[Pd],by rw[← hl2];omega,by rw[← hl2,bC_app];exact hr2,hlow2,hX⟩;refine AQ [.sq _] 3 [] (Ar _) (λ_=>N1<|JM [.bk _,.sq _] 5 [] (Ar _) (λ_=>Ab rfl (bR rfl Tg hrow)<|AK [.sq _] 4 [] (Ar _) (λ_=>Bm (AB rfl (Ak rfl)) ?_)));have hj0:j=0:=by have:=of_decide_eq_false h1;omega
 subst hj0;exact⟨by rw[hm];simp[Pd],hX⟩
theorem EK(hPF:uW)(w:World)(hG:Gl w)(s:lU)(hlen:s.length≤100000)(hne:s≠[])(at1:Ps) :
  BD prog 62 #[S s,.agg #[iV at1.1,iV at1.2]] w (λv w'=>∃k nm tx,GG s=some (k,nm,tx)∧v=.agg #[iV k,iV at1.1,iV at1.2,iV nm,S tx]∧AR w w') (λc w'=>GG s=none∧c=QS 73 at1∧AR w w'):=by
 have hne1:(1:Int)≤s.length:=by
  cases s with
  |nil=>exact absurd rfl hne
  |cons a r=>simp only[List.length_cons];omega
 have hX:=AR.refl w;refine Ig func62 rfl rfl rfl<|AQ [] 2 [] (Ar _) (λ_=>DU rfl rfl rfl λb1 w1 hb1 hE1 hs1 hz1=>?_);replace hX:=hX.trans hE1;refine CH rfl FW λb2 w2 hb2 hE2 hs2 hz2=>?_;replace hb1:=hb1.ext hE2;replace hX:=hX.trans hE2;refine AK [.sq _] 6 [] (Ar _) (λ_=>A3 rfl (Aw tF rfl rfl) (Xl _ (hG.ext hX) s hlen) ?_);rintro _ w3 ⟨(⟨n,hr,rfl⟩|⟨hr,er,her,rfl⟩),hE3⟩;replace hb1:=hb1.ext hE3;replace hb2:=hb2.ext hE3;replace hX:=hX.trans hE3;have sz1:=hE3.size;refine AK [.sq _,.sq _] 19 [0,0] (kB hb1 (Ar _)) (y2<|λ_=>A1 rfl rfl rfl Hg rfl hb2 rfl rfl λw4 hb3 hC1=>?_);replace hb1:=hb1.chg hC1 oM;replace hX:=hX.chg hC1 oM;have sz2:=hC1.size;exact AK [.sq _,.sq _] 4 [] (Ar _) (λ_=>Bm (AB rfl (Ae rfl Hg hb3 rfl))<|⟨2,n,[],by rw[GG,hr],rfl,hX⟩);replace hb1:=hb1.ext hE3;replace hb2:=hb2.ext hE3;replace hX:=hX.trans hE3;have sz3:=hE3.size;refine AK [.sq _,.sq _] 13 [] (Ar _) (λ_=>kP 16 false rfl her<|AQ [.sq _] 7 [] (Ar _) (λ_=>A3 rfl (Aw uR rfl rfl) (NP hPF _ (hG.ext hX) s hlen) ?_));rintro _ w5 ⟨(⟨x,hf,rfl⟩|⟨hf,ef,hef,rfl⟩),hE4⟩;replace hb1:=hb1.ext hE4;replace hb2:=hb2.ext hE4;replace hX:=hX.trans hE4;have sz4:=hE4.size;refine AK [.sq _,.sq _] 15 [] (Ar _) (λ_=>?_);have hr1:=hb1;refine DR mixed (A4 w5 [b1]) [(true,0),(true,1),(false,2),(true,3),(false,4)] kR kR rfl rfl λw6 hE5 hz3=>?_;have hKp:A4 w5 [b1] w6:=A4.cons hr1 hE5 (A4.nil _ _);refine⟨hKp,?_⟩;replace hb1:=hb1.ext hE5;replace hb2:=hb2.ext hE5;replace hX:=hX.trans hE5;refine A0 rfl (λ_ hS=>Db rfl I1 (hr1.keep hS (.head _)) rfl)<|A0 rfl (λ_ hS=>Ay rfl)<|EA<|A3 rfl (Aw rO rfl rfl) (T4 _ x) ?_;rintro _ w7 ⟨rfl,hE6⟩;replace hb1:=hb1.ext hE6;replace hb2:=hb2.ext hE6;replace hX:=hX.trans hE6;replace hKp:=hKp.ext hE6;have sz5:=hE6.size;refine Ac (GP hKp<|A0 rfl (λ_ hS=>D8 rfl YL FW rfl)<|EA<|A1 rfl rfl rfl Hg rfl hb2 rfl rfl λw8 hb4 hC2=>?_);replace hb1:=hb1.chg hC2 oM;replace hX:=hX.chg hC2 oM;replace hKp:=hKp.chg hC2 nM;have sz6:=hC2.size;exact Ac (GP hKp<|DT<|JM [.sq _,.sq _] 3 [] (Ar _) (λ_=>Bm (AB rfl (Ae rfl Hg hb4 rfl))<|⟨3,0,MG x,by rw[GG,hr];simp only[hf],rfl,hX⟩));replace hb1:=hb1.ext hE4;replace hb2:=hb2.ext hE4;replace hX:=hX.trans hE4;have sz7:=hE4.size;refine AK [.sq _,.sq _] 13 [] (Ar _) (λ_=>kP 26 false rfl hef<|AQ [.sq _] 6 [] (Ar _) (λ_=>A3 rfl (Aw ZZ rfl rfl) (Gi _ s [45]) ?_));rintro _ w9 ⟨rfl,hE7⟩;replace hb1:=hb1.ext hE7;replace hb2:=hb2.ext hE7;replace hX:=hX.trans hE7;have sz8:=hE7.size;refine AK [.sq _] 11 [] (Ar _) (λ_=>sL 37 rfl (λh1=>?_) (λh1=>?_));exact AK [.sq _,.bk _,.sq _] 17 [0,0] (kB hb1 (Ar _)) (y2<|λ_=>Ab rfl (BR rfl IW)<|Cm (B8 rfl) (aI rfl<|⟨by rw[C5 hr hf,h1];rfl,rfl,hX⟩));refine AK [.sq _,.bk _,.sq _] 3 [] (Ar _) (λ_=>sL 40 rfl (λh2=>?_) (λh2=>?_));refine AK [.sq _,.bk _,.sq _] 1 [] (Ar _) (λ_=>B6 rfl rfl rfl<|A3 rfl (Aw HC rfl rfl) (CF _ (Bh s) (by have:=F7 s;omega) FX dC dC) ?_);rintro _ w10 ⟨rfl,hE8⟩;replace hb1:=hb1.ext hE8;replace hb2:=hb2.ext hE8;replace hX:=hX.trans hE8
 have sz9:=hE8.size;refine AK [.sq _,.bk _,.sq _] 5 [] (Ar _) (λ_=>sP 33 rfl (λh3=>?_) (λh3=>?_));refine AQ [.bk _,.sq _] 7 [0,0] (kB hb1 (Ar _)) (y2<|λ_=>Ab rfl (BR rfl IW)<|Cm (B8 rfl) (aI rfl ?_));have hw9:(!(Bh s==[]))=true:=h2;exact⟨by rw[C5 hr hf,h1,hw9,h3];rfl,rfl,hX⟩;refine AQ [.bk _,.sq _] 4 [] (Ar _) (λ_=>Ab rfl (HU rfl rfl Jo ⟨dC,hne1⟩)<|A3 rfl (Aw HC rfl rfl) (CF _ (s.take 1) (by simp only[List.length_take];omega) ES dC dC) ?_);rintro _ w11 ⟨rfl,hE9⟩;replace hb1:=hb1.ext hE9;replace hb2:=hb2.ext hE9;replace hX:=hX.trans hE9;have sz10:=hE9.size;refine Ab rfl (Ay rfl)<|sL 49 rfl (λh4=>?_) (λh4=>?_);refine AK [.sq _,.bk _,.sq _] 1 [] (Ar _) (λ_=>B6 rfl rfl rfl<|A3 rfl (Aw HC rfl rfl) (CF _ (s) oM (ES++Ek++FX) dC dC) ?_);rintro _ w12 ⟨rfl,hE10⟩;replace hb1:=hb1.ext hE10;replace hb2:=hb2.ext hE10;replace hX:=hX.trans hE10;have sz11:=hE10.size;refine AK [.sq _,.bk _,.sq _] 4 [] (Ar _) (λ_=>sP 45 rfl (λh5=>?_) (λh5=>?_));refine AQ [.bk _,.sq _] 6 [0,0] (kB hb1 (Ar _)) (y2<|λ_=>A1 rfl rfl rfl Hg rfl hb2 rfl rfl λw13 hb5 hC3=>?_);replace hb1:=hb1.chg hC3 oM;replace hX:=hX.chg hC3 oM;have sz12:=hC3.size;refine AK [.sq _,.bk _,.sq _] 5 [] (Ar _) (λ_=>Bm (AB rfl (Ae rfl Hg hb5 rfl)) ?_);have hw9:(!(Bh s==[]))=true:=h2;exact⟨6,0,s,by rw[C5 hr hf,h1,hw9,h3,h4,h5];rfl,rfl,hX⟩;refine AQ [.bk _,.sq _] 4 [] (Ar _) (λ_=>Ab rfl (HU rfl rfl Jo ⟨dC,hne1⟩)<|A3 rfl (Aw HC rfl rfl) (CF _ (s.take 1) (by simp only[List.length_take];omega) (Ek++Ge) dC dC) ?_);rintro _ w14 ⟨rfl,hE11⟩;replace hb1:=hb1.ext hE11;replace hb2:=hb2.ext hE11;replace hX:=hX.trans hE11;have sz13:=hE11.size;refine Ab rfl (Ay rfl)<|sL 60 rfl (λh6=>?_) (λh6=>?_);refine AK [.sq _,.bk _,.sq _] 1 [] (Ar _) (λ_=>B6 rfl rfl rfl<|A3 rfl (Aw HC rfl rfl) (CF _ (s) oM (ES++Ek++FX++Ge) dC dC) ?_);rintro _ w15 ⟨rfl,hE12⟩;replace hb1:=hb1.ext hE12;replace hb2:=hb2.ext hE12;replace hX:=hX.trans hE12;have sz14:=hE12.size;refine AK [.sq _,.bk _,.sq _] 4 [] (Ar _) (λ_=>sP 56 rfl (λh7=>?_) (λh7=>?_));refine AQ [.bk _,.sq _] 6 [0,0] (kB hb1 (Ar _)) (y2<|λ_=>A1 rfl rfl rfl Hg rfl hb2 rfl rfl λw16 hb6 hC4=>?_);replace hb1:=hb1.chg hC4 oM;replace hX:=hX.chg hC4 oM;have sz15:=hC4.size;refine AK [.sq _,.bk _,.sq _] 5 [] (Ar _) (λ_=>Bm (AB rfl (Ae rfl Hg hb6 rfl)) ?_);have hw9:(!(Bh s==[]))=true:=h2;exact⟨5,0,s,by rw[C5 hr hf,h1,hw9,h3,h4,h5,h6,h7];rfl,rfl,hX⟩;refine AQ [.bk _,.sq _] 7 [0,0] (kB hb1 (Ar _)) (y2<|λ_=>Ab rfl (BR rfl IW)<|Cm (B8 rfl) (aI rfl ?_));have hw9:(!(Bh s==[]))=true:=h2;exact⟨by rw[C5 hr hf,h1,hw9,h3,h4,h5,h6,h7];rfl,rfl,hX⟩;refine AK [.sq _,.bk _,.sq _] 13 [0,0] (kB hb1 (Ar _)) (y2<|λ_=>Ab rfl (BR rfl IW)<|Cm (B8 rfl) (aI rfl ?_));have hw9:(!(Bh s==[]))=true:=h2;exact⟨by rw[C5 hr hf,h1,hw9,h3,h4,h5,h6];rfl,rfl,hX⟩;refine AK [.sq _,.bk _,.sq _] 10 [] (Ar _) (λ_=>Ab rfl (HU rfl rfl Jo ⟨dC,hne1⟩)<|A3 rfl (Aw HC rfl rfl) (CF _ (s.take 1) (by simp only[List.length_take];omega) (Ek++Ge) dC dC) ?_)
 rintro _ w17 ⟨rfl,hE13⟩;replace hb1:=hb1.ext hE13;replace hb2:=hb2.ext hE13;replace hX:=hX.trans hE13;have sz16:=hE13.size;refine Ab rfl (Ay rfl)<|sL 60 rfl (λh8=>?_) (λh8=>?_);refine AK [.sq _,.bk _,.sq _] 1 [] (Ar _) (λ_=>B6 rfl rfl rfl<|A3 rfl (Aw HC rfl rfl) (CF _ (s) oM (ES++Ek++FX++Ge) dC dC) ?_);rintro _ w18 ⟨rfl,hE14⟩;replace hb1:=hb1.ext hE14;replace hb2:=hb2.ext hE14;replace hX:=hX.trans hE14;have sz17:=hE14.size;refine AK [.sq _,.bk _,.sq _] 4 [] (Ar _) (λ_=>sP 56 rfl (λh9=>?_) (λh9=>?_));refine AQ [.bk _,.sq _] 6 [0,0] (kB hb1 (Ar _)) (y2<|λ_=>A1 rfl rfl rfl Hg rfl hb2 rfl rfl λw19 hb7 hC5=>?_);replace hb1:=hb1.chg hC5 oM;replace hX:=hX.chg hC5 oM;have sz18:=hC5.size;refine AK [.sq _,.bk _,.sq _] 5 [] (Ar _) (λ_=>Bm (AB rfl (Ae rfl Hg hb7 rfl)) ?_);have hw9:(!(Bh s==[]))=true:=h2;exact⟨5,0,s,by rw[C5 hr hf,h1,hw9,h3,h4,h8,h9];rfl,rfl,hX⟩;refine AQ [.bk _,.sq _] 7 [0,0] (kB hb1 (Ar _)) (y2<|λ_=>Ab rfl (BR rfl IW)<|Cm (B8 rfl) (aI rfl ?_));have hw9:(!(Bh s==[]))=true:=h2;exact⟨by rw[C5 hr hf,h1,hw9,h3,h4,h8,h9];rfl,rfl,hX⟩;refine AK [.sq _,.bk _,.sq _] 13 [0,0] (kB hb1 (Ar _)) (y2<|λ_=>Ab rfl (BR rfl IW)<|Cm (B8 rfl) (aI rfl ?_));have hw9:(!(Bh s==[]))=true:=h2;exact⟨by rw[C5 hr hf,h1,hw9,h3,h4,h8];rfl,rfl,hX⟩;refine AK [.sq _,.bk _,.sq _] 11 [] (Ar _) (λ_=>Ab rfl (HU rfl rfl Jo ⟨dC,hne1⟩)<|A3 rfl (Aw HC rfl rfl) (CF _ (s.take 1) (by simp only[List.length_take];omega) ES dC dC) ?_);rintro _ w20 ⟨rfl,hE15⟩;replace hb1:=hb1.ext hE15;replace hb2:=hb2.ext hE15;replace hX:=hX.trans hE15;have sz19:=hE15.size;refine Ab rfl (Ay rfl)<|sL 49 rfl (λh10=>?_) (λh10=>?_);refine AK [.sq _,.bk _,.sq _] 1 [] (Ar _) (λ_=>B6 rfl rfl rfl<|A3 rfl (Aw HC rfl rfl) (CF _ (s) oM (ES++Ek++FX) dC dC) ?_);rintro _ w21 ⟨rfl,hE16⟩;replace hb1:=hb1.ext hE16;replace hb2:=hb2.ext hE16;replace hX:=hX.trans hE16;have sz20:=hE16.size;refine AK [.sq _,.bk _,.sq _] 4 [] (Ar _) (λ_=>sP 45 rfl (λh11=>?_) (λh11=>?_));refine AQ [.bk _,.sq _] 6 [0,0] (kB hb1 (Ar _)) (y2<|λ_=>A1 rfl rfl rfl Hg rfl hb2 rfl rfl λw22 hb8 hC6=>?_);replace hb1:=hb1.chg hC6 oM;replace hX:=hX.chg hC6 oM;have sz21:=hC6.size;refine AK [.sq _,.bk _,.sq _] 5 [] (Ar _) (λ_=>Bm (AB rfl (Ae rfl Hg hb8 rfl)) ?_);have hw9:(!(Bh s==[]))=false:=h2;exact⟨6,0,s,by rw[C5 hr hf,h1,hw9,h10,h11];rfl,rfl,hX⟩;refine AQ [.bk _,.sq _] 4 [] (Ar _) (λ_=>Ab rfl (HU rfl rfl Jo ⟨dC,hne1⟩)<|A3 rfl (Aw HC rfl rfl) (CF _ (s.take 1) (by simp only[List.length_take];omega) (Ek++Ge) dC dC) ?_);rintro _ w23 ⟨rfl,hE17⟩;replace hb1:=hb1.ext hE17;replace hb2:=hb2.ext hE17;replace hX:=hX.trans hE17;have sz22:=hE17.size;refine Ab rfl (Ay rfl)<|sL 60 rfl (λh12=>?_) (λh12=>?_);refine AK [.sq _,.bk _,.sq _] 1 [] (Ar _) (λ_=>B6 rfl rfl rfl<|A3 rfl (Aw HC rfl rfl) (CF _ (s) oM (ES++Ek++FX++Ge) dC dC) ?_);rintro _ w24 ⟨rfl,hE18⟩;replace hb1:=hb1.ext hE18;replace hb2:=hb2.ext hE18;replace hX:=hX.trans hE18;have sz23:=hE18.size
 refine AK [.sq _,.bk _,.sq _] 4 [] (Ar _) (λ_=>sP 56 rfl (λh13=>?_) (λh13=>?_));refine AQ [.bk _,.sq _] 6 [0,0] (kB hb1 (Ar _)) (y2<|λ_=>A1 rfl rfl rfl Hg rfl hb2 rfl rfl λw25 hb9 hC7=>?_);replace hb1:=hb1.chg hC7 oM;replace hX:=hX.chg hC7 oM;have sz24:=hC7.size;refine AK [.sq _,.bk _,.sq _] 5 [] (Ar _) (λ_=>Bm (AB rfl (Ae rfl Hg hb9 rfl)) ?_);have hw9:(!(Bh s==[]))=false:=h2;exact⟨5,0,s,by rw[C5 hr hf,h1,hw9,h10,h11,h12,h13];rfl,rfl,hX⟩;refine AQ [.bk _,.sq _] 7 [0,0] (kB hb1 (Ar _)) (y2<|λ_=>Ab rfl (BR rfl IW)<|Cm (B8 rfl) (aI rfl ?_));have hw9:(!(Bh s==[]))=false:=h2;exact⟨by rw[C5 hr hf,h1,hw9,h10,h11,h12,h13];rfl,rfl,hX⟩;refine AK [.sq _,.bk _,.sq _] 13 [0,0] (kB hb1 (Ar _)) (y2<|λ_=>Ab rfl (BR rfl IW)<|Cm (B8 rfl) (aI rfl ?_));have hw9:(!(Bh s==[]))=false:=h2;exact⟨by rw[C5 hr hf,h1,hw9,h10,h11,h12];rfl,rfl,hX⟩;refine AK [.sq _,.bk _,.sq _] 10 [] (Ar _) (λ_=>Ab rfl (HU rfl rfl Jo ⟨dC,hne1⟩)<|A3 rfl (Aw HC rfl rfl) (CF _ (s.take 1) (by simp only[List.length_take];omega) (Ek++Ge) dC dC) ?_);rintro _ w26 ⟨rfl,hE19⟩;replace hb1:=hb1.ext hE19;replace hb2:=hb2.ext hE19;replace hX:=hX.trans hE19;have sz25:=hE19.size;refine Ab rfl (Ay rfl)<|sL 60 rfl (λh14=>?_) (λh14=>?_);refine AK [.sq _,.bk _,.sq _] 1 [] (Ar _) (λ_=>B6 rfl rfl rfl<|A3 rfl (Aw HC rfl rfl) (CF _ (s) oM (ES++Ek++FX++Ge) dC dC) ?_);rintro _ w27 ⟨rfl,hE20⟩;replace hb1:=hb1.ext hE20;replace hb2:=hb2.ext hE20;replace hX:=hX.trans hE20;have sz26:=hE20.size;refine AK [.sq _,.bk _,.sq _] 4 [] (Ar _) (λ_=>sP 56 rfl (λh15=>?_) (λh15=>?_));refine AQ [.bk _,.sq _] 6 [0,0] (kB hb1 (Ar _)) (y2<|λ_=>A1 rfl rfl rfl Hg rfl hb2 rfl rfl λw28 hb10 hC8=>?_);replace hb1:=hb1.chg hC8 oM;replace hX:=hX.chg hC8 oM;have sz27:=hC8.size;refine AK [.sq _,.bk _,.sq _] 5 [] (Ar _) (λ_=>Bm (AB rfl (Ae rfl Hg hb10 rfl)) ?_);have hw9:(!(Bh s==[]))=false:=h2;exact⟨5,0,s,by rw[C5 hr hf,h1,hw9,h10,h14,h15];rfl,rfl,hX⟩;refine AQ [.bk _,.sq _] 7 [0,0] (kB hb1 (Ar _)) (y2<|λ_=>Ab rfl (BR rfl IW)<|Cm (B8 rfl) (aI rfl ?_));have hw9:(!(Bh s==[]))=false:=h2;exact⟨by rw[C5 hr hf,h1,hw9,h10,h14,h15];rfl,rfl,hX⟩;refine AK [.sq _,.bk _,.sq _] 13 [0,0] (kB hb1 (Ar _)) (y2<|λ_=>Ab rfl (BR rfl IW)<|Cm (B8 rfl) (aI rfl ?_));have hw9:(!(Bh s==[]))=false:=h2;exact⟨by rw[C5 hr hf,h1,hw9,h10,h14];rfl,rfl,hX⟩
theorem W7(hPF:uW)(w0 w:World)(hG:Gl w0)(hX0:AR w0 w)(b:Nat)(hb0:w0.heap.size≤b)(src:lU)(i:Nat)(p:Ps)(toks:List AA)(ta:Option Addr)(tc:Nat)(hsc:AM w b [S src,iV ((i:Nat):Int),iV p.1,iV p.2,(.slice ta toks.length tc)] 76)(hrow:Ci w 78 5 ta tc toks.length (EV toks))(hlow:∀x,rb ta=some x→w0.heap.size≤x∧x≠b)(c:UInt8)(hc:src[i]?=some c)(hp:Pk i p)(hlen:src.length≤65536)(htl:toks.length≤i) :
  BD prog 28 #[pB b] w (λv w'=>∃(ot:List AA)(i1:Nat)(p1:Ps)(ta1:Option Addr)(tc1:Nat),C1 (src.length+1) p (src.drop i)=.ok (ot,src.drop i1,p1)∧v=.tuple #[]∧AM w' b [S src,iV ((i1:Nat):Int),iV p1.1,iV p1.2,(.slice ta1 (toks++ot).length tc1)] 76∧Ci w' 78 5 ta1 tc1 (toks++ot).length (EV (toks++ot))∧(∀x,rb ta1=some x→w0.heap.size≤x∧x≠b)∧AR w0 w'∧i<i1∧i1≤src.length∧Pk i1 p1) (λcc w'=>∃e,C1 (src.length+1) p (src.drop i)=.error e∧cc=QS 73 e∧AR w0 w'):=by
 have hbl:=hsc.lt;have hilt:=Cj hc;have hlowl:∀x,rb ta=some x→x<w.heap.size:=λx hx=>hrow.lt hx;have hX:=hX0;refine Ig func28 rfl rfl rfl<|BX ?_;have hr1:=hsc;refine DR mixed (A4 w [b]) [(true,0),(true,1),(true,2),(true,3),(true,4),(true,5),(true,6),(true,7),(false,8),(false,9),(true,10)] kR kR rfl rfl λw1 hE1 hz1=>?_;have hKp:A4 w [b] w1:=A4.cons hr1 hE1 (A4.nil _ _);refine⟨hKp,?_⟩;replace hsc:=hsc.ext hE1;replace hrow:=hrow.ext hE1;replace hX:=hX.trans hE1;refine A0 rfl (λ_ hS=>Ay rfl)<|A0 rfl (λ_ hS=>Bw rfl)<|A0 rfl (λ_ hS=>B9 rfl U9)<|A0 rfl (λ_ hS=>Db rfl I1 (hr1.keep hS (.head _)) rfl)<|A0 rfl (λ_ hS=>Ay rfl)<|A0 rfl (λ_ hS=>Bw rfl)<|A0 rfl (λ_ hS=>B9 rfl GZ)<|A0 rfl (λ_ hS=>Al rfl UD (hr1.keep hS (.head _)) rfl)<|EA<|CH rfl TF λb1 w2 hb1 hE2 hs1 hz2=>?_;replace hsc:=hsc.ext hE2;replace hrow:=hrow.ext hE2;replace hX:=hX.trans hE2;replace hKp:=hKp.ext hE2;refine Ac (GP hKp<|EA<|A1 rfl rfl rfl I1 rfl hb1 rfl rfl λw3 hb2 hC1=>?_);replace hsc:=hsc.chg hC1 oM;replace hrow:=Ci.chg hrow hC1 (λe=>by have:=hlow _ e;have:=hlowl _ e;omega);replace hX:=hX.chg hC1 oM;replace hKp:=hKp.chg hC1 nM;have sz1:=hC1.size;refine Ac (GP hKp<|A0 rfl (λ_ hS=>CX rfl)<|DT<|JM [.sq _] 4 [] (Ar _) (λ_=>A3 rfl (Aw Oc rfl rfl) (F9 _ b src i p (.slice ta toks.length tc) hsc c hc oM hp) ?_));rintro _ w4 ⟨rfl,hb3,hE3⟩;replace hrow:=Ci.exb hrow hE3 (λe=>by have:=hlow _ e;omega);replace hb2:=hb2.exb hE3 oM;replace hX:=hE3.ext hX hb0;have sz2:=hE3.size;have hp1:=Pk.adv (c:=c) hp;refine AK [.sq _] 7 [] (Ar _) (λ_=>A3 rfl (Aw Wg rfl rfl) (Fa _ Gz _) ?_);rintro _ w5 ⟨rfl,hE4⟩;replace hrow:=hrow.ext hE4;replace hb2:=hb2.ext hE4;replace hb3:=hb3.ext hE4;replace hX:=hX.trans hE4;have sz3:=hE4.size;refine AK [.sq _,.bk _] 4 [] (Ar _) (λ_=>sP 53 rfl (λh1=>?_) (λh1=>?_));exact AQ [.bk _] 3 [] (Ar _) (λ_=>Gh (DE rfl)<|⟨[],i+1,adv c p,ta,tc,RQ hc h1,rfl,by rw[List.append_nil];exact hb3,by rw[List.append_nil];exact hrow,hlow,hX,oM,by have:=Cj hc;omega,hp1⟩);refine AQ [.bk _] 8 [] (Ar _) (λ_=>sP 57 rfl (λh2=>?_) (λh2=>?_));refine AQ [.bk _] 2 [] (Ar _) (λ_=>?_);refine DO (λk σ ds w'=>∃(j:Nat)(q:Ps),k=src.length-j∧ds=[]∧σ=(AF SW.e0 0 (pB b))∧i<j∧j≤src.length∧Pk j q∧GK (adv c p) (src.drop (i+1))=GK q (src.drop j)∧AM w' b [S src,iV ((j:Nat):Int),iV q.1,iV q.2,(.slice ta toks.length tc)] 76∧AM w' b1 [iV p.1,iV p.2] 25 ∧ Ci w' 78 5 ta tc toks.length (EV toks)∧AR w0 w') (src.length-(i+1)) (AF SW.e0 0 (pB b)) lE ⟨i+1,adv c p,rfl,rfl,rfl,oM,by have:=Cj hc;omega,hp1,rfl,hb3,hb2,hrow,hX⟩ ?_;rintro _ _ _ wl ⟨j,q,rfl,rfl,rfl,hij,hjl,hq,hm,hscl,hl2,hrow,hX⟩;have szl:=hX.size;have lt2:=hl2.lt;have lts:=hscl.lt;refine AQ [] 2 [] (Ar _) (λ_=>?_);have hr2:=hscl;have hr3:=hl2;refine DR mixed (A4 wl [b,b1]) [(true,0),(false,1),(true,2),(true,3),(true,4),(true,5),(true,6),(true,7),(true,8),(true,9),(true,10),(true,11),(true,12),(true,13)] kR kR rfl rfl λw6 hE5 hz3=>?_
 have hKp:A4 wl [b,b1] w6:=A4.cons hr2 hE5 (A4.cons hr3 hE5 (A4.nil _ _));refine⟨hKp,?_⟩;replace hscl:=hscl.ext hE5;replace hl2:=hl2.ext hE5;replace hrow:=hrow.ext hE5;replace hX:=hX.trans hE5;refine A0 rfl (λ_ hS=>Ay rfl)<|EA<|A3 rfl (Aw Sm rfl rfl) (HL _ b src j q (.slice ta toks.length tc) hscl) ?_;rintro _ w7 ⟨rfl,hE6⟩;replace hscl:=hscl.ext hE6;replace hl2:=hl2.ext hE6;replace hrow:=hrow.ext hE6;replace hX:=hX.trans hE6;replace hKp:=hKp.ext hE6;have sz4:=hE6.size;refine Ac (GP hKp<|A0 rfl (λ_ hS=>Ay rfl)<|Pm 62 rfl (λh3=>?_) (λh3=>?_));have hjlt:j<src.length:=by have:=of_decide_eq_true h3;omega
 obtain⟨c1,hc1⟩:=JO hjlt;refine C3 rfl rfl rfl h3 (λ_ hS=>Ay rfl)<|C3 rfl rfl rfl h3 (λ_ hS=>Bw rfl)<|C3 rfl rfl rfl h3 (λ_ hS=>B9 rfl Jn)<|C3 rfl rfl rfl h3 (λ_ hS=>Al rfl XL (hr2.keep hS (.head _)) rfl)<|C3 rfl rfl rfl h3 (λ_ hS=>Ay rfl)<|C3 rfl rfl rfl h3 (λ_ hS=>Bw rfl)<|C3 rfl rfl rfl h3 (λ_ hS=>B9 rfl GZ)<|C3 rfl rfl rfl h3 (λ_ hS=>Al rfl UD (hr2.keep hS (.head _)) rfl)<|C3 rfl rfl rfl h3 (λ_ hS=>Dw (c:=c1) rfl rfl Jo oM (by rw[Int.toNat_natCast];exact hc1))<|C3 rfl rfl rfl h3 (λ_ hS=>bN rfl rfl) ?_;refine A0 rfl (λ_ hS=>NC rfl h3 rfl)<|DT<|Dv<|sP 73 rfl (λh4=>?_) (λh4=>?_);refine AQ [.sq _] 6 [] (Ar _) (λ_=>A3 rfl (Aw Oc rfl rfl) (F9 _ b src j q (.slice ta toks.length tc) hscl c1 hc1 oM hq) ?_);rintro _ w8 ⟨rfl,hb4,hE7⟩;replace hl2:=hl2.exb hE7 oM;replace hrow:=Ci.exb hrow hE7 (λe=>by have:=hlow _ e;omega);replace hX:=hE7.ext hX hb0;have sz5:=hE7.size;have hp2:=Pk.adv (c:=c1) hq;refine AK [.bk _] 2 [] (Ar _) (λ_=>Hj (src.length-(j+1)) (AF SW.e0 0 (pB b)) (by have:=Cj hc1;omega) lE ⟨j+1,adv c1 q,rfl,rfl,rfl,oM,by have:=Cj hc1;omega,hp2,hm.trans (Xw hc1 h4),hb4,hl2,hrow,hX⟩);exact AQ [.sq _] 3 [] (Ar _) (λ_=>N1<|JM [.bk _,.bk _] 2 [] (Ar _) (λ_=>Gh (DE rfl)<|⟨[],j,q,ta,tc,by rw[OO hc h1 h2,hm,OP (.inr ⟨c1,hc1,h4⟩)],rfl,by rw[List.append_nil];exact hscl,by rw[List.append_nil];exact hrow,hlow,hX,hij,hjl,hq⟩));refine C2 rfl rfl rfl h3<|C2 rfl rfl rfl h3<|C2 rfl rfl rfl h3<|C2 rfl rfl rfl h3<|C2 rfl rfl rfl h3<|C2 rfl rfl rfl h3<|C2 rfl rfl rfl h3<|C2 rfl rfl rfl h3<|C2 rfl rfl rfl h3<|C2 rfl rfl rfl h3 ?_;exact A0 rfl (λ_ hS=>MP rfl h3 rfl)<|DT<|JM [.sq _,.sq _] 4 [] (Ar _) (λ_=>N1<|JM [.bk _,.bk _] 2 [] (Ar _) (λ_=>Gh (DE rfl)<|⟨[],j,q,ta,tc,by rw[OO hc h1 h2,hm,OP (.inl (by have:=of_decide_eq_false h3;omega))],rfl,by rw[List.append_nil];exact hscl,by rw[List.append_nil];exact hrow,hlow,hX,hij,hjl,hq⟩));refine AQ [.bk _] 8 [] (Ar _) (λ_=>sP 76 rfl (λh5=>?_) (λh5=>?_));refine FJ rfl rfl ?_;have hr4:=hb2;refine Ea mixed (A4 w5 [b1]) (rd [0,1,2,3,5,6] (.br 4 (.br 7 (.br 8 (.rd 9 (.rd 10 (.br 11 .fin .fin))) .fin) .fin) (.br 7 (.br 4 (.br 8 (.rd 9 (.rd 10 (.br 11 .fin .fin))) .fin) .fin) .fin))) kR kR kR λw9 hE8 hz4=>?_;have hKp:A4 w5 [b1] w9:=A4.cons hr4 hE8 (A4.nil _ _);refine⟨hKp,?_⟩;replace hrow:=hrow.ext hE8;replace hb2:=hb2.ext hE8;replace hb3:=hb3.ext hE8;replace hX:=hX.trans hE8;refine Au rfl rfl (λ_ hS=>Ay rfl)<|Au rfl rfl (λ_ hS=>Ay rfl)<|Au rfl rfl (λ_ hS=>Bw rfl)<|Au rfl rfl (λ_ hS=>B9 rfl CQ)<|Au rfl rfl (λ_ hS=>Db rfl I1 (hr4.keep hS (.head _)) rfl)<|Au rfl rfl (λ_ hS=>D8 rfl YL FW rfl)<|Am rfl ?_ ?_;refine Ab rfl (Al rfl Ds hb3 rfl)<|Ac (Ao hKp<|Am rfl ?_ Af);refine Cc rfl rfl GB FW rfl rfl rfl rfl rfl λb2 w10 hb5 hE9 hs2 hz5=>?_;replace hrow:=hrow.ext hE9;replace hb2:=hb2.ext hE9;replace hb3:=hb3.ext hE9;replace hX:=hX.trans hE9;replace hKp:=hKp.ext hE9;refine Ac (Ao hKp<|Am rfl ?_ Af);refine Ba rfl I5 rfl rfl rfl rfl hrow hb5 rfl rfl oM oM λta2 tc2 w11 hr2 hG2=>?_
 have hlow2:∀x,rb ta2=some x→w0.heap.size≤x∧x≠b:=BU hG2 hlow oM;replace hb3:=hb3.grow hG2 (λe=>by have:=hlow _ e.symm;have:=hlowl _ e.symm;omega);replace hX:=hX.grow hG2 (λx hx=>(hlow x hx).1);replace hKp:=hKp.grow hG2 (by simp only[List.mem_cons,List.not_mem_nil,or_false];intro c hc e;have:=hlow _ e.symm;have:=hlowl _ e.symm;omega);have sz6:=hG2.size;refine Ac (Ao hKp<|Au rfl rfl (λ_ hS=>Bw rfl)<|Au rfl rfl (λ_ hS=>B9 rfl CQ)<|Am rfl ?_ Af);refine A1 rfl rfl rfl Ds rfl hb3 rfl rfl λw12 hb6 hC2=>?_;replace hr2:=Ci.chg hr2 hC2 (λe=>by have:=hlow2 _ e;omega);replace hX:=hX.chg hC2 oM;replace hKp:=hKp.chg hC2 nM;have sz7:=hC2.size;exact Ac (Ao hKp<|B1<|DI<|Gh (DE rfl)<|⟨[⟨0,p.1,p.2,0,[]⟩],i+1,adv c p,ta2,tc2,RW hc h1 h2 h5,rfl,by rw[List.length_append];exact hb6,by rw[List.length_append,B5];exact hr2,hlow2,hX,oM,by first|omega|(have:=Cj hc;omega),hp1⟩);refine Am rfl ?_ ?_;refine Cc rfl rfl GB FW rfl rfl rfl rfl rfl λb3 w13 hb7 hE10 hs3 hz6=>?_;replace hrow:=hrow.ext hE10;replace hb2:=hb2.ext hE10;replace hb3:=hb3.ext hE10;replace hX:=hX.trans hE10;replace hKp:=hKp.ext hE10;refine Ac (Ao hKp<|Am rfl ?_ Af);refine Ab rfl (Al rfl Ds hb3 rfl)<|Ac (Ao hKp<|Am rfl ?_ Af);refine Ba rfl I5 rfl rfl rfl rfl hrow hb7 rfl rfl oM oM λta2 tc2 w14 hr2 hG2=>?_;have hlow2:∀x,rb ta2=some x→w0.heap.size≤x∧x≠b:=BU hG2 hlow oM;replace hb3:=hb3.grow hG2 (λe=>by have:=hlow _ e.symm;have:=hlowl _ e.symm;omega);replace hX:=hX.grow hG2 (λx hx=>(hlow x hx).1);replace hKp:=hKp.grow hG2 (by simp only[List.mem_cons,List.not_mem_nil,or_false];intro c hc e;have:=hlow _ e.symm;have:=hlowl _ e.symm;omega);have sz8:=hG2.size;refine Ac (Ao hKp<|Au rfl rfl (λ_ hS=>Bw rfl)<|Au rfl rfl (λ_ hS=>B9 rfl CQ)<|Am rfl ?_ Af);refine A1 rfl rfl rfl Ds rfl hb3 rfl rfl λw15 hb8 hC3=>?_;replace hr2:=Ci.chg hr2 hC3 (λe=>by have:=hlow2 _ e;omega);replace hX:=hX.chg hC3 oM;replace hKp:=hKp.chg hC3 nM;have sz9:=hC3.size;exact Ac (Ao hKp<|B1<|DI<|Gh (DE rfl)<|⟨[⟨0,p.1,p.2,0,[]⟩],i+1,adv c p,ta2,tc2,RW hc h1 h2 h5,rfl,by rw[List.length_append];exact hb8,by rw[List.length_append,B5];exact hr2,hlow2,hX,oM,by first|omega|(have:=Cj hc;omega),hp1⟩);exact Af;refine AQ [.bk _] 8 [] (Ar _) (λ_=>sP 90 rfl (λh6=>?_) (λh6=>?_));refine FJ rfl rfl ?_;have hr5:=hb2;refine Ea mixed (A4 w5 [b1]) (rd [0,1,2,3,5,6] (.br 4 (.br 7 (.br 8 (.rd 9 (.rd 10 (.br 11 .fin .fin))) .fin) .fin) (.br 7 (.br 4 (.br 8 (.rd 9 (.rd 10 (.br 11 .fin .fin))) .fin) .fin) .fin))) kR kR kR λw16 hE11 hz7=>?_;have hKp:A4 w5 [b1] w16:=A4.cons hr5 hE11 (A4.nil _ _);refine⟨hKp,?_⟩;replace hrow:=hrow.ext hE11;replace hb2:=hb2.ext hE11;replace hb3:=hb3.ext hE11;replace hX:=hX.trans hE11;refine Au rfl rfl (λ_ hS=>Ay rfl)<|Au rfl rfl (λ_ hS=>Ay rfl)<|Au rfl rfl (λ_ hS=>Bw rfl)<|Au rfl rfl (λ_ hS=>B9 rfl CQ)<|Au rfl rfl (λ_ hS=>Db rfl I1 (hr5.keep hS (.head _)) rfl)<|Au rfl rfl (λ_ hS=>D8 rfl YL FW rfl)<|Am rfl ?_ ?_;refine Ab rfl (Al rfl Ds hb3 rfl)<|Ac (Ao hKp<|Am rfl ?_ Af)
 refine Cc rfl rfl GB FW rfl rfl rfl rfl rfl λb4 w17 hb9 hE12 hs4 hz8=>?_;replace hrow:=hrow.ext hE12;replace hb2:=hb2.ext hE12;replace hb3:=hb3.ext hE12;replace hX:=hX.trans hE12;replace hKp:=hKp.ext hE12;refine Ac (Ao hKp<|Am rfl ?_ Af);refine Ba rfl I5 rfl rfl rfl rfl hrow hb9 rfl rfl oM oM λta2 tc2 w18 hr2 hG2=>?_;have hlow2:∀x,rb ta2=some x→w0.heap.size≤x∧x≠b:=BU hG2 hlow oM;replace hb3:=hb3.grow hG2 (λe=>by have:=hlow _ e.symm;have:=hlowl _ e.symm;omega);replace hX:=hX.grow hG2 (λx hx=>(hlow x hx).1);replace hKp:=hKp.grow hG2 (by simp only[List.mem_cons,List.not_mem_nil,or_false];intro c hc e;have:=hlow _ e.symm;have:=hlowl _ e.symm;omega);have sz10:=hG2.size;refine Ac (Ao hKp<|Au rfl rfl (λ_ hS=>Bw rfl)<|Au rfl rfl (λ_ hS=>B9 rfl CQ)<|Am rfl ?_ Af);refine A1 rfl rfl rfl Ds rfl hb3 rfl rfl λw19 hb10 hC4=>?_;replace hr2:=Ci.chg hr2 hC4 (λe=>by have:=hlow2 _ e;omega);replace hX:=hX.chg hC4 oM;replace hKp:=hKp.chg hC4 nM;have sz11:=hC4.size;exact Ac (Ao hKp<|B1<|DI<|Gh (DE rfl)<|⟨[⟨1,p.1,p.2,0,[]⟩],i+1,adv c p,ta2,tc2,Te hc h1 h2 h5 h6,rfl,by rw[List.length_append];exact hb10,by rw[List.length_append,B5];exact hr2,hlow2,hX,oM,by first|omega|(have:=Cj hc;omega),hp1⟩);refine Am rfl ?_ ?_;refine Cc rfl rfl GB FW rfl rfl rfl rfl rfl λb5 w20 hb11 hE13 hs5 hz9=>?_;replace hrow:=hrow.ext hE13;replace hb2:=hb2.ext hE13;replace hb3:=hb3.ext hE13;replace hX:=hX.trans hE13;replace hKp:=hKp.ext hE13;refine Ac (Ao hKp<|Am rfl ?_ Af);refine Ab rfl (Al rfl Ds hb3 rfl)<|Ac (Ao hKp<|Am rfl ?_ Af);refine Ba rfl I5 rfl rfl rfl rfl hrow hb11 rfl rfl oM oM λta2 tc2 w21 hr2 hG2=>?_;have hlow2:∀x,rb ta2=some x→w0.heap.size≤x∧x≠b:=BU hG2 hlow oM;replace hb3:=hb3.grow hG2 (λe=>by have:=hlow _ e.symm;have:=hlowl _ e.symm;omega);replace hX:=hX.grow hG2 (λx hx=>(hlow x hx).1);replace hKp:=hKp.grow hG2 (by simp only[List.mem_cons,List.not_mem_nil,or_false];intro c hc e;have:=hlow _ e.symm;have:=hlowl _ e.symm;omega);have sz12:=hG2.size;refine Ac (Ao hKp<|Au rfl rfl (λ_ hS=>Bw rfl)<|Au rfl rfl (λ_ hS=>B9 rfl CQ)<|Am rfl ?_ Af);refine A1 rfl rfl rfl Ds rfl hb3 rfl rfl λw22 hb12 hC5=>?_;replace hr2:=Ci.chg hr2 hC5 (λe=>by have:=hlow2 _ e;omega);replace hX:=hX.chg hC5 oM;replace hKp:=hKp.chg hC5 nM;have sz13:=hC5.size;exact Ac (Ao hKp<|B1<|DI<|Gh (DE rfl)<|⟨[⟨1,p.1,p.2,0,[]⟩],i+1,adv c p,ta2,tc2,Te hc h1 h2 h5 h6,rfl,by rw[List.length_append];exact hb12,by rw[List.length_append,B5];exact hr2,hlow2,hX,oM,by first|omega|(have:=Cj hc;omega),hp1⟩);exact Af;refine AQ [.bk _] 8 [] (Ar _) (λ_=>sP 104 rfl (λh7=>?_) (λh7=>?_));refine FJ rfl rfl ?_;have hr6:=hb2;refine Ea mixed (A4 w5 [b1]) (rd [0,1,2,3,5,6] (.br 4 (.br 7 (.br 8 (.br 9 (.rd 10 (.rd 11 (.br 12 .fin .fin))) .fin) .fin) .fin) (.br 7 (.br 4 (.br 8 (.br 9 (.rd 10 (.rd 11 (.br 12 .fin .fin))) .fin) .fin) (.br 8 (.br 4 (.br 9 (.rd 10 (.rd 11 (.br 12 .fin .fin))) .fin) .fin) .fin)) .fin))) kR kR kR λw23 hE14 hz10=>?_;have hKp:A4 w5 [b1] w23:=A4.cons hr6 hE14 (A4.nil _ _)
 refine⟨hKp,?_⟩;replace hrow:=hrow.ext hE14;replace hb2:=hb2.ext hE14;replace hb3:=hb3.ext hE14;replace hX:=hX.trans hE14;refine Au rfl rfl (λ_ hS=>Ay rfl)<|Au rfl rfl (λ_ hS=>Ay rfl)<|Au rfl rfl (λ_ hS=>Bw rfl)<|Au rfl rfl (λ_ hS=>B9 rfl CQ)<|Au rfl rfl (λ_ hS=>Ay rfl)<|Au rfl rfl (λ_ hS=>Db rfl I1 (hr6.keep hS (.head _)) rfl)<|Am rfl ?_ ?_;refine Ab rfl (Al rfl Ds hb3 rfl)<|Ac (Ao hKp<|Am rfl ?_ Af);refine Cf rfl (Aw iE rfl rfl) (SZ _ b src (i+1) (adv c p) (.slice ta toks.length tc) hb3 p (by have:=Cj hc;omega) oM hp1) ?_ (λcc wp hc1=>aI rfl (let ⟨e,he,hcc,hE⟩:=hc1;⟨e,by rw[H6 hc h1 h2 h5 h6 h7,he],hcc,hE.ext hX hb0⟩));rintro _ w24 ⟨tx,i1,p1,hstr,rfl,hb13,hE15,hi1,hi2,hp1⟩;replace hrow:=Ci.exb hrow hE15 (λe=>by have:=hlow _ e;omega);replace hb2:=hb2.exb hE15 oM;replace hX:=hE15.ext hX hb0;have sz14:=hE15.size;replace hKp:=hKp.exb hE15 nM;refine Ac (Ao hKp<|Am rfl ?_ Af);refine Cc rfl rfl GB FW rfl rfl rfl rfl rfl λb6 w25 hb14 hE16 hs6 hz11=>?_;replace hrow:=hrow.ext hE16;replace hb2:=hb2.ext hE16;replace hb13:=hb13.ext hE16;replace hX:=hX.trans hE16;replace hKp:=hKp.ext hE16;refine Ac (Ao hKp<|Am rfl ?_ Af);refine Ba rfl I5 rfl rfl rfl rfl hrow hb14 rfl rfl oM oM λta2 tc2 w26 hr2 hG2=>?_;have hlow2:∀x,rb ta2=some x→w0.heap.size≤x∧x≠b:=BU hG2 hlow oM;replace hb13:=hb13.grow hG2 (λe=>by have:=hlow _ e.symm;have:=hlowl _ e.symm;omega);replace hX:=hX.grow hG2 (λx hx=>(hlow x hx).1);replace hKp:=hKp.grow hG2 (by simp only[List.mem_cons,List.not_mem_nil,or_false];intro c hc e;have:=hlow _ e.symm;have:=hlowl _ e.symm;omega);have sz15:=hG2.size;refine Ac (Ao hKp<|Au rfl rfl (λ_ hS=>Bw rfl)<|Au rfl rfl (λ_ hS=>B9 rfl CQ)<|Am rfl ?_ Af);refine A1 rfl rfl rfl Ds rfl hb13 rfl rfl λw27 hb15 hC6=>?_;replace hr2:=Ci.chg hr2 hC6 (λe=>by have:=hlow2 _ e;omega);replace hX:=hX.chg hC6 oM;replace hKp:=hKp.chg hC6 nM;have sz16:=hC6.size;exact Ac (Ao hKp<|B1<|DI<|Gh (DE rfl)<|⟨[⟨4,p.1,p.2,0,tx⟩],i1,p1,ta2,tc2,by rw[H6 hc h1 h2 h5 h6 h7,hstr],rfl,by rw[List.length_append];exact hb15,by rw[List.length_append,B5];exact hr2,hlow2,hX,oM,by first|omega|(have:=Cj hc;omega),hp1⟩);refine Am rfl ?_ ?_;refine Cf rfl (Aw iE rfl rfl) (SZ _ b src (i+1) (adv c p) (.slice ta toks.length tc) hb3 p (by have:=Cj hc;omega) oM hp1) ?_ (λcc wp hc1=>aI rfl (let ⟨e,he,hcc,hE⟩:=hc1;⟨e,by rw[H6 hc h1 h2 h5 h6 h7,he],hcc,hE.ext hX hb0⟩));rintro _ w28 ⟨tx,i1,p1,hstr,rfl,hb16,hE17,hi1,hi2,hp1⟩;replace hrow:=Ci.exb hrow hE17 (λe=>by have:=hlow _ e;omega);replace hb2:=hb2.exb hE17 oM;replace hX:=hE17.ext hX hb0;have sz17:=hE17.size;replace hKp:=hKp.exb hE17 nM;refine Ac (Ao hKp<|Am rfl ?_ ?_);refine Ab rfl (Al rfl Ds hb16 rfl)<|Ac (Ao hKp<|Am rfl ?_ Af);refine Cc rfl rfl GB FW rfl rfl rfl rfl rfl λb7 w29 hb17 hE18 hs7 hz12=>?_;replace hrow:=hrow.ext hE18;replace hb2:=hb2.ext hE18;replace hb16:=hb16.ext hE18;replace hX:=hX.trans hE18;replace hKp:=hKp.ext hE18;refine Ac (Ao hKp<|Am rfl ?_ Af)
 refine Ba rfl I5 rfl rfl rfl rfl hrow hb17 rfl rfl oM oM λta2 tc2 w30 hr2 hG2=>?_;have hlow2:∀x,rb ta2=some x→w0.heap.size≤x∧x≠b:=BU hG2 hlow oM;replace hb16:=hb16.grow hG2 (λe=>by have:=hlow _ e.symm;have:=hlowl _ e.symm;omega);replace hX:=hX.grow hG2 (λx hx=>(hlow x hx).1);replace hKp:=hKp.grow hG2 (by simp only[List.mem_cons,List.not_mem_nil,or_false];intro c hc e;have:=hlow _ e.symm;have:=hlowl _ e.symm;omega);have sz18:=hG2.size;refine Ac (Ao hKp<|Au rfl rfl (λ_ hS=>Bw rfl)<|Au rfl rfl (λ_ hS=>B9 rfl CQ)<|Am rfl ?_ Af);refine A1 rfl rfl rfl Ds rfl hb16 rfl rfl λw31 hb18 hC7=>?_;replace hr2:=Ci.chg hr2 hC7 (λe=>by have:=hlow2 _ e;omega);replace hX:=hX.chg hC7 oM;replace hKp:=hKp.chg hC7 nM;have sz19:=hC7.size;exact Ac (Ao hKp<|B1<|DI<|Gh (DE rfl)<|⟨[⟨4,p.1,p.2,0,tx⟩],i1,p1,ta2,tc2,by rw[H6 hc h1 h2 h5 h6 h7,hstr],rfl,by rw[List.length_append];exact hb18,by rw[List.length_append,B5];exact hr2,hlow2,hX,oM,by first|omega|(have:=Cj hc;omega),hp1⟩);refine Am rfl ?_ ?_;refine Cc rfl rfl GB FW rfl rfl rfl rfl rfl λb8 w32 hb19 hE19 hs8 hz13=>?_;replace hrow:=hrow.ext hE19;replace hb2:=hb2.ext hE19;replace hb16:=hb16.ext hE19;replace hX:=hX.trans hE19;replace hKp:=hKp.ext hE19;refine Ac (Ao hKp<|Am rfl ?_ Af);refine Ab rfl (Al rfl Ds hb16 rfl)<|Ac (Ao hKp<|Am rfl ?_ Af);refine Ba rfl I5 rfl rfl rfl rfl hrow hb19 rfl rfl oM oM λta2 tc2 w33 hr2 hG2=>?_;have hlow2:∀x,rb ta2=some x→w0.heap.size≤x∧x≠b:=BU hG2 hlow oM;replace hb16:=hb16.grow hG2 (λe=>by have:=hlow _ e.symm;have:=hlowl _ e.symm;omega);replace hX:=hX.grow hG2 (λx hx=>(hlow x hx).1);replace hKp:=hKp.grow hG2 (by simp only[List.mem_cons,List.not_mem_nil,or_false];intro c hc e;have:=hlow _ e.symm;have:=hlowl _ e.symm;omega);have sz20:=hG2.size;refine Ac (Ao hKp<|Au rfl rfl (λ_ hS=>Bw rfl)<|Au rfl rfl (λ_ hS=>B9 rfl CQ)<|Am rfl ?_ Af);refine A1 rfl rfl rfl Ds rfl hb16 rfl rfl λw34 hb20 hC8=>?_;replace hr2:=Ci.chg hr2 hC8 (λe=>by have:=hlow2 _ e;omega);replace hX:=hX.chg hC8 oM;replace hKp:=hKp.chg hC8 nM;have sz21:=hC8.size;exact Ac (Ao hKp<|B1<|DI<|Gh (DE rfl)<|⟨[⟨4,p.1,p.2,0,tx⟩],i1,p1,ta2,tc2,by rw[H6 hc h1 h2 h5 h6 h7,hstr],rfl,by rw[List.length_append];exact hb20,by rw[List.length_append,B5];exact hr2,hlow2,hX,oM,by first|omega|(have:=Cj hc;omega),hp1⟩);exact Af;exact Af;refine JB rfl rfl<|P6 (E3 0 (pB b) 2 (pB b1) 3 (iV (i:Int))) (λw'=>∃(j:Nat)(q:Ps),i<j∧j≤src.length∧Pk j q∧BZ (adv c p) (src.drop (i+1))=(EH src (i+1) j,src.drop j,q)∧AM w' b [S src,iV ((j:Nat):Int),iV q.1,iV q.2,(.slice ta toks.length tc)] 76∧AM w' b1 [iV p.1,iV p.2] 25 ∧ Ci w' 78 5 ta tc toks.length (EV toks)∧AR w0 w') ?_ ?_;refine DX ?_
 refine DO (λk σ ds w'=>∃(j:Nat)(q:Ps),k=src.length-j∧ds=[]∧σ=(E3 0 (pB b) 2 (pB b1) 3 (iV (i:Int)))∧i<j∧j≤src.length∧Pk j q∧BZ (adv c p) (src.drop (i+1))=(EH src (i+1) j++(BZ q (src.drop j)).1,(BZ q (src.drop j)).2)∧AM w' b [S src,iV ((j:Nat):Int),iV q.1,iV q.2,(.slice ta toks.length tc)] 76∧AM w' b1 [iV p.1,iV p.2] 25 ∧ Ci w' 78 5 ta tc toks.length (EV toks)∧AR w0 w') (src.length-(i+1)) (E3 0 (pB b) 2 (pB b1) 3 (iV (i:Int))) lE ⟨i+1,adv c p,rfl,rfl,rfl,oM,by have:=Cj hc;omega,hp1,by rw[TB];rfl,hb3,hb2,hrow,hX⟩ ?_;rintro _ _ _ wl ⟨j,q,rfl,rfl,rfl,hij,hjl,hq,hm,hscl,hl2,hrow,hX⟩;have szl:=hX.size;have lt2:=hl2.lt;have lts:=hscl.lt;refine AQ [] 2 [] (Ar _) (λ_=>?_);have hr7:=hscl;have hr8:=hl2;refine DR mixed (A4 wl [b,b1]) [(true,0),(false,1),(true,2),(true,3),(true,4),(true,5),(true,6),(true,7),(true,8),(true,9),(true,10),(true,11),(false,12),(true,13),(true,14)] kR kR rfl rfl λw35 hE20 hz14=>?_;have hKp:A4 wl [b,b1] w35:=A4.cons hr7 hE20 (A4.cons hr8 hE20 (A4.nil _ _));refine⟨hKp,?_⟩;replace hscl:=hscl.ext hE20;replace hl2:=hl2.ext hE20;replace hrow:=hrow.ext hE20;replace hX:=hX.trans hE20;refine A0 rfl (λ_ hS=>Ay rfl)<|EA<|A3 rfl (Aw Sm rfl rfl) (HL _ b src j q (.slice ta toks.length tc) hscl) ?_;rintro _ w36 ⟨rfl,hE21⟩;replace hscl:=hscl.ext hE21;replace hl2:=hl2.ext hE21;replace hrow:=hrow.ext hE21;replace hX:=hX.trans hE21;replace hKp:=hKp.ext hE21;have sz22:=hE21.size;refine Ac (GP hKp<|A0 rfl (λ_ hS=>Ay rfl)<|Pm 17 rfl (λh8=>?_) (λh8=>?_));have hjlt:j<src.length:=by have:=of_decide_eq_true h8;omega
 obtain⟨c1,hc1⟩:=JO hjlt;refine C3 rfl rfl rfl h8 (λ_ hS=>Ay rfl)<|C3 rfl rfl rfl h8 (λ_ hS=>Bw rfl)<|C3 rfl rfl rfl h8 (λ_ hS=>B9 rfl Jn)<|C3 rfl rfl rfl h8 (λ_ hS=>Al rfl XL (hr7.keep hS (.head _)) rfl)<|C3 rfl rfl rfl h8 (λ_ hS=>Ay rfl)<|C3 rfl rfl rfl h8 (λ_ hS=>Bw rfl)<|C3 rfl rfl rfl h8 (λ_ hS=>B9 rfl GZ)<|C3 rfl rfl rfl h8 (λ_ hS=>Al rfl UD (hr7.keep hS (.head _)) rfl)<|C3 rfl rfl rfl h8 (λ_ hS=>Dw (c:=c1) rfl rfl Jo oM (by rw[Int.toNat_natCast];exact hc1))<|EA ?_;refine B6 rfl rfl h8<|A3 rfl (Aw Wg rfl rfl) (Fa _ M9 _) ?_;rintro _ w37 ⟨rfl,hE22⟩;replace hscl:=hscl.ext hE22;replace hl2:=hl2.ext hE22;replace hrow:=hrow.ext hE22;replace hX:=hX.trans hE22;replace hKp:=hKp.ext hE22;have sz23:=hE22.size;refine Ac (GP hKp<|C3 rfl rfl rfl h8 (λ_ hS=>U6 rfl rfl)<|A0 rfl (λ_ hS=>NC rfl h8 rfl)<|DT<|Dv<|sP 29 rfl (λh9=>?_) (λh9=>?_));refine AQ [.sq _] 6 [] (Ar _) (λ_=>A3 rfl (Aw Oc rfl rfl) (F9 _ b src j q (.slice ta toks.length tc) hscl c1 hc1 oM hq) ?_);rintro _ w38 ⟨rfl,hb21,hE23⟩;replace hl2:=hl2.exb hE23 oM;replace hrow:=Ci.exb hrow hE23 (λe=>by have:=hlow _ e;omega);replace hX:=hE23.ext hX hb0;have sz24:=hE23.size;have hp3:=Pk.adv (c:=c1) hq;refine AK [.bk _] 2 [] (Ar _) (λ_=>Hj (src.length-(j+1)) (E3 0 (pB b) 2 (pB b1) 3 (iV (i:Int))) (by have:=Cj hc1;omega) lE ⟨j+1,adv c1 q,rfl,rfl,rfl,oM,by have:=Cj hc1;omega,hp3,by rw[hm,US hc1 h9,TA (by omega) hc1,List.append_assoc];rfl,hb21,hl2,hrow,hX⟩);exact AQ [.sq _] 3 [] (Ar _) (λ_=>N1<|O9<|Pg lE ⟨j,q,hij,hjl,hq,by rw[hm,NG (p:=q) (src:=src) (j:=j) (.inr ⟨c1,hc1,h9⟩),List.append_nil],hscl,hl2,hrow,hX⟩);refine C2 rfl rfl rfl h8<|C2 rfl rfl rfl h8<|C2 rfl rfl rfl h8<|C2 rfl rfl rfl h8<|C2 rfl rfl rfl h8<|C2 rfl rfl rfl h8<|C2 rfl rfl rfl h8<|C2 rfl rfl rfl h8<|C2 rfl rfl rfl h8<|EA ?_;exact gF rfl rfl rfl h8<|Ac (GP hKp<|C2 rfl rfl rfl h8<|A0 rfl (λ_ hS=>MP rfl h8 rfl)<|DT<|JM [.sq _,.sq _] 4 [] (Ar _) (λ_=>N1<|O9<|Pg lE ⟨j,q,hij,hjl,hq,by rw[hm,NG (p:=q) (src:=src) (j:=j) (.inl (by have:=of_decide_eq_false h8;omega)),List.append_nil],hscl,hl2,hrow,hX⟩));rintro wl ⟨j,q,hij,hjl,hq,hm,hscl,hl2,hrow,hX⟩;have szl:=hX.size;have lt2:=hl2.lt;have lts:=hscl.lt;have hr9:=hl2
 refine Ea mixed (A4 wl [b1]) (rd [0,1,2,3,5,6,7,9,10,11,12,15] (.br 4 (.br 8 (.br 13 (.rd 14 (.br 16 (.br 17 (.br 18 (.rd 19 (.rd 20 (.br 21 .fin .fin))) .fin) .fin) .fin)) .fin) (.br 13 (.br 8 (.rd 14 (.br 16 (.br 17 (.br 18 (.rd 19 (.rd 20 (.br 21 .fin .fin))) .fin) .fin) .fin)) .fin) .fin)) (.br 8 (.br 4 (.br 13 (.rd 14 (.br 16 (.br 17 (.br 18 (.rd 19 (.rd 20 (.br 21 .fin .fin))) .fin) .fin) .fin)) .fin) (.br 13 (.rd 14 (.br 4 (.br 16 (.br 17 (.br 18 (.rd 19 (.rd 20 (.br 21 .fin .fin))) .fin) .fin) .fin) (.br 16 (.br 4 (.br 17 (.br 18 (.rd 19 (.rd 20 (.br 21 .fin .fin))) .fin) .fin) (.br 17 (.br 4 (.br 18 (.rd 19 (.rd 20 (.br 21 .fin .fin))) .fin) .fin) .fin)) .fin))) .fin)) (.br 13 (.br 4 (.br 8 (.rd 14 (.br 16 (.br 17 (.br 18 (.rd 19 (.rd 20 (.br 21 .fin .fin))) .fin) .fin) .fin)) .fin) (.br 8 (.rd 14 (.br 4 (.br 16 (.br 17 (.br 18 (.rd 19 (.rd 20 (.br 21 .fin .fin))) .fin) .fin) .fin) (.br 16 (.br 4 (.br 17 (.br 18 (.rd 19 (.rd 20 (.br 21 .fin .fin))) .fin) .fin) (.br 17 (.br 4 (.br 18 (.rd 19 (.rd 20 (.br 21 .fin .fin))) .fin) .fin) .fin)) .fin))) .fin)) .fin)))) kR kR kR λw39 hE24 hz15=>?_;have hKp:A4 wl [b1] w39:=A4.cons hr9 hE24 (A4.nil _ _);refine⟨hKp,?_⟩;replace hscl:=hscl.ext hE24;replace hl2:=hl2.ext hE24;replace hrow:=hrow.ext hE24;replace hX:=hX.trans hE24;refine Au rfl rfl (λ_ hS=>Ay rfl)<|Au rfl rfl (λ_ hS=>Ay rfl)<|Au rfl rfl (λ_ hS=>Bw rfl)<|Au rfl rfl (λ_ hS=>B9 rfl CQ)<|Au rfl rfl (λ_ hS=>Ay rfl)<|Au rfl rfl (λ_ hS=>Bw rfl)<|Au rfl rfl (λ_ hS=>B9 rfl Jn)<|Au rfl rfl (λ_ hS=>Ay rfl)<|Au rfl rfl (λ_ hS=>Ay rfl)<|Au rfl rfl (λ_ hS=>Bw rfl) ?_;refine Au rfl rfl (λ_ hS=>B9 rfl GZ)<|Au rfl rfl (λ_ hS=>Db rfl I1 (hr9.keep hS (.head _)) rfl)<|Am rfl ?_ ?_;refine Ab rfl (Al rfl Ds hscl rfl)<|Ac (Ao hKp<|Am rfl ?_ ?_);refine Ab rfl (Al rfl XL hscl rfl)<|Ac (Ao hKp<|Am rfl ?_ Af);refine Ab rfl (Al rfl UD hscl rfl)<|Ac (Ao hKp<|Au rfl rfl (λ_ hS=>Kt rfl rfl rfl Jo ⟨oM,oM,oM⟩)<|Am rfl ?_ Af);refine Cf rfl (Aw LU rfl rfl) (EK hPF _ (hG.ext hX) (EH src i j) (by have:=EI src i j;omega) (by rw[AP hij hc];simp) p) ?_ (λcc wp hc1=>aI rfl (let ⟨he,hcc,hE⟩:=hc1;⟨p,by rw[BE hc h1 h2 h5 h6 h7,hm];simp only[];rw[← AP hij hc,he],hcc,hX.trans hE⟩));rintro _ w40 ⟨wk,wn,wt,hw,rfl,hE25⟩;replace hscl:=hscl.ext hE25;replace hl2:=hl2.ext hE25;replace hrow:=hrow.ext hE25;replace hX:=hX.trans hE25;replace hKp:=hKp.ext hE25;have sz25:=hE25.size;have hst2:C1 (src.length+1) p (src.drop i)=.ok ([⟨wk,p.1,p.2,wn,wt⟩],src.drop j,q):=by rw[BE hc h1 h2 h5 h6 h7,hm];simp only[];rw[← AP hij hc,hw]
 refine Ac (Ao hKp<|Am rfl ?_ Af);refine Cc rfl rfl GB FW rfl rfl rfl rfl rfl λb9 w41 hb22 hE26 hs9 hz16=>?_;replace hscl:=hscl.ext hE26;replace hl2:=hl2.ext hE26;replace hrow:=hrow.ext hE26;replace hX:=hX.trans hE26;replace hKp:=hKp.ext hE26;refine Ac (Ao hKp<|Am rfl ?_ Af);refine Ba rfl I5 rfl rfl rfl rfl hrow hb22 rfl rfl oM oM λta2 tc2 w42 hr2 hG2=>?_;have hlow2:∀x,rb ta2=some x→w0.heap.size≤x∧x≠b:=BU hG2 hlow oM;replace hscl:=hscl.grow hG2 (λe=>by have:=hlow _ e.symm;have:=hlowl _ e.symm;omega);replace hl2:=hl2.grow hG2 (λe=>by have:=hlow _ e.symm;have:=hlowl _ e.symm;omega);replace hX:=hX.grow hG2 (λx hx=>(hlow x hx).1);replace hKp:=hKp.grow hG2 (by simp only[List.mem_cons,List.not_mem_nil,or_false];intro c hc e;have:=hlow _ e.symm;have:=hlowl _ e.symm;omega);have sz26:=hG2.size;refine Ac (Ao hKp<|Au rfl rfl (λ_ hS=>Bw rfl)<|Au rfl rfl (λ_ hS=>B9 rfl CQ)<|Am rfl ?_ Af);refine A1 rfl rfl rfl Ds rfl hscl rfl rfl λw43 hb23 hC9=>?_;replace hl2:=hl2.chg hC9 oM;replace hr2:=Ci.chg hr2 hC9 (λe=>by have:=hlow2 _ e;omega);replace hX:=hX.chg hC9 oM;replace hKp:=hKp.chg hC9 nM;have sz27:=hC9.size;exact Ac (Ao hKp<|B1<|DI<|Gh (DE rfl)<|⟨[⟨wk,p.1,p.2,wn,wt⟩],j,q,ta2,tc2,hst2,rfl,by rw[List.length_append];exact hb23,by rw[List.length_append,B5];exact hr2,hlow2,hX,oM,by first|omega|(have:=Cj hc;omega),hq⟩);refine Am rfl ?_ ?_;refine Ab rfl (Al rfl UD hscl rfl)<|Ac (Ao hKp<|Am rfl ?_ Af);refine Ab rfl (Al rfl XL hscl rfl)<|Ac (Ao hKp<|Au rfl rfl (λ_ hS=>Kt rfl rfl rfl Jo ⟨oM,oM,oM⟩)<|Am rfl ?_ Af);refine Cf rfl (Aw LU rfl rfl) (EK hPF _ (hG.ext hX) (EH src i j) (by have:=EI src i j;omega) (by rw[AP hij hc];simp) p) ?_ (λcc wp hc1=>aI rfl (let ⟨he,hcc,hE⟩:=hc1;⟨p,by rw[BE hc h1 h2 h5 h6 h7,hm];simp only[];rw[← AP hij hc,he],hcc,hX.trans hE⟩));rintro _ w44 ⟨wk,wn,wt,hw,rfl,hE27⟩;replace hscl:=hscl.ext hE27;replace hl2:=hl2.ext hE27;replace hrow:=hrow.ext hE27;replace hX:=hX.trans hE27;replace hKp:=hKp.ext hE27;have sz28:=hE27.size;have hst2:C1 (src.length+1) p (src.drop i)=.ok ([⟨wk,p.1,p.2,wn,wt⟩],src.drop j,q):=by rw[BE hc h1 h2 h5 h6 h7,hm];simp only[];rw[← AP hij hc,hw]
 refine Ac (Ao hKp<|Am rfl ?_ Af);refine Cc rfl rfl GB FW rfl rfl rfl rfl rfl λb10 w45 hb24 hE28 hs10 hz17=>?_;replace hscl:=hscl.ext hE28;replace hl2:=hl2.ext hE28;replace hrow:=hrow.ext hE28;replace hX:=hX.trans hE28;replace hKp:=hKp.ext hE28;refine Ac (Ao hKp<|Am rfl ?_ Af);refine Ba rfl I5 rfl rfl rfl rfl hrow hb24 rfl rfl oM oM λta2 tc2 w46 hr2 hG2=>?_;have hlow2:∀x,rb ta2=some x→w0.heap.size≤x∧x≠b:=BU hG2 hlow oM;replace hscl:=hscl.grow hG2 (λe=>by have:=hlow _ e.symm;have:=hlowl _ e.symm;omega);replace hl2:=hl2.grow hG2 (λe=>by have:=hlow _ e.symm;have:=hlowl _ e.symm;omega);replace hX:=hX.grow hG2 (λx hx=>(hlow x hx).1);replace hKp:=hKp.grow hG2 (by simp only[List.mem_cons,List.not_mem_nil,or_false];intro c hc e;have:=hlow _ e.symm;have:=hlowl _ e.symm;omega);have sz29:=hG2.size;refine Ac (Ao hKp<|Au rfl rfl (λ_ hS=>Bw rfl)<|Au rfl rfl (λ_ hS=>B9 rfl CQ)<|Am rfl ?_ Af);refine A1 rfl rfl rfl Ds rfl hscl rfl rfl λw47 hb25 hC10=>?_;replace hl2:=hl2.chg hC10 oM;replace hr2:=Ci.chg hr2 hC10 (λe=>by have:=hlow2 _ e;omega);replace hX:=hX.chg hC10 oM;replace hKp:=hKp.chg hC10 nM;have sz30:=hC10.size;exact Ac (Ao hKp<|B1<|DI<|Gh (DE rfl)<|⟨[⟨wk,p.1,p.2,wn,wt⟩],j,q,ta2,tc2,hst2,rfl,by rw[List.length_append];exact hb25,by rw[List.length_append,B5];exact hr2,hlow2,hX,oM,by first|omega|(have:=Cj hc;omega),hq⟩);exact Af;refine Am rfl ?_ ?_;refine Ab rfl (Al rfl XL hscl rfl)<|Ac (Ao hKp<|Am rfl ?_ ?_);refine Ab rfl (Al rfl Ds hscl rfl)<|Ac (Ao hKp<|Am rfl ?_ Af);refine Ab rfl (Al rfl UD hscl rfl)<|Ac (Ao hKp<|Au rfl rfl (λ_ hS=>Kt rfl rfl rfl Jo ⟨oM,oM,oM⟩)<|Am rfl ?_ Af);refine Cf rfl (Aw LU rfl rfl) (EK hPF _ (hG.ext hX) (EH src i j) (by have:=EI src i j;omega) (by rw[AP hij hc];simp) p) ?_ (λcc wp hc1=>aI rfl (let ⟨he,hcc,hE⟩:=hc1;⟨p,by rw[BE hc h1 h2 h5 h6 h7,hm];simp only[];rw[← AP hij hc,he],hcc,hX.trans hE⟩));rintro _ w48 ⟨wk,wn,wt,hw,rfl,hE29⟩;replace hscl:=hscl.ext hE29;replace hl2:=hl2.ext hE29;replace hrow:=hrow.ext hE29;replace hX:=hX.trans hE29;replace hKp:=hKp.ext hE29;have sz31:=hE29.size;have hst2:C1 (src.length+1) p (src.drop i)=.ok ([⟨wk,p.1,p.2,wn,wt⟩],src.drop j,q):=by rw[BE hc h1 h2 h5 h6 h7,hm];simp only[];rw[← AP hij hc,hw]
 refine Ac (Ao hKp<|Am rfl ?_ Af);refine Cc rfl rfl GB FW rfl rfl rfl rfl rfl λb11 w49 hb26 hE30 hs11 hz18=>?_;replace hscl:=hscl.ext hE30;replace hl2:=hl2.ext hE30;replace hrow:=hrow.ext hE30;replace hX:=hX.trans hE30;replace hKp:=hKp.ext hE30;refine Ac (Ao hKp<|Am rfl ?_ Af);refine Ba rfl I5 rfl rfl rfl rfl hrow hb26 rfl rfl oM oM λta2 tc2 w50 hr2 hG2=>?_;have hlow2:∀x,rb ta2=some x→w0.heap.size≤x∧x≠b:=BU hG2 hlow oM;replace hscl:=hscl.grow hG2 (λe=>by have:=hlow _ e.symm;have:=hlowl _ e.symm;omega);replace hl2:=hl2.grow hG2 (λe=>by have:=hlow _ e.symm;have:=hlowl _ e.symm;omega);replace hX:=hX.grow hG2 (λx hx=>(hlow x hx).1);replace hKp:=hKp.grow hG2 (by simp only[List.mem_cons,List.not_mem_nil,or_false];intro c hc e;have:=hlow _ e.symm;have:=hlowl _ e.symm;omega);have sz32:=hG2.size;refine Ac (Ao hKp<|Au rfl rfl (λ_ hS=>Bw rfl)<|Au rfl rfl (λ_ hS=>B9 rfl CQ)<|Am rfl ?_ Af);refine A1 rfl rfl rfl Ds rfl hscl rfl rfl λw51 hb27 hC11=>?_;replace hl2:=hl2.chg hC11 oM;replace hr2:=Ci.chg hr2 hC11 (λe=>by have:=hlow2 _ e;omega);replace hX:=hX.chg hC11 oM;replace hKp:=hKp.chg hC11 nM;have sz33:=hC11.size;exact Ac (Ao hKp<|B1<|DI<|Gh (DE rfl)<|⟨[⟨wk,p.1,p.2,wn,wt⟩],j,q,ta2,tc2,hst2,rfl,by rw[List.length_append];exact hb27,by rw[List.length_append,B5];exact hr2,hlow2,hX,oM,by first|omega|(have:=Cj hc;omega),hq⟩);refine Am rfl ?_ ?_;refine Ab rfl (Al rfl UD hscl rfl)<|Ac (Ao hKp<|Au rfl rfl (λ_ hS=>Kt rfl rfl rfl Jo ⟨oM,oM,oM⟩)<|Am rfl ?_ ?_);refine Ab rfl (Al rfl Ds hscl rfl)<|Ac (Ao hKp<|Am rfl ?_ Af);refine Cf rfl (Aw LU rfl rfl) (EK hPF _ (hG.ext hX) (EH src i j) (by have:=EI src i j;omega) (by rw[AP hij hc];simp) p) ?_ (λcc wp hc1=>aI rfl (let ⟨he,hcc,hE⟩:=hc1;⟨p,by rw[BE hc h1 h2 h5 h6 h7,hm];simp only[];rw[← AP hij hc,he],hcc,hX.trans hE⟩));rintro _ w52 ⟨wk,wn,wt,hw,rfl,hE31⟩;replace hscl:=hscl.ext hE31;replace hl2:=hl2.ext hE31;replace hrow:=hrow.ext hE31;replace hX:=hX.trans hE31;replace hKp:=hKp.ext hE31;have sz34:=hE31.size;have hst2:C1 (src.length+1) p (src.drop i)=.ok ([⟨wk,p.1,p.2,wn,wt⟩],src.drop j,q):=by rw[BE hc h1 h2 h5 h6 h7,hm];simp only[];rw[← AP hij hc,hw]
 refine Ac (Ao hKp<|Am rfl ?_ Af);refine Cc rfl rfl GB FW rfl rfl rfl rfl rfl λb12 w53 hb28 hE32 hs12 hz19=>?_;replace hscl:=hscl.ext hE32;replace hl2:=hl2.ext hE32;replace hrow:=hrow.ext hE32;replace hX:=hX.trans hE32;replace hKp:=hKp.ext hE32;refine Ac (Ao hKp<|Am rfl ?_ Af);refine Ba rfl I5 rfl rfl rfl rfl hrow hb28 rfl rfl oM oM λta2 tc2 w54 hr2 hG2=>?_;have hlow2:∀x,rb ta2=some x→w0.heap.size≤x∧x≠b:=BU hG2 hlow oM;replace hscl:=hscl.grow hG2 (λe=>by have:=hlow _ e.symm;have:=hlowl _ e.symm;omega);replace hl2:=hl2.grow hG2 (λe=>by have:=hlow _ e.symm;have:=hlowl _ e.symm;omega);replace hX:=hX.grow hG2 (λx hx=>(hlow x hx).1);replace hKp:=hKp.grow hG2 (by simp only[List.mem_cons,List.not_mem_nil,or_false];intro c hc e;have:=hlow _ e.symm;have:=hlowl _ e.symm;omega);have sz35:=hG2.size;refine Ac (Ao hKp<|Au rfl rfl (λ_ hS=>Bw rfl)<|Au rfl rfl (λ_ hS=>B9 rfl CQ)<|Am rfl ?_ Af);refine A1 rfl rfl rfl Ds rfl hscl rfl rfl λw55 hb29 hC12=>?_;replace hl2:=hl2.chg hC12 oM;replace hr2:=Ci.chg hr2 hC12 (λe=>by have:=hlow2 _ e;omega);replace hX:=hX.chg hC12 oM;replace hKp:=hKp.chg hC12 nM;have sz36:=hC12.size;exact Ac (Ao hKp<|B1<|DI<|Gh (DE rfl)<|⟨[⟨wk,p.1,p.2,wn,wt⟩],j,q,ta2,tc2,hst2,rfl,by rw[List.length_append];exact hb29,by rw[List.length_append,B5];exact hr2,hlow2,hX,oM,by first|omega|(have:=Cj hc;omega),hq⟩);refine Am rfl ?_ ?_;refine Cf rfl (Aw LU rfl rfl) (EK hPF _ (hG.ext hX) (EH src i j) (by have:=EI src i j;omega) (by rw[AP hij hc];simp) p) ?_ (λcc wp hc1=>aI rfl (let ⟨he,hcc,hE⟩:=hc1;⟨p,by rw[BE hc h1 h2 h5 h6 h7,hm];simp only[];rw[← AP hij hc,he],hcc,hX.trans hE⟩));rintro _ w56 ⟨wk,wn,wt,hw,rfl,hE33⟩;replace hscl:=hscl.ext hE33;replace hl2:=hl2.ext hE33;replace hrow:=hrow.ext hE33;replace hX:=hX.trans hE33;replace hKp:=hKp.ext hE33;have sz37:=hE33.size;have hst2:C1 (src.length+1) p (src.drop i)=.ok ([⟨wk,p.1,p.2,wn,wt⟩],src.drop j,q):=by rw[BE hc h1 h2 h5 h6 h7,hm];simp only[];rw[← AP hij hc,hw]
 refine Ac (Ao hKp<|Am rfl ?_ ?_);refine Ab rfl (Al rfl Ds hscl rfl)<|Ac (Ao hKp<|Am rfl ?_ Af);refine Cc rfl rfl GB FW rfl rfl rfl rfl rfl λb13 w57 hb30 hE34 hs13 hz20=>?_;replace hscl:=hscl.ext hE34;replace hl2:=hl2.ext hE34;replace hrow:=hrow.ext hE34;replace hX:=hX.trans hE34;replace hKp:=hKp.ext hE34;refine Ac (Ao hKp<|Am rfl ?_ Af);refine Ba rfl I5 rfl rfl rfl rfl hrow hb30 rfl rfl oM oM λta2 tc2 w58 hr2 hG2=>?_;have hlow2:∀x,rb ta2=some x→w0.heap.size≤x∧x≠b:=BU hG2 hlow oM;replace hscl:=hscl.grow hG2 (λe=>by have:=hlow _ e.symm;have:=hlowl _ e.symm;omega);replace hl2:=hl2.grow hG2 (λe=>by have:=hlow _ e.symm;have:=hlowl _ e.symm;omega);replace hX:=hX.grow hG2 (λx hx=>(hlow x hx).1);replace hKp:=hKp.grow hG2 (by simp only[List.mem_cons,List.not_mem_nil,or_false];intro c hc e;have:=hlow _ e.symm;have:=hlowl _ e.symm;omega);have sz38:=hG2.size;refine Ac (Ao hKp<|Au rfl rfl (λ_ hS=>Bw rfl)<|Au rfl rfl (λ_ hS=>B9 rfl CQ)<|Am rfl ?_ Af);refine A1 rfl rfl rfl Ds rfl hscl rfl rfl λw59 hb31 hC13=>?_;replace hl2:=hl2.chg hC13 oM;replace hr2:=Ci.chg hr2 hC13 (λe=>by have:=hlow2 _ e;omega);replace hX:=hX.chg hC13 oM;replace hKp:=hKp.chg hC13 nM;have sz39:=hC13.size;exact Ac (Ao hKp<|B1<|DI<|Gh (DE rfl)<|⟨[⟨wk,p.1,p.2,wn,wt⟩],j,q,ta2,tc2,hst2,rfl,by rw[List.length_append];exact hb31,by rw[List.length_append,B5];exact hr2,hlow2,hX,oM,by first|omega|(have:=Cj hc;omega),hq⟩);refine Am rfl ?_ ?_;refine Cc rfl rfl GB FW rfl rfl rfl rfl rfl λb14 w60 hb32 hE35 hs14 hz21=>?_;replace hscl:=hscl.ext hE35;replace hl2:=hl2.ext hE35;replace hrow:=hrow.ext hE35;replace hX:=hX.trans hE35;replace hKp:=hKp.ext hE35;refine Ac (Ao hKp<|Am rfl ?_ Af);refine Ab rfl (Al rfl Ds hscl rfl)<|Ac (Ao hKp<|Am rfl ?_ Af);refine Ba rfl I5 rfl rfl rfl rfl hrow hb32 rfl rfl oM oM λta2 tc2 w61 hr2 hG2=>?_;have hlow2:∀x,rb ta2=some x→w0.heap.size≤x∧x≠b:=BU hG2 hlow oM;replace hscl:=hscl.grow hG2 (λe=>by have:=hlow _ e.symm;have:=hlowl _ e.symm;omega);replace hl2:=hl2.grow hG2 (λe=>by have:=hlow _ e.symm;have:=hlowl _ e.symm;omega);replace hX:=hX.grow hG2 (λx hx=>(hlow x hx).1);replace hKp:=hKp.grow hG2 (by simp only[List.mem_cons,List.not_mem_nil,or_false];intro c hc e;have:=hlow _ e.symm;have:=hlowl _ e.symm;omega);have sz40:=hG2.size;refine Ac (Ao hKp<|Au rfl rfl (λ_ hS=>Bw rfl)<|Au rfl rfl (λ_ hS=>B9 rfl CQ)<|Am rfl ?_ Af);refine A1 rfl rfl rfl Ds rfl hscl rfl rfl λw62 hb33 hC14=>?_;replace hl2:=hl2.chg hC14 oM;replace hr2:=Ci.chg hr2 hC14 (λe=>by have:=hlow2 _ e;omega);replace hX:=hX.chg hC14 oM;replace hKp:=hKp.chg hC14 nM;have sz41:=hC14.size;exact Ac (Ao hKp<|B1<|DI<|Gh (DE rfl)<|⟨[⟨wk,p.1,p.2,wn,wt⟩],j,q,ta2,tc2,hst2,rfl,by rw[List.length_append];exact hb33,by rw[List.length_append,B5];exact hr2,hlow2,hX,oM,by first|omega|(have:=Cj hc;omega),hq⟩);exact Af;exact Af;exact Af;refine Am rfl ?_ ?_;refine Ab rfl (Al rfl UD hscl rfl)<|Ac (Ao hKp<|Am rfl ?_ ?_);refine Ab rfl (Al rfl Ds hscl rfl)<|Ac (Ao hKp<|Am rfl ?_ Af)
 refine Ab rfl (Al rfl XL hscl rfl)<|Ac (Ao hKp<|Au rfl rfl (λ_ hS=>Kt rfl rfl rfl Jo ⟨oM,oM,oM⟩)<|Am rfl ?_ Af);refine Cf rfl (Aw LU rfl rfl) (EK hPF _ (hG.ext hX) (EH src i j) (by have:=EI src i j;omega) (by rw[AP hij hc];simp) p) ?_ (λcc wp hc1=>aI rfl (let ⟨he,hcc,hE⟩:=hc1;⟨p,by rw[BE hc h1 h2 h5 h6 h7,hm];simp only[];rw[← AP hij hc,he],hcc,hX.trans hE⟩));rintro _ w63 ⟨wk,wn,wt,hw,rfl,hE36⟩;replace hscl:=hscl.ext hE36;replace hl2:=hl2.ext hE36;replace hrow:=hrow.ext hE36;replace hX:=hX.trans hE36;replace hKp:=hKp.ext hE36;have sz42:=hE36.size;have hst2:C1 (src.length+1) p (src.drop i)=.ok ([⟨wk,p.1,p.2,wn,wt⟩],src.drop j,q):=by rw[BE hc h1 h2 h5 h6 h7,hm];simp only[];rw[← AP hij hc,hw]
 refine Ac (Ao hKp<|Am rfl ?_ Af);refine Cc rfl rfl GB FW rfl rfl rfl rfl rfl λb15 w64 hb34 hE37 hs15 hz22=>?_;replace hscl:=hscl.ext hE37;replace hl2:=hl2.ext hE37;replace hrow:=hrow.ext hE37;replace hX:=hX.trans hE37;replace hKp:=hKp.ext hE37;refine Ac (Ao hKp<|Am rfl ?_ Af);refine Ba rfl I5 rfl rfl rfl rfl hrow hb34 rfl rfl oM oM λta2 tc2 w65 hr2 hG2=>?_;have hlow2:∀x,rb ta2=some x→w0.heap.size≤x∧x≠b:=BU hG2 hlow oM;replace hscl:=hscl.grow hG2 (λe=>by have:=hlow _ e.symm;have:=hlowl _ e.symm;omega);replace hl2:=hl2.grow hG2 (λe=>by have:=hlow _ e.symm;have:=hlowl _ e.symm;omega);replace hX:=hX.grow hG2 (λx hx=>(hlow x hx).1);replace hKp:=hKp.grow hG2 (by simp only[List.mem_cons,List.not_mem_nil,or_false];intro c hc e;have:=hlow _ e.symm;have:=hlowl _ e.symm;omega);have sz43:=hG2.size;refine Ac (Ao hKp<|Au rfl rfl (λ_ hS=>Bw rfl)<|Au rfl rfl (λ_ hS=>B9 rfl CQ)<|Am rfl ?_ Af);refine A1 rfl rfl rfl Ds rfl hscl rfl rfl λw66 hb35 hC15=>?_;replace hl2:=hl2.chg hC15 oM;replace hr2:=Ci.chg hr2 hC15 (λe=>by have:=hlow2 _ e;omega);replace hX:=hX.chg hC15 oM;replace hKp:=hKp.chg hC15 nM;have sz44:=hC15.size;exact Ac (Ao hKp<|B1<|DI<|Gh (DE rfl)<|⟨[⟨wk,p.1,p.2,wn,wt⟩],j,q,ta2,tc2,hst2,rfl,by rw[List.length_append];exact hb35,by rw[List.length_append,B5];exact hr2,hlow2,hX,oM,by first|omega|(have:=Cj hc;omega),hq⟩);refine Am rfl ?_ ?_;refine Ab rfl (Al rfl XL hscl rfl)<|Ac (Ao hKp<|Au rfl rfl (λ_ hS=>Kt rfl rfl rfl Jo ⟨oM,oM,oM⟩)<|Am rfl ?_ ?_);refine Ab rfl (Al rfl Ds hscl rfl)<|Ac (Ao hKp<|Am rfl ?_ Af);refine Cf rfl (Aw LU rfl rfl) (EK hPF _ (hG.ext hX) (EH src i j) (by have:=EI src i j;omega) (by rw[AP hij hc];simp) p) ?_ (λcc wp hc1=>aI rfl (let ⟨he,hcc,hE⟩:=hc1;⟨p,by rw[BE hc h1 h2 h5 h6 h7,hm];simp only[];rw[← AP hij hc,he],hcc,hX.trans hE⟩));rintro _ w67 ⟨wk,wn,wt,hw,rfl,hE38⟩;replace hscl:=hscl.ext hE38;replace hl2:=hl2.ext hE38;replace hrow:=hrow.ext hE38;replace hX:=hX.trans hE38;replace hKp:=hKp.ext hE38;have sz45:=hE38.size;have hst2:C1 (src.length+1) p (src.drop i)=.ok ([⟨wk,p.1,p.2,wn,wt⟩],src.drop j,q):=by rw[BE hc h1 h2 h5 h6 h7,hm];simp only[];rw[← AP hij hc,hw]
 refine Ac (Ao hKp<|Am rfl ?_ Af);refine Cc rfl rfl GB FW rfl rfl rfl rfl rfl λb16 w68 hb36 hE39 hs16 hz23=>?_;replace hscl:=hscl.ext hE39;replace hl2:=hl2.ext hE39;replace hrow:=hrow.ext hE39;replace hX:=hX.trans hE39;replace hKp:=hKp.ext hE39;refine Ac (Ao hKp<|Am rfl ?_ Af);refine Ba rfl I5 rfl rfl rfl rfl hrow hb36 rfl rfl oM oM λta2 tc2 w69 hr2 hG2=>?_;have hlow2:∀x,rb ta2=some x→w0.heap.size≤x∧x≠b:=BU hG2 hlow oM;replace hscl:=hscl.grow hG2 (λe=>by have:=hlow _ e.symm;have:=hlowl _ e.symm;omega);replace hl2:=hl2.grow hG2 (λe=>by have:=hlow _ e.symm;have:=hlowl _ e.symm;omega);replace hX:=hX.grow hG2 (λx hx=>(hlow x hx).1);replace hKp:=hKp.grow hG2 (by simp only[List.mem_cons,List.not_mem_nil,or_false];intro c hc e;have:=hlow _ e.symm;have:=hlowl _ e.symm;omega);have sz46:=hG2.size;refine Ac (Ao hKp<|Au rfl rfl (λ_ hS=>Bw rfl)<|Au rfl rfl (λ_ hS=>B9 rfl CQ)<|Am rfl ?_ Af);refine A1 rfl rfl rfl Ds rfl hscl rfl rfl λw70 hb37 hC16=>?_;replace hl2:=hl2.chg hC16 oM;replace hr2:=Ci.chg hr2 hC16 (λe=>by have:=hlow2 _ e;omega);replace hX:=hX.chg hC16 oM;replace hKp:=hKp.chg hC16 nM;have sz47:=hC16.size;exact Ac (Ao hKp<|B1<|DI<|Gh (DE rfl)<|⟨[⟨wk,p.1,p.2,wn,wt⟩],j,q,ta2,tc2,hst2,rfl,by rw[List.length_append];exact hb37,by rw[List.length_append,B5];exact hr2,hlow2,hX,oM,by first|omega|(have:=Cj hc;omega),hq⟩);refine Am rfl ?_ ?_;refine Cf rfl (Aw LU rfl rfl) (EK hPF _ (hG.ext hX) (EH src i j) (by have:=EI src i j;omega) (by rw[AP hij hc];simp) p) ?_ (λcc wp hc1=>aI rfl (let ⟨he,hcc,hE⟩:=hc1;⟨p,by rw[BE hc h1 h2 h5 h6 h7,hm];simp only[];rw[← AP hij hc,he],hcc,hX.trans hE⟩));rintro _ w71 ⟨wk,wn,wt,hw,rfl,hE40⟩;replace hscl:=hscl.ext hE40;replace hl2:=hl2.ext hE40;replace hrow:=hrow.ext hE40;replace hX:=hX.trans hE40;replace hKp:=hKp.ext hE40;have sz48:=hE40.size;have hst2:C1 (src.length+1) p (src.drop i)=.ok ([⟨wk,p.1,p.2,wn,wt⟩],src.drop j,q):=by rw[BE hc h1 h2 h5 h6 h7,hm];simp only[];rw[← AP hij hc,hw]
 refine Ac (Ao hKp<|Am rfl ?_ ?_);refine Ab rfl (Al rfl Ds hscl rfl)<|Ac (Ao hKp<|Am rfl ?_ Af);refine Cc rfl rfl GB FW rfl rfl rfl rfl rfl λb17 w72 hb38 hE41 hs17 hz24=>?_;replace hscl:=hscl.ext hE41;replace hl2:=hl2.ext hE41;replace hrow:=hrow.ext hE41;replace hX:=hX.trans hE41;replace hKp:=hKp.ext hE41;refine Ac (Ao hKp<|Am rfl ?_ Af);refine Ba rfl I5 rfl rfl rfl rfl hrow hb38 rfl rfl oM oM λta2 tc2 w73 hr2 hG2=>?_;have hlow2:∀x,rb ta2=some x→w0.heap.size≤x∧x≠b:=BU hG2 hlow oM;replace hscl:=hscl.grow hG2 (λe=>by have:=hlow _ e.symm;have:=hlowl _ e.symm;omega);replace hl2:=hl2.grow hG2 (λe=>by have:=hlow _ e.symm;have:=hlowl _ e.symm;omega);replace hX:=hX.grow hG2 (λx hx=>(hlow x hx).1);replace hKp:=hKp.grow hG2 (by simp only[List.mem_cons,List.not_mem_nil,or_false];intro c hc e;have:=hlow _ e.symm;have:=hlowl _ e.symm;omega);have sz49:=hG2.size;refine Ac (Ao hKp<|Au rfl rfl (λ_ hS=>Bw rfl)<|Au rfl rfl (λ_ hS=>B9 rfl CQ)<|Am rfl ?_ Af);refine A1 rfl rfl rfl Ds rfl hscl rfl rfl λw74 hb39 hC17=>?_;replace hl2:=hl2.chg hC17 oM;replace hr2:=Ci.chg hr2 hC17 (λe=>by have:=hlow2 _ e;omega);replace hX:=hX.chg hC17 oM;replace hKp:=hKp.chg hC17 nM;have sz50:=hC17.size;exact Ac (Ao hKp<|B1<|DI<|Gh (DE rfl)<|⟨[⟨wk,p.1,p.2,wn,wt⟩],j,q,ta2,tc2,hst2,rfl,by rw[List.length_append];exact hb39,by rw[List.length_append,B5];exact hr2,hlow2,hX,oM,by first|omega|(have:=Cj hc;omega),hq⟩);refine Am rfl ?_ ?_;refine Cc rfl rfl GB FW rfl rfl rfl rfl rfl λb18 w75 hb40 hE42 hs18 hz25=>?_;replace hscl:=hscl.ext hE42;replace hl2:=hl2.ext hE42;replace hrow:=hrow.ext hE42;replace hX:=hX.trans hE42;replace hKp:=hKp.ext hE42;refine Ac (Ao hKp<|Am rfl ?_ Af);refine Ab rfl (Al rfl Ds hscl rfl)<|Ac (Ao hKp<|Am rfl ?_ Af);refine Ba rfl I5 rfl rfl rfl rfl hrow hb40 rfl rfl oM oM λta2 tc2 w76 hr2 hG2=>?_;have hlow2:∀x,rb ta2=some x→w0.heap.size≤x∧x≠b:=BU hG2 hlow oM;replace hscl:=hscl.grow hG2 (λe=>by have:=hlow _ e.symm;have:=hlowl _ e.symm;omega);replace hl2:=hl2.grow hG2 (λe=>by have:=hlow _ e.symm;have:=hlowl _ e.symm;omega);replace hX:=hX.grow hG2 (λx hx=>(hlow x hx).1);replace hKp:=hKp.grow hG2 (by simp only[List.mem_cons,List.not_mem_nil,or_false];intro c hc e;have:=hlow _ e.symm;have:=hlowl _ e.symm;omega);have sz51:=hG2.size;refine Ac (Ao hKp<|Au rfl rfl (λ_ hS=>Bw rfl)<|Au rfl rfl (λ_ hS=>B9 rfl CQ)<|Am rfl ?_ Af);refine A1 rfl rfl rfl Ds rfl hscl rfl rfl λw77 hb41 hC18=>?_;replace hl2:=hl2.chg hC18 oM;replace hr2:=Ci.chg hr2 hC18 (λe=>by have:=hlow2 _ e;omega);replace hX:=hX.chg hC18 oM;replace hKp:=hKp.chg hC18 nM;have sz52:=hC18.size;exact Ac (Ao hKp<|B1<|DI<|Gh (DE rfl)<|⟨[⟨wk,p.1,p.2,wn,wt⟩],j,q,ta2,tc2,hst2,rfl,by rw[List.length_append];exact hb41,by rw[List.length_append,B5];exact hr2,hlow2,hX,oM,by first|omega|(have:=Cj hc;omega),hq⟩);exact Af;exact Af;exact Af;exact Af
theorem Sw(w:World)(c2 c3 c4:Nat) :
  CallsD prog 26 [pB c2,pB c3,pB c4].toArray .returning w λr m w'=>∃x,r=.returned x∧m=.returning∧(AR w w'):=by
 have hX:=AR.refl w;refine Du (R:=λw'=>AR w w') func26 rfl rfl rfl rfl Nb<|DX<|BX<|C7<|Ab rfl (PS iQ rfl)<|Ac<|Dv<|FJ rfl rfl<|C7<|Ab rfl (CX rfl) ?_;exact Ac<|DI<|Gh (DE rfl)<|hX
theorem Uc(w0 w:World)(hX0:AR w0 w)(c2 c3 c4:Nat)(v2 x3 y3 v4:Value)(hc2:AM w c2 [v2] 36)(hc3:AM w c3 [x3,y3] 25)(hc4:AM w c4 [v4] 26)(g2:w0.heap.size≤c2)(g3:w0.heap.size≤c3)(g4:w0.heap.size≤c4)(n23:c2≠c3)(n24:c2≠c4)(n34:c3≠c4)(e:Int×Int) :
  CallsD prog 26 [pB c2,pB c3,pB c4].toArray (.panicking (QS 73 e)) w λr m w'=>∃x,r=.returned x∧m=.panicking [{v:=.iface 73 (.agg #[iV e.1,iV e.2]),recovered:=true}]∧(AR w0 w'∧AM w' c2 [.slice none 0 0] 36∧AM w' c3 [iV e.1,iV e.2] 25∧AM w' c4 [iV 10] 26):=by
 have l2:=hc2.lt;have l3:=hc3.lt;have l4:=hc4.lt;have hX:=hX0;have szx:=hX.size;refine Du (R:=λw'=>AR w0 w'∧AM w' c2 [.slice none 0 0] 36∧AM w' c3 [iV e.1,iV e.2] 25∧AM w' c4 [iV 10] 26) func26 rfl rfl rfl rfl PL<|DX<|BX<|C7<|Ab rfl (Q2 iQ rfl)<|Ac<|Dv<|JB rfl rfl<|BX<|C7 ?_;refine Ab rfl (Uk rfl uS)<|Ab rfl (T5 rfl rfl)<|Ab rfl (T5 rfl rfl)<|Ac<|Dv<|FJ rfl rfl<|BX<|C7<|CH rfl qJ λb1 w1 hb1 hE1 hs1 hz1=>?_;replace hc2:=hc2.ext hE1;replace hc3:=hc3.ext hE1;replace hc4:=hc4.ext hE1;replace hX:=hX.trans hE1;refine A1 rfl rfl rfl wB rfl hb1 rfl rfl λw2 hb2 hC1=>?_;replace hc2:=hc2.chg hC1 oM;replace hc3:=hc3.chg hC1 oM;replace hc4:=hc4.chg hC1 oM;replace hX:=hX.chg hC1 oM;have sz1:=hC1.size;refine Ac<|Dv ?_;have hr1:=hb2;refine DR mixed (A4 w2 [b1]) [(true,0),(true,1),(false,2),(false,3),(false,4)] kR kR rfl rfl λw3 hE2 hz2=>?_;have hKp:A4 w2 [b1] w3:=A4.cons hr1 hE2 (A4.nil _ _);refine⟨hKp,?_⟩;replace hc2:=hc2.ext hE2;replace hc3:=hc3.ext hE2;replace hc4:=hc4.ext hE2;replace hb2:=hb2.ext hE2;replace hX:=hX.trans hE2;refine A0 rfl (λ_ hS=>B9 rfl mU)<|A0 rfl (λ_ hS=>Db rfl I1 (hr1.keep hS (.head _)) rfl)<|EA<|A1 rfl rfl rfl Ds rfl hc2 rfl rfl λw4 hb3 hC2=>?_;replace hc3:=hc3.chg hC2 oM;replace hc4:=hc4.chg hC2 oM;replace hb2:=hb2.chg hC2 oM;replace hX:=hX.chg hC2 oM;replace hKp:=hKp.chg hC2 nM;have sz2:=hC2.size;refine Ac (GP hKp<|EA<|A1 rfl rfl rfl I1 rfl hc3 rfl rfl λw5 hb4 hC3=>?_);replace hb3:=hb3.chg hC3 oM;replace hc4:=hc4.chg hC3 oM;replace hb2:=hb2.chg hC3 oM;replace hX:=hX.chg hC3 oM;replace hKp:=hKp.chg hC3 nM;have sz3:=hC3.size;refine Ac (GP hKp<|EA<|A1 rfl rfl rfl Wr rfl hc4 rfl rfl λw6 hb5 hC4=>?_);replace hb3:=hb3.chg hC4 oM;replace hb4:=hb4.chg hC4 oM;replace hb2:=hb2.chg hC4 oM;replace hX:=hX.chg hC4 oM;replace hKp:=hKp.chg hC4 nM;have sz4:=hC4.size;exact Ac (GP hKp<|DT<|DI<|Gh (DE rfl)<|⟨hX,hb3,hb4,hb5⟩)
def uM(w w':World)(v:Value):Except (Int×Int×Int) (List AA)→Prop
 |.error e=>v=.tuple #[.slice none 0 0,.agg #[iV e.1,iV e.2.1],iV e.2.2]∧AR w w'
 |.ok toks=>∃ta tc,v=.tuple #[.slice ta toks.length tc,.agg #[iV 0,iV 0],iV 0]∧(Ci w' 78 5 ta tc toks.length (EV toks)∧∀b,rb ta=some b→w.heap.size≤b)∧AR w w'
theorem Pj(hPF:uW)(w:World)(hG:Gl w)(src:lU) :
  B3 prog 8 #[S src] w λv w'=>uM w w' v (Hl src):=by
 have hX:=AR.refl w;refine mM (l:=[S src]) func8 rfl rfl rfl<|BX<|C7<|CH rfl vX λb1 w1 hb1 hE1 hs1 hz1=>?_;replace hX:=hX.trans hE1;refine CH rfl TF λb2 w2 hb2 hE2 hs2 hz2=>?_;replace hb1:=hb1.ext hE2;replace hX:=hX.trans hE2;refine CH rfl xT λb3 w3 hb3 hE3 hs3 hz3=>?_;replace hb1:=hb1.ext hE3;replace hb2:=hb2.ext hE3;replace hX:=hX.trans hE3;refine Ac<|Dv<|BX<|BX<|C7<|Ab rfl (Ay rfl)<|Ab rfl (Mh rfl Jo)<|Ab rfl (aX rfl rfl)<|Ac<|Dv ?_;refine Oh rfl (λh1=>?_) (λh1=>?_);refine BX<|C7<|Ab rfl (D8 rfl mQ TF rfl)<|A1 rfl rfl rfl Ds rfl hb1 rfl rfl λw4 hb4 hC1=>?_;replace hb2:=hb2.chg hC1 oM;replace hb3:=hb3.chg hC1 oM;replace hX:=hX.chg hC1 oM;have sz1:=hC1.size;refine A1 rfl rfl rfl I1 rfl hb2 rfl rfl λw5 hb5 hC2=>?_;replace hb4:=hb4.chg hC2 oM;replace hb3:=hb3.chg hC2 oM;replace hX:=hX.chg hC2 oM;have sz2:=hC2.size;refine A1 rfl rfl rfl Wr rfl hb3 rfl rfl λw6 hb6 hC3=>?_;replace hb4:=hb4.chg hC3 oM;replace hb5:=hb5.chg hC3 oM;replace hX:=hX.chg hC3 oM;have sz3:=hC3.size;exact Ac<|Dv<|Jw<|V9<|λtmps hσ=>BS hσ (Ed rfl (Bp rfl Ds hb4 rfl) (Ae rfl I1 hb5 rfl) (Bp rfl Wr hb6 rfl)) ⟨_,rfl,by rw[Hl,if_pos h1];exact⟨rfl,hX⟩⟩;refine HO<|Dv<|BX<|C7<|Ab rfl (Va rfl)<|OY rfl ?_;have hlen:src.length≤65536:=by have:=of_decide_eq_false h1;omega
 refine Ac<|Dv<|BX ?_;have hb1B:=hb1;have hb2B:=hb2;have hb3B:=hb3;have hX0:=hX;refine C7<|Ab rfl (Ay rfl)<|Ab rfl (D8 rfl mQ TF rfl)<|Ab rfl (D8 rfl wK vY rfl)<|DU rfl rfl rfl λb4 w7 hb7 hE4 hs4 hz4=>?_;replace hb1:=hb1.ext hE4;replace hb2:=hb2.ext hE4;replace hb3:=hb3.ext hE4;replace hX:=hX.trans hE4;refine Ab rfl (CX rfl)<|Ac<|Dv<|BX<|DX ?_;refine DO (λk σ ds w'=>∃(j n:Nat)(q:Ps)(toks:List AA)(ta:Option Addr)(tc:Nat),k=src.length-j∧ds=[{target:=.fn (.func 26) ([pB b1,pB b2,pB b3]:List Value).toArray,args:=#[]}]∧σ=(E4 2 (pB b1) 3 (pB b2) 4 (pB b3) 5 (pB b4))∧j≤src.length∧src.length≤j+n∧Pk j q∧toks.length≤j∧DJ (src.length+1) src.length (1,1) src=T6 toks (DJ (src.length+1) n q (src.drop j))∧AM w' b4 [S src,iV ((j:Nat):Int),iV q.1,iV q.2,(.slice ta toks.length tc)] 76∧Ci w' 78 5 ta tc toks.length (EV toks)∧(∀x,rb ta=some x→w3.heap.size≤x∧x≠b4)∧AR w3 w') src.length (E4 2 (pB b1) 3 (pB b2) 4 (pB b3) 5 (pB b4)) lE ⟨0,src.length,(1,1),[],none,0,rfl,rfl,rfl,oM,oM,⟨dC,dC,dC,dC⟩,by simp,(Yx _).symm,hb7,Gy _ _ _,(λx hx=>by cases hx),hE4⟩ ?_;rintro _ _ _ wl ⟨j,n,q,toks,ta,tc,rfl,rfl,rfl,hjl,hn,hq,htl,hm,hscl,hrow,hlow,hXB⟩;have szl:=hXB.size;have lts:=hscl.lt;replace hX:=hX0.trans hXB;have hb1Bl:=hb1B.ext hXB;have hb2Bl:=hb2B.ext hXB;have hb3Bl:=hb3B.ext hXB;refine BX<|BX<|C7<|Ab rfl (Ay rfl)<|A3 rfl (Aw Sm rfl rfl) (HL _ b4 src j q (.slice ta toks.length tc) hscl) ?_;rintro _ w8 ⟨rfl,hE5⟩;replace hb1Bl:=hb1Bl.ext hE5;replace hb2Bl:=hb2Bl.ext hE5;replace hb3Bl:=hb3Bl.ext hE5;replace hscl:=hscl.ext hE5;replace hrow:=hrow.ext hE5;replace hX:=hX.trans hE5;replace hXB:=hXB.trans hE5;have sz4:=hE5.size;refine Ac<|Dv<|Oh rfl (λh2=>?_) (λh2=>?_);refine HO<|Dv<|DX<|C7<|Ab rfl (Ay rfl) ?_;obtain⟨c,hc⟩:=JO (show j<src.length by have:=of_decide_eq_true h2;omega);obtain⟨n,rfl⟩:∃n1,n=n1+1:=⟨n-1,by have:=Cj hc;omega⟩;refine Cf rfl (Aw rH rfl rfl) (W7 hPF w3 _ (hG.ext hX0) hXB b4 oM src j q toks ta tc hscl hrow hlow c hc hq hlen htl) ?_ (λcc wp hcc tmps hσ=>by obtain⟨e,he,rfl,hE⟩:=hcc;have sz:=hE.size;exact F4 (by simp) iN (Uc w wp (hX0.trans hE) b1 b2 b3 _ _ _ _ (hb1B.ext hE) (hb2B.ext hE) (hb3B.ext hE) oM oM oM oM oM oM e) (λwz hz=>by rw[JX];obtain⟨h1,h2,h3,h4⟩:=hz;exact BS hσ (Ed rfl (Bp rfl Ds h2 rfl) (Ae rfl I1 h3 rfl) (Bp rfl Wr h4 rfl)) ⟨_,rfl,by rw[Hl,if_neg (by rw[decide_eq_true_eq];omega),hm,W1 hc he,T6];exact⟨rfl,h1⟩⟩));rintro _ w9 ⟨ot,i1,p1,ta1,tc1,hst,rfl,hsc2,hrow2,hlow2,hX2,hi1,hi2,hp1⟩;have hot:(toks++ot).length≤i1:=by have:=OJ hst;rw[List.length_append];omega
 have hm2:=UU hc hst hm;refine Ac<|DI<|Hj (src.length-i1) (E4 2 (pB b1) 3 (pB b2) 4 (pB b3) 5 (pB b4)) oM lE ⟨i1,n,p1,toks++ot,ta1,tc1,rfl,rfl,rfl,hi2,oM,hp1,hot,hm2,hsc2,hrow2,hlow2,hX2⟩;refine K6<|VW<|N1<|O9<|Dv<|BX<|C7<|Ab rfl (Ay rfl)<|Ab rfl (Bw rfl)<|Ab rfl (B9 rfl CQ) ?_;refine Ab rfl (Al rfl Ds hscl rfl)<|Ab rfl (D8 rfl mQ TF rfl)<|A1 rfl rfl rfl Ds rfl hb1Bl rfl rfl λw10 hb8 hC4=>?_;replace hb2Bl:=hb2Bl.chg hC4 oM;replace hb3Bl:=hb3Bl.chg hC4 oM;replace hscl:=hscl.chg hC4 oM;replace hrow:=Ci.chg hrow hC4 (λe=>by have:=hlow _ e;omega);replace hX:=hX.chg hC4 oM;clear hXB;have sz5:=hC4.size;refine A1 rfl rfl rfl I1 rfl hb2Bl rfl rfl λw11 hb9 hC5=>?_;replace hb8:=hb8.chg hC5 oM;replace hb3Bl:=hb3Bl.chg hC5 oM;replace hscl:=hscl.chg hC5 oM;replace hrow:=Ci.chg hrow hC5 (λe=>by have:=hlow _ e;omega);replace hX:=hX.chg hC5 oM;have sz6:=hC5.size;refine A1 rfl rfl rfl Wr rfl hb3Bl rfl rfl λw12 hb10 hC6=>?_;replace hb8:=hb8.chg hC6 oM;replace hb9:=hb9.chg hC6 oM;replace hscl:=hscl.chg hC6 oM;replace hrow:=Ci.chg hrow hC6 (λe=>by have:=hlow _ e;omega);replace hX:=hX.chg hC6 oM;have sz7:=hC6.size;refine Ac<|Dv<|Jw ?_;intro tmps hσ;refine F4 (by simp) iN (Sw _ b1 b2 b3) λwz hz=>?_;have hlx:Hl src=.ok toks:=by rw[Hl,if_neg (by rw[decide_eq_true_eq];omega),hm,ID (by have:=of_decide_eq_false h2;omega),G3];simp[T6]
 refine BS hσ (Ed rfl (Bp rfl Ds (hb8.ext hz) rfl) (Ae rfl I1 (hb9.ext hz) rfl) (Bp rfl Wr (hb10.ext hz) rfl)) ⟨_,rfl,?_⟩;rw[hlx];exact⟨ta,tc,rfl,⟨hrow.ext hz,λx hx=>by have:=hlow x hx;omega⟩,hX.trans hz⟩
end Go.Proofs.YtkahkniflkadoaaGreatDoor
namespace Go.SP
open Go.SW Go.RowKit
def Hd(l:lU):Prop:=∀c∈l,48≤c.toNat∧c.toNat≤57
def FV(b:lU):Bool→lU→Prop
 |false,rest=>∃a2,rest=a2++46::b∧Hd a2
 |true,rest=>Hd rest∧rest.length≤b.length
variable {dot:Bool}
theorem FV.cons{b r:lU}{c:UInt8}(h:FV b dot (c::r)):(c=46∧dot=false∧r=b)∨((48≤c.toNat∧c.toNat≤57)∧FV b dot r):=by
 cases dot with
 |false =>
   obtain⟨a2,h1,h2⟩:=h
   cases a2 with
   |nil=>left;simp at h1;exact⟨h1.1,rfl,h1.2⟩
   |cons d a3 =>
     right
     simp at h1;exact⟨h1.1▸h2 d (.head _),a3,h1.2,λx hx=>h2 x (.tail _ hx)⟩
 |true=>exact .inr ⟨h.1 c (.head _),λx hx=>h.1 x (.tail _ hx),by have:=h.2;simp only[List.length_cons] at this;omega⟩
theorem FV.nil{b:lU}(h:FV b dot []):dot=true:=by
 cases dot with
 |false=>obtain⟨a2,h1,_⟩:=h;cases a2 <;> cases h1
 |true=>rfl
def IZ(l:lU):lU:=l.filter (λc=>c != 46)
theorem Uh{l:lU}(h:Hd l):IZ l=l:=by
 unfold IZ;rw[List.filter_eq_self];intro c hc;have:=h c hc;have h2:c≠46:=λe=>by subst e;revert this;decide
 simpa using h2
theorem Ip{c:UInt8}{l:lU}(h:48≤c.toNat∧c.toNat≤57):IZ (c::l)=c::IZ l:=by
 unfold IZ;rw[List.filter_cons_of_pos];have h2:c≠46:=λe=>by subst e;revert h;decide
 simpa using h2
theorem OD(l:lU):IZ (46::l)=IZ l:=by
 unfold IZ;rw[List.filter_cons_of_neg];simp
theorem Xq{a b:lU}(ha:Hd a)(hb:Hd b):IZ (a++46::b)=a++b:=by
 induction a with
 |nil=>rw[List.nil_append,OD,Uh hb,List.nil_append]
 |cons c a ih=>rw[List.cons_append,Ip (ha c (.head _)),ih λx hx=>ha x (.tail _ hx)];rfl
theorem M4(n:Nat)(c:UInt8)(l:lU):CP n (c::l)=CP (n*10+(c.toNat-48)) l:=by conv=>lhs;unfold CP
theorem Z2(n:Nat):CP n []=n:=by conv=>lhs;unfold CP
theorem Ph:∀(l:lU)(n:Nat),n≤CP n l
 | [],n=>Nat.le_refl _
 |c::l,n=>by
   have:=Ph l (n*10+(c.toNat-48));rw[M4];omega
theorem VS:∀(l:lU)(n:Nat),Hd l→CP n l<(n+1)*10 ^ l.length
 | [],n,_=>by
   rw[Z2,List.length_nil,Nat.pow_zero];omega
 |c::l,n,h=>by
   have h1:=h c (.head _);have:=VS l (n*10+(c.toNat-48)) λx hx=>h x (.tail _ hx);rw[M4,List.length_cons,Nat.pow_succ];refine Nat.lt_of_lt_of_le this ?_;have h2:n*10+(c.toNat-48)+1≤(n+1)*10:=oM
   calc (n*10+(c.toNat-48)+1)*10 ^ l.length≤(n+1)*10*10 ^ l.length:=Nat.mul_le_mul_right _ h2
     _=(n+1)*(10 ^ l.length*10):=by rw[Nat.mul_assoc,Nat.mul_comm 10]
theorem Ny{l:lU}(h:Hd l)(hl:l.length≤15):CP 0 l<1000000000000000:=by
 have h1:=VS l 0 h;have h2:10 ^ l.length≤10 ^ 15:=Nat.pow_le_pow_right dC hl;have h3:(10:Nat) ^ 15=1000000000000000:=dC;omega
theorem vC:∀n:Fin 58,46≤n.val→IntKind.u8.wrap (BitVec.ofInt 8 (n.val:Int) ||| BitVec.ofInt 8 32).toNat=(n.val:Int):=dC
theorem eI{z:lU}(h:(Lib.cut z [46]).2.2=true):z=(Lib.cut z [46]).1++46::(Lib.cut z [46]).2.1:=by
 unfold Lib.cut at h ⊢
 split at h
 · rename_i h0
   rw[if_pos h0];rcases Lib.index_spec z [46] with ⟨h1,_⟩|⟨i,h1,h2,h3,_⟩
   · omega
   · simp only[h1,Int.toNat_natCast,List.length_cons,List.length_nil]
     unfold Lib.occAt at h3
     cases hd:z.drop i with
     |nil=>rw[hd] at h3;cases h3
     |cons c t =>
       rw[hd] at h3
       have hc:c=46:=by
         have h4:(46:UInt8)=c:=by simpa[List.isPrefixOf] using h3
         exact h4.symm
       have ht:z.drop (i+(0+1))=t:=by
         rw[← List.drop_drop,hd];rfl
       rw[ht,← hc,← hd,List.take_append_drop]
 · cases h
theorem Qe{s a b:lU}(h:Hz s=some (a,b)):Hd a∧Hd b∧a≠[]∧b≠[]∧a.length+b.length≤15∧Bh s=a++46::b:=by
 unfold Hz at h;simp only at h
 split at h
 · rename_i hc
   simp only[Bool.and_eq_true,decide_eq_true_eq] at hc;obtain⟨h1,h2,h3,h4⟩:=hc;simp only[Option.some.injEq,Prod.mk.injEq] at h;obtain⟨rfl,rfl⟩:=h;have d1:=Gw h2;have d2:=Gw h3;exact⟨d1.2,d2.2,by simpa using d1.1,by simpa using d2.1,oM,eI h1⟩
 · cases h
end Go.SP
namespace Go.SP
variable {j:Nat}
theorem J2{s r:lU}{c:UInt8}(h:s.drop j=c::r):s.drop (j+1)=r:=by
 rw[← List.drop_drop,h];rfl
theorem PF{s r:lU}{c:UInt8}(h:s.drop j=c::r):s[j]?=some c:=by
 have:(s.drop j)[0]?=some c:=by rw[h];rfl
 simpa using this
theorem W6(o:Nat){s a b:lU}(ha:Hd a)(hne:a≠[])(hs:s.drop o=a++46::b):∃c,s[((o:Int)+1).toNat]?=some c∧46≤c.toNat∧c.toNat≤57:=by
 have e:((o:Int)+1).toNat=o+1:=oM;rw[e];rcases a with _|⟨x,_|⟨y,a⟩⟩
 · exact absurd rfl hne
 · exact⟨46,PF (r:=b) (J2 (c:=x) (by simpa using hs)),dC,dC⟩
 · have:=ha y (.tail _ (.head _))
   exact⟨y,PF (r:=a++46::b) (J2 (c:=x) (by simpa using hs)),oM,oM⟩
end Go.SP
namespace Go.SP
open Ieee
theorem WS{k:Nat}{d e:Datum}(h1:d.isNaN=false)(h2:e.isNaN=false∧e.isInfinity=false∧e.isZero=false):∃r,d.quotient k e=some r:=by
 obtain⟨h2,h3,h4⟩:=h2
 cases d with
 |nan s t=>cases h1
 |infinity s=>cases e with
   |nan s t=>cases h2
   |infinity s=>cases h3
   |number s m p=>exact⟨_,rfl⟩
 |number s m p=>cases e with
   |nan s t=>cases h2
   |infinity s=>cases h3
   |number s' m' p' =>
     cases m' with
     |zero=>cases h4
     |succ m'=>exact⟨_,rfl⟩
theorem Xb{x:Nat}(h:x % 9223372036854775808≤9218868437227405312):(double.read x).isNaN=false:=by
 unfold Format.read;simp only[show double.signWeight=9223372036854775808 from by decide,show double.infRung=9218868437227405312 from by decide]
 split
 · rfl
 · split
   · rfl
   · split
     · rfl
     · omega
theorem PY(m:Nat):FloatKind.f64.nearest (m:Int)≤9218868437227405312:=by
 unfold FloatKind.nearest FloatKind.encode;have hn:decide ((m:Int)<0)=false:=by simp
 rw[hn];show double.nearest false m 0≤_;unfold Format.nearest
 split
 · decide
 · simp only[Format.word,Bool.false_eq_true,if_false]
   exact Nat.le_trans (Nat.min_le_right _ _) dC
theorem ZH{x:Nat}(h:x≤9218868437227405312):Op.negFloat .f64 x % 9223372036854775808=x:=by
 have e:(9223372036854775808:Nat)=2 ^ 63:=dC;have e2:(FloatKind.f64.format.exponentBits+FloatKind.f64.format.fractionBits)=63:=dC;unfold Op.negFloat;rw[e,e2,Nat.xor_mod_two_pow,Nat.mod_self,Nat.xor_zero,Nat.mod_eq_of_lt (by omega)]
theorem Z1:∀n:Fin 15,(double.read (Gk.getD n.val 0)).isNaN=false∧(double.read (Gk.getD n.val 0)).isInfinity=false∧(double.read (Gk.getD n.val 0)).isZero=false:=by decide +kernel
theorem R7(neg:Bool)(m n:Nat)(hn:n<15):∃r,FloatKind.f64.format.div (if neg then Op.negFloat .f64 (FloatKind.f64.nearest (m:Int)) else FloatKind.f64.nearest (m:Int)) (Gk.getD n 0)=some r:=by
 have h1:=PY m
 have h2:(double.read (if neg then Op.negFloat .f64 (FloatKind.f64.nearest (m:Int)) else FloatKind.f64.nearest (m:Int))).isNaN=false:=by
   apply Xb
   cases neg with
   |true=>rw[if_pos rfl,ZH h1];exact h1
   |false=>rw[if_neg (by decide),Nat.mod_eq_of_lt (by omega)];exact h1
 obtain⟨r,hr⟩:=WS (k:=double.fractionBits+2) h2 (Z1 ⟨n,hn⟩);exact⟨double.write r,congrArg (Option.map double.write) hr⟩
end Go.SP
namespace Go.SP
variable {n:Nat}
theorem Td(h:n<15):Gk[n]?=some (Gk.getD n 0):=by
 have hl:n<Gk.length:=h;rw[List.getD_eq_getElem?_getD,List.getElem?_eq_getElem hl];rfl
end Go.SP
namespace Go.Proofs.YtkahkniflkadoaaGreatDoor
open Go.SW Go.SP Go.RowKit Go.Proofs.Tryz
theorem aJ(w:World)(c:UInt8)(r:lU)(hc:48≤c.toNat∧c.toNat≤57) :
  B3 prog 191 #[S (c::r),S [105,110,102,105,110,105,116,121]] w λv w'=>v=iV 0∧AR w w':=by
 have hX:=AR.refl w;refine enter func191 rfl rfl rfl<|AQ [] 11 [] (Ar _) (λ_=>Ab rfl (fZ rfl rfl)<|AK [.sq _] 10 [] (Ar _) (λ_=>?_));refine DO (λk σ ds w'=>k=1∧ds=[]∧σ=(E4 0 (S (c::r)) 1 (S [105,110,102,105,110,105,116,121]) 5 (iV (if (((c::r).length:Nat):Int)<(([105,110,102,105,110,105,116,121]:lU).length:Int) then (((c::r).length:Nat):Int) else (([105,110,102,105,110,105,116,121]:lU).length:Int))) 6 (iV 0))∧AR w w') 1 (E4 0 (S (c::r)) 1 (S [105,110,102,105,110,105,116,121]) 5 (iV (if (((c::r).length:Nat):Int)<(([105,110,102,105,110,105,116,121]:lU).length:Int) then (((c::r).length:Nat):Int) else (([105,110,102,105,110,105,116,121]:lU).length:Int))) 6 (iV 0)) lE ⟨rfl,rfl,rfl,hX⟩ ?_;rintro _ _ _ wl ⟨rfl,rfl,rfl,hX⟩;refine AQ [] 8 [] (Ar _) (λ_=>sP 15 rfl (λh1=>?_) (λh1=>?_));refine AQ [.sq _] 9 [] (Ar _) (λ_=>Ab rfl (Dw (c:=c) rfl rfl Jo dC rfl)<|AK [.sq _,.bk _,.sq _] 9 [] (Ar _) (λ_=>sL 23 rfl (λh2=>?_) (λh2=>?_)))
 ·
  exfalso;have h9:=of_decide_eq_true h2;omega
 refine AK [.sq _,.sq _,.bk _,.sq _] 13 [] (Ar _) (λ_=>Ab rfl (Dw (c:=105) rfl rfl Jo dC rfl)<|AK [.sq _,.bk _,.sq _] 3 [] (Ar _) (λ_=>sP 33 rfl (λh3=>?_) (λh3=>?_)));exact AQ [.bk _,.sq _] 10 [] (Ar _) (λ_=>WU<|JM [.bk _,.sq _] 2 [] (Ar _) (λ_=>Bm (AB rfl (Ak rfl))<|⟨rfl,hX⟩))
 ·
  exfalso;exact absurd (show (c.toNat:Int)=105 by simpa using h3) oM
 ·
  exfalso;have h9:=of_decide_eq_false h1;revert h9;simp only[List.length_cons,List.length_nil];split <;> omega
theorem S3(w:World)(c:UInt8)(r:lU)(hc:48≤c.toNat∧c.toNat≤57) :
  B3 prog 177 #[S (c::r)] w λv w'=>v=.tuple #[.float .f64 0,iV 0,.bool false]∧AR w w':=by
 have hX:=AR.refl w;refine enter func177 rfl rfl rfl<|AQ [] 15 [] (Ar _) (λ_=>sP 10 rfl (λh1=>?_) (λh1=>?_))
 ·
  exfalso;have h9:=(beq_iff_eq).1 h1;simp only[List.length_cons] at h9;omega
 refine AQ [.sq _] 17 [] (Ar _) (λ_=>Ab rfl (Dw (c:=c) rfl rfl Jo dC rfl)<|AK [.sq _,.sq _] 18 [] (Ar _) (λ_=>sP 13 rfl (λh2=>?_) (λh2=>?_)))
 ·
  exfalso;have h9:=(beq_iff_eq).1 h2;omega
 refine AQ [.sq _,.sq _,.sq _,.bk _,.sq _,.bk _,.sq _,.bk _,.sq _,.bk _,.sq _] 6 [] (Ar _) (λ_=>sP 13 rfl (λh3=>?_) (λh3=>?_))
 ·
  exfalso;have h9:=(beq_iff_eq).1 h3;omega
 refine AQ [.sq _,.sq _,.bk _,.sq _,.bk _,.sq _,.bk _,.sq _,.bk _,.sq _] 11 [] (Ar _) (λ_=>sP 16 rfl (λh4=>?_) (λh4=>?_))
 ·
  exfalso;have h9:=(beq_iff_eq).1 h4;omega
 refine AQ [.sq _,.sq _,.sq _,.bk _,.sq _,.bk _,.sq _,.bk _,.sq _,.bk _,.sq _] 6 [] (Ar _) (λ_=>sP 16 rfl (λh5=>?_) (λh5=>?_))
 ·
  exfalso;have h9:=(beq_iff_eq).1 h5;omega
 refine AQ [.sq _,.sq _,.bk _,.sq _,.bk _,.sq _,.bk _,.sq _,.bk _,.sq _] 10 [] (Ar _) (λ_=>sP 19 rfl (λh6=>?_) (λh6=>?_))
 ·
  exfalso;have h9:=(beq_iff_eq).1 h6;omega
 refine AQ [.sq _,.sq _,.bk _,.sq _,.bk _,.sq _,.bk _,.sq _,.bk _,.sq _] 6 [] (Ar _) (λ_=>sP 19 rfl (λh7=>?_) (λh7=>?_))
 ·
  exfalso;have h9:=(beq_iff_eq).1 h7;omega
 exact AQ [.sq _,.bk _,.sq _,.bk _,.sq _,.bk _,.sq _,.bk _,.sq _] 20 [] (Ar _) (λ_=>Bm (Ed rfl (Ak rfl) (Ak rfl) (Ak rfl))<|⟨rfl,hX⟩)
theorem RF(w:World)(c:UInt8)(r:lU)(hc:48≤c.toNat∧c.toNat≤57) :
  B3 prog 177 #[S (45::c::r)] w λv w'=>v=.tuple #[.float .f64 0,iV 0,.bool false]∧AR w w':=by
 have hX:=AR.refl w;refine enter func177 rfl rfl rfl<|AQ [] 15 [] (Ar _) (λ_=>sP 10 rfl (λh1=>?_) (λh1=>?_))
 ·
  exfalso;have h9:=(beq_iff_eq).1 h1;simp only[List.length_cons] at h9;omega
 refine AQ [.sq _] 17 [] (Ar _) (λ_=>Ab rfl (Dw (c:=45) rfl rfl Jo dC rfl)<|AK [.sq _,.sq _] 34 [] (Ar _) (λ_=>Ab rfl (Dw (c:=45) rfl rfl Jo dC rfl)<|AK [.sq _,.sq _,.bk _,.sq _,.bk _,.sq _,.bk _,.sq _] 15 [] (Ar _) (λ_=>Ab rfl (LR rfl rfl Jo)<|AK [.bk _,.sq _,.bk _,.sq _,.bk _,.sq _] 8 [] (Ar _) (λ_=>A3 rfl (Aw kG rfl rfl) (aJ _ c r hc) ?_))));rintro _ w1 ⟨rfl,hE1⟩;replace hX:=hX.trans hE1;have sz1:=hE1.size;exact AK [.sq _,.sq _,.bk _,.sq _,.bk _,.sq _] 43 [] (Ar _) (λ_=>Bm (Ed rfl (Ak rfl) (Ak rfl) (Ak rfl))<|⟨rfl,hX⟩)
theorem Ue(w:World)(c:UInt8)(hc:46≤c.toNat∧c.toNat≤57) :
  B3 prog 166 #[.int .u8 c.toNat] w λv w'=>v=.int .u8 c.toNat∧AR w w':=by
 have hX:=AR.refl w;exact enter func166 rfl rfl rfl<|AQ [] 8 [] (Ar _) (λ_=>Ab rfl (XV (c.toNat:Int) rfl rfl (vC ⟨c.toNat,oM⟩ hc.1))<|AK [.sq _] 4 [] (Ar _) (λ_=>Bm (AB rfl (Ak rfl))<|⟨rfl,hX⟩))
theorem MB(w:World)(s:lU)(a b:lU)(ha:Hd a)(hb:Hd b)(hane:a≠[])(hbne:b≠[])(hab:a.length+b.length≤15)(neg:Bool)(hs:s=(bif neg then [45] else [])++(a++46::b)) :
  B3 prog 178 #[S s] w λv w'=>v=.tuple #[.int .u64 (CP 0 (a++b):Int),iV (if CP 0 (a++b)=0 then 0 else -(b.length:Int)),.bool neg,.bool false,.bool false,iV (s.length:Int),.bool true]∧AR w w':=by
 have hal:1≤a.length:=List.length_pos_iff.2 hane;have hbl:1≤b.length:=List.length_pos_iff.2 hbne
 obtain⟨a0,ar,hae⟩:∃c r,a=c::r:=by
  cases a with
  |nil=>exact absurd rfl hane
  |cons c r=>exact⟨c,r,rfl⟩
 obtain⟨o,ho,ho1⟩:∃o,(bif neg then 1 else 0:Nat)=o∧o≤1:=⟨_,rfl,by cases neg <;> decide⟩;have hso:s.drop o=a++46::b:=by subst ho;rw[hs];cases neg <;> rfl
 have hlo:s.length=o+(a.length+(b.length+1)):=by subst ho;rw[hs];cases neg <;> simp <;> omega
 obtain⟨c0,hc0,hcn⟩:∃c:UInt8,s[0]?=some c∧(c.toNat=45∧neg=true∨(48≤c.toNat∧c.toNat≤57)∧neg=false):=by
  cases neg with
  |true=>exact⟨45,by rw[hs];rfl,.inl ⟨rfl,rfl⟩⟩
  |false=>exact⟨a0,by rw[hs,hae];rfl,.inr ⟨ha a0 (hae▸List.mem_cons_self),rfl⟩⟩
 have ha0:s[o]?=some a0:=by rw[← Nat.add_zero o,← List.getElem?_drop,hso,hae];rfl
 obtain⟨a1,ha1,ha1d⟩:=W6 (s:=s) (b:=b) o ha hane hso;have hX:=AR.refl w;refine enter func178 rfl rfl rfl<|AQ [] 11 [] (Ar _) (λ_=>Wz<|AQ [] 14 [] (Ar _) (λ_=>sP 24 rfl (λh1=>?_) (λh1=>?_)))
 ·
  exfalso;have h9:=of_decide_eq_true h1;omega
 refine AQ [.sq _] 3 [] (Ar _) (λ_=>P6 (E9 0 (S s) 2 (.int .u64 0) 3 (iV 0) 4 (.bool neg) 5 (.bool false) 6 (.bool false) 7 (iV (o:Int)) 8 (.bool false) 9 (.bool false)) (λw'=>AR w w') ?_ ?_);refine AQ [] 4 [] (Ar _) (λ_=>Ab rfl (Dw (c:=c0) rfl rfl Jo dC hc0)<|AK [.sq _] 9 [] (Ar _) (λ_=>sP 28 rfl (λh2=>?_) (λh2=>?_)))
 ·
  exfalso;have h9:=(beq_iff_eq).1 h2;omega
 refine AQ [.bk _] 7 [] (Ar _) (λ_=>sP 32 rfl (λh3=>?_) (λh3=>?_));refine AQ [.bk _] 2 [] (Ar _) (λ_=>?_);obtain rfl:neg=true:=by have h9:(c0.toNat:Int)=45:=(beq_iff_eq).1 h3;rcases hcn with h|h;exact h.2;omega
 subst ho;exact AQ [.sq _,.bk _] 2 [] (Ar _) (λ_=>Ab rfl (Mw (1) rfl rfl dC)<|AK [.sq _,.bk _] 7 [] (Ar _) (λ_=>Pg lE hX));obtain rfl:neg=false:=by have h9:¬(c0.toNat:Int)=45:=(by simpa using h3);rcases hcn with h|h;omega;exact h.2
 subst ho;exact AQ [.bk _] 3 [] (Ar _) (λ_=>Pg lE hX);rintro wl hX;refine AQ [] 15 [] (Ar _) (λ_=>P6 (rB 0 (S s) 2 (.int .u64 0) 3 (iV 0) 4 (.bool neg) 5 (.bool false) 6 (.bool false) 7 (iV (o:Int)) 8 (.bool false) 9 (.bool false) 10 (.int .u64 10) 11 (iV 19)) (λw'=>AR w w') ?_ ?_);refine AQ [] 8 [] (Ar _) (aI ⟨oM,oM⟩<|λ_=>sL 41 rfl (λh4=>?_) (λh4=>?_));refine AK [.sq _] 2 [] (Ar _) (λ_=>B6 rfl rfl rfl<|Ab rfl (Dw (c:=a0) rfl rfl Jo oM (by rw[Int.toNat_natCast];exact ha0))<|AK [.sq _] 3 [] (Ar _) (λ_=>sL 47 rfl (λh5=>?_) (λh5=>?_)));refine AK [.sq _] 3 [] (Ar _) (aI ⟨oM,oM⟩<|λ_=>B6 rfl rfl rfl<|Ab rfl (Dw (c:=a1) rfl rfl Jo oM ha1)<|B6 rfl rfl rfl<|A3 rfl (Aw kJ rfl rfl) (Ue _ a1 ha1d) ?_);rintro _ w1 ⟨rfl,hE1⟩;replace hX:=hX.trans hE1;have sz1:=hE1.size;refine AK [.sq _] 4 [] (Ar _) (λ_=>sP 54 rfl (λh6=>?_) (λh6=>?_))
 ·
  exfalso;have h9:=(beq_iff_eq).1 h6;omega
 exact AQ [] 2 [] (Ar _) (λ_=>Pg lE hX);exact AK [.sq _] 11 [] (Ar _) (λ_=>Pg lE hX)
 ·
  exfalso;have h9:=of_decide_eq_false h4;omega
 rintro wl hX;refine AQ [] 26 [] (Ar _) (λ_=>Xv<|JM [.sq _] 3 [] (Ar _) (λ_=>?_));refine DO (λk σ ds w'=>∃(j m nd:Nat)(dp:Int)(dot sd:Bool)(rest:lU),k=rest.length∧ds=[]∧σ=(pP 0 (S s) 2 (.int .u64 (m:Int)) 3 (iV 0) 4 (.bool neg) 5 (.bool false) 6 (.bool false) 7 (iV (j:Int)) 8 (.bool false) 9 (.bool false) 10 (.int .u64 10) 11 (iV 19) 13 (.bool dot) 14 (.bool sd) 15 (iV (nd:Int)) 16 (iV (nd:Int)) 17 (iV dp))∧s.drop j=rest∧j+rest.length=s.length∧FV b dot rest∧CP 0 (a++b)=CP m (IZ rest)∧(dot=true→dp=(nd:Int)-((b.length:Int)-rest.length))∧nd≤j ∧ -(j:Int)≤dp∧dp≤j∧(nd=0↔m=0)∧(sd=true∨rest=a++46::b)∧AR w w') (a++46::b).length (pP 0 (S s) 2 (.int .u64 ((0:Nat):Int)) 3 (iV 0) 4 (.bool neg) 5 (.bool false) 6 (.bool false) 7 (iV (o:Int)) 8 (.bool false) 9 (.bool false) 10 (.int .u64 10) 11 (iV 19) 13 (.bool false) 14 (.bool false) 15 (iV ((0:Nat):Int)) 16 (iV ((0:Nat):Int)) 17 (iV 0)) lE ⟨o,0,0,0,false,false,a++46::b,rfl,rfl,rfl,hso,by rw[hlo];simp <;> omega,⟨a,rfl,ha⟩,by rw[Xq ha hb],(λh=>by cases h),oM,oM,oM,by simp,.inr rfl,hX⟩ ?_;rintro _ _ _ wl ⟨j,m,nd,dp,dot,sd,rest,rfl,rfl,rfl,hdr,hjr,hfv,hdec,hdp,hnd,hd1,hd2,hnm,hsd,hX⟩;have hml:m<1000000000000000:=by have h1:=Ph (IZ rest) m;have h2:=Ny (l:=a++b) (λx hx=>(List.mem_append.1 hx).elim (ha x) (hb x)) (by rw[List.length_append];exact hab);omega
 have hsl:s.length≤17:=oM;refine AQ [] 9 [] (Ar _) (λ_=>sP 60 rfl (λh7=>?_) (λh7=>?_));refine AQ [.sq _] 7 [] (Ar _) (λ_=>?_);rcases rest with _|⟨c,r⟩
 · exfalso;have h9:=of_decide_eq_true h7;simp at hjr;omega
 have hcj:s[j]?=some c:=PF hdr;have hcl:=hfv.cons;have hc46:46≤c.toNat∧c.toNat≤57:=hcl.elim (λh=>by rw[h.1];decide) (λh=>by omega);refine AQ [.sq _,.sq _,.bk _,.sq _] 3 [] (Ar _) (λ_=>Ab rfl (Dw (c:=c) rfl rfl Jo oM (by rw[Int.toNat_natCast];exact hcj))<|AK [.sq _,.sq _,.bk _,.sq _] 8 [] (Ar _) (λ_=>Ab rfl (PX wF rfl rfl)<|AK [.sq _,.bk _,.sq _,.bk _,.sq _] 3 [] (Ar _) (λ_=>sP 66 rfl (λh8=>?_) (λh8=>?_))))
 ·
  exfalso;have h9:=(beq_iff_eq).1 h8;omega
 refine AQ [.bk _,.sq _,.bk _,.sq _] 5 [] (Ar _) (λ_=>Ab rfl (PX wF rfl rfl)<|AK [.sq _,.bk _,.sq _,.bk _,.sq _] 3 [] (Ar _) (λ_=>sP 70 rfl (λh9=>?_) (λh9=>?_)));refine AQ [.bk _,.sq _,.bk _,.sq _] 3 [] (Ar _) (λ_=>?_);have hc6:(c.toNat:Int)=46:=by simpa using h9
 obtain⟨hc6,hdf,hrb⟩:c=46∧dot=false∧r=b:=hcl.elim id (λh=>by omega);replace hrb:=hrb.symm;subst hdf hrb hc6;have hsd2:sd=true:=hsd.resolve_right (λh=>by cases a with|nil=>exact hane rfl|cons x a=>simp at h;have:=ha x (.head _);rw[← h.1] at this;revert this;decide);refine AQ [.sq _,.sq _,.bk _,.sq _,.bk _,.sq _] 28 [] (Ar _) (aI ⟨oM,oM⟩<|λ_=>Hj b.length (pP 0 (S s) 2 (.int .u64 (m:Int)) 3 (iV 0) 4 (.bool neg) 5 (.bool false) 6 (.bool false) 7 (iV ((j+1:Nat):Int)) 8 (.bool false) 9 (.bool false) 10 (.int .u64 10) 11 (iV 19) 13 (.bool true) 14 (.bool sd) 15 (iV (nd:Int)) 16 (iV (nd:Int)) 17 (iV (nd:Int))) (by simp) lE ⟨j+1,m,nd,(nd:Int),true,sd,b,rfl,rfl,rfl,J2 hdr,by simp only[List.length_cons] at hjr;omega,⟨hb,Nat.le_refl _⟩,by rw[hdec,OD],(λ_=>by omega),oM,oM,oM,hnm,.inl hsd2,hX⟩);refine AQ [.bk _,.sq _,.bk _,.sq _] 2 [] (Ar _) (λ_=>?_);have hn6:(c.toNat:Int)≠46:=by simpa using h9
 obtain⟨hcd,hfr⟩:(48≤c.toNat∧c.toNat≤57)∧FV b dot r:=hcl.elim (λh=>absurd (by rw[h.1];rfl) hn6) id;refine AQ [.sq _,.bk _,.sq _,.bk _,.sq _] 4 [] (Ar _) (λ_=>sL 79 rfl (λh10=>?_) (λh10=>?_));refine AK [.sq _,.bk _,.sq _,.bk _,.sq _] 3 [] (Ar _) (λ_=>Ab rfl (PX wF rfl rfl)<|AK [.sq _,.bk _,.sq _,.bk _,.sq _] 3 [] (Ar _) (λ_=>sP 76 rfl (λh11=>?_) (λh11=>?_)));refine AQ [.bk _,.sq _,.bk _,.sq _] 12 [] (Ar _) (λ_=>sL 86 rfl (λh12=>?_) (λh12=>?_));refine AK [.sq _,.sq _,.bk _,.sq _,.bk _,.sq _] 5 [] (Ar _) (λ_=>sP 89 rfl (λh13=>?_) (λh13=>?_));refine AQ [.sq _,.bk _,.sq _,.bk _,.sq _] 19 [] (Ar _) (aI ⟨oM,oM⟩<|aI ⟨oM,oM⟩<|λ_=>?_);have hm0:m=0:=hnm.1 (by have:=h13;simp at this;omega);have hc0:c.toNat=48:=by have:=h12;simp at this;omega
 refine Hj r.length (pP 0 (S s) 2 (.int .u64 (m:Int)) 3 (iV 0) 4 (.bool neg) 5 (.bool false) 6 (.bool false) 7 (iV ((j+1:Nat):Int)) 8 (.bool false) 9 (.bool false) 10 (.int .u64 10) 11 (iV 19) 13 (.bool dot) 14 (.bool true) 15 (iV (nd:Int)) 16 (iV (nd:Int)) 17 (iV (dp-1))) (by simp) lE ⟨j+1,m,nd,dp-1,dot,true,r,rfl,rfl,rfl,J2 hdr,by simp only[List.length_cons] at hjr;omega,hfr,by rw[hdec,Ip hcd,M4,hc0,hm0],(λh=>by have h1:=hdp h;simp only[List.length_cons] at h1;omega),oM,oM,oM,hnm,.inl rfl,hX⟩;refine AQ [.sq _,.bk _,.sq _,.bk _,.sq _] 4 [] (Ar _) (λ_=>?_)
 have hnz:¬(m*10+(c.toNat-48)=0):=by
  intro h9;have hm9:m=0:=oM;have hn9:=hnm.2 hm9;have h8:=h13;simp at h8;omega
 refine AQ [.sq _,.bk _,.sq _,.bk _,.sq _] 14 [] (Ar _) (aI ⟨oM,oM⟩<|λ_=>sP 96 rfl (λh14=>?_) (λh14=>?_));refine AQ [.sq _,.bk _,.sq _,.bk _,.sq _] 5 [] (Ar _) (λ_=>Ab rfl (Qw ((m:Int)*10) rfl rfl (Ho ⟨oM,oM⟩))<|AK [.sq _,.sq _,.bk _,.sq _,.bk _,.sq _] 7 [] (Ar _) (λ_=>Ab rfl (FE ((c.toNat:Int)-48) rfl rfl (Wb ⟨oM,oM⟩))<|Ab rfl (D1 (m:=(c.toNat:Int)-48) rfl Qc (Ho ⟨oM,oM⟩))<|Ab rfl (Mw ((m:Int)*10+((c.toNat:Int)-48)) rfl rfl (Ho ⟨oM,oM⟩))<|AK [.sq _,.sq _,.bk _,.sq _,.bk _,.sq _] 19 [] (Ar _) (aI ⟨oM,oM⟩<|aI ⟨oM,oM⟩<|λ_=>?_)));have hme:(m:Int)*10+((c.toNat:Int)-48)=((m*10+(c.toNat-48):Nat):Int):=oM;refine Hj r.length (pP 0 (S s) 2 (.int .u64 ((m*10+(c.toNat-48):Nat):Int)) 3 (iV 0) 4 (.bool neg) 5 (.bool false) 6 (.bool false) 7 (iV ((j+1:Nat):Int)) 8 (.bool false) 9 (.bool false) 10 (.int .u64 10) 11 (iV 19) 13 (.bool dot) 14 (.bool true) 15 (iV ((nd+1:Nat):Int)) 16 (iV ((nd+1:Nat):Int)) 17 (iV dp)) (by simp) (uO rfl (hme▸rfl) rfl rfl rfl rfl rfl rfl rfl rfl rfl rfl rfl rfl rfl rfl) ⟨j+1,m*10+(c.toNat-48),nd+1,dp,dot,true,r,rfl,rfl,rfl,J2 hdr,by simp only[List.length_cons] at hjr;omega,hfr,by rw[hdec,Ip hcd,M4],(λh=>by have h1:=hdp h;simp only[List.length_cons] at h1;omega),oM,oM,oM,⟨λh=>by omega,λh=>?_⟩,.inl rfl,hX⟩;exfalso;have hz:=hnz;omega
 ·
  exfalso;have h9:=of_decide_eq_false h14;omega
 refine AK [.sq _,.sq _,.bk _,.sq _,.bk _,.sq _] 9 [] (Ar _) (λ_=>?_)
 have hnz:¬(m*10+(c.toNat-48)=0):=by
  intro h9;have hm9:m=0:=oM;have hn9:=hnm.2 hm9;have h8:=h12;simp at h8;omega
 refine AQ [.sq _,.bk _,.sq _,.bk _,.sq _] 14 [] (Ar _) (aI ⟨oM,oM⟩<|λ_=>sP 96 rfl (λh15=>?_) (λh15=>?_));refine AQ [.sq _,.bk _,.sq _,.bk _,.sq _] 5 [] (Ar _) (λ_=>Ab rfl (Qw ((m:Int)*10) rfl rfl (Ho ⟨oM,oM⟩))<|AK [.sq _,.sq _,.bk _,.sq _,.bk _,.sq _] 7 [] (Ar _) (λ_=>Ab rfl (FE ((c.toNat:Int)-48) rfl rfl (Wb ⟨oM,oM⟩))<|Ab rfl (D1 (m:=(c.toNat:Int)-48) rfl Qc (Ho ⟨oM,oM⟩))<|Ab rfl (Mw ((m:Int)*10+((c.toNat:Int)-48)) rfl rfl (Ho ⟨oM,oM⟩))<|AK [.sq _,.sq _,.bk _,.sq _,.bk _,.sq _] 19 [] (Ar _) (aI ⟨oM,oM⟩<|aI ⟨oM,oM⟩<|λ_=>?_)));have hme:(m:Int)*10+((c.toNat:Int)-48)=((m*10+(c.toNat-48):Nat):Int):=oM;refine Hj r.length (pP 0 (S s) 2 (.int .u64 ((m*10+(c.toNat-48):Nat):Int)) 3 (iV 0) 4 (.bool neg) 5 (.bool false) 6 (.bool false) 7 (iV ((j+1:Nat):Int)) 8 (.bool false) 9 (.bool false) 10 (.int .u64 10) 11 (iV 19) 13 (.bool dot) 14 (.bool true) 15 (iV ((nd+1:Nat):Int)) 16 (iV ((nd+1:Nat):Int)) 17 (iV dp)) (by simp) (uO rfl (hme▸rfl) rfl rfl rfl rfl rfl rfl rfl rfl rfl rfl rfl rfl rfl rfl) ⟨j+1,m*10+(c.toNat-48),nd+1,dp,dot,true,r,rfl,rfl,rfl,J2 hdr,by simp only[List.length_cons] at hjr;omega,hfr,by rw[hdec,Ip hcd,M4],(λh=>by have h1:=hdp h;simp only[List.length_cons] at h1;omega),oM,oM,oM,⟨λh=>by omega,λh=>?_⟩,.inl rfl,hX⟩;exfalso;have hz:=hnz;omega
 ·
  exfalso;have h9:=of_decide_eq_false h15;omega
 ·
  exfalso;have h9:=of_decide_eq_false h11;omega
 ·
  exfalso;have h9:=of_decide_eq_false h10;omega
 refine AQ [.sq _] 3 [] (Ar _) (λ_=>N1<|JM [.bk _,.sq _] 4 [] (Ar _) (λ_=>?_));have hrn:rest=[]:=by cases rest with|nil=>rfl|cons x r=>exfalso;have h9:=of_decide_eq_false h7;simp only[List.length_cons] at hjr;omega
 subst hrn;have hdt:=hfv.nil;subst hdt;have hst:sd=true:=hsd.resolve_right (λh=>by cases a <;> cases h);subst hst;have hdp2:=hdp rfl;simp only[List.length_nil] at hdp2 hjr;have hM:CP 0 (a++b)=m:=by rw[hdec];exact Z2 m
 refine AQ [.sq _,.sq _] 36 [] (Ar _) (λ_=>sL 154 rfl (λDG=>?_) (λDG=>?_))
 ·
  exfalso;have h9:=of_decide_eq_true DG;omega
 refine AK [.sq _,.sq _] 26 [] (Ar _) (λ_=>sP 241 rfl (λh17=>?_) (λh17=>?_));exact AQ [.sq _] 30 [] (Ar _) (aI ⟨oM,oM⟩<|λ_=>gU<|Bm (hZ rfl (Ak rfl) (Ak rfl) (Ak rfl) (Ak rfl) (Ak rfl) (Ak rfl) (Ak rfl))<|⟨by rw[if_neg (by rw[hM];have h9:=h17;simp at h9;omega),hM,show dp-(nd:Int) = -(b.length:Int) by omega,show ((j:Nat):Int)=(s.length:Int) by omega],hX⟩);exact AQ [.sq _] 25 [] (Ar _) (λ_=>gU<|Bm (hZ rfl (Ak rfl) (Ak rfl) (Ak rfl) (Ak rfl) (Ak rfl) (Ak rfl) (Ak rfl))<|⟨by rw[if_pos (by rw[hM];have h9:=h17;simp at h9;omega),hM,show ((j:Nat):Int)=(s.length:Int) by omega],hX⟩)
theorem pD:Extern.findNext Tryz.f187=none:=kR
theorem kN:Extern.find Tryz.f187=some Extern.MathFloatBits.float64frombits:=kR
theorem TH:wW prog 149 181=some .f64:=kR
theorem Vg(w:World)(hG:Gl w)(m n:Nat)(neg:Bool)(hm:m<1000000000000000)(hn:1≤n∧n≤14) :
  B3 prog 188 #[.int .u64 (m:Int),iV (-(n:Int)),.bool neg] w λv w'=>v=.tuple #[.float .f64 ((FloatKind.f64.format.div (if neg then Op.negFloat .f64 (FloatKind.f64.nearest (m:Int)) else FloatKind.f64.nearest (m:Int)) (Gk.getD n 0)).getD 0),.bool true]∧AR w w':=by
 obtain⟨pb,po,pn,pc,hp1,hp2,hp3⟩:=hG.pow10;have hX:=AR.refl w;refine enter func188 rfl rfl rfl<|AQ [] 11 [] (Ar _) (λ_=>Ab rfl (HM rfl sQ (hG.ext hX).finfo)<|Ab rfl (Vy 0 rfl rfl dC (by rw[show min (52:Int).toNat IntKind.u64.bits=52 by decide,Ry,Nat.div_eq_of_lt (by omega)];rfl))<|AK [.sq _,.sq _] 9 [] (Ar _) (λ_=>Ab rfl (oC rfl TH)<|AK [.sq _] 9 [] (Ar _) (λ_=>sP 15 rfl (λh1=>?_) (λh1=>?_))));refine AQ [.sq _] 3 [] (Ar _) (λ_=>Ab rfl (fP rfl)<|AK [.sq _] 12 [] (Ar _) (λ_=>sP 18 rfl (λh2=>?_) (λh2=>?_)))
 ·
  exfalso;have h9:=(beq_iff_eq).1 h2;omega
 refine AQ [.bk _,.sq _] 6 [] (Ar _) (λ_=>sL 25 rfl (λh3=>?_) (λh3=>?_))
 ·
  exfalso;have h9:=of_decide_eq_true h3;omega
 refine AK [.sq _,.bk _,.sq _] 12 [] (Ar _) (λ_=>sL 53 rfl (λh4=>?_) (λh4=>?_));refine AK [.sq _,.bk _,.sq _] 6 [] (Ar _) (λ_=>sP 50 rfl (λh5=>?_) (λh5=>?_));refine AQ [.bk _,.sq _] 2 [] (Ar _) (λ_=>?_);obtain⟨r,hr⟩:=R7 neg m n oM;rw[h1] at hr;simp only[Bool.false_eq_true,if_true,if_false] at hr;have hpn:=Td (show n<15 by omega);refine AQ [.sq _,.bk _,.sq _] 2 [] (Ar _) (λ_=>Ab rfl (HM rfl iY (Et hp1 hX))<|Ab rfl (Ay rfl)<|Ab rfl (KJ (n:Int) rfl (by rw[J1 ⟨by omega,by omega⟩];omega))<|Ab rfl (Kf (i:=n) rfl rfl iI oM)<|Ab rfl (HM rfl iF (by rw[Nat.mul_one];exact Et (hp3 n _ hpn) hX))<|Ab rfl (VG rfl rfl hr)<|AK [.sq _,.bk _,.sq _] 7 [] (Ar _) (λ_=>Bm (Cn rfl (Ak rfl) (Ak rfl))<|⟨?_,hX⟩));rw[h1];simp only[Bool.false_eq_true,if_true,if_false];rw[hr];rfl
 ·
  exfalso;have h9:=of_decide_eq_false h5;omega
 ·
  exfalso;have h9:=of_decide_eq_false h4;omega
 refine AQ [.sq _] 12 [] (Ar _) (λ_=>sP 18 rfl (λh6=>?_) (λh6=>?_))
 ·
  exfalso;have h9:=(beq_iff_eq).1 h6;omega
 refine AQ [.bk _,.sq _] 6 [] (Ar _) (λ_=>sL 25 rfl (λh7=>?_) (λh7=>?_))
 ·
  exfalso;have h9:=of_decide_eq_true h7;omega
 refine AK [.sq _,.bk _,.sq _] 12 [] (Ar _) (λ_=>sL 53 rfl (λh8=>?_) (λh8=>?_));refine AK [.sq _,.bk _,.sq _] 6 [] (Ar _) (λ_=>sP 50 rfl (λh9=>?_) (λh9=>?_));refine AQ [.bk _,.sq _] 2 [] (Ar _) (λ_=>?_);obtain⟨r,hr⟩:=R7 neg m n oM;rw[h1] at hr;simp only[Bool.false_eq_true,if_true,if_false] at hr;have hpn:=Td (show n<15 by omega);refine AQ [.sq _,.bk _,.sq _] 2 [] (Ar _) (λ_=>Ab rfl (HM rfl iY (Et hp1 hX))<|Ab rfl (Ay rfl)<|Ab rfl (KJ (n:Int) rfl (by rw[J1 ⟨by omega,by omega⟩];omega))<|Ab rfl (Kf (i:=n) rfl rfl iI oM)<|Ab rfl (HM rfl iF (by rw[Nat.mul_one];exact Et (hp3 n _ hpn) hX))<|Ab rfl (VG rfl rfl hr)<|AK [.sq _,.bk _,.sq _] 7 [] (Ar _) (λ_=>Bm (Cn rfl (Ak rfl) (Ak rfl))<|⟨?_,hX⟩));rw[h1];simp only[Bool.false_eq_true,if_true,if_false];rw[hr];rfl
 ·
  exfalso;have h9:=of_decide_eq_false h9;omega
 ·
  exfalso;have h9:=of_decide_eq_false h8;omega
theorem Tp(w:World)(neg:Bool) :
  B3 prog 186 #[.bool neg] w λv w'=>v=.int .u64 (if neg then 1 else 0)∧AR w w':=by
 have hX:=AR.refl w;refine enter func186 rfl rfl rfl<|AQ [] 11 [] (Ar _) (λ_=>sP 3 rfl (λh1=>?_) (λh1=>?_));exact AQ [.sq _] 8 [] (Ar _) (λ_=>Bm (AB rfl (Ak rfl))<|⟨by rw[h1];rfl,hX⟩);exact AQ [.sq _] 9 [] (Ar _) (λ_=>Bm (AB rfl (Ak rfl))<|⟨by rw[h1];rfl,hX⟩)
theorem Rj(w:World)(s a b:lU)(neg:Bool)(ha:Hd a)(hane:a≠[])(hs:s=if neg then 45::(a++46::b) else a++46::b) :
  B3 prog 177 #[S s] w λv w'=>v=.tuple #[.float .f64 0,iV 0,.bool false]∧AR w w':=by
 cases a with
 |nil=>exact absurd rfl hane
 |cons c r =>
  have hc:=ha c (.head _)
  cases neg with
  |true=>rw[hs];exact RF w c (r++46::b) hc
  |false=>rw[hs];exact S3 w c (r++46::b) hc
theorem Oq(w:World)(s a b:lU)(neg:Bool)(ha:Hd a)(hb:Hd b)(hane:a≠[])(hbne:b≠[])(hab:a.length+b.length≤15)(hs:s=if neg then 45::(a++46::b) else a++46::b) :
  B3 prog 178 #[S s] w λv w'=>v=.tuple #[.int .u64 (CP 0 (a++b):Int),iV (if CP 0 (a++b)=0 then 0 else -(b.length:Int)),.bool neg,.bool false,.bool false,iV (s.length:Int),.bool true]∧AR w w':=by
 cases neg with
 |true=>exact MB w s a b ha hb hane hbne hab true hs
 |false=>exact MB w s a b ha hb hane hbne hab false hs
theorem Su(w:World)(hG:Gl w)(s:lU)(a b:lU)(ha:Hd a)(hb:Hd b)(hane:a≠[])(hbne:b≠[])(hab:a.length+b.length≤15)(neg:Bool)(hs:s=if neg then 45::(a++46::b) else a++46::b) :
  B3 prog 171 #[S s] w λv w'=>v=.tuple #[.float .f64 (LS neg a b),iV (s.length:Int),.nilIface]∧AR w w':=by
 have hal:1≤a.length:=List.length_pos_iff.2 hane;have hbl:1≤b.length:=List.length_pos_iff.2 hbne;have hML:=Ny (l:=a++b) (λx hx=>(List.mem_append.1 hx).elim (ha x) (hb x)) (by rw[List.length_append];exact hab);have hX:=AR.refl w;refine enter func171 rfl rfl rfl<|AQ [] 11 [] (Ar _) (λ_=>A3 rfl (Aw mX rfl rfl) (Rj _ s a b neg ha hane hs) ?_);rintro _ w1 ⟨rfl,hE1⟩;replace hX:=hX.trans hE1;have sz1:=hE1.size;refine AK [.sq _,.sq _] 20 [] (Ar _) (λ_=>A3 rfl (Aw oB rfl rfl) (Oq _ s a b neg ha hb hane hbne hab hs) ?_);rintro _ w2 ⟨rfl,hE2⟩;replace hX:=hX.trans hE2;have sz2:=hE2.size;refine AK [.sq _] 39 [] (Ar _) (λ_=>Ab rfl (HM rfl gW (hG.ext hX).optimize)<|AK [.sq _,.sq _] 6 [] (Ar _) (λ_=>A3 rfl (Aw mL rfl rfl) (Tp _ neg) ?_));rintro _ w3 ⟨rfl,hE3⟩;replace hX:=hX.trans hE3;have sz3:=hE3.size;refine Ab rfl (J0 (if neg then 9223372036854775808 else 0) rfl rfl dC (by cases neg <;> decide))<|AK [.sq _,.sq _] 10 [] (Ar _) (λ_=>sP 69 rfl (λh1=>?_) (λh1=>?_));refine AQ [.sq _,.sq _] 4 [] (Ar _) (λ_=>Ab rfl (XV (if neg then 9223372036854775808 else 0) rfl rfl (by cases neg <;> decide))<|Ab rfl (Ym func187 rfl rfl pD kN rfl rfl rfl)<|AK [.sq _,.sq _,.sq _] 9 [] (Ar _) (λ_=>Bm (Ed rfl (Ak rfl) (Ak rfl) (Ak rfl)) ?_));have hM0:CP 0 (a++b)=0:=by have h9:=(beq_iff_eq).1 h1;omega
 exact⟨by cases neg <;> simp[LS,hM0],hX⟩;refine AQ [.sq _,.sq _] 10 [] (Ar _) (λ_=>sP 75 rfl (λh2=>?_) (λh2=>?_))
 ·
  exfalso;have h9:=of_decide_eq_true h2;revert h9;split <;> omega
 refine AQ [.sq _,.sq _] 10 [] (Ar _) (λ_=>sP 82 rfl (λh3=>?_) (λh3=>?_))
 ·
  exfalso;have h9:=of_decide_eq_true h3;revert h9;split <;> omega
 refine AQ [.sq _,.sq _] 16 [] (Ar _) (λ_=>?_);have hM0:¬CP 0 (a++b)=0:=by have h9:=h1;simp at h9;omega
 refine A3 rfl (Aw kA rfl rfl) ((show (if CP 0 (a++b)=0 then (0:Int) else -(b.length:Int)) = -(b.length:Int) from if_neg hM0)▸Vg _ (hG.ext hX) (CP 0 (a++b)) b.length neg hML oM) ?_;rintro _ w4 ⟨rfl,hE4⟩;replace hX:=hX.trans hE4;have sz4:=hE4.size;exact AK [.sq _,.sq _,.sq _] 25 [] (Ar _) (λ_=>Bm (Ed rfl (Ak rfl) (Ak rfl) (Ak rfl))<|⟨by rw[LS,if_neg hM0],hX⟩)
theorem I0(w:World)(hG:Gl w)(s:lU)(a b:lU)(ha:Hd a)(hb:Hd b)(hane:a≠[])(hbne:b≠[])(hab:a.length+b.length≤15)(neg:Bool)(hs:s=if neg then 45::(a++46::b) else a++46::b) :
  B3 prog 156 #[S s,iV 64] w λv w'=>v=.tuple #[.float .f64 (LS neg a b),iV (s.length:Int),.nilIface]∧AR w w':=by
 have hX:=AR.refl w;refine enter func156 rfl rfl rfl<|AQ [] 20 [] (Ar _) (λ_=>A3 rfl (Aw pI rfl rfl) (Su _ (hG.ext hX) s a b ha hb hane hbne hab neg hs) ?_);rintro _ w1 ⟨rfl,hE1⟩;replace hX:=hX.trans hE1;have sz1:=hE1.size;exact AK [.sq _] 9 [] (Ar _) (λ_=>Bm (Ed rfl (Ak rfl) (Ak rfl) (Ak rfl))<|⟨rfl,hX⟩)
theorem LJ(w:World)(hG:Gl w)(s:lU)(a b:lU)(ha:Hd a)(hb:Hd b)(hane:a≠[])(hbne:b≠[])(hab:a.length+b.length≤15)(neg:Bool)(hs:s=if neg then 45::(a++46::b) else a++46::b) :
  B3 prog 131 #[S s,iV 64] w λv w'=>v=.tuple #[.float .f64 (LS neg a b),.nilIface]∧AR w w':=by
 have hX:=AR.refl w;refine enter func131 rfl rfl rfl<|AQ [] 10 [] (Ar _) (λ_=>A3 rfl (Aw kO rfl rfl) (I0 _ (hG.ext hX) s a b ha hb hane hbne hab neg hs) ?_);rintro _ w1 ⟨rfl,hE1⟩;replace hX:=hX.trans hE1;have sz1:=hE1.size;refine AK [.sq _] 18 [] (Ar _) (λ_=>sP 19 rfl (λh1=>?_) (λh1=>?_))
 ·
  exfalso;simp at h1
 exact AQ [.sq _] 12 [] (Ar _) (λ_=>Bm (Cn rfl (Ak rfl) (Ak rfl))<|⟨rfl,hX⟩)
theorem Mf(w:World)(hG:Gl w)(s:lU)(a b:lU)(ha:Hd a)(hb:Hd b)(hane:a≠[])(hbne:b≠[])(hab:a.length+b.length≤15)(neg:Bool)(hs:s=if neg then 45::(a++46::b) else a++46::b) :
  B3 prog 113 #[S s,iV 64] w λv w'=>v=.tuple #[.float .f64 (LS neg a b),.nilIface]∧AR w w':=by
 have hX:=AR.refl w;refine enter func113 rfl rfl rfl<|AQ [] 10 [] (Ar _) (λ_=>A3 rfl (Aw kM rfl rfl) (LJ _ (hG.ext hX) s a b ha hb hane hbne hab neg hs) ?_);rintro _ w1 ⟨rfl,hE1⟩;replace hX:=hX.trans hE1;have sz1:=hE1.size;exact AK [.sq _] 11 [] (Ar _) (λ_=>Ab rfl (H9 Ga rfl)<|AK [.sq _,.sq _] 13 [] (Ar _) (λ_=>Bm (Cn rfl (Ak rfl) (Ak rfl))<|⟨rfl,hX⟩))
theorem yF:uW:=λw s a b hG hlen hf=>by
 obtain⟨h1,h2,h3,h4,h5,h6⟩:=Qe hf;refine Mf w hG s a b h1 h2 h3 h4 h5 (Oy s) ?_;rcases Ka s with hn|⟨r,rfl⟩
 · rw[hn,if_neg (by decide),← h6,HX hn]
 ·
  rw[It] at h6;rw[h6];rfl
end Go.Proofs.YtkahkniflkadoaaGreatDoor
namespace Go.SP
theorem Fo.len_snoc':∀(a:Fo)(t:AA)(k:Fo),(a.snoc t k).len=a.len+1
 |.nil,_,_=>rfl
 |.cons _ _ r,t,k=>by simp only[Fo.snoc,Fo.len,Fo.len_snoc' r t k]
theorem Fo.ok_snoc:∀(a:Fo)(t:AA)(k:Fo),a.ok→t.ok→k.ok→k.len≤100000→(a.snoc t k).ok
 |.nil,_,_,_,h1,h2,h3=>⟨h1,h2,h3,tQ⟩
 |.cons _ _ r,t,k,h,h1,h2,h3=>⟨h.1,h.2.1,h.2.2.1,Fo.ok_snoc r t k h.2.2.2 h1 h2 h3⟩
theorem Fo.deep_snoc:∀(a:Fo)(n:Nat)(t:AA)(k:Fo),a.deep (n+1)=true→k.deep n=true→(a.snoc t k).deep (n+1)=true
 |.nil,n,t,k,_,h=>by simp[Fo.snoc,Fo.deep,h]
 |.cons u l r,n,t,k,h1,h2=>by
   simp only[Fo.deep,Bool.and_eq_true] at h1;simp only[Fo.snoc,Fo.deep,Bool.and_eq_true];exact⟨h1.1,Fo.deep_snoc r n t k h1.2 h2⟩
def tJ:Nat→List (AA×Fo)→Prop
 |_,[]=>True
 |i,(o,p)::s=>o.ok∧p.ok∧p.len≤i∧p.deep (201-s.length)=true∧tJ i s
theorem tJ.up:∀{i:Nat}{st:List (AA×Fo)},tJ i st→tJ (i+1) st
 |_,[],_=>trivial
 |_,_::_,⟨a,b,c,d,e⟩=>⟨a,b,Nat.le_succ_of_le c,d,e.up⟩
theorem GX:∀(l:List AA)(i:Nat)(st:List (AA×Fo))(cur fo:Fo),(∀t∈l,t.ok)→i+l.length≤100000→st.length≤200→tJ i st→cur.ok→cur.len≤i→cur.deep (201-st.length)=true →
   A9 l st cur=.ok fo→fo.ok∧fo.len≤i+l.length∧fo.deep 201=true
 | [],i,[],cur,fo,_,_,_,_,h1,h2,h3,h=>by
   simp only[A9] at h
   cases h
   exact⟨h1,by simpa using h2,by simpa using h3⟩
 | [],i,(o,p)::s,cur,fo,_,_,_,_,_,_,_,h=>by
   unfold A9 at h
   split at h <;> cases h
 |k::l,i,st,cur,fo,hl,hi,hs,hI,h1,h2,h3,h=>by
   have hk:k.ok:=hl k (.head _);have hl':∀t∈l,t.ok:=λt ht=>hl t (.tail _ ht);simp only[List.length_cons] at hi;unfold A9 at h
   split at h
   · split at h
     · cases h
     · rename_i h200
       have hne:st.length≠200:=by simpa using h200
       have:=GX l (i+1) ((k,cur)::st) .nil fo hl' oM (by simp only[List.length_cons];omega) ⟨hk,h1,oM,h3,hI.up⟩ tQ (by simp[Fo.len]) (by simp[Fo.deep]) h;refine⟨this.1,?_,this.2.2⟩;have:=this.2.1;simp only[List.length_cons];omega
   · split at h
     · cases st with
       |nil=>cases h
       |cons op s =>
         obtain⟨o,p⟩:=op;simp only at h;obtain⟨ho,hp,hpl,hpd,hIs⟩:=hI;simp only[List.length_cons] at hs h3;have e:201-s.length=(201-(s.length+1))+1:=oM;have:=GX l (i+1) s (p.snoc o cur) fo hl' oM oM hIs.up (Fo.ok_snoc p o cur hp ho h1 oM) (by rw[Fo.len_snoc'];omega) (by rw[e] at hpd ⊢;exact Fo.deep_snoc p _ o cur hpd h3) h;refine⟨this.1,?_,this.2.2⟩;have:=this.2.1;simp only[List.length_cons];omega
     · have e:201-st.length=(201-(st.length+1))+1:=oM
       have:=GX l (i+1) st (cur.snoc k .nil) fo hl' oM hs hI.up (Fo.ok_snoc cur k .nil h1 hk tQ (by simp[Fo.len])) (by rw[Fo.len_snoc'];omega)
         (by rw[e] at h3 ⊢;exact Fo.deep_snoc cur _ k .nil h3 (by simp[Fo.deep])) h
       refine⟨this.1,?_,this.2.2⟩;have:=this.2.1;simp only[List.length_cons];omega
variable {fo:Fo}{toks:List AA}
theorem Vc(hl:∀t∈toks,t.ok)(hi:toks.length≤100000)(h:A9 toks [] .nil=.ok fo):fo.all (Gs 200)∧fo.len≤100000:=by
 obtain⟨h1,h2,h3⟩:=GX toks 0 [] .nil fo hl oM (by simp) tQ tQ (by simp[Fo.len]) (by rfl) h;exact⟨MD 200 fo h1 h3,oM⟩
end Go.SP
namespace Go.SP
open Go.SW Go.RowKit
variable {ot toks:List AA}{F:Nat}{p p1:Ps}{src:lU}
theorem Pq:∀(n:Nat)(p:Ps)(l:lU)(toks:List AA),DJ F n p l=.ok toks→toks.length≤n
 |n,p,[],toks,h=>by rw[G3] at h;cases h;exact Nat.zero_le _
 |0,p,c::l,toks,h=>by cases h
 |n+1,p,c::l,toks,h=>by
   rw[DL] at h
   split at h
   · cases h
   · rename_i t r' p' hs
     split at h
     · cases h
     · rename_i l' hl
       cases h
       have:=Pq n p' r' l' hl;have:=OJ hs;rw[List.length_append];omega
theorem Nq{start:Ps}:∀(n:Nat)(p:Ps)(acc l tx r:lU)(p':Ps),Ee start n p acc l=.ok (tx,r,p')→tx.length≤4096
 |0,_,_,_,_,_,_,h=>by cases h
 |n+1,p,acc,[],tx,r,p',h=>by cases h
 |n+1,p,acc,c::l,tx,r,p',h=>by
   rw[CE] at h
   split at h
   · split at h
     · cases h
     · rename_i hd
       cases h
       simp at hd;omega
   · split at h
     · cases h
     · split at h
       · exact Nq n _ _ _ tx r p' h
       · split at h
         · cases h
         · split at h
           · cases h
           · exact Nq n _ _ _ tx r p' h
theorem Zp{w:lU}{k nm:Int}{tx:lU}(hne:w≠[])(h:GG w=some (k,nm,tx)):(k=5→tx≠[])∧tx.length≤100000∧k≠0∧k≠1:=by
 unfold GG at h
 split at h
 · cases h;simp
 · split at h
   · cases h;simp[MG,Pd]
   · split at h
     · cases h
     · rename_i hc
       simp only[Bool.or_eq_true,not_or,decide_eq_true_eq] at hc
       split at h
       · cases h;exact⟨by simp,oM,dC,dC⟩
       · split at h
         · cases h;exact⟨λ_=>hne,oM,dC,dC⟩
         · cases h
theorem Zu{l r:lU}(h:C1 F p l=.ok (ot,r,p1)):∀t∈ot,t.ok:=by
 cases l with
 |nil=>cases h
 |cons c r =>
   rw[Cq] at h
   split at h
   · cases h;simp
   · split at h
     · simp only[Except.ok.injEq,Prod.mk.injEq] at h;rw[← h.1];simp
     · split at h
       · cases h;simp[AA.ok]
       · split at h
         · cases h;simp[AA.ok]
         · split at h
           · split at h
             · cases h
             · rename_i tx r' p' hs
               cases h
               have:=Nq _ _ _ _ _ _ _ hs;simp only[List.mem_singleton,forall_eq,AA.ok];exact⟨by simp,oM⟩
           · split at h
             · cases h
             · rename_i k nm tx hw
               simp only[Except.ok.injEq,Prod.mk.injEq] at h;rw[← h.1];simp only[List.mem_singleton,forall_eq,AA.ok];have:=Zp (by simp) hw;exact⟨this.1,this.2.1⟩
theorem RT:∀(n:Nat)(p:Ps)(l:lU)(toks:List AA),DJ F n p l=.ok toks→∀t∈toks,t.ok
 |n,p,[],toks,h=>by rw[G3] at h;cases h;simp
 |0,p,c::l,toks,h=>by cases h
 |n+1,p,c::l,toks,h=>by
   rw[DL] at h
   split at h
   · cases h
   · rename_i t r' p' hs
     split at h
     · cases h
     · rename_i l' hl
       cases h
       intro t ht;rcases List.mem_append.1 ht with ht|ht
       · exact Zu hs t ht
       · exact RT n p' r' l' hl t ht
theorem Vq(h:Hl src=.ok toks):toks.length≤100000∧∀t∈toks,t.ok:=by
 unfold Hl at h
 split at h
 · cases h
 · rename_i hl
   simp only[decide_eq_true_eq] at hl
   split at h
   · cases h
   · rename_i l hs
     cases h
     exact⟨by have:=Pq _ _ _ _ hs;omega,RT _ _ _ _ hs⟩
theorem YN{e:Int×Int×Int}(h:Hl src=.error e):(e.2.2 != 0)=true:=by
 unfold Hl at h
 split at h
 · cases h;rfl
 · split at h <;> cases h
   rfl
end Go.SP
namespace Go.Proofs.YtkahkniflkadoaaGreatDoor
open Go.SW Go.SP Go.RowKit Go.Proofs.Tryz
def Dk(src:lU):Nd×Int×Int×Int:=FP 200 (Hl src)
abbrev qC(p:Nd×Int×Int×Int)(a:Option Addr)(c:Nat):Value:=.tuple #[.slice a p.1.len c,.agg #[.int .i64 p.2.1,.int .i64 p.2.2.1],.int .i64 p.2.2.2]
variable {f:Fq}{w w':World}
theorem SM.out{p:Nd×Int×Int×Int}{v:Value}(h:SM p w f v w'):BO (α:=Option Addr×Nat) (λx=>qC p x.1 x.2) (λ_=>True) (λx=>[λw f=>AU w f p.1 x.1 x.2]) w f v w' :=
 let ⟨f',a,c,h1,h2,h3⟩:=h
 ⟨(a,c),f',h2,tQ,h1,h3,tQ⟩
theorem aD(w:World)(f:Fq)(hv:Vl w f)(hJ:Dl w f)(src:lU) :
   B3 prog 6 #[S src] w (BO (α:=Option Addr×Nat) (λx=>qC (Dk src) x.1 x.2) (λ_=>True) (λx=>[λw f=>AU w f (Dk src).1 x.1 x.2]) w f):=by
 refine B3.mono (R:=SM (Dk src) w f) ?_ λ_ _ h=>SM.out h;unfold Dk
 cases hl:Hl src with
 |error e =>
   exact Xf w f hv hJ 199 src e (YN hl) λw1 hG1=>by
     have:=Pj yF w1 hG1 src;rw[hl] at this;exact this
 |ok toks =>
   obtain⟨h1,h2⟩:=Vq hl
   exact Yd w f hv hJ 199 src toks h1 (λfo hfo=>Vc h2 h1 hfo) λw1 hG1=>by
     have:=Pj yF w1 hG1 src;rw[hl] at this;exact this
theorem DQ(w:World)(f:Fq)(hv:Vl w f)(n:Int) :
  B3 prog 45 #[iV n] w (BO (α:=Unit) (λ_=>tV (.var n) none 0) (λ_=>True) (λ_=>[]) w f):=by
 exact CV (X:=X0 w f) (H:=[]) (R:=[]) (B:=[]) (Fs:=[]) (f:=f) func45 rfl rfl rfl (Cz hv tQ tQ)<|Aa 13 [0] (λb1=>y<|λ_=>AV (λw f hM=>AB rfl (Ae rfl AT hM.k0 rfl)) (λw f hM=>⟨(),f,rfl,tQ,hM.exm,tQ⟩))
theorem LP(w:World)(f:Fq)(hv:Vl w f)(l:List Int)(a:Option Addr)(c:Nat)(n:Int)(hl:l.length≤1000000)(hI:BP w f l a c) :
  B3 prog 69 #[.slice a l.length c,iV n] w (BO (α:=Unit) (λ_=>iV (XK l n)) (λ_=>True) (λ_=>[]) w f):=by
 refine CV (X:=X0 w f) (H:=[]) (R:=[]) (B:=[]) (Fs:=[λw f=>BP w f l a c]) (f:=f) func69 rfl rfl rfl (Cz hv ⟨hI,tQ⟩ ⟨BP.mono,tQ⟩)<|Aa 14 [] (λ_=>?_);refine GC (α:=Nat) (λi=>l.length-i) (λi=>i≤l.length∧(l.take i).contains n=false) (λi=>(E4 0 (.slice a l.length c) 1 (iV n) 7 (iV (l.length:Int)) 8 (iV (i:Int)))) (λi=>X0 w f) (λi=>[]) (λi=>[]) (λi=>[]) (λi=>[λw f=>BP w f l a c]) (0) ⟨oM,rfl⟩ lE (λw f hM=>hM) ?_;rintro i ⟨hi,hno⟩;refine Aa 6 [] (λ_=>AZ 9 rfl rfl (λh1=>?_) (λh1=>?_));refine Aa 12 [] (λ_=>?_);have hil:i<l.length:=by have:=of_decide_eq_true h1;omega
 obtain⟨v0,hx⟩:∃v,l[i]?=some v:=⟨_,List.getElem?_eq_getElem hil⟩;refine jY 0 rfl hx ?_;rintro⟨b,off⟩ rfl;refine Aa 9 [100,0] (aI oM<|y2<|λ_=>AZ 16 rfl rfl (λh2=>?_) (λh2=>?_));exact Aa 10 [] (λ_=>dN<|Aa 2 [] (λ_=>AV (Dx rfl rfl) (λw f hM=>⟨(),f,(by rw[XK,VB hno (by rw[hx,show v0=n from (beq_iff_eq.1 h2).symm])]),tQ,hM.exm,tQ⟩)));refine Aa 8 [] (aI ⟨oM,oM⟩<|λ_=>?_);have hno2:(l.take (i+1)).contains n=false:=by rw[Dt hx];have h9:¬n=v0:=(by simpa using h2);have h8:n∉l.take i:=(by simpa using hno);simp[h8,h9]
 exact DF (i+1) (show l.length-(i+1)<l.length-i by omega) ⟨oM,hno2⟩ lE (λw f hM=>⟨_,hM.less sR sR nE (λ_ h=>h)⟩);refine Aa 3 [] (λ_=>Gp<|Aa 8 [] (λ_=>?_));have hge:l.length≤i:=by have:=of_decide_eq_false h1;omega
 rw[List.take_of_length_le hge] at hno;exact AV (Dx rfl rfl) (λw f hM=>⟨(),f,(by rw[XK,MS hno]),tQ,hM.exm,tQ⟩)
theorem YG(m:Nat)(ih:tN prog 70 m)(w:World)(f:Fq)(hv:Vl w f)(t:T1)(a:Option Addr)(c:Nat)(hm:t.kids.size<m+1)(hbd:t.bnd)(hT:Ai w f t.kids a c) :
  B3 prog 70 #[tV t a c] w (BO (α:=Option Addr×Nat) (λx=>tV t x.1 x.2) (λ_=>True) (λx=>[λw f=>Ai w f t.kids x.1 x.2]) w f):=by
 have hbl:=hbd.1;refine CV (X:=X0 w f) (H:=[]) (R:=[]) (B:=[]) (Fs:=[λw f=>Ai w f t.kids a c]) (f:=f) func70 rfl rfl rfl (Cz hv ⟨hT,tQ⟩ ⟨Ai.mono,tQ⟩)<|Aa 15 [1] (λb1=>λb2=>y<|λ_=>AZ 9 rfl rfl (λh1=>?_) (λh1=>?_));refine Aa 15 [1,1,0] (y<|y<|y<|λ_=>?_);have h0:t.kids.len=0:=by have:=beq_iff_eq.1 h1;omega
 exact AV (λw f hM=>AB rfl (Ae rfl AT hM.k0 rfl)) (λw f hM=>⟨(none,0),f,(by show Value.agg _=Value.agg _;rw[h0]),tQ,hM.exm,⟨by rw[Ty.len0 h0];exact Ai.nil _ _ _ _,tQ⟩⟩);refine Aa 8 [1] (y<|λ_=>yI rfl rfl Df rfl rfl rfl rfl (by have:=hbd.1;omega) (by have:=hbd.1;unfold maxLen;omega) λbr1=>Aa 13 [1] (y<|λ_=>?_));refine GC (α:=Nat×Ty×Ty×List Value) (λx=>x.2.1.len) (λx=>x.1+x.2.1.len=t.kids.len∧x.2.2.1.len=x.1∧t.kids=x.2.2.1.app x.2.1∧x.2.1.bnd∧x.2.1.size≤t.kids.size) (λx=>(E6 1 (pB b1) 2 (pB b2) 3 (.slice (some ⟨br1,0,none⟩) t.kids.len t.kids.len) 17 (.slice a t.kids.len c) 18 (iV (t.kids.len:Int)) 19 (iV (x.1:Int)))) (λx=>X0 w f) (λx=>[⟨b2,zT,55,true⟩,⟨b1,[iV t.op,iV t.num,S t.tx,.slice a t.kids.len c],55,true⟩]) (λx=>[⟨55,4,some ⟨br1,0,none⟩,t.kids.len,t.kids.len,x.2.2.2++FU x.2.1.len zT⟩]) (λx=>[]) (λx=>[λw f=>BN w f a x.1 x.2.1,λw f=>Bi w f x.2.2.1 x.2.2.2]) (0,t.kids,.nil,[]) ⟨by simp,rfl,rfl,hbd.2,Nat.le_refl _⟩ lE (λw f hM=>hM.more (B':=[]) (F':=[λw f=>BN w f a 0 t.kids,λw f=>Bi w f .nil []]) nE (AI.mem ⟨Ai.at hM.f0,rfl,tQ⟩) (Az.mem ⟨BN.mono,Bi.mono,tQ⟩) |>.less sR sR (λ_ h=>h) (mR [0,1])) ?_;rintro⟨i,r,dn,xs⟩ ⟨hi,hdl,hk,hb,hs⟩;dsimp only at hi hdl hk hb hs ⊢;refine Aa 6 [] (λ_=>AZ 20 rfl rfl (λh2=>?_) (λh2=>?_));refine Aa 6 [] (λ_=>?_);have hil:i<t.kids.len:=by have:=of_decide_eq_true h2;omega
 obtain⟨t2,r,rfl⟩:=Ty.cases1 r oM;rw[T1.len_cons] at hi;refine XN 0 rfl ?_;rintro⟨eb,eo,ka,kc⟩ rfl;refine Aa 13 [100,0,0,0] (aI oM<|y2<|λb3=>y<|y<|λ_=>By rfl rfl (eC QF rfl rfl) (λw f hM=>ih w f hM.vl t2 ka kc (by have:=T1.size_cons t2 r;omega) (T1.bnd_cons.1 hb).1 hM.f0) (λx=>⟨Ai.mono,tQ⟩) ?_);rintro⟨a2,c2⟩ -;refine Aa 1 [] (aI oM<|λ_=>JU (λw f hM=>Bi.len hM.f4) λhxl=>?_);rw[hdl] at hxl;exact wV 0 ((xs++tC t2 a2 c2)++FU r.len zT) rfl rfl rfl rfl AT rfl rfl rfl (by simp only[Nat.zero_add,List.length_cons,List.length_nil,Int.toNat_natCast];omega) (by rw[Nat.zero_add,Int.toNat_natCast,← hxl,T1.len_cons,FU];exact Sx _ _ _ _ rfl) rfl<|Aa 7 [] (aI ⟨oM,oM⟩<|λ_=>DF ((i+1,r,dn.snoc t2,xs++tC t2 a2 c2)) (show r.len<(t2.cons r).len by rw[T1.len_cons];omega) ⟨show i+1+r.len=t.kids.len by omega,show (dn.snoc t2).len=i+1 by rw[Ty.len_snoc,hdl],show t.kids=(dn.snoc t2).app r by rw[hk,Ty.snoc_app],(T1.bnd_cons.1 hb).2,show r.size≤t.kids.size by have:=T1.size_cons t2 r;omega⟩ lE (λw f hM=>⟨_,(hM.more (B':=[]) (F':=[λw f=>Bi w f (dn.snoc t2) (xs++tC t2 a2 c2)]) nE (AI.mem ⟨Bi.snoc hM.f0 hM.f4,tQ⟩) (Az.mem ⟨Bi.mono,tQ⟩)).less (List.sublist_cons_self _ _) sR nE (mR [3,0])⟩));refine Aa 3 [] (λ_=>Gp<|Aa 3 [] (λ_=>?_));obtain rfl:r=.nil:=Ty.len0 (by have:=of_decide_eq_false h2;omega);rw[Ty.app_nil] at hk;exact iT 0 rfl rfl<|Aa 13 [1,1,0] (y<|y<|y<|λ_=>AV (λw f hM=>AB rfl (Ae rfl AT hM.k0 rfl)) (λw f hM=>⟨(some ⟨br1,0,none⟩,t.kids.len),f,rfl,tQ,hM.exm,⟨hk▸Bi.toF hM.f1 (by have:=hM.b0;simpa[FU,Ty.len] using this) (Nat.le_refl _),tQ⟩⟩))
end Go.Proofs.YtkahkniflkadoaaGreatDoor
namespace Go.SP
def Nd.bnd:Nd→Prop
 |.nil=>True
 |.cons _ _ _ _ _ kids rest=>kids.len≤200000∧kids.bnd∧rest.bnd
def N.bnd(a:N):Prop:=a.kids.len≤200000∧a.kids.bnd
variable {r:Nd}
theorem N.bnd_cons{a:N}(h:a.bnd)(hr:r.bnd):(a.cons r).bnd:=⟨h.1,h.2,hr⟩
theorem Nd.bnd_app:∀{x y:Nd},x.bnd→y.bnd→(x.app y).bnd
 |.nil,_,_,h=>h
 |.cons _ _ _ _ _ _ _,_,h,hy=>⟨h.1,h.2.1,Nd.bnd_app h.2.2 hy⟩
def AA.er(t:AA):AA:=⟨t.k,0,0,t.nm,t.tx⟩
def Fo.er:Fo→Fo
 |.nil=>.nil
 |.cons t k r=>.cons t.er k.er r.er
def Nd.er:Nd→Nd
 |.nil=>.nil
 |.cons op _ _ tx nm kids r=>.cons op 0 0 tx nm kids.er r.er
def N.er(a:N):N:=⟨a.op,0,0,a.tx,a.nm,a.kids.er⟩
def Fk{α β:Type}(f:α→β):R α→R β
 |.error _=>.error (0,0)
 |.ok x=>.ok (f x)
theorem Fo.er_len:∀k:Fo,k.er.len=k.len
 |.nil=>rfl
 |.cons _ _ r=>by simp only[Fo.er,Fo.len,Fo.er_len r]
theorem N.er_cons(a:N)(r:Nd):(a.cons r).er=a.er.cons r.er:=rfl
theorem N.er_one(a:N):a.one.er=a.er.one:=rfl
theorem Nd.er_app:∀x y:Nd,(x.app y).er=x.er.app y.er
 |.nil,_=>rfl
 |.cons _ _ _ _ _ _ r,y=>by simp only[Nd.app,Nd.er,Nd.er_app r y]
theorem Wd(t:AA)(op:Int)(tx:lU)(ks:Nd):(Av t op tx ks).er=Av t.er op tx ks.er:=rfl
theorem BW{α:Type}{β:Type}(f:α→β)(t:AA)(b:Bool)(x:R α)(y:R β)(h:b=true→y=Fk f x):need t.er b y=Fk f (need t b x):=by
 unfold need
 cases b with
 |true=>simp only[if_true];exact h rfl
 |false=>rfl
theorem SH{f g:AA→Fo→R N}:∀(k:Fo),k.all (λt l=>f t.er l.er=Fk N.er (g t l))→AE f k.er=Fk Nd.er (AE g k)
 |.nil,_=>rfl
 |.cons t l r,h=>by
   simp only[Fo.er,AE];rw[h.1,SH r h.2]
   cases g t l with
   |error e=>rfl
   |ok a =>
     cases AE g r with
     |error e=>rfl
     |ok b=>rfl
theorem Wk{p:AA→Fo→Prop}(h:∀t l,p t l):∀k:Fo,k.all p
 |.nil=>trivial
 |.cons t l r=>⟨h t l,Wk h r⟩
theorem SF(t:AA)(k:Fo):Gn t.er k.er=Fk N.er (Gn t k):=by
 unfold Gn;show Except.ok _=Except.ok _;have e:t.er.isWord [95]=t.isWord [95]:=rfl;rw[e]
 split <;> rfl
theorem Sh:∀k:Fo,JS k.er=JS k
 |.nil=>rfl
 |.cons t _ r=>by simp only[Fo.er,JS,Sh r];rfl
theorem Nn:∀(x:Nd)(s:List lU),BA s x.er=BA s x
 |.nil,_=>rfl
 |.cons op _ _ tx _ kids rest,s=>by
   simp only[Nd.er,BA]
   split
   · rfl
   · rename_i s1 _
     rw[Nn kids s1]
     split
     · rfl
     · rename_i s2 _
       exact Nn rest s2
theorem C9{α β:Type}{f:α→β}{c:Bool}{a b:R β}{a' b':R α}(h1:a=Fk f a')(h2:b=Fk f b'):(if c then a else b)=Fk f (if c then a' else b'):=by
 cases c with
 |true=>exact h1
 |false=>exact h2
theorem Gv{f:AA→Fo→R N}(h:∀t k,f t.er k.er=Fk N.er (f t k))(l:Fo):AE f l.er=Fk Nd.er (AE f l):=SH l (Wk h l)
theorem Vu:∀(n:Nat)(t:AA)(k:Fo),D2 n t.er k.er=Fk N.er (D2 n t k)
 |0,_,_=>rfl
 |n+1,t,k=>by
   have ih:=Gv (Vu n);unfold D2;refine C9 rfl (C9 rfl (C9 rfl (C9 (BW N.er t _ _ _ λ_=>SF t k) (C9 rfl ?_))))
   cases k with
   |nil=>rfl
   |cons h kk l =>
     refine C9 ?_ ?_
     · rw[Fo.er_len];exact BW N.er t _ _ _ λ_=>by rw[ih l];cases AE (D2 n) l <;> rfl
     · rw[Fo.er_len];exact BW N.er t _ _ _ λ_=>by rw[ih l];cases AE (D2 n) l <;> rfl
theorem Px(t:AA):∀x:Nd,Cr t.er x.er=(Cr t x).map N.er
 |.nil=>rfl
 |.cons op ln co tx nm kids .nil=>rfl
 |.cons op ln co tx nm kids (.cons a b c d e f r)=>by
   have ih:=Px t (.cons a b c d e f r)
   have u:∀(t:AA)(op ln co:Int)(tx:lU)(nm:Int)(kids:Nd)(a b c:Int)(d:lU)(e:Int)(f r:Nd),Cr t (.cons op ln co tx nm kids (.cons a b c d e f r))=(Cr t (.cons a b c d e f r)).map λo=>Av t 32 [45,62] (.cons op ln co tx nm kids o.one):=by
     intro t op ln co tx nm kids a b c d e f r
     conv=>lhs;unfold Cr
     cases Cr t (.cons a b c d e f r) <;> rfl
   show Cr t.er (.cons op 0 0 tx nm kids.er (Nd.cons a b c d e f r).er)=_;show Cr t.er (.cons op 0 0 tx nm kids.er (.cons a 0 0 d e f.er r.er))=_;rw[u,u,show Cr t.er (.cons a 0 0 d e f.er r.er)=_ from ih]
   cases Cr t (.cons a b c d e f r) <;> rfl
theorem QE:∀(n:Nat)(t:AA)(k:Fo),CK n t.er k.er=Fk N.er (CK n t k)
 |0,_,_=>rfl
 |n+1,t,k=>by
   have ih:=Gv (QE n);unfold CK;refine C9 ?_ (C9 rfl (BW N.er t _ _ _ λ_=>rfl))
   cases k with
   |nil=>rfl
   |cons h kk l =>
     refine C9 ?_ ?_
     · rw[Fo.er_len]
       refine BW N.er t _ _ _ λ_=>?_;rw[ih l]
       cases AE (CK n) l with
       |error e=>rfl
       |ok a =>
         simp only[Fk];rw[Px]
         cases Cr t a <;> rfl
     · rw[Fo.er_len];exact BW N.er t _ _ _ λ_=>by rw[ih l];cases AE (CK n) l <;> rfl
theorem fU(n:Nat)(ex:AA→Fo→R N)(hex:∀t k,ex t.er k.er=Fk N.er (ex t k))(t:AA)(k:Fo):Fj n ex t.er k.er=Fk N.er (Fj n ex t k):=by
 unfold Fj
 cases k with
 |nil=>rfl
 |cons p pk r =>
   cases r with
   |nil=>rfl
   |cons b bk r =>
     cases r with
     |cons _ _ _=>rfl
     |nil =>
       refine BW N.er t _ _ _ λ_=>?_;rw[Vu n p pk]
       cases D2 n p pk with
       |error e=>rfl
       |ok q =>
         simp only[Fk];rw[← N.er_one,Nn];exact BW N.er p _ _ _ λ_=>by rw[hex b bk];cases ex b bk <;> rfl
theorem Vk(t:AA)(k:Fo):PD t.er k.er=PD t k:=by cases k <;> rfl
theorem Za(n:Nat)(ex:AA→Fo→R N)(hex:∀t k,ex t.er k.er=Fk N.er (ex t k))(t:AA)(w:lU)(l:Fo):Bb n ex t.er w l.er=Fk N.er (Bb n ex t w l):=by
 have ih:=Gv hex;have iha:=Gv (fU n ex hex);unfold Bb;refine C9 ?_ (C9 ?_ (C9 ?_ (C9 ?_ (C9 ?_ (C9 ?_ (C9 ?_ (C9 ?_ rfl)))))))
 · rcases l with _|⟨p,pk,_|⟨b,bk,_|⟨_,_,_⟩⟩⟩
   · rfl
   · rfl
   · simp only[Fo.er]
     rw[Fo.er_len,Sh];refine BW N.er t _ _ _ λ_=>?_;rw[Gv SF pk]
     cases AE Gn pk with
     |error e=>rfl
     |ok hs =>
       simp only[Fk];rw[hex b bk]
       cases ex b bk with
       |error e=>rfl
       |ok x =>
         show Except.ok _=Except.ok _;rw[Wd,Nd.er_app];rfl
   · rfl
 · rcases l with _|⟨v,vk,_|⟨e,ek,_|⟨b,bk,_|⟨_,_,_⟩⟩⟩⟩
   · rfl
   · rfl
   · rfl
   · exact BW N.er t _ _ _ λ_=>by
       rw[hex e ek]
       cases ex e ek with
       |error _=>rfl
       |ok x=>simp only[Fk];rw[hex b bk];cases ex b bk <;> rfl
   · rfl
 · rcases l with _|⟨v,vk,_|⟨e,ek,_|⟨b,bk,_|⟨_,_,_⟩⟩⟩⟩
   · rfl
   · rfl
   · rfl
   · simp only[Fo.er]
     rw[Vk]
     exact BW N.er t _ _ _ λ_=>by
       rw[hex e ek]
       cases ex e ek with
       |error _=>rfl
       |ok x=>simp only[Fk];rw[hex b bk];cases ex b bk <;> rfl
   · rfl
 · rw[Fo.er_len];exact BW N.er t _ _ _ λ_=>by rw[ih l];cases AE ex l <;> rfl
 · rw[Fo.er_len];exact BW N.er t _ _ _ λ_=>by rw[ih l];cases AE ex l <;> rfl
 · rw[Fo.er_len];exact BW N.er t _ _ _ λ_=>by rw[ih l];cases AE ex l <;> rfl
 · rw[Fo.er_len]
   refine BW N.er t _ _ _ λ_=>?_
   cases l with
   |nil=>rfl
   |cons e ek arms =>
     simp only[Fo.er];rw[hex e ek]
     cases ex e ek with
     |error _=>rfl
     |ok x=>simp only[Fk];rw[iha arms];cases AE (Fj n ex) arms <;> rfl
 · rcases l with _|⟨e,ek,_|⟨_,_,_⟩⟩
   · rfl
   · simp only[Fo.er];rw[hex e ek];cases ex e ek <;> rfl
   · rfl
theorem JC:∀(n:Nat)(t:AA)(k:Fo),BC n t.er k.er=Fk N.er (BC n t k)
 |0,_,_=>rfl
 |n+1,t,k=>by
   have ih:=Gv (JC n);unfold BC;refine C9 rfl (C9 rfl (C9 rfl (C9 rfl (C9 (BW N.er t _ _ _ λ_=>rfl) ?_))))
   cases k with
   |nil=>rfl
   |cons h kk l =>
     refine C9 ?_ (C9 (Za n _ (JC n) t h.tx l) ?_)
     · rw[Fo.er_len];exact BW N.er t _ _ _ λ_=>by rw[ih l];cases AE (BC n) l <;> rfl
     · rw[Fo.er_len];exact BW N.er t _ _ _ λ_=>by rw[ih (.cons h kk l)];cases AE (BC n) (.cons h kk l) <;> rfl
theorem aC(n:Nat)(t:AA)(k:Fo):EJ n t.er k.er=Fk N.er (EJ n t k):=by
 unfold EJ
 cases k with
 |nil=>rfl
 |cons h kk l =>
   have e:decide (((Fo.cons h kk l).er.len:Int)≤9)=decide (((Fo.cons h kk l).len:Int)≤9):=by simp only[Fo.er_len]
   show need t.er (t.k==0&&(h.k==6&&decide (((Fo.cons h kk l).er.len:Int)≤9))) _=_;rw[e];exact BW N.er t _ _ _ λ_=>by rw[Gv (QE n) l];cases AE (CK n) l <;> rfl
theorem Pn:∀k:Fo,Bq k.er=(Bq k).map Nd.er
 |.nil=>rfl
 |.cons v _ r=>by
   simp only[Fo.er,Bq,Pn r];rw[show v.er.isTypeVar=v.isTypeVar from rfl]
   split
   · cases Bq r <;> rfl
   · rfl
theorem cV(n:Nat)(t:AA)(k:Fo):Ct n t.er k.er=Fk N.er (Ct n t k):=by
 unfold Ct
 cases k with
 |nil=>rfl
 |cons h kk l =>
   refine BW N.er t _ _ _ λ_=>C9 ?_ (C9 ?_ (C9 ?_ (C9 ?_ (C9 ?_ rfl))))
   · rcases l with _|⟨a,ak,_|⟨b,bk,_|⟨c,ck,r⟩⟩⟩
     · rfl
     · rfl
     · rfl
     · simp only[Fo.er]
       rw[Fo.er_len,Pn];refine BW N.er t _ _ _ λ_=>?_
       cases Bq bk with
       |none=>rfl
       |some vs =>
         simp only[Option.map_some];rw[show AE (EJ n) (Fo.cons c.er ck.er r.er)=_ from Gv (aC n) (.cons c ck r)]
         cases AE (EJ n) (.cons c ck r) with
         |error e=>rfl
         |ok cs =>
           show Except.ok _=Except.ok _;rw[Wd,Nd.er_app];rfl
   · rcases l with _|⟨a,ak,_|⟨b,bk,_|⟨c,ck,_|⟨_,_,_⟩⟩⟩⟩
     · rfl
     · rfl
     · rfl
     · exact BW N.er t _ _ _ λ_=>by
         rw[QE n b bk]
         cases CK n b bk with
         |error _=>rfl
         |ok x=>simp only[Fk];rw[JC n c ck];cases BC n c ck <;> rfl
     · rfl
   · rcases l with _|⟨a,ak,_|⟨b,bk,_|⟨_,_,_⟩⟩⟩
     · rfl
     · rfl
     · exact BW N.er t _ _ _ λ_=>by rw[JC n b bk];cases BC n b bk <;> rfl
     · rfl
   · rcases l with _|⟨a,ak,_|⟨b,bk,_|⟨_,_,_⟩⟩⟩
     · rfl
     · rfl
     · simp only[Fo.er]
       rw[Vk];exact BW N.er t _ _ _ λ_=>by rw[JC n b bk];cases BC n b bk <;> rfl
     · rfl
   · rcases l with _|⟨b,bk,_|⟨_,_,_⟩⟩
     · rfl
     · simp only[Fo.er];rw[JC n b bk];cases BC n b bk <;> rfl
     · rfl
theorem Fo.er_snoc:∀(a:Fo)(t:AA)(k:Fo),(a.snoc t k).er=a.er.snoc t.er k.er
 |.nil,_,_=>rfl
 |.cons _ _ r,t,k=>by simp only[Fo.snoc,Fo.er,Fo.er_snoc r t k]
def wQ(st:List (AA×Fo)):List (AA×Fo):=st.map λx=>(x.1.er,x.2.er)
theorem J3:∀(l:List AA)(st:List (AA×Fo))(cur:Fo),A9 (l.map AA.er) (wQ st) cur.er=Fk Fo.er (A9 l st cur)
 | [],[],cur=>rfl
 | [],(o,p)::s,cur=>by
   have h1:∃e,A9 [] ((o,p)::s) cur=.error e:=by unfold A9;split <;> exact⟨_,rfl⟩
   obtain⟨e,he⟩:=h1;rw[he];simp only[List.map_nil,wQ,List.map_cons,A9]
   split
   · rename_i q f hq
     have:q.ln=0∧q.co=0:=by
       have hm:=List.mem_of_getLast? hq;rcases List.mem_cons.1 hm with h|h
       · cases h;exact⟨rfl,rfl⟩
       · obtain⟨x,_,hx⟩:=List.mem_map.1 h
         cases hx;exact⟨rfl,rfl⟩
     rw[this.1,this.2];rfl
   · rfl
 |k::l,st,cur=>by
   simp only[List.map_cons,A9];refine C9 ?_ (C9 ?_ ?_)
   · rw[show (wQ st).length=st.length from List.length_map _]
     exact C9 rfl (J3 l ((k,cur)::st) .nil)
   · cases st with
     |nil=>rfl
     |cons op s =>
       obtain⟨o,p⟩:=op;have:=J3 l s (p.snoc o cur);rw[Fo.er_snoc] at this;exact this
   · have:=J3 l st (cur.snoc k .nil)
     rw[Fo.er_snoc] at this;exact this
def IP(n:Nat)(l:List AA):R Nd:=match A9 l [] .nil with
 |.error e=>.error e
 |.ok fo=>AE (Ct n) fo
theorem ZA(n:Nat)(l:List AA):IP n (l.map AA.er)=Fk Nd.er (IP n l):=by
 unfold IP;rw[show A9 (l.map AA.er) [] .nil=_ from J3 l [] .nil]
 cases A9 l [] .nil with
 |error e=>rfl
 |ok fo=>exact Gv (cV n) fo
theorem Hv:∀(l tb:List AA)(st:List (AA×Fo))(cur fo:Fo),A9 l st cur=.ok fo→A9 (l++tb) st cur=A9 tb [] fo
 | [],tb,[],cur,fo,h=>by cases h;rfl
 | [],tb,(o,p)::s,cur,fo,h=>by unfold A9 at h;split at h <;> cases h
 |k::l,tb,st,cur,fo,h=>by
   simp only[List.cons_append,A9] at h ⊢
   split at h
   · rename_i h0
     rw[if_pos h0]
     split at h
     · cases h
     · rename_i h1
       rw[if_neg h1];exact Hv l tb _ _ fo h
   · rename_i h0
     rw[if_neg h0]
     split at h
     · rename_i h1
       rw[if_pos h1]
       cases st with
       |nil=>cases h
       |cons op s=>exact Hv l tb _ _ fo h
     · rename_i h1
       rw[if_neg h1];exact Hv l tb _ _ fo h
theorem Fo.app_nil:∀a:Fo,a.app .nil=a
 |.nil=>rfl
 |.cons _ _ r=>by simp only[Fo.app,Fo.app_nil r]
theorem Fo.app_snoc:∀(a b:Fo)(t:AA)(k:Fo),(a.app b).snoc t k=a.app (b.snoc t k)
 |.nil,_,_,_=>rfl
 |.cons _ _ r,b,t,k=>by simp only[Fo.app,Fo.snoc,Fo.app_snoc r b t k]
def cA(fa:Fo):List (AA×Fo)→List (AA×Fo)
 | []=>[]
 | [(o,p)]=>[(o,fa.app p)]
 |x::y::s=>x::cA fa (y::s)
def mJ(fa:Fo):R Fo→R Fo
 |.error e=>.error e
 |.ok fo=>.ok (fa.app fo)
def Zf(fa:Fo)(st:List (AA×Fo))(cur:Fo):Fo:=match st with
 | []=>fa.app cur
 |_=>cur
theorem Q8(fa:Fo):∀st,(cA fa st).length=st.length
 | []=>rfl
 | [_]=>rfl
 |_::y::s=>by simp only[cA,List.length_cons,Q8 fa (y::s)]
theorem SS(fa:Fo):∀st,((cA fa st).getLast?).map (·.1)=(st.getLast?).map (·.1)
 | []=>rfl
 | [_]=>rfl
 |x::y::s=>by
   have ih:=SS fa (y::s);have e:∀(z:AA×Fo)(u:List (AA×Fo)),u≠[]→(z::u).getLast?=u.getLast?:=λz u hu=>by cases u with|nil=>exact absurd rfl hu|cons _ _=>rfl
   simp only[cA];rw[e x (cA fa (y::s)) (λh=>by have:=Q8 fa (y::s);rw[h] at this;cases this),e x (y::s) (by simp)];exact ih
theorem GM(fa:Fo):∀(l:List AA)(st:List (AA×Fo))(cur:Fo),A9 l (cA fa st) (Zf fa st cur)=mJ fa (A9 l st cur)
 | [],[],cur=>rfl
 | [],(o,p)::s,cur=>by
   have hl:=SS fa ((o,p)::s);have hb:∃o' p' s',cA fa ((o,p)::s)=(o',p')::s':=by cases s with|nil=>exact⟨_,_,_,rfl⟩|cons y s=>exact⟨_,_,_,rfl⟩
   obtain⟨o',p',s',hb⟩:=hb;rw[hb] at hl ⊢;simp only[A9]
   cases h1:((o,p)::s).getLast? with
   |none=>simp at h1
   |some q =>
     cases h2:((o',p')::s').getLast? with
     |none=>simp at h2
     |some q' =>
       rw[h1,h2] at hl;obtain⟨a,b⟩:=q;obtain⟨a',b'⟩:=q';simp at hl;simp only[hl];rfl
 |k::l,st,cur=>by
   simp only[A9];rw[Q8]
   split
   · split
     · rfl
     · have ih:=GM fa l ((k,cur)::st) .nil
       have e:(k,Zf fa st cur)::cA fa st=cA fa ((k,cur)::st):=by cases st <;> rfl
       rw[e];exact ih
   · split
     · cases st with
       |nil=>rfl
       |cons op s =>
         obtain⟨o,p⟩:=op
         cases s with
         |nil =>
           have ih:=GM fa l [] (p.snoc o cur);show A9 l [] ((fa.app p).snoc o cur)=_;rw[Fo.app_snoc];exact ih
         |cons y s=>exact GM fa l (y::s) (p.snoc o cur)
     · have ih:=GM fa l st (cur.snoc k .nil)
       have e:(Zf fa st cur).snoc k .nil=Zf fa st (cur.snoc k .nil):=by cases st with|nil=>exact Fo.app_snoc fa cur k .nil|cons _ _=>rfl
       rw[e];exact ih
variable {ta tb:List AA}{n:Nat}
theorem Ul{fa:Fo}(h:A9 ta [] .nil=.ok fa):A9 (ta++tb) [] .nil=mJ fa (A9 tb [] .nil):=by
 rw[Hv ta tb [] .nil fa h];have:=GM fa tb [] .nil;rw[show Zf fa [] .nil=fa from Fo.app_nil fa] at this;exact this
theorem OF(f:AA→Fo→R N):∀(a b:Fo),AE f (a.app b)=(match AE f a with
   |.error e=>.error e
   |.ok x=>match AE f b with
     |.error e=>.error e
     |.ok y=>.ok (x.app y))
 |.nil,b=>by simp only[Fo.app,AE];cases AE f b <;> rfl
 |.cons t k r,b=>by
   simp only[Fo.app,AE,OF f r b]
   cases f t k with
   |error e=>rfl
   |ok a =>
     simp only[]
     cases AE f r with
     |error e=>rfl
     |ok x=>simp only[];cases AE f b <;> rfl
theorem aQ{na:Nd}(h:IP n ta=.ok na):IP n (ta++tb)=(match IP n tb with|.error e=>.error e|.ok nb=>.ok (na.app nb)):=by
 unfold IP at h ⊢
 cases hf:A9 ta [] .nil with
 |error e=>rw[hf] at h;cases h
 |ok fa =>
   rw[hf] at h;simp only at h;rw[Ul hf]
   cases A9 tb [] .nil with
   |error e=>rfl
   |ok fb =>
     simp only[mJ];rw[OF,h]
end Go.SP
namespace Go.SP
open Go.SW Go.RowKit
def eE(x:Except Ps (UInt8×lU×Ps)):Option (UInt8×lU):=match x with
 |.error _=>none
 |.ok (b,r,_)=>some (b,r)
def lP(x:Except Ps (lU×lU×Ps)):Option (lU×lU):=match x with
 |.error _=>none
 |.ok (b,r,_)=>some (b,r)
def GU(x:Except Ps (List AA×lU×Ps)):Option (List AA×lU):=match x with
 |.error _=>none
 |.ok (t,r,_)=>some (t.map AA.er,r)
def Oj(x:Except Ps (List AA)):Option (List AA):=match x with
 |.error _=>none
 |.ok l=>some (l.map AA.er)
theorem nU(p p':Ps)(l:lU):eE (Fh p l)=eE (Fh p' l):=by
 cases l with
 |nil=>rfl
 |cons c r =>
   simp only[Fh]
   split
   · rfl
   · split
     · rfl
     · split
       · rfl
       · split
         · rcases r with _|⟨a,_|⟨b,r⟩⟩
           · rfl
           · rfl
           · simp only[]
             split <;> rfl
         · rfl
variable {F n:Nat}{p:Ps}
theorem N9{l r:lU}{b:UInt8}{q:Ps}(h:Fh p l=.ok (b,r,q)):r.length<l.length:=by
 cases l with
 |nil=>cases h
 |cons c l =>
   simp only[Fh] at h
   repeat' split at h
   all_goals first
     |(cases h;done)
     |(cases h;simp;done)
     |(cases h;simp;omega)
theorem UE:∀(F:Nat)(l:lU)(F':Nat)(s s' p p':Ps)(acc:lU),l.length<F→l.length<F'→lP (Ee s F p acc l)=lP (Ee s' F' p' acc l)
 |0,l,F',s,s',p,p',acc,h,h'=>by cases h
 |F+1,[],F',s,s',p,p',acc,h,h'=>by
   cases F' with
   |zero=>cases h'
   |succ F'=>rfl
 |F+1,c::r,F',s,s',p,p',acc,h,h'=>by
     cases F' with
     |zero=>cases h'
     |succ F' =>
       simp only[List.length_cons] at h h';rw[CE,CE]
       split
       · split <;> rfl
       · split
         · rfl
         · split
           · exact UE F r F' s s' _ _ _ oM oM
           · cases r with
             |nil=>rfl
             |cons d r =>
               have he:=nU (adv c p) (adv c p') (d::r)
               cases h1:Fh (adv c p) (d::r) with
               |error e =>
                 rw[h1] at he
                 cases h2:Fh (adv c p') (d::r) with
                 |error e'=>simp only[h1,h2];rfl
                 |ok x=>rw[h2] at he;cases he
               |ok x =>
                 obtain⟨b,r1,q⟩:=x;rw[h1] at he
                 cases h2:Fh (adv c p') (d::r) with
                 |error e'=>rw[h2] at he;cases he
                 |ok y =>
                   obtain⟨b',r1',q'⟩:=y;rw[h2] at he;simp only[eE,Option.some.injEq,Prod.mk.injEq] at he;obtain⟨rfl,rfl⟩:=he;have hs:=N9 h1;simp only[List.length_cons] at hs h h';simp only[h1,h2];exact UE F r1 F' s s' _ _ _ oM oM
theorem aU(p p':Ps):∀l,(GK p l).1=(GK p' l).1
 | []=>rfl
 |c::r=>by
   simp only[GK]
   split
   · exact aU _ _ r
   · rfl
theorem Vr:∀(l:lU)(p p':Ps),(BZ p l).1=(BZ p' l).1∧(BZ p l).2.1=(BZ p' l).2.1
 | [],_,_=>⟨rfl,rfl⟩
 |c::r,p,p'=>by
   simp only[BZ]
   split
   · have ih:=Vr r (adv c p) (adv c p')
     exact⟨by simp only[ih.1],ih.2⟩
   · exact⟨rfl,rfl⟩
theorem VN{F':Nat}(p p':Ps)(l:lU)(h:l.length≤F)(h':l.length≤F'):GU (C1 F p l)=GU (C1 F' p' l):=by
 cases l with
 |nil=>rfl
 |cons c r =>
   simp only[List.length_cons] at h h';rw[Cq,Cq]
   split
   · rfl
   · split
     · simp only[GU,List.map_nil];rw[aU (adv c p) (adv c p')]
     · split
       · rfl
       · split
         · rfl
         · split
           · have hs:=UE F r F' p p' (adv c p) (adv c p') [] oM oM
             cases h1:Ee p F (adv c p) [] r with
             |error e =>
               rw[h1] at hs
               cases h2:Ee p' F' (adv c p') [] r with
               |error e'=>rfl
               |ok x=>rw[h2] at hs;cases hs
             |ok x =>
               obtain⟨tx,r1,q⟩:=x;rw[h1] at hs
               cases h2:Ee p' F' (adv c p') [] r with
               |error e'=>rw[h2] at hs;cases hs
               |ok y =>
                 obtain⟨tx',r1',q'⟩:=y;rw[h2] at hs;simp only[lP,Option.some.injEq,Prod.mk.injEq] at hs;obtain⟨rfl,rfl⟩:=hs;rfl
           · have hs:=Vr r (adv c p) (adv c p')
             rw[← hs.1]
             cases GG (c::(BZ (adv c p) r).1) with
             |none=>rfl
             |some x =>
               obtain⟨k,nm,tx⟩:=x;simp only[GU,List.map_cons,List.map_nil];rw[hs.2];rfl
theorem Nx(p:Ps):∀l,(GK p l).1.length≤l.length
 | []=>Nat.le_refl _
 |c::r=>by
   simp only[GK]
   split
   · have:=Nx (adv c p) r;simp only[List.length_cons];omega
   · exact Nat.le_refl _
theorem Ma:∀(l:lU)(p:Ps),(BZ p l).2.1.length≤l.length
 | [],_=>Nat.le_refl _
 |c::r,p=>by
   simp only[BZ]
   split
   · have:=Ma r (adv c p);simp only[List.length_cons];omega
   · exact Nat.le_refl _
theorem Ko{s:Ps}:∀(F:Nat)(p:Ps)(acc l tx r:lU)(q:Ps),Ee s F p acc l=.ok (tx,r,q)→r.length≤l.length
 |0,_,_,_,_,_,_,h=>by cases h
 |F+1,p,acc,[],tx,r,q,h=>by cases h
 |F+1,p,acc,c::l,tx,r,q,h=>by
   simp only[List.length_cons];rw[CE] at h
   split at h
   · split at h
     · cases h
     · cases h;omega
   · split at h
     · cases h
     · split at h
       · have:=Ko F _ _ _ tx r q h;omega
       · split at h
         · cases h
         · split at h
           · cases h
           · rename_i he
             have:=Ko F _ _ _ tx r q h;have:=N9 he;omega
theorem Jg{q:Ps}{l r:lU}{t:List AA}(h:C1 F p l=.ok (t,r,q)):r.length<l.length:=by
 cases l with
 |nil=>cases h
 |cons c l =>
   simp only[List.length_cons];rw[Cq] at h
   split at h
   · cases h;omega
   · split at h
     · simp only[Except.ok.injEq,Prod.mk.injEq] at h
       have:=Nx (adv c p) l;rw[h.2] at this;simp only at this;omega
     · split at h
       · cases h;omega
       · split at h
         · cases h;omega
         · split at h
           · split at h
             · cases h
             · rename_i hs
               cases h
               have:=Ko _ _ _ _ _ _ _ hs;omega
           · split at h
             · cases h
             · simp only[Except.ok.injEq,Prod.mk.injEq] at h
               have:=Ma l (adv c p);rw[h.2] at this;simp only at this;omega
theorem V5:∀(n:Nat)(l:lU)(n' F F':Nat)(p p':Ps),l.length≤n→l.length≤n'→l.length≤F→l.length≤F'→Oj (DJ F n p l)=Oj (DJ F' n' p' l)
 |n,[],n',F,F',p,p',_,_,_,_=>by rw[G3,G3]
 |0,c::r,_,_,_,_,_,h,_,_,_=>by simp at h
 |n+1,c::r,0,_,_,_,_,_,h,_,_=>by simp at h
 |n+1,c::r,n'+1,F,F',p,p',h1,h2,h3,h4=>by
   rw[DL,DL];have hs:=VN (F:=F) (F':=F') p p' (c::r) h3 h4;simp only[List.length_cons] at h1 h2 h3 h4
   cases e1:C1 F p (c::r) with
   |error e =>
     rw[e1] at hs
     cases e2:C1 F' p' (c::r) with
     |error e'=>rfl
     |ok x=>rw[e2] at hs;cases hs
   |ok x =>
     obtain⟨t,r1,q⟩:=x;rw[e1] at hs
     cases e2:C1 F' p' (c::r) with
     |error e'=>rw[e2] at hs;cases hs
     |ok y =>
       obtain⟨t',r1',q'⟩:=y;rw[e2] at hs;simp only[GU,Option.some.injEq,Prod.mk.injEq] at hs;obtain⟨ht,rfl⟩:=hs;have hl:=Jg e1;simp only[List.length_cons] at hl;have ih:=V5 n r1 n' F F' q q' oM oM oM oM;simp only[]
       cases e3:DJ F n q r1 with
       |error e =>
         rw[e3] at ih
         cases e4:DJ F' n' q' r1 with
         |error e'=>rfl
         |ok x=>rw[e4] at ih;cases ih
       |ok x =>
         rw[e3] at ih
         cases e4:DJ F' n' q' r1 with
         |error e'=>rw[e4] at ih;cases ih
         |ok y =>
           rw[e4] at ih;simp only[Oj,Option.some.injEq] at ih ⊢;rw[List.map_append,List.map_append,ht,ih]
def Rb(l:lU):Option (List AA):=Oj (DJ (l.length+1) l.length (1,1) l)
def dO(l:lU):Option (List AA×lU):=GU (C1 l.length (1,1) l)
theorem nF{l:lU}(h1:l.length≤n)(h2:l.length≤F):Oj (DJ F n p l)=Rb l:=V5 _ _ _ _ _ _ _ h1 (Nat.le_refl _) h2 oM
theorem aP{l:lU}(h:l.length≤F):GU (C1 F p l)=dO l:=VN _ _ _ h (Nat.le_refl _)
theorem dX:Rb []=some []:=rfl
theorem NQ(c:UInt8)(r:lU):Rb (c::r)=(match dO (c::r) with
   |none=>none
   |some (t,r')=>(Rb r').map (t ++ ·)):=by
 unfold Rb;rw[List.length_cons,DL];have hs:=aP (F:=r.length+1+1) (p:=(1,1)) (l:=c::r) (by simp only[List.length_cons];omega)
 cases h:C1 (r.length+1+1) (1,1) (c::r) with
 |error e=>rw[h] at hs;rw[← hs];rfl
 |ok x =>
   obtain⟨t,r1,q⟩:=x;rw[h] at hs;rw[← hs];simp only[GU];have hl:=Jg h;simp only[List.length_cons] at hl;have:=nF (F:=r.length+1+1) (n:=r.length) (p:=q) (l:=r1) oM oM;unfold Rb at this;rw[← this]
   cases DJ (r.length+1+1) r.length q r1 with
   |error e=>rfl
   |ok l=>simp[Oj]
theorem Ww{l r:lU}{t:List AA}(h:dO l=some (t,r)):r.length<l.length:=by
 unfold dO at h
 cases e:C1 l.length (1,1) l with
 |error e'=>rw[e] at h;cases h
 |ok x =>
   obtain⟨t',r',q⟩:=x;rw[e] at h;simp only[GU,Option.some.injEq,Prod.mk.injEq] at h;rw[← h.2];exact Jg e
theorem Sq(b:lU):∀(l:lU)(p:Ps),(GK p (l++10::b)).1=(GK p l).1++10::b
 | [],p=>by simp[GK]
 |c::r,p=>by
   simp only[List.cons_append,GK]
   split
   · exact Sq b r _
   · rfl
theorem OC(b:lU):∀(l:lU)(p:Ps),(BZ p (l++10::b)).1=(BZ p l).1∧(BZ p (l++10::b)).2.1=(BZ p l).2.1++10::b
 | [],p=>by
   have:decide (Lib.indexByte M9 10<0)=false:=dC;simp[BZ,this]
 |c::r,p=>by
   simp only[List.cons_append,BZ]
   split
   · have ih:=OC b r (adv c p)
     exact⟨by simp only[ih.1],ih.2⟩
   · exact⟨rfl,rfl⟩
theorem YB{q:Ps}{l r:lU}{x:UInt8}(t:lU)(h:Fh p l=.ok (x,r,q)):Fh p (l++t)=.ok (x,r++t,q):=by
 cases l with
 |nil=>cases h
 |cons c l =>
   simp only[Fh,List.cons_append] at h ⊢
   split at h
   · rename_i h1;rw[if_pos h1];cases h;rfl
   · rename_i h1
     rw[if_neg h1]
     split at h
     · rename_i h2;rw[if_pos h2];cases h;rfl
     · rename_i h2
       rw[if_neg h2]
       split at h
       · rename_i h3;rw[if_pos h3];cases h;rfl
       · rename_i h3
         rw[if_neg h3]
         split at h
         · rename_i h4
           rw[if_pos h4];rcases l with _|⟨a,_|⟨d,l⟩⟩
           · cases h
           · cases h
           · simp only[List.cons_append] at h ⊢
             split at h
             · rename_i h5;rw[if_pos h5];cases h;rfl
             · cases h
         · cases h
theorem MA{s:Ps}(t:lU):∀(F:Nat)(p:Ps)(acc l tx r:lU)(q:Ps),Ee s F p acc l=.ok (tx,r,q)→Ee s F p acc (l++t)=.ok (tx,r++t,q)
 |0,_,_,_,_,_,_,h=>by cases h
 |F+1,p,acc,[],tx,r,q,h=>by cases h
 |F+1,p,acc,c::l,tx,r,q,h=>by
   rw[List.cons_append];rw[CE] at h ⊢
   split at h
   · rename_i h1
     rw[if_pos h1]
     split at h
     · cases h
     · rename_i h2;rw[if_neg h2];cases h;rfl
   · rename_i h1
     rw[if_neg h1]
     split at h
     · cases h
     · rename_i h2
       rw[if_neg h2]
       split at h
       · rename_i h3;rw[if_pos h3];exact MA t F _ _ l tx r q h
       · rename_i h3
         rw[if_neg h3]
         cases l with
         |nil=>cases h
         |cons d l =>
           simp only[] at h
           split at h
           · cases h
           · rename_i he
             have:=YB t he;rw[List.cons_append] at this ⊢;simp only[this];exact MA t F _ _ _ tx r q h
theorem gA{l r:lU}{t:List AA}(b:lU)(h:dO l=some (t,r)):dO (l++10::b)=some (t,r++10::b):=by
 rw[← aP (F:=(l++10::b).length) (p:=(1,1)) (l:=l) (by simp)] at h;unfold dO;generalize (l++10::b).length=F at h ⊢
 cases l with
 |nil=>cases h
 |cons c l =>
   rw[List.cons_append];rw[Cq] at h ⊢
   split at h
   · rename_i h1;rw[if_pos h1];simp only[GU,Option.some.injEq,Prod.mk.injEq] at h ⊢;rw[← h.1,← h.2];exact⟨rfl,rfl⟩
   · rename_i h1
     rw[if_neg h1]
     split at h
     · rename_i h2
       rw[if_pos h2];simp only[GU,Option.some.injEq,Prod.mk.injEq] at h ⊢;rw[← h.1,← h.2];exact⟨rfl,Sq b l _⟩
     · rename_i h2
       rw[if_neg h2]
       split at h
       · rename_i h3;rw[if_pos h3];simp only[GU,Option.some.injEq,Prod.mk.injEq] at h ⊢;rw[← h.1,← h.2];exact⟨rfl,rfl⟩
       · rename_i h3
         rw[if_neg h3]
         split at h
         · rename_i h4;rw[if_pos h4];simp only[GU,Option.some.injEq,Prod.mk.injEq] at h ⊢;rw[← h.1,← h.2];exact⟨rfl,rfl⟩
         · rename_i h4
           rw[if_neg h4]
           split at h
           · rename_i h5
             rw[if_pos h5]
             cases e:Ee (1,1) F (adv c (1,1)) [] l with
             |error e'=>rw[e] at h;cases h
             |ok x =>
               obtain⟨tx,r1,q⟩:=x;rw[e] at h;rw[MA (10::b) F _ _ _ _ _ _ e];simp only[GU,Option.some.injEq,Prod.mk.injEq] at h ⊢;rw[← h.1,← h.2];exact⟨rfl,rfl⟩
           · rename_i h5
             rw[if_neg h5];have ha:=OC b l (adv c (1,1));rw[ha.1]
             cases e:GG (c::(BZ (adv c (1,1)) l).1) with
             |none=>rw[e] at h;cases h
             |some x =>
               obtain⟨k,nm,tx⟩:=x;rw[e] at h;simp only[GU,Option.some.injEq,Prod.mk.injEq] at h ⊢;rw[← h.1,← h.2];exact⟨rfl,ha.2⟩
theorem X8(b:lU):Rb (10::b)=Rb b:=by
 rw[NQ];have:dO (10::b)=some ([],b):=rfl;rw[this];simp
theorem V4(b:lU):∀(n:Nat)(a:lU)(ta:List AA),a.length≤n→Rb a=some ta→Rb (a++10::b)=(Rb b).map (ta ++ ·)
 |n,[],ta,_,h=>by
   rw[dX] at h
   cases h
   rw[List.nil_append,X8];simp
 |0,c::a,ta,hn,_=>by simp at hn
 |n+1,c::a,ta,hn,h=>by
   rw[NQ] at h
   cases hs:dO (c::a) with
   |none=>rw[hs] at h;cases h
   |some x =>
     obtain⟨t,r⟩:=x;rw[hs] at h;simp only at h;have hl:=Ww hs;have hs':=gA b hs;simp only[List.length_cons] at hn hl
     cases hr:Rb r with
     |none=>rw[hr] at h;cases h
     |some tr =>
       rw[hr] at h
       cases h
       rw[List.cons_append] at hs' ⊢;rw[NQ,hs'];simp only[];rw[V4 b n r tr (by omega) hr]
       cases Rb b <;> simp
def vI(k:Int):Int:=if k==40 then 1 else if k==41 then -1 else 0
def nQ:lU→Int
 | []=>0
 |c::l=>vI c.toNat+nQ l
theorem Zo{c:UInt8}(h:decide (Lib.indexByte M9 c<0)=true):vI c.toNat=0:=by
 have key:∀c:UInt8,(decide (Lib.indexByte M9 c<0)=true→vI c.toNat=0):=by
   intro c hc;unfold vI
   split
   · rename_i h1
     have:c=40:=UInt8.toNat_inj.1 (by have:=beq_iff_eq.1 h1;simp;omega);subst this;exact absurd hc dC
   · split
     · rename_i h1
       have:c=41:=UInt8.toNat_inj.1 (by have:=beq_iff_eq.1 h1;simp;omega);subst this;exact absurd hc dC
     · rfl
 exact key c h
theorem LM:∀(l:lU)(p:Ps),(BZ p l).1++(BZ p l).2.1=l∧nQ (BZ p l).1=0
 | [],_=>⟨rfl,rfl⟩
 |c::r,p=>by
   simp only[BZ]
   split
   · rename_i h
     have ih:=LM r (adv c p);refine⟨by simp only[List.cons_append,ih.1],?_⟩;simp only[nQ,ih.2,Zo h];rfl
   · exact⟨rfl,rfl⟩
def pO(n:Nat)(l:lU):Option Nd:=match Rb l with
 |none=>none
 |some t=>match IP n t with
   |.error _=>none
   |.ok x=>some x
theorem Tl{a b:lU}{x:Nd}(h:pO n a=some x):pO n (a++10::b)=(pO n b).map (x.app ·):=by
 unfold pO at h ⊢
 cases ha:Rb a with
 |none=>rw[ha] at h;cases h
 |some ta =>
   rw[ha] at h;simp only at h;rw[V4 b a.length a ta (Nat.le_refl _) ha]
   cases hb:Rb b with
   |none=>rfl
   |some tb =>
     simp only[Option.map_some]
     cases hp:IP n ta with
     |error e=>rw[hp] at h;cases h
     |ok y =>
       rw[hp] at h
       cases h
       rw[aQ hp]
       cases IP n tb <;> rfl
theorem K8(n:Nat)(src:lU)(hl:src.length≤65536) :
   (∀x,pO n src=some x→(FP n (Hl src)).1.er=x∧(FP n (Hl src)).2.2.2=0)∧(pO n src=none→(FP n (Hl src)).2.2.2≠0):=by
 have hlx:Hl src=(match DJ (src.length+1) src.length (1,1) src with
   |.error e=>.error (e.1,e.2,10)
   |.ok l=>.ok l):=by
   unfold Hl;rw[if_neg (by simp;omega)];rfl
 rw[hlx];unfold pO Rb
 cases DJ (src.length+1) src.length (1,1) src with
 |error e=>exact⟨λx h=>(by cases h),λ_=>by simp[FP]⟩
 |ok l =>
   simp only[Oj];rw[ZA];unfold FP IP;simp only[]
   cases A9 l [] .nil with
   |error e=>exact⟨λx h=>(by cases h),λ_=>by simp⟩
   |ok fo =>
     simp only[]
     cases AE (Ct n) fo with
     |error e=>exact⟨λx h=>(by cases h),λ_=>by simp⟩
     |ok nds=>exact⟨λx h=>by cases h;exact⟨rfl,rfl⟩,λh=>by cases h⟩
def iW(U:Nat→Prop)(w:World)(a:Option Addr)(i:Nat)(r:Nd):Prop :=
 r=.nil∨∃b off l T,U b∧a=some ⟨b,off,none⟩∧AM w b l T∧FH U w r (l.drop (off+i*6))
variable {co ln:Int}{i:Nat}{U:Nat→Prop}{a:Option Addr}{w':World}
theorem iW.ext{w:World}{r:Nd}(h:iW U w a i r)(hE:AR w w'):iW U w' a i r :=
 h.imp id λ⟨b,off,l,T,hu,ha,hb,hc⟩=>⟨b,off,l,T,hu,ha,hb.ext hE,hc.ext hE⟩
theorem iW.head{w:World}{op nm:Int}{tx:lU}{kids r:Nd}(h:iW U w a i (.cons op ln co tx nm kids r)):∃b off l T ka kn kc l',U b∧a=some ⟨b,off,none⟩∧AM w b l T ∧
   l.drop (off+i*6)=.int .i64 op::.int .i64 ln::.int .i64 co::S tx::.int .i64 nm::.slice ka kn kc::l'∧Hh U w ka kn kc kids:=by
 rcases h with h|⟨b,off,l,T,hu,ha,hb,ka,kn,kc,l',h4,h5,h6⟩
 · cases h
 · exact⟨b,off,l,T,ka,kn,kc,l',hu,ha,hb,h4,h5⟩
theorem iW.next{w:World}{op nm:Int}{tx:lU}{kids r:Nd}(h:iW U w a i (.cons op ln co tx nm kids r)):iW U w a (i+1) r:=by
 rcases h with h|⟨b,off,l,T,hu,ha,hb,ka,kn,kc,l',h4,h5,h6⟩
 · cases h
 · refine .inr ⟨b,off,l,T,hu,ha,hb,?_⟩
   have:l.drop (off+(i+1)*6)=l':=by
     rw[show off+(i+1)*6=(off+i*6)+6 by omega,← List.drop_drop,h4];rfl
   rw[this];exact h6
theorem Nd.er_len:∀x:Nd,x.er.len=x.len
 |.nil=>rfl
 |.cons _ _ _ _ _ _ r=>by simp only[Nd.er,Nd.len,Nd.er_len r]
theorem Mp{p:Nat→Prop}(h0:p 0)(h:∀m,p m→p (m+1))(m:Nat):p m:=by
 induction m with
 |zero=>exact h0
 |succ m ih=>exact h m ih
end Go.SP
namespace Go.SW
open Go.RowKit
variable {zl:List Value}{bytes cs:Nat}{a:Option Addr}{e:TypeId}
theorem fD{P:Program}{σ:Bj}{w:World}{ty T:TypeId}{x y:Operand}{size:Nat}(hT:Oo P T=some (e,size,bytes,zl)){b:Option Addr}{c k:Nat}
   (hs:ev σ x=some (.slice a k c)) (hx:ev σ y=some (.slice b 0 cs)) (hk:k≤c):AL P σ (.call {callee:=.builtin .append,args:=#[x,y],argTypes:=#[T,T]}) ty w (.slice a k c) w:=by
 unfold Oo at hT
 split at hT
 · rename_i e' hu
   split at hT
   · rename_i i hi
     intro ρ _ _ _ _ hρ
     have h0:(Builtin.firstCells i.size 0 (.slice b 0 cs)).run P w=.ok #[] w:=by
       cases b with
       |none=>simp[Builtin.firstCells]
       |some q=>simp only[Builtin.firstCells,Nat.zero_mul];exact run_loadCells_list (P:=P) w q [] (λj v hj=>by simp at hj)
     have h1:∀q:Addr,(storeCells q []).run P w=.ok () w:=λq=>by simp[storeCells]
     cases a with
     |none=>simp[execOp,resolve,invoke,builtin,hρ _ _ hs,hρ _ _ hx,Builtin.append_,run_underlying hu,sizeOf,typeInfo,hi,Builtin.lenOf,hk,h0]
     |some q=>simp[execOp,resolve,invoke,builtin,hρ _ _ hs,hρ _ _ hx,Builtin.append_,run_underlying hu,sizeOf,typeInfo,hi,Builtin.lenOf,hk,h0,h1]
   · cases hT
 · cases hT
end Go.SW
namespace Go.SP
open Go.SW Go.RowKit
variable {U:Nat→Prop}{a q':Option Addr}{w':World}
theorem Hh.lt{w:World}{n c:Nat}{x:Nd}(h:Hh U w a n c x):Hh (λb=>U b∧b<w.heap.size) w a n c x:=Hh.imp h λ_ hu hl=>⟨⟨hu,hl⟩,rfl⟩
theorem Hh.grow{w:World}{q:Option Addr}{n c:Nat}{x:Nd}(h:Hh U w a n c x)(hG:Gm q w q' w')(hne:∀b,U b→some b≠rb q):Hh U w' a n c x :=
 Hh.imp h λb hu hl=>⟨hu,hG.block b hl (hne b hu)⟩
theorem Gm.refl(a:Option Addr)(w:World):Gm a w a w:=⟨rfl,rfl,rfl,Nat.le_refl _,λ_ _ _=>rfl,.inl rfl⟩
section
variable{P:Program}{n:Nat}{Q:AY}{σ:Bj}{ds:List Deferred}{w w0 w1:World}{ops:Array Oper}{ty T:TypeId}{pos:String}{af:Array Edge}{rest:List Oper}{d:Nat}{x y:Operand}
end
end Go.SP
namespace Go.Proofs.YtkahkniflkadoaaGreatDoor
open Go.SW Go.SP Go.RowKit Go.Proofs.Tryz
theorem NX(w:World)(f:Fq)(hv:Vl w f)(t:T1)(a:Option Addr)(c:Nat)(hb:t.bnd)(hT:Ai w f t.kids a c) :
  B3 prog 70 #[tV t a c] w (BO (α:=Option Addr×Nat) (λx=>tV t x.1 x.2) (λ_=>True) (λx=>[λw f=>Ai w f t.kids x.1 x.2]) w f) :=
 Mp (p:=tN prog 70) (λw f hv t a c h=>by omega) (λm ih w f hv t a c h1 h2 h3=>YG m ih w f hv t a c h1 h2 h3) (t.kids.size+1) w f hv t a c (Nat.lt_succ_self _) hb hT
theorem Tm(w:World)(f:Fq)(hv:Vl w f)(k:Ty)(a:Option Addr)(c:Nat)(hl:k.len≤200000)(hT:Ai w f k a c) :
  B3 prog 50 #[.slice a k.len c] w (BO (α:=Option Addr×Nat) (λx=>.slice x.1 k.len x.2) (λ_=>True) (λx=>[λw f=>Ai w f k x.1 x.2]) w f):=by
 refine CV (X:=X0 w f) (H:=[]) (R:=[]) (B:=[]) (Fs:=[λw f=>Ai w f k a c]) (f:=f) func50 rfl rfl rfl (Cz hv ⟨hT,tQ⟩ ⟨Ai.mono,tQ⟩)<|Aa 12 [] (λ_=>AZ 4 rfl rfl (λh1=>?_) (λh1=>?_));obtain rfl:a=none:=by cases a with|none=>rfl|some q=>cases h1
 obtain rfl:k=.nil:=by rcases hT.2 with h|⟨_,_,h,_⟩;exact h;cases h
 exact Aa 8 [] (λ_=>AV (Dx rfl rfl) (λw f hM=>⟨(none,0),f,rfl,tQ,hM.exm,⟨Ai.nil _ _ _ _,tQ⟩⟩));refine Aa 5 [] (λ_=>yS rfl rfl Rk λbr1=>Aa 1 [] (λ_=>?_));rcases Nat.eq_zero_or_pos k.len with h0|h0
 obtain rfl:=Ty.len0 h0;exact Fm rfl rfl (λw f hM=>fD Df rfl rfl (Nat.le_refl _))<|Aa 4 [] (λ_=>AV (Dx rfl rfl) (λw f hM=>⟨(some ⟨br1,0,none⟩,0),f,rfl,tQ,hM.exm,⟨Ai.nil _ _ _ _,tQ⟩⟩));refine LQ (α:=Nat×Nat×List Value) (λx=>a=some ⟨x.1,x.2.1,none⟩∧(∀v∈x.2.2,v.oneCell'=true)∧x.2.2.length=k.len*4) (λx=>[⟨x.1,x.2.1,x.2.2⟩]) (λx=>[λw f=>Bi w f k x.2.2]) (λw f hM=>let ⟨x,h1,h2,h3⟩:=Ai.cells (k:=k) (a:=a) (c:=c) hM.f0 h0;⟨x,h1,(oE h2),AI.mem ⟨h3,tQ⟩⟩) (λx=>Az.mem ⟨Bi.mono,tQ⟩) ?_;rintro⟨eb,eo,xs⟩ ⟨rfl,h1c,hxl⟩;exact Wq 0 0 rfl rfl Df rfl rfl rfl rfl rfl rfl hxl h1c h0 (λ_ _=>rfl) oM oM λa2 c2=>Aa 4 [] (λ_=>AV (Dx rfl rfl) (λw f hM=>let ⟨f2,hM2,hF⟩:=Nl hM hM.f0 h0;⟨(a2,c2),f2,by simp only[Nat.zero_add],tQ,hM2.exm,⟨hF,tQ⟩⟩))
theorem CN(w:World)(f:Fq)(hv:Vl w f)(tx:lU)(k:Ty)(a:Option Addr)(c:Nat)(hl:k.len≤200000)(hT:Ai w f k a c) :
  B3 prog 20 #[S tx,.slice a k.len c] w (BO (α:=Option Addr×Nat) (λx=>tV (.con tx k) x.1 x.2) (λ_=>True) (λx=>[λw f=>Ai w f k x.1 x.2]) w f):=by
 refine CV (X:=X0 w f) (H:=[]) (R:=[]) (B:=[]) (Fs:=[λw f=>Ai w f k a c]) (f:=f) func20 rfl rfl rfl (Cz hv ⟨hT,tQ⟩ ⟨Ai.mono,tQ⟩)<|Aa 9 [] (λb1=>λ_=>By rfl rfl (eC YK rfl rfl) (λw f hM=>Tm w f hM.vl k a c hl hM.f0) (λx=>⟨Ai.mono,tQ⟩) ?_);rintro⟨a2,c2⟩ -;exact Aa 5 [0] (y<|λ_=>AV (λw f hM=>AB rfl (Ae rfl AT hM.k0 rfl)) (λw f hM=>⟨(a2,c2),f,rfl,tQ,hM.exm,⟨hM.f0,tQ⟩⟩))
theorem Eb(w:World)(f:Fq)(hv:Vl w f)(sb mb:Nat)(s:Bn)(fr pr:Int)(hS:BB 128 sb mb s fr pr w f)(hw:I7 s)(t:T1)(a:Option Addr)(c:Nat)(hb:t.bnd)(hT:Ai w f t.kids a c) :
  B3 prog 99 #[pB sb,tV t a c] w (BO (α:=Option Addr×Nat) (λx=>tV (Ah s t) x.1 x.2) (λ_=>True) (λx=>[λw f=>Ai w f (Ah s t).kids x.1 x.2]) w f):=by
 obtain⟨hSb,es,hSm,hSe⟩:=hS;have hdis:=FN.dis hSe hw;have hlb:=hSb.lt;have hlm:=hSm.lt;refine CV (X:=X0 w f) (H:=[]) (R:=[]) (B:=[]) (Fs:=[λw f=>Ai w f t.kids a c]) (f:=f) func99 rfl rfl rfl (Cz hv ⟨hT,tQ⟩ ⟨Ai.mono,tQ⟩)<|Aa 8 [] (λb1=>λb2=>λ_=>?_);refine GC (α:=T1×Option Addr×Nat) (λx=>Em s x.1) (λx=>Ah s t=Ah s x.1∧x.1.bnd) (λx=>(E3 0 (pB sb) 3 (pB b1) 4 (pB b2))) (λx=>X0 w f) (λx=>[⟨b2,zT,55,true⟩,⟨b1,tC x.1 x.2.1 x.2.2,55,true⟩]) (λx=>[]) (λx=>[]) (λx=>[λw f=>Ai w f x.1.kids x.2.1 x.2.2]) (t,a,c) ⟨rfl,hb⟩ lE (λw f hM=>hM) ?_;rintro⟨u,ua,uc⟩ ⟨hh,hub⟩;dsimp only at hh hub ⊢;refine Aa 8 [1] (y<|λ_=>AZ 9 rfl rfl (λh1=>?_) (λh1=>?_));refine Aa 5 [] (λ_=>?_);obtain⟨n,rfl⟩:=Eg h1
 cases hl:AW s n with
 |none =>
  have hlk:=(FN.look hSe n).1 hl;refine LV (λw=>AM w sb [.map (some mb),iV fr,iV pr] 128∧Ch EO w mb es) (λw2 f2 _ hE=>⟨(hE.stp.block sb hlb (λh=>h)).trans hSb,hSm.heap (hE.stp.block mb hlm (λh=>h))⟩) [0,1] Aq (rd [0,1,2,3,4,5,6,7,8,9] (.br 10 (.br 11 (.rd 12 .fin) .fin) .fin)) rfl kR kR kR (λ_ _ _ _ _ h=>h)<|A6 3 [] (λ_=>Hm rfl rfl rfl (λw hK=>Al rfl Ve hK.2.2.1 rfl)<|A6 2 [1] (y<|λ_=>Hm rfl rfl rfl (λw hK=>JZ (K:=EO) (a:=n) rfl rfl UR O2 M6 hK.2.2.2 hdis hlk)<|A6 3 [] (λ_=>Ag rfl ?_ Aj)));refine Aa 2 [] (λb3=>λ_=>Be [1,2] (λw2 f2 _ hE=>⟨(hE.stp.block sb hlb (λh=>h)).trans hSb,hSm.heap (hE.stp.block mb hlm (λh=>h))⟩) rfl (λ_ h=>h)<|Ag rfl ?_ Aj);refine Aa 2 [0] (y<|λ_=>Be [1,2] (λw2 f2 _ hE=>⟨(hE.stp.block sb hlb (λh=>h)).trans hSb,hSm.heap (hE.stp.block mb hlm (λh=>h))⟩) rfl (λ_ h=>h)<|A6 1 [] (λ_=>Bo<|Aa 12 [] (λ_=>Gp<|Aa 9 [2,1] (y<|y<|λ_=>?_))));have hfin:Ah s t=.var n:=by rw[hh,Dg hl]
  exact AV (λw f hM=>AB rfl (Ae rfl AT hM.k1 rfl)) (λw f hM=>⟨(ua,uc),f,(by show _=tV (Ah s t) ua uc;rw[hfin]),tQ,hM.exm,⟨by show Ai w f (Ah s t).kids ua uc;rw[hfin];exact hM.f0,tQ⟩⟩)
 |some t2 =>
  refine LQ (α:=Option Addr×Nat) (λx=>Fp es n=some (tV t2 x.1 x.2)) (λx=>[]) (λx=>[λw f=>Ai w f t2.kids x.1 x.2]) (λw f hM=>let ⟨a2,c2,h1,h2⟩:=(FN.look hSe n).2 t2 hl;⟨(a2,c2),h1,nE,AI.mem ⟨Ai.mono _ _ _ _ h2 hM.ent,tQ⟩⟩) (λx=>Az.mem ⟨Ai.mono,tQ⟩) ?_;rintro⟨a2,c2⟩ hlk;refine LV (λw=>AM w sb [.map (some mb),iV fr,iV pr] 128∧Ch EO w mb es) (λw2 f2 _ hE=>⟨(hE.stp.block sb hlb (λh=>h)).trans hSb,hSm.heap (hE.stp.block mb hlm (λh=>h))⟩) [0,1] Aq (rd [0,1,2,3,4,5,6,7,8,9] (.br 10 (.br 11 (.rd 12 .fin) .fin) .fin)) rfl kR kR kR (λ_ _ _ _ _ h=>h)<|A6 3 [] (λ_=>Hm rfl rfl rfl (λw hK=>Al rfl Ve hK.2.2.1 rfl)<|A6 2 [1] (y<|λ_=>Hm rfl rfl rfl (λw hK=>Kj (K:=EO) (a:=n) rfl rfl UR O2 M6 hK.2.2.2 hdis hlk)<|A6 3 [] (λ_=>Ag rfl ?_ Aj)));refine Aa 2 [] (λb4=>λ_=>Be [1,2] (λw2 f2 _ hE=>⟨(hE.stp.block sb hlb (λh=>h)).trans hSb,hSm.heap (hE.stp.block mb hlm (λh=>h))⟩) rfl (λ_ h=>h)<|Ag rfl ?_ Aj);exact Aa 2 [0] (y<|λ_=>Be [1,2] (λw2 f2 _ hE=>⟨(hE.stp.block sb hlb (λh=>h)).trans hSb,hSm.heap (hE.stp.block mb hlm (λh=>h))⟩) rfl (λ_ h=>h)<|A6 1 [] (λ_=>Bo<|Aa 16 [0,2] (y<|y<|λ_=>DF ((t2,a2,c2)) (gJ hw hl) ⟨by rw[hh,TC hw hl],MJ hw hl⟩ lE (λw f hM=>⟨_,hM.less (List.sublist_cons_self _ _) sR nE (mR [0])⟩))))
 refine Aa 3 [] (λ_=>Gp<|Aa 9 [1,0] (y<|y<|λ_=>?_));obtain⟨tx,k,rfl⟩:=Fu h1;have hfin:Ah s t=.con tx k:=by rw[hh,F2]
 exact AV (λw f hM=>AB rfl (Ae rfl AT hM.k0 rfl)) (λw f hM=>⟨(ua,uc),f,(by show _=tV (Ah s t) ua uc;rw[hfin]),tQ,hM.exm,⟨by show Ai w f (Ah s t).kids ua uc;rw[hfin];exact hM.f0,tQ⟩⟩)
theorem Rd(w:World)(f:Fq)(hv:Vl w f)(nb:Nat)(n:Int)(hn:0≤n∧n≤100000)(hC:JJ nb n w f)(hf:f nb=0)(t:T1)(a:Option Addr)(c:Nat) :
  B3 prog 108 #[tV t a c,pB nb] w (EP (α:=Unit) (λ_=>.bool (decide (n+1≤1000))) (λ_=>True) (λb=>b=nb) (λ_=>JJ nb (n+1)) (λ_=>[]) w f):=by
 exact CV (X:=⟨λb=>b=nb,λ_=>False,λ_ _=>True,w,f⟩) (H:=[⟨nb,[iV n],3,false⟩]) (R:=[]) (B:=[]) (Fs:=[]) (f:=f) func108 rfl rfl rfl (sS hv hC hf tQ tQ)<|Aa 21 [1,1,1] (λb1=>y<|aI ⟨oM,oM⟩<|y<|y<|λ_=>AV (Dx rfl rfl) (λw f hM=>⟨(),f,rfl,tQ,hM.exm,hM.blk _ oW,tQ⟩))
theorem U1(k:Nat)(ih:∀j,j<k→sV prog 107 128 108 j)(w:World)(f:Fq)(hv:Vl w f)(sb mb:Nat)(s:Bn)(fr pr:Int)(nb:Nat)(hS:BB 128 sb mb s fr pr w f)(hw:I7 s)(hns:sb≠nb)(hnm:mb≠nb)(hf:f nb=0)(hC:JJ nb (1000-(k:Int)) w f)(hk:k≤1000)(t:T1)(a:Option Addr)(c:Nat)(hb:t.bnd)(hT:Ai w f t.kids a c) :
  B3 prog 107 #[pB sb,tV t a c,.func (.func 108) #[] #[pB nb]] w (EP (α:=Int) (λ_=>.bool (Bx s k t.one).isSome) (λx=>∀j,Bx s k t.one=some j→x=1000-(j:Int)) (λb=>b=nb) (λx=>JJ nb x) (λ_=>[]) w f):=by
 have hkb:=(Cw hw hb).1;refine CV (X:=⟨λb=>b=nb,λb=>b=nb,JJ nb (1000-(k:Int)),w,f⟩) (H:=[]) (R:=[]) (B:=[]) (Fs:=[λw f=>Ai w f t.kids a c]) (f:=f) func107 rfl rfl rfl (YX (M:=λb=>b=nb) (I:=JJ nb (1000-(k:Int))) hv hC (JJ.stab rfl) (λb hb=>by cases hb;exact⟨AM.lt hC,hf⟩) ⟨hT,tQ⟩ ⟨Ai.mono,tQ⟩)<|Aa 10 [0] (λb1=>y<|λ_=>By rfl rfl (eC Ii rfl rfl) (λw f hM=>Eb w f hM.vl sb mb s fr pr (BB.keep hS hM.exm hM.ent hns hnm) hw t a c hb hM.f0) (λx=>⟨Ai.mono,tQ⟩) ?_);rintro⟨ha,hc⟩ -;refine Aa 8 [0,0] (y<|y<|λ_=>Ow (XX:=λ_ _=>False) rfl rfl (λ_=>UG (caps:=[pB nb]) dJ rfl rfl) (λw f hM=>(Rd w f hM.vl nb (1000-(k:Int)) oM hM.res (hM.mi nb rfl).2.1 (Ah s t) ha hc).retP) (λ_=>JJ.stab rfl) (λ_=>trivial) (λ_ _ _ _ _ h=>h.elim) ?_);rintro⟨⟩ -;refine Aa 3 [] (λ_=>AZ 15 rfl rfl (λh1=>?_) (λh1=>?_));replace h1:=Fv h1;refine Aa 8 [] (λ_=>?_);obtain rfl:k=0:=by have:=of_decide_eq_false h1;omega
 have hres:=Kz s t;exact AV (Dx rfl rfl) (λw f hM=>⟨_,f,(by rw[hres];rfl),(λj h=>by rw[hres] at h;cases h),hM.exm,hM.res,tQ⟩);replace h1:=FO h1;refine Aa 5 [] (λ_=>?_);obtain⟨k2,rfl⟩:∃k2,k=k2+1:=⟨k-1,by have:=of_decide_eq_true h1;omega⟩;refine Aa 6 [0] (y<|λ_=>AZ 18 rfl rfl (λh2=>?_) (λh2=>?_));refine Aa 10 [0] (y<|λ_=>?_);refine GC (α:=Nat×Ty×Nat) (λx=>x.2.1.len) (λx=>x.1+x.2.1.len=(Ah s t).kids.len∧Bx s k2 (Ah s t).kids=Bx s x.2.2 x.2.1∧x.2.2≤k2∧x.2.1.bnd) (λx=>(E6 0 (pB sb) 2 (.func (.func 108) #[] #[pB nb]) 4 (pB b1) 20 (.slice ha (Ah s t).kids.len hc) 21 (iV ((Ah s t).kids.len:Int)) 22 (iV (x.1:Int)))) (λx=>⟨λb=>b=nb,λb=>b=nb,JJ nb (1000-(x.2.2:Int)),w,f⟩) (λx=>[⟨b1,tC (Ah s t) ha hc,55,true⟩]) (λx=>[]) (λx=>[]) (λx=>[λw f=>BN w f ha x.1 x.2.1]) (0,(Ah s t).kids,k2) ⟨by simp,rfl,Nat.le_refl _,(Cw hw hb).2⟩ lE (λw f hM=>(by have hM2:=hM.more (B':=[]) (F':=[λw f=>BN w f ha 0 (Ah s t).kids]) nE (AI.mem ⟨Ai.at hM.f0,tQ⟩) (Az.mem ⟨BN.mono,tQ⟩) |>.less (H':=[⟨b1,tC (Ah s t) ha hc,55,true⟩]) (R':=[]) (B':=[]) (F':=[λw f=>BN w f ha 0 (Ah s t).kids]) sR sR nE (mR [0]);rw[show (1000-((k2+1:Nat):Int))+1=1000-(k2:Int) by omega] at hM2;exact hM2)) ?_;rintro⟨i,r,j⟩ ⟨hi,hrem,hjk,hrb⟩;dsimp only at hi hrem hjk hrb ⊢;refine Aa 6 [] (λ_=>AZ 23 rfl rfl (λh3=>?_) (λh3=>?_));refine Aa 6 [] (λ_=>?_);have hil:i<(Ah s t).kids.len:=by have:=of_decide_eq_true h3;omega
 obtain⟨t2,r,rfl⟩:=Ty.cases1 r oM;rw[T1.len_cons] at hi;refine XN 0 rfl ?_;rintro⟨eb,eo,ka,kc⟩ rfl;refine Aa 12 [100,0,0,0] (aI oM<|y2<|λb2=>y<|y<|λ_=>Ow (XX:=λ_ _=>False) rfl rfl (eC Mq rfl rfl) (λw f hM=>(ih j oM w f hM.vl sb mb s fr pr nb (BB.keep hS hM.exm hM.ent hns hnm) hw hns hnm (hM.mi nb rfl).2.1 hM.res oM t2 ka kc (T1.bnd_cons.1 hrb).1 hM.f0).retP) (λ_=>JJ.stab rfl) (λ_=>trivial) (λ_ _ _ _ _ h=>h.elim) ?_);rintro cx hcx;refine Aa 3 [] (λ_=>AZ 30 rfl rfl (λh4=>?_) (λh4=>?_));replace h4:=Fv h4;have hj2:Bx s j t2.one=none:=by cases hx:Bx s j t2.one with|none=>rfl|some q=>rw[hx] at h4;cases h4
 refine Aa 9 [] (λ_=>dN<|Aa 2 [] (λ_=>?_));have hone:=Js s k2 t;have hres:Bx s (k2+1) t.one=none:=by rw[hone,hrem,IM,hj2];rfl
 exact AV (Dx rfl rfl) (λw f hM=>⟨_,f,(by rw[hres];rfl),(λj h=>by rw[hres] at h;cases h),hM.exm,hM.res,tQ⟩);replace h4:=FO h4;obtain⟨j2,hj2⟩:=Option.isSome_iff_exists.1 h4;exact Aa 8 [] (aI ⟨oM,oM⟩<|λ_=>DF ((i+1,r,j2)) (show r.len<(t2.cons r).len by rw[T1.len_cons];omega) ⟨show i+1+r.len=(Ah s t).kids.len by omega,show Bx s k2 (Ah s t).kids=Bx s j2 r by rw[hrem,IM,hj2];rfl,show j2≤k2 by have:=Eh s j t2.one j2 hj2;omega,(T1.bnd_cons.1 hrb).2⟩ lE (λw f hM=>⟨_,by have hM2:=hM.less (H':=[⟨b1,tC (Ah s t) (some ⟨eb,eo,none⟩) hc,55,true⟩]) (R':=[]) (B':=[]) (F':=[λw f=>BN w f (some ⟨eb,eo,none⟩) (i+1) r]) (List.sublist_cons_self _ _) sR nE (mR [1]);rw[hcx j2 hj2] at hM2;exact hM2⟩));refine Aa 3 [] (λ_=>Gp<|Aa 8 [] (λ_=>?_));have hone:=Js s k2 t;obtain rfl:r=.nil:=Ty.len0 (by have:=of_decide_eq_false h3;omega);have hres:Bx s (k2+1) t.one=some j:=by rw[hone,hrem];cases j <;> rfl
 exact AV (Dx rfl rfl) (λw f hM=>⟨_,f,(by rw[hres];rfl),(λq h=>by rw[hres] at h;cases h;rfl),hM.exm,hM.res,tQ⟩);refine Aa 9 [] (λ_=>?_);have hone:=Js s k2 t;obtain⟨n,hv2⟩:=Eg (t:=Ah s t) (by have:=h2;simpa using this);have hres:Bx s (k2+1) t.one=some k2:=by rw[hone,hv2];cases k2 <;> rfl
 exact AV (Dx rfl rfl) (λw f hM=>⟨_,f,(by rw[hres];rfl),(λq h=>by rw[hres] at h;cases h;omega),hM.exm,hM.res,tQ⟩)
theorem Uj:∀k,sV prog 107 128 108 k:=λk=>Nat.strongRecOn k λk ih w f hv sb mb s fr pr nb hS hw hns hnm hf hC hk t a c hb hT=>U1 k ih w f hv sb mb s fr pr nb hS hw hns hnm hf hC hk t a c hb hT
theorem N3(w:World)(f:Fq)(hv:Vl w f)(sb mb:Nat)(s:Bn)(fr pr:Int)(hS:BB 128 sb mb s fr pr w f)(hw:I7 s)(t:T1)(a:Option Addr)(c:Nat)(hb:t.bnd)(hT:Ai w f t.kids a c) :
  B3 prog 82 #[pB sb,tV t a c] w (BO (α:=Unit) (λ_=>.bool (El s t)) (λ_=>True) (λ_=>[]) w f):=by
 have hlb:=hS.1.lt;have hlm:mb<w.heap.size:=by obtain⟨_,es,h,_⟩:=hS;exact h.lt
 refine CV (X:=X0 w f) (H:=[]) (R:=[]) (B:=[]) (Fs:=[λw f=>Ai w f t.kids a c]) (f:=f) func82 rfl rfl rfl (Cz hv ⟨hT,tQ⟩ ⟨Ai.mono,tQ⟩)<|Aa 16 [0,1] (λb1=>λb2=>y<|y<|λ_=>Fm rfl rfl (λw f hM=>Qt rfl)<|rC 0 rfl rfl<|JU (λw f hM=>(⟨λe=>(hM.mi _ (.inr rfl)).2.2.elim (λh=>absurd hlb (by rw[e];exact Nat.not_lt.2 h)) (λh=>h),λe=>(hM.mi _ (.inr rfl)).2.2.elim (λh=>absurd hlm (by rw[e];exact Nat.not_lt.2 h)) (λh=>h)⟩:sb≠b2∧mb≠b2)) λhne=>Ow (α:=Int) (val:=λ_=>.bool (Bx s 1000 t.one).isSome) (q:=λ_=>True) (I':=λx w f=>True∧JJ b2 x w f) (F':=λ_=>[]) (XX:=λ_ _=>False) rfl rfl (eC Mq rfl rfl) (λw f hM=>((Uj 1000 w f hM.vl sb mb s fr pr b2 (BB.keep hS hM.exm hM.ent (λh=>h) (λh=>h)) hw hne.1 hne.2 (hM.mi _ (.inr rfl)).2.1 hM.res.2 (Nat.le_refl _) t a c hb hM.f0).mono λv w2 ⟨x,f2,h1,h2,h3,h4,h5⟩=>⟨x,f2,h1,tQ,h3.mono (λb hb=>.inr hb),⟨tQ,h4⟩,h5⟩).retP) (λ_=>(λ_ _ _ _ h hF hm=>⟨tQ,JJ.stab (MI:=λb=>False∨b=b2) (.inr rfl) _ _ _ _ h.2 hF hm⟩)) (λ_=>trivial) (λ_ _ _ _ _ h=>h.elim) ?_);rintro cx -;exact Aa 4 [] (λ_=>AV (Dx rfl rfl) (λw f hM=>⟨(),f,(by rw[El,Dp]),tQ,hM.exm,tQ⟩))
theorem Tw(w:World)(f:Fq)(hv:Vl w f)(xb:Nat)(x:Int)(hB:AM w xb [iV x] 3)(t:T1)(a:Option Addr)(c:Nat) :
  B3 prog 124 #[tV t a c,pB xb] w (BO (α:=Unit) (λ_=>.bool (Tu x t)) (λ_=>True) (λ_=>[]) w f):=by
 have hlx:=hB.lt;refine CV (X:=X0 w f) (H:=[]) (R:=[]) (B:=[]) (Fs:=[]) (f:=f) func124 rfl rfl rfl (Cz hv tQ tQ)<|Aa 12 [0] (λb1=>y<|λ_=>AZ 7 rfl rfl (λh1=>?_) (λh1=>?_));refine Aa 9 [] (λ_=>?_)
 cases t with
 |var m=>cases h1
 |con tx k=>exact AV (Dx rfl rfl) (λw f hM=>⟨(),f,rfl,tQ,hM.exm,tQ⟩)
 refine Aa 2 [0] (y<|λ_=>Fm rfl rfl (λw f hM=>Al rfl HP ((hM.stp.block xb hlx (λh=>h)).trans hB) rfl)<|Aa 6 [] (λ_=>?_))
 cases t with
 |var m=>exact AV (Dx rfl rfl) (λw f hM=>⟨(),f,rfl,tQ,hM.exm,tQ⟩)
 |con tx k=>cases h1
theorem SU(k:Nat)(ih:∀j,j<k→rV prog 107 128 124 j)(w:World)(f:Fq)(hv:Vl w f)(sb mb:Nat)(s:Bn)(fr pr:Int)(xb:Nat)(x:Int)(hS:BB 128 sb mb s fr pr w f)(hw:I7 s)(hB:AM w xb [iV x] 3)(t:T1)(a:Option Addr)(c jj:Nat)(hb:t.bnd)(hT:Ai w f t.kids a c)(hfin:Bx s k t.one=some jj) :
  B3 prog 107 #[pB sb,tV t a c,.func (.func 124) #[] #[pB xb]] w (BO (α:=Unit) (λ_=>.bool (Cv s x k t.one)) (λ_=>True) (λ_=>[]) w f):=by
 have hkb:=(Cw hw hb).1;have hlx:=hB.lt;obtain⟨k2,rfl⟩:∃q,k=q+1:=by cases k with|zero=>rw[Kz] at hfin;cases hfin|succ q=>exact⟨q,rfl⟩
 have hk3:Bx s k2 (Ah s t).kids=some jj:=by rw[← Js];exact hfin
 refine CV (X:=X0 w f) (H:=[]) (R:=[]) (B:=[]) (Fs:=[λw f=>Ai w f t.kids a c]) (f:=f) func107 rfl rfl rfl (Cz hv ⟨hT,tQ⟩ ⟨Ai.mono,tQ⟩)<|Aa 10 [0] (λb1=>y<|λ_=>By rfl rfl (eC Ii rfl rfl) (λw f hM=>Eb w f hM.vl sb mb s fr pr (BB.keep hS hM.exm hM.ent (λh=>h) (λh=>h)) hw t a c hb hM.f0) (λx=>⟨Ai.mono,tQ⟩) ?_);rintro⟨ha,hc⟩ -;refine Aa 8 [0,0] (y<|y<|λ_=>By rfl rfl (λ_=>UG (caps:=[pB xb]) cF rfl rfl) (λw f hM=>Tw w f hM.vl xb x ((hM.stp.block xb hlx (λh=>h)).trans hB) (Ah s t) ha hc) (λx=>trivial) ?_);rintro⟨⟩ -;refine Aa 3 [] (λ_=>AZ 15 rfl rfl (λh1=>?_) (λh1=>?_));replace h1:=Fv h1;refine Aa 8 [] (λ_=>?_);have hres:Cv s x (k2+1) t.one=false:=by rw[HQ,h1];rfl
 exact AV (Dx rfl rfl) (λw f hM=>⟨(),f,(by rw[hres]),tQ,hM.exm,tQ⟩);replace h1:=FO h1;refine Aa 11 [0] (y<|λ_=>AZ 18 rfl rfl (λh2=>?_) (λh2=>?_));refine Aa 10 [0] (y<|λ_=>?_);refine GC (α:=Nat×Ty×Nat) (λy=>y.2.1.len) (λy=>y.1+y.2.1.len=(Ah s t).kids.len∧Bx s k2 (Ah s t).kids=Bx s y.2.2 y.2.1∧y.2.2≤k2∧y.2.1.bnd∧Cv s x k2 (Ah s t).kids=Cv s x y.2.2 y.2.1) (λy=>(E6 0 (pB sb) 2 (.func (.func 124) #[] #[pB xb]) 4 (pB b1) 20 (.slice ha (Ah s t).kids.len hc) 21 (iV ((Ah s t).kids.len:Int)) 22 (iV (y.1:Int)))) (λy=>X0 w f) (λy=>[⟨b1,tC (Ah s t) ha hc,55,true⟩]) (λy=>[]) (λy=>[]) (λy=>[λw f=>BN w f ha y.1 y.2.1]) (0,(Ah s t).kids,k2) ⟨by simp,rfl,Nat.le_refl _,(Cw hw hb).2,rfl⟩ lE (λw f hM=>hM.more (B':=[]) (F':=[λw f=>BN w f ha 0 (Ah s t).kids]) nE (AI.mem ⟨Ai.at hM.f0,tQ⟩) (Az.mem ⟨BN.mono,tQ⟩) |>.less (H':=[⟨b1,tC (Ah s t) ha hc,55,true⟩]) (R':=[]) (B':=[]) (F':=[λw f=>BN w f ha 0 (Ah s t).kids]) sR sR nE (mR [0])) ?_;rintro⟨i,r,j⟩ ⟨hi,hrem,hjk,hrb,hfr⟩;dsimp only at hi hrem hjk hrb hfr ⊢;refine Aa 6 [] (λ_=>AZ 23 rfl rfl (λh3=>?_) (λh3=>?_));refine Aa 6 [] (λ_=>?_);have hil:i<(Ah s t).kids.len:=by have:=of_decide_eq_true h3;omega
 obtain⟨t2,r,rfl⟩:=Ty.cases1 r oM;rw[T1.len_cons] at hi;refine XN 0 rfl ?_;rintro⟨eb,eo,ka,kc⟩ rfl;refine Aa 12 [100,0,0,0] (aI oM<|y2<|λb2=>y<|y<|λ_=>?_);obtain⟨j2,hj2⟩:∃q,Bx s j t2.one=some q:=by cases hx:Bx s j t2.one with|some q=>exact⟨q,rfl⟩|none=>rw[hrem,IM,hx] at hk3;cases hk3
 refine By rfl rfl (eC Mq rfl rfl) (λw f hM=>ih j oM w f hM.vl sb mb s fr pr xb x (BB.keep hS hM.exm hM.ent (λh=>h) (λh=>h)) hw ((hM.stp.block xb hlx (λh=>h)).trans hB) t2 ka kc j2 (T1.bnd_cons.1 hrb).1 hM.f0 hj2) (λx=>trivial) ?_;rintro⟨⟩ -;refine Aa 3 [] (λ_=>AZ 30 rfl rfl (λh4=>?_) (λh4=>?_));replace h4:=Fv h4;refine Aa 9 [] (λ_=>dN<|Aa 2 [] (λ_=>?_));have hres:Cv s x (k2+1) t.one=false:=by rw[HQ,hfr,Pt hj2,h4];simp
 exact AV (Dx rfl rfl) (λw f hM=>⟨(),f,(by rw[hres]),tQ,hM.exm,tQ⟩);replace h4:=FO h4;exact Aa 8 [] (aI ⟨oM,oM⟩<|λ_=>DF ((i+1,r,j2)) (show r.len<(t2.cons r).len by rw[T1.len_cons];omega) ⟨show i+1+r.len=(Ah s t).kids.len by omega,show Bx s k2 (Ah s t).kids=Bx s j2 r by rw[hrem,IM,hj2];rfl,show j2≤k2 by have:=Eh s j t2.one j2 hj2;omega,(T1.bnd_cons.1 hrb).2,show Cv s x k2 (Ah s t).kids=Cv s x j2 r by rw[hfr,Pt hj2,h4];rfl⟩ lE (λw f hM=>⟨_,hM.less (H':=[⟨b1,tC (Ah s t) (some ⟨eb,eo,none⟩) hc,55,true⟩]) (R':=[]) (B':=[]) (F':=[λw f=>BN w f (some ⟨eb,eo,none⟩) (i+1) r]) (List.sublist_cons_self _ _) sR nE (mR [1])⟩));refine Aa 3 [] (λ_=>Gp<|Aa 8 [] (λ_=>?_));obtain rfl:r=.nil:=Ty.len0 (by have:=of_decide_eq_false h3;omega);have hres:Cv s x (k2+1) t.one=true:=by rw[HQ,h1,hfr];cases j <;> rfl
 exact AV (Dx rfl rfl) (λw f hM=>⟨(),f,(by rw[hres]),tQ,hM.exm,tQ⟩);refine Aa 9 [] (λ_=>?_);obtain⟨n,hv2⟩:=Eg (t:=Ah s t) (by have:=h2;simpa using this);have hres:Cv s x (k2+1) t.one=true:=by rw[HQ,h1,hv2];cases k2 <;> rfl
 exact AV (Dx rfl rfl) (λw f hM=>⟨(),f,(by rw[hres]),tQ,hM.exm,tQ⟩)
theorem RA:∀k,rV prog 107 128 124 k:=λk=>Nat.strongRecOn k λk ih w f hv sb mb s fr pr xb x hS hw hB t a c j hb hT hj=>SU k ih w f hv sb mb s fr pr xb x hS hw hB t a c j hb hT hj
end Go.Proofs.YtkahkniflkadoaaGreatDoor
