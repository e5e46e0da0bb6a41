/- What it rests on, part 4. -/
import Derived.Test.YtelmolopaolbcaaGreatDoorGg3
set_option linter.unusedVariables false
set_option linter.unusedSimpArgs false
namespace Go.Proofs.YtelmolopaolbcaaGreatDoor
open Go.SW Go.SP Go.RowKit Go.Proofs.Tryz
theorem PZ(w:World)(c2 c3 c4:Nat) :
  CallsD prog 17 [pB c2,pB c3,pB c4].toArray .returning w λr m w'=>∃x,r=.returned x∧m=.returning∧AR w w':=by
 refine Dl (R:=λw'=>AR w w') func17 rfl rfl rfl rfl N9<|(?_:A3 prog _ (Fj prog _ (λ_ w'=>AR w w') λ_ _=>False) [] (X0 w (λ_=>0)) [] [] [] (.code _) [] _ []) w (λ_=>0) (BS (λ_ _=>rfl) tQ tQ);exact Aa 3 [] (λ_=>D6 rfl rfl (λw f hM=>Pb OW rfl)<|Aa 7 [] (λ_=>dX (λw f hM=>D0 rfl) (λw f hM=>hM.exm.stp.ext)))
theorem Rn(w:World)(f:Fq)(hv:Vl w f)(c2 c3 c4:Nat)(v2 x3 y3 v4:Value)(hc2:AI w c2 [v2] 46)(hc3:AI w c3 [x3,y3] 27)(hc4:AI w c4 [v4] 28)(hf:f c2=0∧f c3=0∧f c4=0)(hn:c2≠c3∧c2≠c4∧c3≠c4)(er:Int×Int) :
  CallsD prog 17 [pB c2,pB c3,pB c4].toArray (.panicking (Qv 61 er)) w λr m w'=>∃x,r=.returned x∧m=.panicking [{v:=.iface 61 (.agg #[iV er.1,iV er.2]),recovered:=true}]∧(∃f',C2 (λb=>b=c2∨b=c3∨b=c4) w f w' f'∧AI w' c2 [.slice none 0 0] 46∧AI w' c3 [iV er.1,iV er.2] 27∧AI w' c4 [iV 10] 28):=by
 refine Dl (R:=λw'=>∃f',C2 (λb=>b=c2∨b=c3∨b=c4) w f w' f'∧AI w' c2 [.slice none 0 0] 46∧AI w' c3 [iV er.1,iV er.2] 27∧AI w' c4 [iV 10] 28) func17 rfl rfl rfl rfl PN<|(?_:A3 prog _ (Fj prog _ (λ_ w'=>∃f',C2 (λb=>b=c2∨b=c3∨b=c4) w f w' f'∧AI w' c2 [.slice none 0 0] 46∧AI w' c3 [iV er.1,iV er.2] 27∧AI w' c4 [iV 10] 28) λ_ _=>False) [] ⟨λb=>b=c2∨b=c3∨b=c4,λ_=>False,λ_ _=>True,w,f⟩ [] [] [] (.code _) [] _ [⟨c2,[v2],46,false⟩,⟨c3,[x3,y3],27,false⟩,⟨c4,[v4],28,false⟩]) w f (fI hv hc2 hc3 hc4 hf hn);refine Aa 3 [] (λ_=>D6 rfl rfl (λw f hM=>Qg OW rfl)<|Aa 5 [] (λ_=>D6 rfl rfl (λw f hM=>Uc rfl nG)<|Aa 11 [0] (λb1=>y<|λ_=>Cv [0] Ak (.rd 0 (.rd 1 (.br 2 (.br 3 (.br 4 .fin .fin) .fin) .fin))) rfl kR<|A1 2 [0] (y<|λ_=>Af rfl ?_ Aj))));refine Aa 2 [1] (y<|λ_=>Au [0] rfl<|Af rfl ?_ Aj);refine Aa 2 [2] (y<|λ_=>Au [0] rfl<|Af rfl ?_ Aj);exact Aa 2 [3] (y<|λ_=>Au [0] rfl<|Bf<|Aa 1 [] (λ_=>dX (λw f hM=>D0 rfl) (λw f hM=>⟨f,hM.exm,hM.blk _ gU,hM.blk _ UZ,hM.blk _ UK⟩)))
variable {σ:Ba}{f f':Fq}{a:Option Addr}{v2 v4 x3 y3:Value}{w w':World}
theorem qE{p:Nd×Int×Int×Int}{b2 b3 b4:Nat}(hn:b2≠b3∧b2≠b4∧b3≠b4){fn:Func}(hr:fn.results=#[.cell 2 46,.cell 3 27,.cell 4 28])(h2:σ 2=some (pB b2))(h3:σ 3=some (pB b3))(h4:σ 4=some (pB b4)){er:Int×Int}(hm:p=(.nil,er.1,er.2,10))(hE:C2 (λ_=>False) w f w' f')
  (k2:AI w' b2 [v2] 46∧f' b2=0∧(true=true→w.heap.size≤b2)) (k3:AI w' b3 [x3,y3] 27∧f' b3=0∧(true=true→w.heap.size≤b3)) (k4:AI w' b4 [v4] 28∧f' b4=0∧(true=true→w.heap.size≤b4))
  (tmps:Array Value) (ht:∀t,t∈[2,3,4]→∀v,σ t=some v→tmps.getD t undef=v):Leaves prog fn tmps (λe w'=>∃v,e=.returned v∧Rp p w f v w') [{target:=.fn (.func 17) ([pB b2,pB b3,pB b4]:List Value).toArray,args:=#[]}] (.panicking (Qv 61 er)) w':=by
 refine Fg (by simp) Zl (Rn w' f' hE.val b2 b3 b4 v2 x3 y3 v4 k2.1 k3.1 k4.1 ⟨k2.2.1,k3.2.1,k4.2.1⟩ hn er) λwz hz=>?_;rw[JW];obtain⟨f3,e3,z2,z3,z4⟩:=hz;refine BM (σ:=AA (E2 2 (pB b2) 3 (pB b3)) 4 (pB b4)) (λt v hv=>?_) (D3 hr (Bt rfl Iu z2 rfl) (Ac rfl Ex z3 rfl) (Bt rfl H0 z4 rfl)) ⟨_,rfl,f3,none,0,C2.trans0 hE e3 (λb hb=>?_),by rw[hm];rfl,by rw[hm];exact⟨Nat.zero_le _,.inl rfl⟩⟩
 ·
  by_cases e4:t=4
  · subst e4;exact ht 4 (by simp) v (h4.trans hv)
  by_cases e5:t=3
  · subst e5;exact ht 3 (by simp) v (h3.trans hv)
  by_cases e2:t=2
  · subst e2;exact ht 2 (by simp) v (h2.trans hv)
  have n4:Nat.beq t 4=false:=by cases h:Nat.beq t 4 with|false=>rfl|true=>exact absurd (Nat.eq_of_beq_eq_true h) e4
  have n3:Nat.beq t 3=false:=by cases h:Nat.beq t 3 with|false=>rfl|true=>exact absurd (Nat.eq_of_beq_eq_true h) e5
  have n2:Nat.beq t 2=false:=by cases h:Nat.beq t 2 with|false=>rfl|true=>exact absurd (Nat.eq_of_beq_eq_true h) e2
  simp[AA,Go.SW.e0,n2,n3,n4] at hv
 ·
  rcases hb with rfl|rfl|rfl
  · exact k2.2.2 rfl
  · exact k3.2.2 rfl
  · exact k4.2.2 rfl
theorem sJ{p:Nd×Int×Int×Int}{b2 b3 b4:Nat}{fn:Func}(hr:fn.results=#[.cell 2 46,.cell 3 27,.cell 4 28])(h2:σ 2=some (pB b2))(h3:σ 3=some (pB b3))(h4:σ 4=some (pB b4)){nds:Nd}(hm:p=(nds,0,0,0))(hE:C2 (λ_=>False) w f w' f'){c:Nat}(hB:AD w' f' nds a c)
  (k2:AI w' b2 [.slice a nds.len c] 46) (k3:AI w' b3 [iV 0,iV 0] 27) (k4:AI w' b4 [iV 0] 28)
  (tmps:Array Value) (ht:∀t v,σ t=some v→tmps.getD t undef=v):Leaves prog fn tmps (λe w'=>∃v,e=.returned v∧Rp p w f v w') [{target:=.fn (.func 17) ([pB b2,pB b3,pB b4]:List Value).toArray,args:=#[]}] .returning w':=by
 refine Fg (by simp) Zl (PZ w' b2 b3 b4) λwz hz=>?_;have e3:=C2.of_ext hz hE.val;subst hm;exact BM ht (D3 hr (Bt h2 Iu (k2.ext hz) rfl) (Ac h3 Ex (k3.ext hz) rfl) (Bt h4 H0 (k4.ext hz) rfl)) ⟨_,rfl,f',a,c,C2.trans0 hE e3 (λb hb=>hb.elim),rfl,AD.mono _ _ _ _ hB (e3.fle hE.val (λ_ h=>h.elim))⟩
theorem RA(w:World)(f:Fq)(hv:Vl w f)(ta:Option Addr)(tc:Nat)(toks:List AK)(hT:BQ w 108 5 ta tc toks.length (ER toks))(hlen:toks.length≤100000) :
  BD prog 19 #[.slice ta toks.length tc] w (Bx (α:=Fo×Option Addr×Nat) (λx=>.slice x.2.1 x.1.len x.2.2) (λx=>Bn toks [] .nil=.ok x.1) (λx=>[λw f=>DG w f x.1 x.2.1 x.2.2]) w f) (R6 61 (λe=>Bn toks [] .nil=.error e) w f) :=
 (Tf w ta _ tc toks hT rfl hlen).mono (λ_ w' ⟨fo,a,c,h1,h2,h3,h4⟩=>⟨(fo,a,c),gN w w' f,h2,h1,bK h4,Eb.frz h3,tQ⟩) λ_ w' ⟨e,h1,h2,h3⟩=>⟨e,f,h2,h1,C2.of_ext h3 hv⟩
set_option maxHeartbeats 1000000 in
theorem V4(w:World)(f:Fq)(hv:Vl w f)(hJ:CX w f)(n:Nat)(src:lU)(e:Int×Int×Int)(hcd:(e.2.2 != 0)=true)(hs:∀w1,Gl w1→Bo prog 16 #[S src] w1 λv w'=>v=.tuple #[.slice none 0 0,.agg #[iV e.1,iV e.2.1],iV e.2.2]∧AR w1 w') :
  Bo prog 11 #[S src] w (Rp (Kw (n+1) (.error e)) w f):=by
 refine oH (K:=[2,3,4]) (X:=X0 w f) (H:=[]) (R:=[]) (B:=[]) (Fs:=[λw f=>CX w f]) (f:=f) func11 rfl rfl rfl (BS hv ⟨hJ,tQ⟩ ⟨CX.mono,tQ⟩)<|Aa 8 [] (λb1=>λb2=>λb3=>λ_=>Ig (p:=b1≠b2∧b1≠b3∧b2≠b3) (λw f hM=>by have h9:=hM.nd;simp[C8] at h9;exact⟨λe=>h9.2 e.symm,λe=>h9.1.2 e.symm,λe=>h9.1.1 e.symm⟩) λhn=>Aa 2 [] (λ_=>CR rfl rfl (eC X5 rfl rfl) (λw f hM=>hs _ (CX.gl hM.f0))<|Aa 16 [1,0,0] (y<|y<|y<|λ_=>AJ 13 rfl rfl (λh1=>?_) (λh1=>?_))));refine Aa 2 [] (λ_=>V8 [2,3,4] (λ_=>True) EG [] Ak (.br 0 (.br 1 (.br 2 (.br 3 (.br 4 .fin .fin) .fin) .fin) (.br 2 (.br 1 (.br 3 (.br 4 .fin .fin) .fin) (.br 3 (.br 1 (.br 4 .fin .fin) .fin) .fin)) .fin)) (.br 1 (.br 0 (.br 2 (.br 3 (.br 4 .fin .fin) .fin) .fin) (.br 2 (.br 0 (.br 3 (.br 4 .fin .fin) .fin) .fin) .fin)) (.br 2 (.br 0 (.br 1 (.br 3 (.br 4 .fin .fin) .fin) (.br 3 (.br 1 (.br 4 .fin .fin) .fin) .fin)) (.br 1 (.br 0 (.br 3 (.br 4 .fin .fin) .fin) .fin) .fin)) .fin))) rfl kR kR kR rfl Ey<|Af rfl ?_ ?_);refine Aa 2 [1] (y<|λ_=>Au [] rfl<|Af rfl ?_ ?_);refine Aa 2 [0] (y<|λ_=>Au [] rfl<|Af rfl ?_ Aj);refine Aa 2 [2] (y<|λ_=>Au [] rfl<|Af rfl ?_ Aj);refine Aa 2 [1] (y<|λ_=>Au [] rfl<|Af rfl ?_ Aj);exact Aa 2 [0] (y<|λ_=>Au [] rfl<|Bf<|Aa 3 [] (λ_=>λw9 f9 hM=>λtmps ht=>BM ht (D3 rfl (Bt rfl Iu hM.k2 rfl) (Ac rfl Ex hM.k1 rfl) (Bt rfl H0 hM.k0 rfl)) ⟨_,rfl,f9,none,0,hM.exm,rfl,⟨Nat.zero_le _,.inl rfl⟩⟩));refine Af rfl ?_ Aj;refine Aa 2 [2] (y<|λ_=>Au [] rfl<|Af rfl ?_ ?_);refine Aa 2 [0] (y<|λ_=>Au [] rfl<|Af rfl ?_ Aj);refine Aa 2 [1] (y<|λ_=>Au [] rfl<|Af rfl ?_ Aj);exact Aa 2 [0] (y<|λ_=>Au [] rfl<|Bf<|Aa 3 [] (λ_=>λw9 f9 hM=>λtmps ht=>BM ht (D3 rfl (Bt rfl Iu hM.k2 rfl) (Ac rfl Ex hM.k1 rfl) (Bt rfl H0 hM.k0 rfl)) ⟨_,rfl,f9,none,0,hM.exm,rfl,⟨Nat.zero_le _,.inl rfl⟩⟩));refine Af rfl ?_ Aj;refine Aa 2 [1] (y<|λ_=>Au [] rfl<|Af rfl ?_ Aj);refine Aa 2 [0] (y<|λ_=>Au [] rfl<|Af rfl ?_ Aj);exact Aa 2 [0] (y<|λ_=>Au [] rfl<|Bf<|Aa 3 [] (λ_=>λw9 f9 hM=>λtmps ht=>BM ht (D3 rfl (Bt rfl Iu hM.k2 rfl) (Ac rfl Ex hM.k1 rfl) (Bt rfl H0 hM.k0 rfl)) ⟨_,rfl,f9,none,0,hM.exm,rfl,⟨Nat.zero_le _,.inl rfl⟩⟩));refine Af rfl ?_ ?_;refine Aa 2 [0] (y<|λ_=>Au [] rfl<|Af rfl ?_ ?_);refine Aa 2 [1] (y<|λ_=>Au [] rfl<|Af rfl ?_ Aj);refine Aa 2 [2] (y<|λ_=>Au [] rfl<|Af rfl ?_ Aj);refine Aa 2 [1] (y<|λ_=>Au [] rfl<|Af rfl ?_ Aj);exact Aa 2 [0] (y<|λ_=>Au [] rfl<|Bf<|Aa 3 [] (λ_=>λw9 f9 hM=>λtmps ht=>BM ht (D3 rfl (Bt rfl Iu hM.k2 rfl) (Ac rfl Ex hM.k1 rfl) (Bt rfl H0 hM.k0 rfl)) ⟨_,rfl,f9,none,0,hM.exm,rfl,⟨Nat.zero_le _,.inl rfl⟩⟩));refine Af rfl ?_ Aj;refine Aa 2 [2] (y<|λ_=>Au [] rfl<|Af rfl ?_ Aj);refine Aa 2 [1] (y<|λ_=>Au [] rfl<|Af rfl ?_ Aj);refine Aa 2 [1] (y<|λ_=>Au [] rfl<|Af rfl ?_ Aj);exact Aa 2 [0] (y<|λ_=>Au [] rfl<|Bf<|Aa 3 [] (λ_=>λw9 f9 hM=>λtmps ht=>BM ht (D3 rfl (Bt rfl Iu hM.k2 rfl) (Ac rfl Ex hM.k1 rfl) (Bt rfl H0 hM.k0 rfl)) ⟨_,rfl,f9,none,0,hM.exm,rfl,⟨Nat.zero_le _,.inl rfl⟩⟩));refine Af rfl ?_ Aj
 refine Aa 2 [2] (y<|λ_=>Au [] rfl<|Af rfl ?_ ?_);refine Aa 2 [1] (y<|λ_=>Au [] rfl<|Af rfl ?_ ?_);refine Aa 2 [0] (y<|λ_=>Au [] rfl<|Af rfl ?_ Aj);refine Aa 2 [1] (y<|λ_=>Au [] rfl<|Af rfl ?_ Aj);exact Aa 2 [0] (y<|λ_=>Au [] rfl<|Bf<|Aa 3 [] (λ_=>λw9 f9 hM=>λtmps ht=>BM ht (D3 rfl (Bt rfl Iu hM.k2 rfl) (Ac rfl Ex hM.k1 rfl) (Bt rfl H0 hM.k0 rfl)) ⟨_,rfl,f9,none,0,hM.exm,rfl,⟨Nat.zero_le _,.inl rfl⟩⟩));refine Af rfl ?_ Aj;refine Aa 2 [1] (y<|λ_=>Au [] rfl<|Af rfl ?_ Aj);refine Aa 2 [0] (y<|λ_=>Au [] rfl<|Af rfl ?_ Aj);exact Aa 2 [0] (y<|λ_=>Au [] rfl<|Bf<|Aa 3 [] (λ_=>λw9 f9 hM=>λtmps ht=>BM ht (D3 rfl (Bt rfl Iu hM.k2 rfl) (Ac rfl Ex hM.k1 rfl) (Bt rfl H0 hM.k0 rfl)) ⟨_,rfl,f9,none,0,hM.exm,rfl,⟨Nat.zero_le _,.inl rfl⟩⟩));refine Af rfl ?_ Aj;refine Aa 2 [0] (y<|λ_=>Au [] rfl<|Af rfl ?_ Aj);refine Aa 2 [1] (y<|λ_=>Au [] rfl<|Af rfl ?_ Aj);refine Aa 2 [1] (y<|λ_=>Au [] rfl<|Af rfl ?_ Aj);exact Aa 2 [0] (y<|λ_=>Au [] rfl<|Bf<|Aa 3 [] (λ_=>λw9 f9 hM=>λtmps ht=>BM ht (D3 rfl (Bt rfl Iu hM.k2 rfl) (Ac rfl Ex hM.k1 rfl) (Bt rfl H0 hM.k0 rfl)) ⟨_,rfl,f9,none,0,hM.exm,rfl,⟨Nat.zero_le _,.inl rfl⟩⟩));exact absurd (hcd.symm.trans h1) dC
set_option maxHeartbeats 1000000 in
theorem Zn(w:World)(f:Fq)(hv:Vl w f)(hJ:CX w f)(n:Nat)(src:lU)(toks:List AK)(hlen:toks.length≤100000)(hok:∀fo,Bn toks [] .nil=.ok fo→fo.all (Gc (n+1))∧fo.len≤100000)(hs:∀w1,Gl w1→Bo prog 16 #[S src] w1 λv w'=>∃ta tc,v=.tuple #[.slice ta toks.length tc,.agg #[iV 0,iV 0],iV 0]∧(BQ w' 108 5 ta tc toks.length (ER toks)∧∀b,rb ta=some b→w1.heap.size≤b)∧AR w1 w') :
  Bo prog 11 #[S src] w (Rp (Kw (n+1) (.ok toks)) w f):=by
 refine oH (K:=[2,3,4]) (X:=X0 w f) (H:=[]) (R:=[]) (B:=[]) (Fs:=[λw f=>CX w f]) (f:=f) func11 rfl rfl rfl (BS hv ⟨hJ,tQ⟩ ⟨CX.mono,tQ⟩)<|Aa 8 [] (λb1=>λb2=>λb3=>λ_=>Ig (p:=b1≠b2∧b1≠b3∧b2≠b3) (λw f hM=>by have h9:=hM.nd;simp[C8] at h9;exact⟨λe=>h9.2 e.symm,λe=>h9.1.2 e.symm,λe=>h9.1.1 e.symm⟩) λhn=>Aa 2 [] (λ_=>wR (val:=λa c=>.tuple #[.slice a toks.length c,.agg #[iV 0,iV 0],iV 0]) rfl rfl (eC X5 rfl rfl) (λw f hM=>hs w (CX.gl hM.f0)) λta tc=>Aa 21 [1,0,0] (y<|y<|y<|λ_=>D6 rfl rfl (λw f hM=>Sv rfl)<|vU rfl rfl<|Aa 5 [] (λ_=>sW (pe:=λe=>Bn toks [] .nil=.error e) rfl rfl (eC mY rfl rfl) (λw f hM=>RA w f hM.vl ta tc toks (hM.row _ (.head _)) hlen) (λ_=>⟨DG.mono,tQ⟩) (λer w2 f2 he hE hH=>qE hn rfl rfl rfl rfl (by rw[Kw,he]) hE (hH _ UZ) (hH _ gU) (hH _ uQ)) ?_))));rintro⟨fo,fa,fc⟩ htr;dsimp only at htr ⊢;obtain⟨hall,hfl⟩:=hok fo htr;refine sW (pe:=λe=>Bk (CB (n+1)) fo=.error e) rfl rfl (eC CZ rfl rfl) (λw f hM=>BL 20 mU (CB (n+1)) (Gc (n+1)) (λw f hv hJ t k a c hd hT=>V1 n w f hv hJ t k a c hd hT) w f hM.vl hM.f1 fo _ _ hall hfl hM.f0) (λ_=>⟨AD.mono,tQ⟩) (λer w2 f2 he hE hH=>qE hn rfl rfl rfl rfl (by rw[Kw,htr];simp only[he]) hE (hH _ UZ) (hH _ gU) (hH _ uQ)) ?_;rintro⟨⟨nds,xnds⟩,na,nc⟩ hnds;dsimp only at hnds ⊢;exact Aa 7 [2,1,0] (y<|y<|y<|λ_=>λw9 f9 hM=>λtmps ht=>sJ rfl rfl rfl rfl (show Kw (n+1) (.ok toks)=(nds,0,0,0) by rw[Kw,htr];simp only[hnds]) hM.exm hM.f0 hM.k2 hM.k1 hM.k0 tmps ht)
theorem HC(w:World)(b:Nat)(src:lU)(i:Nat)(p:Ps)(sl:Value)(hsc:AI w b [S src,iV (i:Int),iV p.1,iV p.2,sl] 106) :
  Bo prog 38 #[pB b] w λv w'=>v=.bool (decide ((i:Int)<(src.length:Int)))∧AR w w':=by
 have hbl:=hsc.lt;have hX:=AR.refl w;refine enter func38 rfl rfl rfl<|AQ [] 6 [] (Ar _) (λ_=>?_);have hr1:=hsc;refine DE mixed (A5 w [b]) [(true,0),(true,1),(true,2),(true,3),(true,4),(true,5),(true,6),(true,7),(true,8),(true,9),(true,10)] kR kR rfl rfl λw1 hE1 hz1=>?_;have hKp:A5 w [b] w1:=A5.cons hr1 hE1 (A5.nil _ _);refine⟨hKp,?_⟩;replace hsc:=hsc.ext hE1;replace hX:=hX.trans hE1;refine A0 rfl (λ_ hS=>Ay rfl)<|A0 rfl (λ_ hS=>Bv rfl)<|A0 rfl (λ_ hS=>B8 rfl EN)<|A0 rfl (λ_ hS=>Ai rfl TL (hr1.keep hS (.head _)) rfl)<|A0 rfl (λ_ hS=>Ay rfl)<|A0 rfl (λ_ hS=>Bv rfl)<|A0 rfl (λ_ hS=>B8 rfl Hb)<|A0 rfl (λ_ hS=>Ai rfl WO (hr1.keep hS (.head _)) rfl)<|A0 rfl (λ_ hS=>LN rfl I8)<|A0 rfl (λ_ hS=>Sw rfl rfl) ?_;exact A0 rfl (λ_ hS=>CI rfl)<|DN<|J8 [.sq _] 2 [] (Ar _) (λ_=>Bm (A9 rfl (Ah rfl))<|⟨rfl,hX⟩)
theorem Fu(w:World)(b:Nat)(src:lU)(i:Nat)(p:Ps)(sl:Value)(hsc:AI w b [S src,iV (i:Int),iV p.1,iV p.2,sl] 106)(c:UInt8)(hc:src[i]?=some c)(hi:i<1000000)(hp:Pk i p) :
  Bo prog 74 #[pB b] w λv w'=>v=.int .u8 c.toNat∧AI w' b [S src,iV ((i+1:Nat):Int),iV (adv c p).1,iV (adv c p).2,sl] 106∧Ka b w w':=by
 have hbl:=hsc.lt;obtain⟨hp1,hp2,hp3,hp4⟩:=hp;have hX:=Ka.refl b w;refine enter func74 rfl rfl rfl<|AQ [] 6 [] (Ar _) (λ_=>?_);have hr1:=hsc;refine DE mixed (A5 w [b]) [(true,0),(true,1),(true,2),(true,3),(true,4),(true,5),(true,6),(true,7),(true,8),(true,9)] kR kR rfl rfl λw1 hE1 hz1=>?_;have hKp:A5 w [b] w1:=A5.cons hr1 hE1 (A5.nil _ _);refine⟨hKp,?_⟩;replace hsc:=hsc.ext hE1;replace hX:=hX.trans hE1;refine A0 rfl (λ_ hS=>Ay rfl)<|A0 rfl (λ_ hS=>Bv rfl)<|A0 rfl (λ_ hS=>B8 rfl Hb)<|A0 rfl (λ_ hS=>Ai rfl WO (hr1.keep hS (.head _)) rfl)<|A0 rfl (λ_ hS=>Ay rfl)<|A0 rfl (λ_ hS=>Bv rfl)<|A0 rfl (λ_ hS=>B8 rfl EN)<|A0 rfl (λ_ hS=>Ai rfl TL (hr1.keep hS (.head _)) rfl)<|A0 rfl (λ_ hS=>Dk rfl rfl I8 oM (by simpa using hc))<|A0 rfl (λ_ hS=>CI rfl) ?_;refine DN<|J8 [.sq _] 4 [] (Ar _) (λ_=>Ab rfl (Bv rfl)<|AH [.sq _] 3 [0,1] (kB hsc (Ar _)) (y2<|aI ⟨oM,oM⟩<|λ_=>Ab rfl (Bv rfl)<|Ab rfl (B8 rfl EN)<|A2 rfl rfl rfl TL rfl hsc rfl rfl λw2 hb1 hC1=>?_));replace hX:=hX.chg hC1 oM;have sz1:=hC1.size;refine AH [.sq _] 5 [] (Ar _) (λ_=>Ab rfl (Bv rfl)<|AH [.sq _] 4 [0,3] (kB hb1 (Ar _)) (y2<|aI ⟨oM,oM⟩<|λ_=>Ab rfl (Bv rfl)<|AH [.sq _] 2 [] (Ar _) (λ_=>A2 rfl rfl rfl TL rfl hb1 rfl rfl λw3 hb2 hC2=>?_)));replace hX:=hX.chg hC2 oM;have sz2:=hC2.size;refine AH [.sq _] 9 [] (Ar _) (λ_=>sP 30 rfl (λh1=>?_) (λh1=>?_));refine AQ [.sq _] 4 [] (Ar _) (λ_=>Ab rfl (Bv rfl)<|AH [.sq _] 5 [0,2] (kB hb2 (Ar _)) (y2<|aI ⟨oM,oM⟩<|λ_=>Ab rfl (Bv rfl)<|Ab rfl (B8 rfl PD)<|A2 rfl rfl rfl Il rfl hb2 rfl rfl λw4 hb3 hC3=>?_));replace hX:=hX.chg hC3 oM;have sz3:=hC3.size;exact AH [.sq _] 9 [] (Ar _) (λ_=>Bm (A9 rfl (Ah rfl))<|⟨rfl,by simp only[adv,h1];exact hb3,hX⟩);exact AQ [.sq _] 10 [] (Ar _) (λ_=>Bm (A9 rfl (Ah rfl))<|⟨rfl,by simp only[adv,h1];exact hb2,hX⟩)
theorem QQ(w:World)(b:Nat)(src:lU)(i:Nat)(p:Ps)(sl:Value)(hsc:AI w b [S src,iV (i:Int),iV p.1,iV p.2,sl] 106)(c:UInt8)(hc:src[i]?=some c)(hi:i<100000)(hp:Pk i p) :
  BD prog 102 #[pB b] w (λv w'=>∃(c1:UInt8)(i1:Nat)(p1:Ps),JL p (src.drop i)=.ok (c1,src.drop i1,p1)∧v=.int .u8 c1.toNat∧AI w' b [S src,iV ((i1:Nat):Int),iV p1.1,iV p1.2,sl] 106∧Ka b w w'∧i<i1∧i1≤src.length∧Pk i1 p1) (λcc w'=>∃e,JL p (src.drop i)=.error e∧cc=Qv 103 e∧Ka b w w'):=by
 have hbl:=hsc.lt;have hX:=Ka.refl b w;refine HO func102 rfl rfl rfl<|AQ [] 8 [] (Ar _) (λ_=>Ab rfl (Bv rfl)<|AH [.sq _] 2 [0,2] (kB hsc (Ar _)) (y2<|λ_=>C1 rfl Tr λb1 w1 hb1 hE1 hs1 hz1=>?_));replace hsc:=hsc.ext hE1;replace hX:=hX.trans hE1;refine A2 rfl rfl rfl Il rfl hb1 rfl rfl λw2 hb2 hC1=>?_;replace hsc:=hsc.chg hC1 oM;replace hX:=hX.chg hC1 oM;have sz1:=hC1.size;refine AH [.sq _] 6 [] (Ar _) (λ_=>A4 rfl (Ax Na rfl rfl) (Fu _ b src i p sl hsc c hc oM hp) ?_);rintro _ w3 ⟨rfl,hb3,hE2⟩;replace hb2:=hb2.exb hE2 oM;replace hX:=hX.trans2 hE2;have sz2:=hE2.size;have hp1:=Pk.adv (c:=c) hp;refine AH [.sq _,.sq _] 16 [] (Ar _) (λ_=>sP 14 rfl (λh1=>?_) (λh1=>?_));exact AQ [.sq _,.bk _,.sq _] 13 [] (Ar _) (λ_=>Bm (A9 rfl (Ah rfl))<|⟨c,i+1,adv c p,by rw[AZ hc];simp[JL,h1],rfl,hb3,hX,oM,by have:=Ca hc;omega,hp1⟩);refine AQ [.sq _,.bk _,.sq _] 6 [] (Ar _) (λ_=>sP 14 rfl (λh2=>?_) (λh2=>?_));exact AQ [.bk _,.sq _] 10 [] (Ar _) (λ_=>Bm (A9 rfl (Ah rfl))<|⟨c,i+1,adv c p,by rw[AZ hc];simp[JL,h1,h2],rfl,hb3,hX,oM,by have:=Ca hc;omega,hp1⟩);refine AQ [.bk _,.sq _] 7 [] (Ar _) (λ_=>sP 18 rfl (λh3=>?_) (λh3=>?_));exact AQ [.bk _,.sq _] 9 [] (Ar _) (λ_=>Bm (A9 rfl (Ah rfl))<|⟨10,i+1,adv c p,by rw[AZ hc];simp[JL,h1,h2,h3],rfl,hb3,hX,oM,by have:=Ca hc;omega,hp1⟩);refine AQ [.bk _,.sq _] 7 [] (Ar _) (λ_=>sP 20 rfl (λh4=>?_) (λh4=>?_));refine AQ [.bk _,.sq _] 2 [] (Ar _) (λ_=>?_);have hr1:=hb3;have hr2:=hb2;refine DE mixed (A5 w3 [b,b1]) [(true,0),(true,1),(true,2),(true,3),(true,4),(true,5),(true,6),(true,7),(true,8),(true,9),(true,10)] kR kR rfl rfl λw4 hE3 hz2=>?_;have hKp:A5 w3 [b,b1] w4:=A5.cons hr1 hE3 (A5.cons hr2 hE3 (A5.nil _ _));refine⟨hKp,?_⟩;replace hb2:=hb2.ext hE3;replace hb3:=hb3.ext hE3;replace hX:=hX.trans hE3;refine A0 rfl (λ_ hS=>Ay rfl)<|A0 rfl (λ_ hS=>Bv rfl)<|A0 rfl (λ_ hS=>B8 rfl EN)<|A0 rfl (λ_ hS=>Ai rfl TL (hr1.keep hS (.head _)) rfl)<|A0 rfl (λ_ hS=>Nf rfl rfl ⟨oM,oM⟩)<|A0 rfl (λ_ hS=>Ay rfl)<|A0 rfl (λ_ hS=>Bv rfl)<|A0 rfl (λ_ hS=>B8 rfl Hb)<|A0 rfl (λ_ hS=>Ai rfl WO (hr1.keep hS (.head _)) rfl)<|A0 rfl (λ_ hS=>LN rfl I8) ?_;refine A0 rfl (λ_ hS=>Zx rfl rfl)<|DN<|Dh<|sP 32 rfl (λh5=>?_) (λh5=>?_);refine AQ [.bk _,.sq _] 2 [] (Ar _) (λ_=>?_);have hlt2:i+3≤src.length:=by have:=h5;simp at this;omega
 obtain⟨a1,ha1⟩:=J7 (show i+1<src.length by omega);obtain⟨a2,ha2⟩:=J7 (show i+2<src.length by omega);have hr3:=hb3;have hr4:=hb2;refine DE mixed (A5 w4 [b,b1]) [(true,0),(true,1),(true,2),(true,3),(true,4),(true,5),(true,6),(true,7),(true,8),(true,10),(true,11),(true,12),(true,13),(true,14),(true,15),(true,16),(true,17),(true,18),(true,19),(false,9),(false,20),(true,21),(true,22)] kR kR rfl rfl λw5 hE4 hz3=>?_;have hKp:A5 w4 [b,b1] w5:=A5.cons hr3 hE4 (A5.cons hr4 hE4 (A5.nil _ _));refine⟨hKp,?_⟩;replace hb2:=hb2.ext hE4;replace hb3:=hb3.ext hE4;replace hX:=hX.trans hE4;refine A0 rfl (λ_ hS=>Ay rfl)<|A0 rfl (λ_ hS=>Bv rfl)<|A0 rfl (λ_ hS=>B8 rfl Hb)<|A0 rfl (λ_ hS=>Ai rfl WO (hr3.keep hS (.head _)) rfl)<|A0 rfl (λ_ hS=>Ay rfl)<|A0 rfl (λ_ hS=>Bv rfl)<|A0 rfl (λ_ hS=>B8 rfl EN)<|A0 rfl (λ_ hS=>Ai rfl TL (hr3.keep hS (.head _)) rfl)<|A0 rfl (λ_ hS=>Dk rfl rfl I8 oM (show src[(((i+1:Nat):Int)).toNat]?=some a1 by rw[Int.toNat_natCast];exact ha1))<|A0 rfl (λ_ hS=>Ay rfl) ?_;refine A0 rfl (λ_ hS=>Bv rfl)<|A0 rfl (λ_ hS=>B8 rfl Hb)<|A0 rfl (λ_ hS=>Ai rfl WO (hr3.keep hS (.head _)) rfl)<|A0 rfl (λ_ hS=>Ay rfl)<|A0 rfl (λ_ hS=>Bv rfl)<|A0 rfl (λ_ hS=>B8 rfl EN)<|A0 rfl (λ_ hS=>Ai rfl TL (hr3.keep hS (.head _)) rfl)<|A0 rfl (λ_ hS=>Nf rfl rfl ⟨oM,oM⟩)<|A0 rfl (λ_ hS=>Dk rfl rfl I8 oM (show src[(((i+1:Nat):Int)+1).toNat]?=some a2 by rw[show (((i+1:Nat):Int)+1).toNat=i+2 by omega];exact ha2))<|El ?_;refine A4 rfl (Ax UF rfl rfl) (ET _ EI _) ?_;rintro _ w6 ⟨rfl,hE5⟩;replace hb2:=hb2.ext hE5;replace hb3:=hb3.ext hE5;replace hX:=hX.trans hE5;replace hKp:=hKp.ext hE5;have sz3:=hE5.size;refine Ae (GB hKp<|El<|A4 rfl (Ax UF rfl rfl) (ET _ EI _) ?_);rintro _ w7 ⟨rfl,hE6⟩;replace hb2:=hb2.ext hE6;replace hb3:=hb3.ext hE6;replace hX:=hX.trans hE6;replace hKp:=hKp.ext hE6;have sz4:=hE6.size;refine Ae (GB hKp<|A0 rfl (λ_ hS=>CI rfl)<|A0 rfl (λ_ hS=>CI rfl)<|DN<|J8 [.sq _,.bk _,.sq _] 6 [] (Ar _) (λ_=>sL 56 rfl (λh6=>?_) (λh6=>?_)));refine AH [.sq _,.bk _,.sq _] 5 [] (Ar _) (λ_=>sP 59 rfl (λh7=>?_) (λh7=>?_));refine AQ [.bk _,.sq _] 4 [] (Ar _) (λ_=>A4 rfl (Ax Na rfl rfl) (Fu _ b src (i+1) (adv c p) sl hb3 a1 ha1 oM hp1) ?_);rintro _ w8 ⟨rfl,hb4,hE7⟩;replace hb2:=hb2.exb hE7 oM;replace hX:=hX.trans2 hE7;have sz5:=hE7.size;have hp2:=Pk.adv (c:=a1) hp1;refine AH [.sq _,.bk _,.sq _] 5 [] (Ar _) (λ_=>A4 rfl (Ax Na rfl rfl) (Fu _ b src ((i+1)+1) (adv a1 (adv c p)) sl hb4 a2 ha2 oM hp2) ?_);rintro _ w9 ⟨rfl,hb5,hE8⟩;replace hb2:=hb2.exb hE8 oM;replace hX:=hX.trans2 hE8;have sz6:=hE8.size;have hp3:=Pk.adv (c:=a2) hp2;refine AH [.sq _,.bk _,.sq _] 3 [] (Ar _) (λ_=>?_);have hx1:0≤Lib.indexByte EI a1:=by have:=h6;simpa using this
 have hx2:0≤Lib.indexByte EI a2:=by have:=h7;simpa using this
 have hy1:=XE a1;have hy2:=XE a2;exact AQ [.sq _,.bk _,.sq _] 2 [] (Ar _) (λ_=>Ab rfl (cI rfl rfl ⟨hx1,hy1⟩)<|Ab rfl (Ay rfl)<|Ab rfl (bT rfl rfl ⟨hx1,hy1⟩ ⟨hx2,hy2⟩)<|Ab rfl (Dg rfl fK (Vd ⟨oM,oM⟩))<|AH [.sq _,.bk _,.sq _] 6 [] (Ar _) (λ_=>Bm (A9 rfl (Ah rfl))<|⟨UInt8.ofNat ((Lib.indexByte EI a1).toNat*16+(Lib.indexByte EI a2).toNat),i+3,adv a2 (adv a1 (adv c p)),by rw[AZ hc,ZN ha1 ha2];simp[JL,h1,h2,h3,h4,hx1,hx2],by rw[uE ⟨hx1,hy1⟩ ⟨hx2,hy2⟩],hb5,hX,oM,oM,hp3⟩));exact AQ [.bk _,.sq _] 7 [0,0] (kB hb2 (Ar _)) (y2<|λ_=>Ab rfl (BO rfl FC)<|Ce (B9 rfl) (aI rfl<|⟨p,by rw[AZ hc,ZN ha1 ha2];exact QE h1 h2 h3 h4 (.inr (by have:=h7;simpa using this)),rfl,hX⟩));exact AH [.sq _,.bk _,.sq _] 12 [0,0] (kB hb2 (Ar _)) (y2<|λ_=>Ab rfl (BO rfl FC)<|Ce (B9 rfl) (aI rfl<|⟨p,by rw[AZ hc,ZN ha1 ha2];exact QE h1 h2 h3 h4 (.inl (by have:=h6;simpa using this)),rfl,hX⟩));exact AQ [.bk _,.sq _] 7 [0,0] (kB hb2 (Ar _)) (y2<|λ_=>Ab rfl (BO rfl FC)<|Ce (B9 rfl) (aI rfl<|⟨p,by rw[AZ hc];exact XK h1 h2 h3 (by have:=h5;simp at this;simp;omega),rfl,hX⟩));exact AQ [.bk _,.sq _] 7 [0,0] (kB hb2 (Ar _)) (y2<|λ_=>Ab rfl (BO rfl FC)<|Ce (B9 rfl) (aI rfl<|⟨p,by rw[AZ hc];simp[JL,h1,h2,h3,h4],rfl,hX⟩))
theorem Rq(w:World)(b:Nat)(src:lU)(i:Nat)(p:Ps)(sl:Value)(hsc:AI w b [S src,iV (i:Int),iV p.1,iV p.2,sl] 106)(start:Ps)(hile:i≤src.length)(hi:src.length<100000)(hp:Pk i p) :
  BD prog 76 #[pB b,.agg #[iV start.1,iV start.2]] w (λv w'=>∃(tx:lU)(i1:Nat)(p1:Ps),GJ start (src.length+1) p [] (src.drop i)=.ok (tx,src.drop i1,p1)∧v=.agg #[iV 4,iV start.1,iV start.2,iV 0,S tx]∧AI w' b [S src,iV ((i1:Nat):Int),iV p1.1,iV p1.2,sl] 106∧Ka b w w'∧i<i1∧i1≤src.length∧Pk i1 p1) (λcc w'=>∃e,GJ start (src.length+1) p [] (src.drop i)=.error e∧cc=Qv 103 e∧Ka b w w'):=by
 have hbl:=hsc.lt;have hX:=Ka.refl b w;refine HO func76 rfl rfl rfl<|AQ [] 2 [] (Ar _) (λ_=>DJ rfl rfl rfl λb1 w1 hb1 hE1 hs1 hz1=>?_);replace hsc:=hsc.ext hE1;replace hX:=hX.trans hE1;refine C1 rfl Dn λb2 w2 hb2 hE2 hs2 hz2=>?_;replace hsc:=hsc.ext hE2;replace hb1:=hb1.ext hE2;replace hX:=hX.trans hE2;refine AH [.sq _] 9 [] (Ar _) (λ_=>?_);refine DC (λk σ ds w'=>∃(j:Nat)(q:Ps)(acc:lU)(ra:Option Addr)(rc F:Nat),k=src.length-j∧ds=[]∧σ=(E4 0 (pB b) 3 (pB b1) 4 (pB b2) 5 (.slice ra acc.length rc))∧i≤j∧j≤src.length∧Pk j q∧src.length+1≤F+j∧GJ start (src.length+1) p [] (src.drop i)=GJ start F q acc (src.drop j)∧acc.length≤j∧AI w' b [S src,iV ((j:Nat):Int),iV q.1,iV q.2,sl] 106∧AI w' b1 [iV start.1,iV start.2] 27 ∧ AI w' b2 [iV 0,iV 0,iV 0,iV 0,.string ⟨#[]⟩] 108∧BQ w' 5 1 ra rc acc.length (bC acc)∧(∀x,rb ra=some x→w.heap.size≤x∧x≠b1∧x≠b2)∧Ka b w w') (src.length-i) (E4 0 (pB b) 3 (pB b1) 4 (pB b2) 5 (.slice none 0 0)) lE ⟨i,p,[],none,0,src.length+1,rfl,rfl,rfl,Nat.le_refl _,hile,hp,oM,rfl,by simp,hsc,hb1,hb2,F5 _ _ _,(λx hx=>by cases hx),hX⟩ ?_;rintro _ _ _ wl ⟨j,q,acc,ra,rc,F,rfl,rfl,rfl,hij,hjl,hq,hF,hm,hal,hscl,hl3,hl4,hrow,hlow,hX⟩;have szl:=hX.size;have lt3:=hl3.lt;have lt4:=hl4.lt;have lts:=hscl.lt;have hlowl:∀x,rb ra=some x→x<wl.heap.size:=λx hx=>hrow.lt hx;refine AQ [] 4 [] (Ar _) (λ_=>A4 rfl (Ax R8 rfl rfl) (HC _ b src j q sl hscl) ?_);rintro _ w3 ⟨rfl,hE3⟩;replace hscl:=hscl.ext hE3;replace hl3:=hl3.ext hE3;replace hl4:=hl4.ext hE3;replace hrow:=hrow.ext hE3;replace hX:=hX.trans hE3;have sz1:=hE3.size;refine AH [.sq _,.sq _] 2 [] (Ar _) (λ_=>sP 9 rfl (λh1=>?_) (λh1=>?_));refine AQ [.sq _] 5 [] (Ar _) (λ_=>?_);have hjlt:j<src.length:=by have:=h1;simpa using this
 obtain⟨c,hc⟩:=J7 hjlt;obtain⟨F,rfl⟩:∃F1,F=F1+1:=⟨F-1,oM⟩;refine AQ [.sq _,.bk _] 2 [] (Ar _) (λ_=>Ab rfl (Bv rfl)<|AH [.sq _,.bk _] 2 [0,2] (kB hscl (Ar _)) (y2<|λ_=>C1 rfl Tr λb3 w4 hb3 hE4 hs3 hz3=>?_));replace hscl:=hscl.ext hE4;replace hl3:=hl3.ext hE4;replace hl4:=hl4.ext hE4;replace hrow:=hrow.ext hE4;replace hX:=hX.trans hE4;refine A2 rfl rfl rfl Il rfl hb3 rfl rfl λw5 hb4 hC1=>?_;replace hscl:=hscl.chg hC1 oM;replace hl3:=hl3.chg hC1 oM;replace hl4:=hl4.chg hC1 oM;replace hrow:=BQ.chg hrow hC1 (λe=>by have:=hlow _ e;have:=hlowl _ e;omega);replace hX:=hX.chg hC1 oM;have sz2:=hC1.size;refine AH [.sq _,.bk _] 5 [] (Ar _) (λ_=>A4 rfl (Ax Na rfl rfl) (Fu _ b src j q sl hscl c hc oM hq) ?_);rintro _ w6 ⟨rfl,hb5,hE5⟩;replace hl3:=hl3.exb hE5 oM;replace hl4:=hl4.exb hE5 oM;replace hrow:=BQ.exb hrow hE5 (λe=>by have:=hlow _ e;omega);replace hb4:=hb4.exb hE5 oM;replace hX:=hX.trans2 hE5;have sz3:=hE5.size;have hp1:=Pk.adv (c:=c) hq;refine AH [.sq _,.bk _] 11 [] (Ar _) (λ_=>sP 16 rfl (λh2=>?_) (λh2=>?_));refine AQ [.bk _,.bk _] 9 [] (Ar _) (λ_=>sP 21 rfl (λh3=>?_) (λh3=>?_));exact AQ [.sq _,.bk _,.bk _] 4 [0,0] (kB hl3 (Ar _)) (y2<|λ_=>Ab rfl (BO rfl FC)<|Ce (B9 rfl) (aI rfl<|⟨start,hm.trans (Ze hc h2 h3),rfl,hX⟩));refine AQ [.sq _,.bk _,.bk _] 7 [0,0] (kB hl3 (Ar _)) (y2<|λ_=>Ab rfl (Y4 rfl Vj hrow)<|Ab rfl (Ds rfl Rf Dn rfl)<|A2 rfl rfl rfl D8 rfl hl4 rfl rfl λw7 hb6 hC2=>?_);replace hl3:=hl3.chg hC2 oM;replace hrow:=BQ.chg hrow hC2 (λe=>by have:=hlow _ e;have:=hlowl _ e;omega);replace hb4:=hb4.chg hC2 oM;replace hb5:=hb5.chg hC2 oM;replace hX:=hX.chg hC2 oM;have sz4:=hC2.size;exact AH [.sq _,.bk _,.bk _] 5 [] (Ar _) (λ_=>Vy<|J8 [.bk _,.sq _] 2 [] (Ar _) (λ_=>Bm (A9 rfl (Ac rfl D8 hb6 rfl))<|⟨acc,j+1,adv c q,hm.trans (Zf hc h2 h3),rfl,hb5,hX,oM,oM,hp1⟩));refine AQ [.bk _,.bk _] 8 [] (Ar _) (λ_=>sP 29 rfl (λh4=>?_) (λh4=>?_));exact AQ [.bk _,.bk _] 4 [0,0] (kB hb4 (Ar _)) (y2<|λ_=>Ab rfl (BO rfl FC)<|Ce (B9 rfl) (aI rfl<|⟨q,hm.trans (Y6 hc h2 h4),rfl,hX⟩));refine AQ [.bk _,.bk _] 8 [] (Ar _) (λ_=>sP 35 rfl (λh5=>?_) (λh5=>?_));refine AQ [.bk _,.bk _] 4 [] (Ar _) (λ_=>BZ rfl rfl Z3 tW rfl rfl rfl rfl rfl λb4 w8 hb7 hE6 hs4 hz4=>?_);replace hl3:=hl3.ext hE6;replace hl4:=hl4.ext hE6;replace hrow:=hrow.ext hE6;replace hb4:=hb4.ext hE6;replace hb5:=hb5.ext hE6;replace hX:=hX.trans hE6;refine AY rfl kQ rfl rfl rfl rfl hrow hb7 rfl rfl oM oM λra2 rc2 w9 hr2 hG=>?_;have hlow2:∀x,rb ra2=some x→w.heap.size≤x∧x≠b1∧x≠b2:=BP hG hlow oM;replace hl3:=hl3.grow hG (λe=>by have:=hlow _ e.symm;have:=hlowl _ e.symm;omega);replace hl4:=hl4.grow hG (λe=>by have:=hlow _ e.symm;have:=hlowl _ e.symm;omega);replace hb5:=hb5.grow hG (λe=>by have:=hlow _ e.symm;have:=hlowl _ e.symm;omega);replace hX:=hX.grow hG (λx hx=>(hlow x hx).1);have sz5:=hG.size;refine AH [.bk _,.bk _] 4 [] (Ar _) (λ_=>?_);have hl2:acc.length+1=(acc++[c]).length:=by simp
 refine GV (src.length-(j+1)) (E4 0 (pB b) 3 (pB b1) 4 (pB b2) 5 (.slice ra2 (acc++[c]).length rc2)) (by have:=Ca hc;omega) (uA rfl rfl rfl (hl2▸rfl)) ⟨j+1,adv c q,acc++[c],ra2,rc2,F,rfl,rfl,rfl,oM,by have:=Ca hc;omega,hp1,oM,hm.trans (Wv hc h2 h4 h5),by rw[← hl2];omega,hb5,hl3,hl4,by rw[← hl2,bC_app];exact hr2,hlow2,hX⟩;refine AQ [.bk _,.bk _] 4 [] (Ar _) (λ_=>A4 rfl (Ax R8 rfl rfl) (HC _ b src (j+1) (adv c q) sl hb5) ?_);rintro _ w10 ⟨rfl,hE7⟩;replace hl3:=hl3.ext hE7;replace hl4:=hl4.ext hE7;replace hrow:=hrow.ext hE7;replace hb4:=hb4.ext hE7;replace hb5:=hb5.ext hE7;replace hX:=hX.trans hE7;have sz6:=hE7.size;refine AH [.sq _,.bk _,.bk _] 3 [] (Ar _) (λ_=>sP 42 rfl (λh6=>?_) (λh6=>?_));refine F4 rfl rfl ?_;obtain⟨c2,hc2⟩:=J7 (show j+1<src.length by have:=of_decide_eq_true h6;omega);refine AQ [.bk _,.bk _] 3 [] (Ar _) (λ_=>BX rfl (Ax nQ rfl rfl) (QQ _ b src (j+1) (adv c q) sl hb5 c2 hc2 oM hp1) ?_ (λcc wp hc1=>aI rfl (let ⟨e,he,hcc,hE⟩:=hc1;⟨e,hm.trans (V5 hc h2 h4 h5 (by have:=of_decide_eq_true h6;omega) he),hcc,hX.trans2 hE⟩)));rintro _ w11 ⟨c1,i1,p1,hesc,rfl,hb8,hE8,hi1,hi2,hp1⟩;replace hl3:=hl3.exb hE8 oM;replace hl4:=hl4.exb hE8 oM;replace hrow:=BQ.exb hrow hE8 (λe=>by have:=hlow _ e;omega);replace hb4:=hb4.exb hE8 oM;replace hX:=hX.trans2 hE8;have sz7:=hE8.size;refine BZ rfl rfl Z3 tW rfl rfl rfl rfl rfl λb5 w12 hb9 hE9 hs5 hz5=>?_;replace hl3:=hl3.ext hE9;replace hl4:=hl4.ext hE9;replace hrow:=hrow.ext hE9;replace hb4:=hb4.ext hE9;replace hb8:=hb8.ext hE9;replace hX:=hX.trans hE9;refine AY rfl kQ rfl rfl rfl rfl hrow hb9 rfl rfl oM oM λra2 rc2 w13 hr2 hG=>?_;have hlow2:∀x,rb ra2=some x→w.heap.size≤x∧x≠b1∧x≠b2:=BP hG hlow oM;replace hl3:=hl3.grow hG (λe=>by have:=hlow _ e.symm;have:=hlowl _ e.symm;omega);replace hl4:=hl4.grow hG (λe=>by have:=hlow _ e.symm;have:=hlowl _ e.symm;omega);replace hb8:=hb8.grow hG (λe=>by have:=hlow _ e.symm;have:=hlowl _ e.symm;omega);replace hX:=hX.grow hG (λx hx=>(hlow x hx).1);have sz8:=hG.size;refine AH [.bk _,.bk _] 4 [] (Ar _) (λ_=>?_);have hl2:acc.length+1=(acc++[c1]).length:=by simp
 refine GV (src.length-(i1)) (E4 0 (pB b) 3 (pB b1) 4 (pB b2) 5 (.slice ra2 (acc++[c1]).length rc2)) (by have:=Ca hc;omega) (uA rfl rfl rfl (hl2▸rfl)) ⟨i1,p1,acc++[c1],ra2,rc2,F,rfl,rfl,rfl,oM,by have:=Ca hc;omega,hp1,oM,hm.trans (VX hc h2 h4 h5 (by have:=of_decide_eq_true h6;omega) hesc),by rw[← hl2];omega,hb8,hl3,hl4,by rw[← hl2,bC_app];exact hr2,hlow2,hX⟩;refine AQ [.bk _,.bk _] 4 [] (Ar _) (λ_=>GV (src.length-(j+1)) (E4 0 (pB b) 3 (pB b1) 4 (pB b2) 5 (.slice ra acc.length rc)) (by have:=Ca hc;omega) lE ⟨j+1,adv c q,acc,ra,rc,F,rfl,rfl,rfl,oM,by have:=Ca hc;omega,hp1,oM,hm.trans ?_,oM,hb5,hl3,hl4,hrow,hlow,hX⟩);have hno:¬j+1<src.length:=by have:=h6;simp at this;omega
 rw[VV hc h2 h4 h5 hno,RR (by have:=Ca hc;omega) hno];exact AQ [.sq _] 3 [] (Ar _) (λ_=>MG<|J8 [.bk _,.sq _] 5 [0,0] (kB hl3 (Ar _)) (y2<|λ_=>Ab rfl (BO rfl FC)<|Ce (B9 rfl) (aI rfl<|⟨start,hm.trans (RR oM (by have:=h1;simp at this;omega)),rfl,hX⟩)))
theorem C0(w:World)(s:lU)(hlen:s.length≤100000)(l:lU)(hl:l.length<4294967281)(h128:l.all (λc=>decide (c.toNat<128))=true) :
  Bo prog 107 #[S s,S l] w λv w'=>v=.bool (GY s l)∧AR w w':=by
 have hX:=AR.refl w;refine enter func107 rfl rfl rfl<|AQ [] 9 [] (Ar _) (λ_=>A4 rfl (Ax X1 rfl rfl) (OJ _ s l oM hl h128) ?_);rintro _ w1 ⟨rfl,hE1⟩;replace hX:=hX.trans hE1;have sz1:=hE1.size;exact AH [.sq _] 5 [] (Ar _) (λ_=>Bm (A9 rfl (Ah rfl))<|⟨rfl,hX⟩)
theorem IS(w:World)(s:lU)(hlen:s.length≤100000) :
  Bo prog 126 #[S s] w λv w'=>v=.bool (Ee s)∧AR w w':=by
 have hX:=AR.refl w;refine enter func126 rfl rfl rfl<|AQ [] 10 [] (Ar _) (λ_=>sL 5 rfl (λh1=>?_) (λh1=>?_));refine AH [.sq _] 1 [] (Ar _) (λ_=>B7 rfl rfl rfl<|A4 rfl (Ax X1 rfl rfl) (OJ _ s F7 oM dC dC) ?_);rintro _ w1 ⟨rfl,hE1⟩;replace hX:=hX.trans hE1;have sz1:=hE1.size;exact AH [.sq _] 6 [] (Ar _) (λ_=>Bm (A9 rfl (Ah rfl))<|⟨by rw[Ee,h1];rfl,hX⟩);exact AH [.sq _] 8 [] (Ar _) (λ_=>Bm (A9 rfl (Ah rfl))<|⟨by rw[Ee,h1];rfl,hX⟩)
theorem Jq(n:Nat)(c:UInt8)(l:lU):C4 n (c::l)=C4 (n*10+(c.toNat-48)) l:=by conv=>lhs;unfold C4
theorem LP:∀(l:lU)(n:Nat),n≤C4 n l
 | [],n=>Nat.le_refl _
 |c::l,n=>by
  have:=LP l (n*10+(c.toNat-48));rw[Jq];omega
theorem dF:lT prog 9 44=some 5:=kR
theorem I3(w:World)(s:lU)(hlen:s.length≤100000)(hne:(s==[])=false)(hd:∀c∈s,48≤c.toNat∧c.toNat≤57) :
  Bo prog 165 #[S s,iV 10,iV 63] w λv w'=>((C4 0 s≤9223372036854775807∧v=.tuple #[.int .u64 (C4 0 s:Int),.nilIface])∨(9223372036854775807<C4 0 s∧v=.tuple #[.int .u64 9223372036854775807,.iface 258 (iV 1)]))∧AR w w':=by
 have hX:=AR.refl w;refine enter func165 rfl rfl rfl<|AQ [] 13 [] (Ar _) (λ_=>sP 19 rfl (λh1=>?_) (λh1=>?_))
 ·
  exfalso;rw[hne] at h1;contradiction
 refine AQ [.sq _] 81 [] (Ar _) (λ_=>Ab rfl (Dg (m:=63) rfl KE dC)<|Ab rfl (Jw (9223372036854775808) rfl rfl dC dC)<|Ab rfl (F3 (9223372036854775807) rfl rfl dC)<|AH [.sq _] 17 [] (Ar _) (λ_=>bW rfl rfl dF λbb bc w1 hbb hE1=>?_));replace hX:=hX.trans hE1;have sz1:=hE1.size;refine AH [.sq _,.sq _] 5 [] (Ar _) (λ_=>?_);refine DC (λk σ ds w'=>∃(i n:Nat),k=s.length-i∧ds=[]∧σ=(oS 0 (S s) 1 (iV 10) 8 (.bool (10==0)) 9 (S s) 10 (.int .u64 1844674407370955162) 11 (.int .u64 9223372036854775807) 12 (.bool false) 13 (.int .u64 (n:Int)) 99 (.slice (some ⟨bb,0,none⟩) s.length bc) 100 (iV (s.length:Int)) 101 (iV (i:Int)))∧i≤s.length∧n≤9223372036854775807∧C4 0 s=C4 n (s.drop i)∧oL w' bb (bC s)∧AR w w') s.length (oS 0 (S s) 1 (iV 10) 8 (.bool (10==0)) 9 (S s) 10 (.int .u64 1844674407370955162) 11 (.int .u64 9223372036854775807) 12 (.bool false) 13 (.int .u64 ((0:Nat):Int)) 99 (.slice (some ⟨bb,0,none⟩) s.length bc) 100 (iV (s.length:Int)) 101 (iV ((0:Nat):Int))) lE ⟨0,0,rfl,rfl,rfl,Nat.zero_le _,Nat.zero_le _,rfl,hbb,hX⟩ ?_;rintro _ _ _ wl ⟨i,n,rfl,rfl,rfl,hi,hn,hm,hbb,hX⟩;refine AQ [] 6 [] (Ar _) (λ_=>sP 102 rfl (λh2=>?_) (λh2=>?_));refine AQ [.sq _] 7 [] (Ar _) (λ_=>?_);have hi2:i<s.length:=by have:=of_decide_eq_true h2;omega
 obtain⟨c,hc⟩:=J7 hi2;obtain⟨hc1,hc2⟩:=hd c (List.mem_of_getElem? hc);have hcell:(bC s)[0+i*1]?=some (.int .u8 c.toNat):=by simp[bC,hc]
 refine Ab rfl (JG (i:=i) rfl rfl Z3 hi2)<|Ab rfl (YD rfl xF hbb hcell)<|AH [.sq _,.bk _,.sq _] 15 [] (Ar _) (λ_=>sL 109 rfl (λh3=>?_) (λh3=>?_))
 ·
  exfalso;have:=(beq_iff_eq).1 h3;omega
 refine AH [.sq _,.bk _,.sq _,.bk _,.sq _] 11 [] (Ar _) (λ_=>sL 115 rfl (λh4=>?_) (λh4=>?_));refine AH [.sq _,.bk _,.sq _,.bk _,.sq _] 6 [] (Ar _) (λ_=>sP 112 rfl (λh5=>?_) (λh5=>?_));refine AQ [.bk _,.sq _,.bk _,.sq _] 3 [] (Ar _) (λ_=>Ab rfl (F3 ((c.toNat:Int)-48) rfl rfl (Vd ⟨oM,oM⟩))<|AH [.bk _,.sq _,.bk _,.sq _] 9 [] (Ar _) (λ_=>Ab rfl (Dg (m:=10) rfl fK dC)<|AH [.sq _,.sq _,.bk _,.sq _] 3 [] (Ar _) (λ_=>sP 137 rfl (λh6=>?_) (λh6=>?_))))
 ·
  exfalso;have:=of_decide_eq_true h6;omega
 refine AQ [.sq _,.bk _,.sq _] 11 [] (Ar _) (λ_=>sP 141 rfl (λh7=>?_) (λh7=>?_));exact AQ [.sq _,.bk _,.sq _] 4 [] (Ar _) (λ_=>Ab rfl (BO rfl K0)<|AH [.sq _,.sq _,.bk _,.sq _] 8 [] (Ar _) (λ_=>Vy<|J8 [.bk _,.sq _] 2 [] (Ar _) (λ_=>Bm (Ch rfl (Ah rfl) (Ah rfl))<|⟨.inr ⟨by rw[hm,AZ hc,Jq];have:=LP (s.drop (i+1)) (n*10+(c.toNat-48));have q4:=of_decide_eq_true h5;have q5:=of_decide_eq_false h6;have q6:=of_decide_eq_true h7;omega,rfl⟩,hX⟩)));refine AQ [.sq _,.bk _,.sq _] 7 [] (Ar _) (λ_=>Ab rfl (Dg (m:=10) rfl iX dC)<|Ab rfl (Pz ((n:Int)*10) rfl rfl (Hc ⟨oM,by have:=of_decide_eq_false h7;omega⟩))<|AH [.sq _,.bk _,.sq _] 7 [] (Ar _) (λ_=>Ab rfl (Dg (m:=(c.toNat:Int)-48) rfl T7 (Hc ⟨oM,oM⟩))<|Ab rfl (LU (((n:Int)*10+((c.toNat:Int)-48)) % 18446744073709551616) rfl rfl (IntKind.wrap_u64 _))<|AH [.sq _,.bk _,.sq _] 10 [] (Ar _) (λ_=>sL 155 rfl (λh8=>?_) (λh8=>?_))));exact AH [.sq _,.sq _,.bk _,.sq _] 10 [] (Ar _) (λ_=>Ab rfl (BO rfl K0)<|AH [.sq _,.sq _,.bk _,.sq _] 8 [] (Ar _) (λ_=>Vy<|J8 [.bk _,.sq _] 2 [] (Ar _) (λ_=>Bm (Ch rfl (Ah rfl) (Ah rfl))<|⟨.inr ⟨by rw[hm,AZ hc,Jq];have:=LP (s.drop (i+1)) (n*10+(c.toNat-48));have q5:=of_decide_eq_false h6;have q6:=of_decide_eq_false h7;have q7:=of_decide_eq_true h8;omega,rfl⟩,hX⟩)));refine AH [.sq _,.sq _,.bk _,.sq _] 6 [] (Ar _) (λ_=>sP 159 rfl (λh9=>?_) (λh9=>?_));exact AQ [.sq _,.bk _,.sq _] 4 [] (Ar _) (λ_=>Ab rfl (BO rfl K0)<|AH [.sq _,.sq _,.bk _,.sq _] 8 [] (Ar _) (λ_=>Vy<|J8 [.bk _,.sq _] 2 [] (Ar _) (λ_=>Bm (Ch rfl (Ah rfl) (Ah rfl))<|⟨.inr ⟨by rw[hm,AZ hc,Jq];have:=LP (s.drop (i+1)) (n*10+(c.toNat-48));have q6:=of_decide_eq_false h7;have q7:=of_decide_eq_false h8;have q8:=of_decide_eq_true h9;omega,rfl⟩,hX⟩)));refine AQ [.sq _,.bk _,.sq _] 13 [] (Ar _) (aI ⟨oM,oM⟩<|λ_=>?_);have hN:(((n:Int)*10+((c.toNat:Int)-48)) % 18446744073709551616)=((n*10+(c.toNat-48):Nat):Int):=by have h1:=of_decide_eq_false h7;have h2:=of_decide_eq_false h8;have h3:=of_decide_eq_false h9;omega
 refine GV (s.length-(i+1)) (oS 0 (S s) 1 (iV 10) 8 (.bool (10==0)) 9 (S s) 10 (.int .u64 1844674407370955162) 11 (.int .u64 9223372036854775807) 12 (.bool false) 13 (.int .u64 ((n*10+(c.toNat-48):Nat):Int)) 99 (.slice (some ⟨bb,0,none⟩) s.length bc) 100 (iV (s.length:Int)) 101 (iV ((i+1:Nat):Int))) oM (vB rfl rfl rfl rfl rfl rfl rfl (by rw[← hN];rfl) rfl rfl rfl) ⟨i+1,n*10+(c.toNat-48),rfl,rfl,rfl,oM,by have h1:=of_decide_eq_false h7;have h2:=of_decide_eq_false h8;have h3:=of_decide_eq_false h9;omega,by rw[hm,AZ hc];rfl,hbb,hX⟩
 ·
  exfalso;have:=of_decide_eq_false h5;omega
 ·
  exfalso;have:=of_decide_eq_false h4;omega
 exact AQ [.sq _] 3 [] (Ar _) (λ_=>MG<|J8 [.bk _,.sq _] 24 [] (Ar _) (λ_=>Bm (Ch rfl (Ah rfl) (Ah rfl))<|⟨.inl ⟨by rw[hm,Jb (by have:=of_decide_eq_false h2;omega)];exact hn,by rw[hm,Jb (by have:=of_decide_eq_false h2;omega)];rfl⟩,hX⟩))
theorem vV:cT prog 258=true:=kR
theorem Pt(w:World)(s:lU)(hlen:s.length≤100000)(hne:(s==[])=false)(hd:∀c∈s,48≤c.toNat∧c.toNat≤57) :
  Bo prog 144 #[S s,iV 10,iV 63] w λv w'=>((C4 0 s<4611686018427387904∧v=.tuple #[iV (C4 0 s:Int),.nilIface])∨(4611686018427387904≤C4 0 s∧∃z,v=.tuple #[iV z,.iface 258 (iV 1)]))∧AR w w':=by
 obtain⟨c0,r0,hs0⟩:∃c r,s=c::r:=by
  cases s with
  |nil=>simp at hne
  |cons c r=>exact⟨c,r,rfl⟩
 have hX:=AR.refl w;refine enter func144 rfl rfl rfl<|AQ [] 13 [] (Ar _) (λ_=>sP 13 rfl (λh1=>?_) (λh1=>?_))
 ·
  exfalso;rw[hne] at h1;contradiction
 refine AQ [.sq _] 12 [] (Ar _) (λ_=>Ab rfl (Dk (c:=c0) rfl rfl I8 dC (by rw[hs0];rfl))<|AH [.sq _,.sq _] 9 [] (Ar _) (λ_=>sP 17 rfl (λh2=>?_) (λh2=>?_)))
 ·
  exfalso;have h9:=hd c0 (hs0▸List.mem_cons_self);have:=(beq_iff_eq).1 h2;omega
 refine AQ [.bk _,.sq _] 7 [] (Ar _) (λ_=>sP 21 rfl (λh3=>?_) (λh3=>?_))
 ·
  exfalso;have h9:=hd c0 (hs0▸List.mem_cons_self);have:=(beq_iff_eq).1 h3;omega
 refine AQ [.bk _,.sq _] 14 [] (Ar _) (λ_=>A4 rfl (Ax Zu rfl rfl) (I3 _ s hlen hne hd) ?_);rintro _ w1 ⟨(⟨hle,rfl⟩|⟨hgt,rfl⟩),hE1⟩;replace hX:=hX.trans hE1;have sz1:=hE1.size;refine AH [.sq _] 11 [] (Ar _) (λ_=>Ab rfl (H5 FK rfl)<|AH [.sq _,.sq _] 23 [] (Ar _) (λ_=>Ab rfl (F3 (62) rfl rfl dC)<|Ab rfl (Dg (m:=62) rfl KE dC)<|Ab rfl (Jw (4611686018427387904) rfl rfl dC dC)<|AH [.sq _] 15 [] (Ar _) (λ_=>sP 52 rfl (λh4=>?_) (λh4=>?_))));exact AQ [.sq _] 4 [] (Ar _) (λ_=>Ab rfl (F3 (4611686018427387903) rfl rfl dC)<|Ab rfl (Dg (m:=4611686018427387903) rfl Lu dC)<|Ab rfl (BO rfl K0)<|AH [.sq _,.sq _] 6 [] (Ar _) (λ_=>Bm (Ch rfl (Ah rfl) (Ah rfl))<|⟨.inr ⟨by have:=of_decide_eq_true h4;omega,_,rfl⟩,hX⟩));exact AQ [.sq _] 20 [] (Ar _) (λ_=>Ab rfl (Dg (m:=(C4 0 s:Int)) rfl Lu (Jl ⟨oM,by have:=of_decide_eq_false h4;omega⟩))<|AH [.sq _] 20 [] (Ar _) (λ_=>Bm (Ch rfl (Ah rfl) (Ah rfl))<|⟨.inl ⟨by have:=of_decide_eq_false h4;omega,rfl⟩,hX⟩));replace hX:=hX.trans hE1;have sz2:=hE1.size;refine AH [.sq _] 11 [] (Ar _) (λ_=>Ab rfl (K4 FK rfl)<|AH [.sq _,.sq _] 2 [] (Ar _) (λ_=>B7 rfl rfl rfl<|Ab rfl (BO rfl K0)<|B7 rfl rfl rfl<|Ab rfl (Yz FK vV rfl rfl)<|AH [.sq _,.sq _] 19 [] (Ar _) (λ_=>Ab rfl (F3 (62) rfl rfl dC)<|Ab rfl (Dg (m:=62) rfl KE dC) ?_)));exact Ab rfl (Jw (4611686018427387904) rfl rfl dC dC)<|AH [.sq _] 19 [] (Ar _) (λ_=>Ab rfl (F3 (4611686018427387903) rfl rfl dC)<|Ab rfl (Dg (m:=4611686018427387903) rfl Lu dC)<|Ab rfl (BO rfl K0)<|AH [.sq _,.sq _] 6 [] (Ar _) (λ_=>Bm (Ch rfl (Ah rfl) (Ah rfl))<|⟨.inr ⟨oM,_,rfl⟩,hX⟩))
theorem PE(w:World)(r:lU)(hlen:(45::r).length≤100000)(hne:(r==[])=false)(hd:∀c∈r,48≤c.toNat∧c.toNat≤57) :
  Bo prog 144 #[S (45::r),iV 10,iV 63] w λv w'=>((C4 0 r<4611686018427387905∧v=.tuple #[iV (-(C4 0 r:Int)),.nilIface])∨(4611686018427387905≤C4 0 r∧∃z,v=.tuple #[iV z,.iface 258 (iV 1)]))∧AR w w':=by
 have hne2:((45::r:lU)==[])=false:=rfl;have hX:=AR.refl w;refine enter func144 rfl rfl rfl<|AQ [] 13 [] (Ar _) (λ_=>sP 13 rfl (λh1=>?_) (λh1=>?_))
 ·
  exfalso;rw[hne2] at h1;contradiction
 refine AQ [.sq _] 12 [] (Ar _) (λ_=>Ab rfl (Dk (c:=45) rfl rfl I8 dC rfl)<|AH [.sq _,.sq _] 20 [] (Ar _) (λ_=>Ab rfl (L1 rfl rfl I8)<|AH [.sq _,.bk _,.sq _] 18 [] (Ar _) (λ_=>A4 rfl (Ax Zu rfl rfl) (I3 _ r (by simp only[List.length_cons] at hlen;omega) hne hd) ?_)));rintro _ w1 ⟨(⟨hle,rfl⟩|⟨hgt,rfl⟩),hE1⟩;replace hX:=hX.trans hE1;have sz1:=hE1.size;refine AH [.sq _] 11 [] (Ar _) (λ_=>Ab rfl (H5 FK rfl)<|AH [.sq _,.sq _] 23 [] (Ar _) (λ_=>Ab rfl (F3 (62) rfl rfl dC)<|Ab rfl (Dg (m:=62) rfl KE dC)<|Ab rfl (Jw (4611686018427387904) rfl rfl dC dC)<|AH [.sq _] 29 [] (Ar _) (λ_=>sP 62 rfl (λh2=>?_) (λh2=>?_))));exact AQ [.sq _] 4 [] (Ar _) (λ_=>Ab rfl (Dg (m:=4611686018427387904) rfl Lu dC)<|Ab rfl (Ku (-4611686018427387904) rfl dC)<|Ab rfl (BO rfl K0)<|AH [.sq _,.sq _] 6 [] (Ar _) (λ_=>Bm (Ch rfl (Ah rfl) (Ah rfl))<|⟨.inr ⟨by have:=of_decide_eq_true h2;omega,_,rfl⟩,hX⟩));exact AQ [.sq _] 6 [] (Ar _) (λ_=>Ab rfl (Dg (m:=(C4 0 r:Int)) rfl Lu (Jl ⟨oM,by have:=of_decide_eq_false h2;omega⟩))<|AH [.sq _] 12 [] (Ar _) (λ_=>Ab rfl (Ku (-(C4 0 r:Int)) rfl (by rw[Jl ⟨by omega,by have:=of_decide_eq_false h2;omega⟩];omega))<|AH [.sq _] 11 [] (Ar _) (λ_=>Bm (Ch rfl (Ah rfl) (Ah rfl))<|⟨.inl ⟨by have:=of_decide_eq_false h2;omega,rfl⟩,hX⟩)));replace hX:=hX.trans hE1;have sz2:=hE1.size;refine AH [.sq _] 11 [] (Ar _) (λ_=>Ab rfl (K4 FK rfl)<|AH [.sq _,.sq _] 2 [] (Ar _) (λ_=>B7 rfl rfl rfl<|Ab rfl (BO rfl K0)<|B7 rfl rfl rfl<|Ab rfl (Yz FK vV rfl rfl)<|AH [.sq _,.sq _] 19 [] (Ar _) (λ_=>Ab rfl (F3 (62) rfl rfl dC)<|Ab rfl (Dg (m:=62) rfl KE dC) ?_)));exact Ab rfl (Jw (4611686018427387904) rfl rfl dC dC)<|AH [.sq _] 33 [] (Ar _) (λ_=>Ab rfl (Dg (m:=4611686018427387904) rfl Lu dC)<|Ab rfl (Ku (-4611686018427387904) rfl dC)<|Ab rfl (BO rfl K0)<|AH [.sq _,.sq _] 6 [] (Ar _) (λ_=>Bm (Ch rfl (Ah rfl) (Ah rfl))<|⟨.inr ⟨oM,_,rfl⟩,hX⟩))
end Go.Proofs.YtelmolopaolbcaaGreatDoor
namespace Go.SP
open Go.SW Go.RowKit
theorem Hg{α:Type}(p:α→Bool):∀(l:List α),l.dropWhile p=[]↔∀x∈l,p x=true
 | []=>by simp
 |a::l=>by
   have ih:=Hg p l
   cases h:p a <;> simp[List.dropWhile,h,ih]
theorem I7{α:Type}(p:α→Bool):∀(l:List α)(a:α)(r:List α),l.dropWhile p=a::r→p a=false
 | [],_,_,h=>by simp at h
 |b::l,a,r,h=>by
   cases hb:p b with
   |true=>rw[List.dropWhile_cons_of_pos hb] at h;exact I7 p l a r h
   |false=>rw[List.dropWhile_cons_of_neg (by simp[hb])] at h;cases h;exact hb
theorem ZJ(s l:lU):GY s l=s.all (l.contains ·):=by
 have key:Lib.trimS s l=[]↔∀x∈s,l.contains x=true:=by
   unfold Lib.trimS Lib.trimLeftS Lib.trimRightS;rw[Hg];constructor
   · intro h
     cases hd:s.reverse.dropWhile (l.contains ·) with
     |nil=>intro x hx;exact (Hg _ _).1 hd x (by simpa using hx)
     |cons a r =>
       have h1:=I7 _ _ _ _ hd;have h2:=h a (by rw[hd];simp);rw[h1] at h2;cases h2
   · intro h x hx
     exact h x (by have:=(List.dropWhile_suffix (l.contains ·) (l:=s.reverse)).subset (by simpa using hx);simpa using this)
 unfold GY
 cases h:s.all (l.contains ·) with
 |true=>rw[key.2 (by simpa using h)];rfl
 |false =>
   have:¬Lib.trimS s l=[]:=λe=>by
     have:=key.1 e;have h2:s.all (l.contains ·)=true:=by simpa using this
     rw[h] at h2;cases h2
   simp[this]
theorem Xw{c:UInt8}(h:F7.contains c=true):48≤c.toNat∧c.toNat≤57:=by
 simp only[F7,List.contains_cons,List.contains_nil,Bool.or_false,Bool.or_eq_true,beq_iff_eq] at h;rcases h with rfl|rfl|rfl|rfl|rfl|rfl|rfl|rfl|rfl|rfl <;> decide
theorem Gg{s:lU}(h:Ee s=true):(s==[])=false∧∀c∈s,48≤c.toNat∧c.toNat≤57:=by
 unfold Ee at h;rw[ZJ,Bool.and_eq_true] at h;exact⟨by simpa using h.1,λc hc=>Xw (List.all_eq_true.1 h.2 c hc)⟩
theorem HS(r:lU):Bc (45::r)=r:=by
 simp[Bc,Lib.trimPrefix,Lib.hasPrefix,List.isPrefixOf]
theorem Ia{s:lU}(h:NU s=false):Bc s=s:=by
 unfold Bc Lib.trimPrefix
 cases s with
 |nil=>simp
 |cons c r =>
   have:c≠45:=by simpa[NU] using h
   simp[Lib.hasPrefix,List.isPrefixOf,this.symm]
theorem Ot{r:lU}(h:Ee r=true):Hn (45::r)=if C4 0 r<4611686018427387905 then some (-(C4 0 r:Int)) else none:=by
 unfold Hn;rw[HS,h];simp[NU,Nat.lt_succ_iff]
theorem O9{s:lU}(hn:NU s=false)(h:Ee s=true):Hn s=if C4 0 s<4611686018427387904 then some (C4 0 s:Int) else none:=by
 unfold Hn;rw[Ia hn,h,hn];simp
theorem JJ(s:lU):NU s=false∨∃r,s=45::r:=by
 cases s with
 |nil=>exact .inl rfl
 |cons c r =>
   by_cases h:c=45
   · exact .inr ⟨r,by rw[h]⟩
   · left;simp[NU,h]
theorem Ff(s:lU):(Bc s).length≤s.length:=by
 rcases JJ s with h|⟨r,rfl⟩
 · rw[Ia h];exact Nat.le_refl _
 · rw[HS];simp
end Go.SP
namespace Go.SP
theorem QG(s t:lU):(Lib.cut s t).1.length≤s.length:=by
 unfold Lib.cut
 split
 · simp only[List.length_take];exact Nat.min_le_right _ _
 · exact Nat.le_refl _
theorem QY(s t:lU):(Lib.cut s t).2.1.length≤s.length:=by
 unfold Lib.cut
 split
 · simp
 · simp
end Go.SP
namespace Go.SP
def vM(s:lU)(a b c d e f g:Bool):Option (Int×Int×lU):=if a||(b&&c) then none else if d&&e then some (6,0,s) else if f&&g then some (5,0,s) else none
theorem Cy{s:lU}(hr:Hn s=none)(hf:HG s=none):IP s=vM s (decide ((40:Int)<s.length)) (!(Bc s==[])) (GY (Bc s) F7) (GY (s.take 1) EK) (GY s (EK++DR++F7)) (GY (s.take 1) (DR++FM)) (GY s (EK++DR++F7++FM)):=by
 rw[IP,hr];simp only[hf];rfl
end Go.SP
namespace Go.SP
variable {j:Nat}
theorem OD{p:Ps}{src:lU}(h:¬j<src.length∨∃c,src[j]?=some c∧((c.toNat:Int) != 10)=false):N0 p (src.drop j)=(src.drop j,p):=by
 rcases h with h|⟨c,hc,h⟩
 · rw[List.drop_eq_nil_of_le (by omega)];rfl
 · rw[AZ hc,N0,if_neg (by rw[h];decide)]
theorem Wx{p:Ps}{src:lU}{c:UInt8}(hc:src[j]?=some c)(h:((c.toNat:Int) != 10)=true):N0 p (src.drop j)=N0 (adv c p) (src.drop (j+1)):=by
 rw[AZ hc,N0,if_pos h]
theorem MH{p:Ps}{src:lU}(h:¬j<src.length∨∃c,src[j]?=some c∧decide (Lib.indexByte UX c<0)=false):Fa p (src.drop j)=([],src.drop j,p):=by
 rcases h with h|⟨c,hc,h⟩
 · rw[List.drop_eq_nil_of_le (by omega)];rfl
 · rw[AZ hc,Fa,if_neg (by rw[h];decide)]
theorem Ul{p:Ps}{src:lU}{c:UInt8}(hc:src[j]?=some c)(h:decide (Lib.indexByte UX c<0)=true) :
   Fa p (src.drop j)=(c::(Fa (adv c p) (src.drop (j+1))).1,(Fa (adv c p) (src.drop (j+1))).2):=by
 rw[AZ hc,Fa,if_pos h]
def E1(src:lU)(i j:Nat):lU:=(src.take j).drop i
theorem TP(src:lU)(i:Nat):E1 src i i=[]:=by
 unfold E1;rw[List.drop_eq_nil_of_le (by simp;omega)]
theorem Tb{src:lU}{i:Nat}{c:UInt8}(hij:i≤j)(hc:src[j]?=some c):E1 src i (j+1)=E1 src i j++[c]:=by
 obtain⟨hl,he⟩:=List.getElem?_eq_some_iff.1 hc;unfold E1;rw[List.take_succ_eq_append_getElem hl,List.drop_append_of_le_length (by simp;omega),he]
theorem AP{src:lU}{i:Nat}{c:UInt8}(hij:i<j)(hc:src[i]?=some c):E1 src i j=c::E1 src (i+1) j:=by
 unfold E1;have:(src.take j)[i]?=some c:=by rw[List.getElem?_take,if_pos hij,hc]
 exact AZ this
theorem EA(src:lU)(i j:Nat):(E1 src i j).length≤src.length:=by
 unfold E1;simp only[List.length_drop,List.length_take];omega
section
variable{F i:Nat}{p:Ps}{src:lU}{c:UInt8}
theorem D9(r:lU):DD F p (c::r) =
   (if decide ((0:Int)≤Lib.indexByte Gn c) then .ok ([],r,adv c p)
   else if (c.toNat:Int)==59 then .ok ([],N0 (adv c p) r)
   else if (c.toNat:Int)==40 then .ok ([⟨0,p.1,p.2,0,[]⟩],r,adv c p)
   else if (c.toNat:Int)==41 then .ok ([⟨1,p.1,p.2,0,[]⟩],r,adv c p)
   else if (c.toNat:Int)==34 then (match GJ p F (adv c p) [] r with
     |.error e=>.error e
     |.ok (tx,r',p')=>.ok ([⟨4,p.1,p.2,0,tx⟩],r',p'))
   else (match IP (c::(Fa (adv c p) r).1) with
     |none=>.error p
     |some (k,nm,tx)=>.ok ([⟨k,p.1,p.2,nm,tx⟩],(Fa (adv c p) r).2))):=rfl
theorem Qx(hc:src[i]?=some c)(h1:decide ((0:Int)≤Lib.indexByte Gn c)=true):DD F p (src.drop i)=.ok ([],src.drop (i+1),adv c p):=by rw[AZ hc,D9,if_pos h1]
theorem Oy(hc:src[i]?=some c)(h1:decide ((0:Int)≤Lib.indexByte Gn c)=false)(h2:((c.toNat:Int)==59)=true):DD F p (src.drop i)=.ok ([],N0 (adv c p) (src.drop (i+1))):=by
 rw[AZ hc,D9,if_neg (by rw[h1];decide),if_pos h2]
theorem Sd(hc:src[i]?=some c)(h1:decide ((0:Int)≤Lib.indexByte Gn c)=false)(h2:((c.toNat:Int)==59)=false)(h3:((c.toNat:Int)==40)=true):DD F p (src.drop i)=.ok ([⟨0,p.1,p.2,0,[]⟩],src.drop (i+1),adv c p):=by
 rw[AZ hc,D9,if_neg (by rw[h1];decide),if_neg (by rw[h2];decide),if_pos h3]
theorem RG(hc:src[i]?=some c)(h1:decide ((0:Int)≤Lib.indexByte Gn c)=false)(h2:((c.toNat:Int)==59)=false)(h3:((c.toNat:Int)==40)=false)(h4:((c.toNat:Int)==41)=true):DD F p (src.drop i)=.ok ([⟨1,p.1,p.2,0,[]⟩],src.drop (i+1),adv c p):=by
 rw[AZ hc,D9,if_neg (by rw[h1];decide),if_neg (by rw[h2];decide),if_neg (by rw[h3];decide),if_pos h4]
theorem Hw(hc:src[i]?=some c)(h1:decide ((0:Int)≤Lib.indexByte Gn c)=false)(h2:((c.toNat:Int)==59)=false)(h3:((c.toNat:Int)==40)=false)(h4:((c.toNat:Int)==41)=false)(h5:((c.toNat:Int)==34)=true) :
   DD F p (src.drop i)=(match GJ p F (adv c p) [] (src.drop (i+1)) with
     |.error e=>.error e
     |.ok (tx,r',p')=>.ok ([⟨4,p.1,p.2,0,tx⟩],r',p')):=by
 rw[AZ hc,D9,if_neg (by rw[h1];decide),if_neg (by rw[h2];decide),if_neg (by rw[h3];decide),if_neg (by rw[h4];decide),if_pos h5]
theorem BC(hc:src[i]?=some c)(h1:decide ((0:Int)≤Lib.indexByte Gn c)=false)(h2:((c.toNat:Int)==59)=false)(h3:((c.toNat:Int)==40)=false)(h4:((c.toNat:Int)==41)=false)(h5:((c.toNat:Int)==34)=false) :
   DD F p (src.drop i)=(match IP (c::(Fa (adv c p) (src.drop (i+1))).1) with
     |none=>.error p
     |some (k,nm,tx)=>.ok ([⟨k,p.1,p.2,nm,tx⟩],(Fa (adv c p) (src.drop (i+1))).2)):=by
 rw[AZ hc,D9,if_neg (by rw[h1];decide),if_neg (by rw[h2];decide),if_neg (by rw[h3];decide),if_neg (by rw[h4];decide),if_neg (by rw[h5];decide)]
end
end Go.SP
namespace Go.SP
theorem KT(F n:Nat)(p:Ps):Hs F n p []=.ok []:=by cases n <;> rfl
def T4(t:List AK):Except Ps (List AK)→Except Ps (List AK)
 |.error e=>.error e
 |.ok l=>.ok (t++l)
theorem Zy(x:Except Ps (List AK)):T4 [] x=x:=by cases x <;> rfl
theorem HJ(F n:Nat)(p:Ps)(c:UInt8)(r:lU):Hs F (n+1) p (c::r)=(match DD F p (c::r) with
   |.error e=>.error e
   |.ok (t,r',p')=>match Hs F n p' r' with
     |.error e=>.error e
     |.ok l=>.ok (t++l)):=rfl
variable {ot toks:List AK}{j n:Nat}{p1:Ps}
theorem Vw{F:Nat}{q e:Ps}{src:lU}{c:UInt8}(hc:src[j]?=some c)(he:DD F q (src.drop j)=.error e):Hs F (n+1) q (src.drop j)=.error e:=by
 rw[AZ hc] at he ⊢;rw[HJ,he]
theorem SU{F:Nat}{q:Ps}{src r1:lU}{c:UInt8}{x:Except Ps (List AK)}(hc:src[j]?=some c)(hs:DD F q (src.drop j)=.ok (ot,r1,p1))
   (hm:x=T4 toks (Hs F (n+1) q (src.drop j))):x=T4 (toks++ot) (Hs F n p1 r1):=by
 rw[AZ hc] at hs hm;rw[hm,HJ,hs];simp only[]
 cases Hs F n p1 r1 with
 |error e=>rfl
 |ok l=>simp[T4]
theorem Oe{F:Nat}{p:Ps}{l r:lU}(h:DD F p l=.ok (ot,r,p1)):ot.length≤1:=by
 cases l with
 |nil=>cases h
 |cons c r =>
   rw[D9] at h
   repeat' split at h
   all_goals first
     |(simp only[Except.ok.injEq,Prod.mk.injEq] at h;rw[← h.1];simp)
     |cases h
end Go.SP
namespace Go.Proofs.YtelmolopaolbcaaGreatDoor
open Go.SW Go.SP Go.RowKit Go.Proofs.Tryz
theorem Nn(w:World)(s:lU)(hlen:s.length≤100000)(hD:Ee (Bc s)=true) :
  Bo prog 144 #[S s,iV 10,iV 63] w λv w'=>((∃n,Hn s=some n∧v=.tuple #[iV n,.nilIface])∨(Hn s=none∧∃z,v=.tuple #[iV z,.iface 258 (iV 1)]))∧AR w w':=by
 rcases JJ s with hn|⟨r,rfl⟩
 ·
  rw[Ia hn] at hD;obtain⟨h1,h2⟩:=Gg hD;refine (Pt w s hlen h1 h2).mono ?_;rintro v w' ⟨⟨hl,rfl⟩|⟨hg,z,rfl⟩,hE⟩
  · exact⟨.inl ⟨_,by rw[O9 hn hD,if_pos hl],rfl⟩,hE⟩
  · exact⟨.inr ⟨by rw[O9 hn hD,if_neg (by omega)],z,rfl⟩,hE⟩
 ·
  rw[HS] at hD;obtain⟨h1,h2⟩:=Gg hD;refine (PE w r hlen h1 h2).mono ?_;rintro v w' ⟨⟨hl,rfl⟩|⟨hg,z,rfl⟩,hE⟩
  · exact⟨.inl ⟨_,by rw[Ot hD,if_pos hl],rfl⟩,hE⟩
  · exact⟨.inr ⟨by rw[Ot hD,if_neg (by omega)],z,rfl⟩,hE⟩
theorem NN(w:World)(hG:Gl w)(s:lU)(hlen:s.length≤100000)(hD:Ee (Bc s)=true) :
  Bo prog 127 #[S s,iV 10,iV 63] w λv w'=>((∃n,Hn s=some n∧v=.tuple #[iV n,.nilIface])∨(Hn s=none∧∃z T u,v=.tuple #[iV z,.iface T u]))∧AR w w':=by
 have hX:=AR.refl w;refine enter func127 rfl rfl rfl<|AQ [] 11 [] (Ar _) (λ_=>A4 rfl (Ax kM rfl rfl) (Nn _ s hlen hD) ?_);rintro _ w1 ⟨(⟨n,hr,rfl⟩|⟨hr,z,rfl⟩),hE1⟩;replace hX:=hX.trans hE1;have sz1:=hE1.size;exact AH [.sq _] 11 [] (Ar _) (λ_=>Ab rfl (H5 FK rfl)<|AH [.sq _,.sq _] 13 [] (Ar _) (λ_=>Bm (Ch rfl (Ah rfl) (Ah rfl))<|⟨.inl ⟨n,hr,rfl⟩,hX⟩));replace hX:=hX.trans hE1;have sz2:=hE1.size;refine AH [.sq _] 11 [] (Ar _) (λ_=>Ab rfl (K4 FK rfl)<|AH [.sq _,.sq _] 10 [] (Ar _) (λ_=>A4 rfl (Ax lC rfl rfl) (PM _ (hG.ext hX) _ s _ _ hlen) ?_));rintro _ w2 ⟨⟨eT,eV,rfl⟩,hE2⟩;replace hX:=hX.trans hE2;have sz3:=hE2.size;exact AH [.sq _,.sq _] 6 [] (Ar _) (λ_=>Bm (Ch rfl (Ah rfl) (Ah rfl))<|⟨.inr ⟨hr,z,_,_,rfl⟩,hX⟩)
theorem W7(w:World)(hG:Gl w)(s:lU)(hlen:s.length≤100000) :
  Bo prog 103 #[S s] w λv w'=>((∃n,Hn s=some n∧v=.tuple #[iV n,iV 0])∨(Hn s=none∧∃e:Int,(e==0)=false∧v=.tuple #[iV 0,iV e]))∧AR w w':=by
 have hX:=AR.refl w;refine enter func103 rfl rfl rfl<|AQ [] 10 [] (Ar _) (λ_=>A4 rfl (Ax T9 rfl rfl) (FP _ s [45]) ?_);rintro _ w1 ⟨rfl,hE1⟩;replace hX:=hX.trans hE1;have sz1:=hE1.size;refine A4 rfl (Ax Uu rfl rfl) (IS _ (Bc s) (by have:=Ff s;omega)) ?_;rintro _ w2 ⟨rfl,hE2⟩;replace hX:=hX.trans hE2;have sz2:=hE2.size;refine AH [.sq _,.sq _] 3 [] (Ar _) (λ_=>sP 9 rfl (λh1=>?_) (λh1=>?_));replace h1:=EV h1;exact AQ [.sq _] 9 [] (Ar _) (λ_=>Bm (Ch rfl (Ah rfl) (Ah rfl))<|⟨.inr ⟨by rw[Hn,h1];rfl,2,dC,rfl⟩,hX⟩);replace h1:=Fl h1;refine AQ [.sq _] 6 [] (Ar _) (λ_=>A4 rfl (Ax nF rfl rfl) (NN _ (hG.ext hX) s hlen h1) ?_);rintro _ w3 ⟨(⟨n,hr,rfl⟩|⟨hr,z,eT,eV,rfl⟩),hE3⟩;replace hX:=hX.trans hE3;have sz3:=hE3.size;exact AH [.sq _] 11 [] (Ar _) (λ_=>Ab rfl (H5 FK rfl)<|AH [.sq _,.sq _] 13 [] (Ar _) (λ_=>Bm (Ch rfl (Ah rfl) (Ah rfl))<|⟨.inl ⟨n,hr,rfl⟩,hX⟩));replace hX:=hX.trans hE3;have sz4:=hE3.size;exact AH [.sq _] 11 [] (Ar _) (λ_=>Ab rfl (K4 FK rfl)<|AH [.sq _,.sq _] 11 [] (Ar _) (λ_=>Bm (Ch rfl (Ah rfl) (Ah rfl))<|⟨.inr ⟨hr,4,dC,rfl⟩,hX⟩))
def pX:Prop:=∀(w:World)(s a b:lU),Gl w→s.length≤100000→Hf s=some (a,b)→Bo prog 129 #[S s,iV 64] w λv w'=>v=.tuple #[.float .f64 (L3 (NU s) a b),.nilIface]∧AR w w'
theorem lK:Extern.findNext Tryz.f149=none:=kR
theorem iN:Extern.find Tryz.f149=some Extern.MathFloatBits.float64bits:=kR
theorem SY(w:World)(f:Nat) :
  Bo prog 148 #[.float .f64 f] w λv w'=>v=.bool (!(Op.floatEq .f64 f f))∧AR w w':=by
 have hX:=AR.refl w;exact enter func148 rfl rfl rfl<|AQ [] 9 [] (Ar _) (λ_=>Ab rfl (oD rfl rfl)<|AH [.sq _] 4 [] (Ar _) (λ_=>Bm (A9 rfl (Ah rfl))<|⟨rfl,hX⟩))
theorem eQ(w:World)(f:Nat) :
  Bo prog 130 #[.float .f64 f] w λv w'=>v=.int .u64 ((if Op.floatEq .f64 f f then f else 9221120237041090560:Nat):Int)∧AR w w':=by
 have hX:=AR.refl w;refine enter func130 rfl rfl rfl<|AQ [] 9 [] (Ar _) (λ_=>A4 rfl (Ax jF rfl rfl) (SY _ f) ?_);rintro _ w1 ⟨rfl,hE1⟩;replace hX:=hX.trans hE1;have sz1:=hE1.size;refine AH [.sq _,.sq _] 2 [] (Ar _) (λ_=>sP 4 rfl (λh1=>?_) (λh1=>?_));refine AQ [.sq _] 8 [] (Ar _) (λ_=>Bm (A9 rfl (Ah rfl))<|⟨?_,hX⟩);have hq:=h1;simp at hq;simp[hq];refine AQ [.sq _] 6 [] (Ar _) (λ_=>Ab rfl (ZR func149 rfl rfl lK iN rfl rfl rfl)<|AH [.sq _] 4 [] (Ar _) (λ_=>Bm (A9 rfl (Ah rfl))<|⟨?_,hX⟩));have hq:=h1;simp at hq;simp[hq]
theorem MW(hPF:pX)(w:World)(hG:Gl w)(s:lU)(hlen:s.length≤100000) :
  Bo prog 104 #[S s] w λv w'=>((∃x:Nat,HG s=some x∧v=.tuple #[.int .u64 (x:Int),iV 0])∨(HG s=none∧∃e:Int,(e==0)=false∧v=.tuple #[.int .u64 0,iV e]))∧AR w w':=by
 have hcl1:=QG (Bc s) [46];have hcl2:=QY (Bc s) [46];have hwl:=Ff s;have hX:=AR.refl w;refine enter func104 rfl rfl rfl<|AQ [] 9 [] (Ar _) (λ_=>A4 rfl (Ax T9 rfl rfl) (FP _ s [45]) ?_);rintro _ w1 ⟨rfl,hE1⟩;replace hX:=hX.trans hE1;have sz1:=hE1.size;refine A4 rfl (Ax nZ rfl rfl) (Xm _ (hG.ext hX) (Bc s) [46] (by have:=Ff s;omega)) ?_;rintro _ w2 ⟨rfl,hE2⟩;replace hX:=hX.trans hE2;have sz2:=hE2.size;refine AH [.sq _] 16 [] (Ar _) (λ_=>sL 19 rfl (λh1=>?_) (λh1=>?_));replace h1:=EV h1;refine AH [.sq _,.bk _,.sq _] 22 [] (Ar _) (λ_=>Bm (Ch rfl (Ah rfl) (Ah rfl))<|⟨.inr ⟨?_,2,dC,rfl⟩,hX⟩);rw[HG,Hf,if_neg];simp[h1];replace h1:=Fl h1;refine AH [.sq _,.bk _,.sq _] 1 [] (Ar _) (λ_=>B7 rfl rfl rfl<|A4 rfl (Ax Uu rfl rfl) (IS _ (Lib.cut (Bc s) [46]).1 (by have:=QG (Bc s) [46];have:=Ff s;omega)) ?_);rintro _ w3 ⟨rfl,hE3⟩;replace hX:=hX.trans hE3;have sz3:=hE3.size;refine AH [.sq _,.bk _,.sq _] 3 [] (Ar _) (λ_=>sL 24 rfl (λh2=>?_) (λh2=>?_));replace h2:=EV h2;refine AH [.sq _,.bk _,.sq _] 17 [] (Ar _) (λ_=>Bm (Ch rfl (Ah rfl) (Ah rfl))<|⟨.inr ⟨?_,2,dC,rfl⟩,hX⟩);rw[HG,Hf,if_neg];simp[h1,h2];replace h2:=Fl h2;refine AH [.sq _,.bk _,.sq _] 1 [] (Ar _) (λ_=>B7 rfl rfl rfl<|A4 rfl (Ax Uu rfl rfl) (IS _ (Lib.cut (Bc s) [46]).2.1 (by have:=QY (Bc s) [46];have:=Ff s;omega)) ?_);rintro _ w4 ⟨rfl,hE4⟩;replace hX:=hX.trans hE4;have sz4:=hE4.size;refine AH [.sq _,.bk _,.sq _] 5 [] (Ar _) (λ_=>sP 16 rfl (λh3=>?_) (λh3=>?_));replace h3:=EV h3;refine AQ [.bk _,.sq _] 10 [] (Ar _) (λ_=>Bm (Ch rfl (Ah rfl) (Ah rfl))<|⟨.inr ⟨?_,2,dC,rfl⟩,hX⟩);rw[HG,Hf,if_neg];simp[h1,h2,h3];replace h3:=Fl h3;refine AQ [.bk _,.sq _] 12 [] (Ar _) (aI ⟨oM,oM⟩<|λ_=>sP 29 rfl (λh4=>?_) (λh4=>?_));refine AQ [.bk _,.sq _] 10 [] (Ar _) (λ_=>Bm (Ch rfl (Ah rfl) (Ah rfl))<|⟨.inr ⟨?_,4,dC,rfl⟩,hX⟩);rw[HG,Hf,if_neg];have h9:=h4;simp at h9;simp[h1,h2,h3] <;> omega
 refine AQ [.bk _,.sq _] 5 [] (Ar _) (λ_=>?_)
 have hform:Hf s=some ((Lib.cut (Bc s) [46]).1,(Lib.cut (Bc s) [46]).2.1):=by
  unfold Hf;rw[if_pos];have h9:=h4;simp at h9;simp[h1,h2,h3] <;> omega
 refine AQ [.sq _] 2 [] (Ar _) (λ_=>A4 rfl (Ax lF rfl rfl) (hPF _ s _ _ (hG.ext hX) hlen hform) ?_);rintro _ w5 ⟨rfl,hE5⟩;replace hX:=hX.trans hE5;have sz5:=hE5.size;refine AH [.sq _] 11 [] (Ar _) (λ_=>Ab rfl (H5 FK rfl)<|AH [.sq _,.sq _] 8 [] (Ar _) (λ_=>A4 rfl (Ax lQ rfl rfl) (eQ _ _) ?_));rintro _ w6 ⟨rfl,hE6⟩;replace hX:=hX.trans hE6;have sz6:=hE6.size;exact AH [.sq _] 5 [] (Ar _) (λ_=>Bm (Ch rfl (Ah rfl) (Ah rfl))<|⟨.inl ⟨_,by rw[HG,hform],rfl⟩,hX⟩)
theorem TG(w:World)(x:Nat) :
  Bo prog 105 #[.int .u64 (x:Int)] w λv w'=>v=S (NG x)∧AR w w':=by
 have hX:=AR.refl w;refine enter func105 rfl rfl rfl<|AQ [] 17 [] (Ar _) (λ_=>?_);refine DC (λk σ ds w'=>∃(j:Nat)(acc:lU)(ra:Option Addr)(rc:Nat),k=j∧ds=[]∧σ=(E3 0 (.int .u64 (x:Int)) 3 (.slice ra acc.length rc) 4 (iV (8*(j:Int)-8)))∧j≤8∧NG x=acc++O8 x j∧acc.length+j=8∧BQ w' 5 1 ra rc acc.length (bC acc)∧(∀y,rb ra=some y→w.heap.size≤y)∧AR w w') 8 (E3 0 (.int .u64 (x:Int)) 3 (.slice none 0 0) 4 (iV (8*((8:Nat):Int)-8))) lE ⟨8,[],none,0,rfl,rfl,rfl,Nat.le_refl _,rfl,rfl,F5 _ _ _,(λy hy=>by cases hy),hX⟩ ?_;rintro j _ _ wl ⟨_,acc,ra,rc,rfl,rfl,rfl,hj,hm,hal,hrow,hlow,hX⟩;have szl:=hX.size;have hlowl:∀y,rb ra=some y→y<wl.heap.size:=λy hy=>hrow.lt hy;refine AQ [] 7 [] (Ar _) (λ_=>sP 6 rfl (λh1=>?_) (λh1=>?_));refine AQ [.sq _] 9 [] (Ar _) (λ_=>?_);obtain⟨j,rfl⟩:∃j1,j=j1+1:=⟨j-1,by have:=of_decide_eq_true h1;omega⟩;refine Ab rfl (UU ((x / 2 ^ (8*j):Nat):Int) rfl rfl oM (by rw[show (8*((j+1:Nat):Int)-8).toNat=8*j by omega,show min (8*j) IntKind.u64.bits=8*j by simp[IntKind.bits];omega];exact RY _ _))<|Ab rfl (Dg (m:=((UInt8.ofNat (x / 2 ^ (8*j))).toNat:Int)) rfl bY (mF _))<|BZ rfl rfl Z3 tW rfl rfl rfl rfl rfl λb1 w1 hb1 hE1 hs1 hz1=>?_;replace hrow:=hrow.ext hE1;replace hX:=hX.trans hE1;refine AY rfl kQ rfl rfl rfl rfl hrow hb1 rfl rfl oM oM λra2 rc2 w2 hr2 hG=>?_;have hlow2:∀y,rb ra2=some y→w.heap.size≤y:=BP hG hlow oM;replace hX:=hX.grow hG hlow;refine AH [.bk _,.sq _] 9 [] (Ar _) (aI ⟨oM,oM⟩<|λ_=>?_);have hl2:acc.length+1=(acc++[UInt8.ofNat (x / 2 ^ (8*j))]).length:=by simp
 refine GV j (E3 0 (.int .u64 (x:Int)) 3 (.slice ra2 (acc++[UInt8.ofNat (x / 2 ^ (8*j))]).length rc2) 4 (iV (8*(j:Int)-8))) oM (wU rfl (hl2▸rfl) (congrArg (λz:Int=>some (Value.int .i64 z)) (show (8*((j+1:Nat):Int)-8)-8=8*(j:Int)-8 by omega))) ⟨j,acc++[UInt8.ofNat (x / 2 ^ (8*j))],ra2,rc2,rfl,rfl,rfl,oM,by rw[hm];simp[O8],by rw[← hl2];omega,by rw[← hl2,bC_app];exact hr2,hlow2,hX⟩;refine AQ [.sq _] 3 [] (Ar _) (λ_=>MG<|J8 [.bk _,.sq _] 5 [] (Ar _) (λ_=>Ab rfl (Y4 rfl Vj hrow)<|AH [.sq _] 4 [] (Ar _) (λ_=>Bm (A9 rfl (Ah rfl)) ?_)));have hj0:j=0:=by have:=of_decide_eq_false h1;omega
 subst hj0;exact⟨by rw[hm];simp[O8],hX⟩
theorem Eu(hPF:pX)(w:World)(hG:Gl w)(s:lU)(hlen:s.length≤100000)(hne:s≠[])(at1:Ps) :
  BD prog 77 #[S s,.agg #[iV at1.1,iV at1.2]] w (λv w'=>∃k nm tx,IP s=some (k,nm,tx)∧v=.agg #[iV k,iV at1.1,iV at1.2,iV nm,S tx]∧AR w w') (λc w'=>IP s=none∧c=Qv 103 at1∧AR w w'):=by
 have hne1:(1:Int)≤s.length:=by
  cases s with
  |nil=>exact absurd rfl hne
  |cons a r=>simp only[List.length_cons];omega
 have hX:=AR.refl w;refine HO func77 rfl rfl rfl<|AQ [] 2 [] (Ar _) (λ_=>DJ rfl rfl rfl λb1 w1 hb1 hE1 hs1 hz1=>?_);replace hX:=hX.trans hE1;refine C1 rfl Dn λb2 w2 hb2 hE2 hs2 hz2=>?_;replace hb1:=hb1.ext hE2;replace hX:=hX.trans hE2;refine AH [.sq _] 6 [] (Ar _) (λ_=>A4 rfl (Ax iI rfl rfl) (W7 _ (hG.ext hX) s hlen) ?_);rintro _ w3 ⟨(⟨n,hr,rfl⟩|⟨hr,er,her,rfl⟩),hE3⟩;replace hb1:=hb1.ext hE3;replace hb2:=hb2.ext hE3;replace hX:=hX.trans hE3;have sz1:=hE3.size;refine AH [.sq _,.sq _] 19 [0,0] (kB hb1 (Ar _)) (y2<|λ_=>A2 rfl rfl rfl D8 rfl hb2 rfl rfl λw4 hb3 hC1=>?_);replace hb1:=hb1.chg hC1 oM;replace hX:=hX.chg hC1 oM;have sz2:=hC1.size;exact AH [.sq _,.sq _] 4 [] (Ar _) (λ_=>Bm (A9 rfl (Ac rfl D8 hb3 rfl))<|⟨2,n,[],by rw[IP,hr],rfl,hX⟩);replace hb1:=hb1.ext hE3;replace hb2:=hb2.ext hE3;replace hX:=hX.trans hE3;have sz3:=hE3.size;refine AH [.sq _,.sq _] 13 [] (Ar _) (λ_=>kP 16 false rfl her<|AQ [.sq _] 7 [] (Ar _) (λ_=>A4 rfl (Ax kH rfl rfl) (MW hPF _ (hG.ext hX) s hlen) ?_));rintro _ w5 ⟨(⟨x,hf,rfl⟩|⟨hf,ef,hef,rfl⟩),hE4⟩;replace hb1:=hb1.ext hE4;replace hb2:=hb2.ext hE4;replace hX:=hX.trans hE4;have sz4:=hE4.size;refine AH [.sq _,.sq _] 15 [] (Ar _) (λ_=>?_);have hr1:=hb1;refine DE mixed (A5 w5 [b1]) [(true,0),(true,1),(false,2),(true,3),(false,4)] kR kR rfl rfl λw6 hE5 hz3=>?_;have hKp:A5 w5 [b1] w6:=A5.cons hr1 hE5 (A5.nil _ _);refine⟨hKp,?_⟩;replace hb1:=hb1.ext hE5;replace hb2:=hb2.ext hE5;replace hX:=hX.trans hE5;refine A0 rfl (λ_ hS=>CO rfl Il (hr1.keep hS (.head _)) rfl)<|A0 rfl (λ_ hS=>Ay rfl)<|El<|A4 rfl (Ax jM rfl rfl) (TG _ x) ?_;rintro _ w7 ⟨rfl,hE6⟩;replace hb1:=hb1.ext hE6;replace hb2:=hb2.ext hE6;replace hX:=hX.trans hE6;replace hKp:=hKp.ext hE6;have sz5:=hE6.size;refine Ae (GB hKp<|A0 rfl (λ_ hS=>Ds rfl Rf Dn rfl)<|El<|A2 rfl rfl rfl D8 rfl hb2 rfl rfl λw8 hb4 hC2=>?_);replace hb1:=hb1.chg hC2 oM;replace hX:=hX.chg hC2 oM;replace hKp:=hKp.chg hC2 nM;have sz6:=hC2.size;exact Ae (GB hKp<|DN<|J8 [.sq _,.sq _] 3 [] (Ar _) (λ_=>Bm (A9 rfl (Ac rfl D8 hb4 rfl))<|⟨3,0,NG x,by rw[IP,hr];simp only[hf],rfl,hX⟩));replace hb1:=hb1.ext hE4;replace hb2:=hb2.ext hE4;replace hX:=hX.trans hE4;have sz7:=hE4.size;refine AH [.sq _,.sq _] 13 [] (Ar _) (λ_=>kP 26 false rfl hef<|AQ [.sq _] 6 [] (Ar _) (λ_=>A4 rfl (Ax T9 rfl rfl) (FP _ s [45]) ?_));rintro _ w9 ⟨rfl,hE7⟩;replace hb1:=hb1.ext hE7;replace hb2:=hb2.ext hE7;replace hX:=hX.trans hE7;have sz8:=hE7.size;refine AH [.sq _] 11 [] (Ar _) (λ_=>sL 37 rfl (λh1=>?_) (λh1=>?_));exact AH [.sq _,.bk _,.sq _] 17 [0,0] (kB hb1 (Ar _)) (y2<|λ_=>Ab rfl (BO rfl FC)<|Ce (B9 rfl) (aI rfl<|⟨by rw[Cy hr hf,h1];rfl,rfl,hX⟩));refine AH [.sq _,.bk _,.sq _] 3 [] (Ar _) (λ_=>sL 40 rfl (λh2=>?_) (λh2=>?_));refine AH [.sq _,.bk _,.sq _] 1 [] (Ar _) (λ_=>B7 rfl rfl rfl<|A4 rfl (Ax Fi rfl rfl) (C0 _ (Bc s) (by have:=Ff s;omega) F7 dC dC) ?_);rintro _ w10 ⟨rfl,hE8⟩;replace hb1:=hb1.ext hE8;replace hb2:=hb2.ext hE8;replace hX:=hX.trans hE8
 have sz9:=hE8.size;refine AH [.sq _,.bk _,.sq _] 5 [] (Ar _) (λ_=>sP 33 rfl (λh3=>?_) (λh3=>?_));refine AQ [.bk _,.sq _] 7 [0,0] (kB hb1 (Ar _)) (y2<|λ_=>Ab rfl (BO rfl FC)<|Ce (B9 rfl) (aI rfl ?_));have hw9:(!(Bc s==[]))=true:=h2;exact⟨by rw[Cy hr hf,h1,hw9,h3];rfl,rfl,hX⟩;refine AQ [.bk _,.sq _] 4 [] (Ar _) (λ_=>Ab rfl (Ht rfl rfl I8 ⟨dC,hne1⟩)<|A4 rfl (Ax Fi rfl rfl) (C0 _ (s.take 1) (by simp only[List.length_take];omega) EK dC dC) ?_);rintro _ w11 ⟨rfl,hE9⟩;replace hb1:=hb1.ext hE9;replace hb2:=hb2.ext hE9;replace hX:=hX.trans hE9;have sz10:=hE9.size;refine Ab rfl (Ay rfl)<|sL 49 rfl (λh4=>?_) (λh4=>?_);refine AH [.sq _,.bk _,.sq _] 1 [] (Ar _) (λ_=>B7 rfl rfl rfl<|A4 rfl (Ax Fi rfl rfl) (C0 _ (s) oM (EK++DR++F7) dC dC) ?_);rintro _ w12 ⟨rfl,hE10⟩;replace hb1:=hb1.ext hE10;replace hb2:=hb2.ext hE10;replace hX:=hX.trans hE10;have sz11:=hE10.size;refine AH [.sq _,.bk _,.sq _] 4 [] (Ar _) (λ_=>sP 45 rfl (λh5=>?_) (λh5=>?_));refine AQ [.bk _,.sq _] 6 [0,0] (kB hb1 (Ar _)) (y2<|λ_=>A2 rfl rfl rfl D8 rfl hb2 rfl rfl λw13 hb5 hC3=>?_);replace hb1:=hb1.chg hC3 oM;replace hX:=hX.chg hC3 oM;have sz12:=hC3.size;refine AH [.sq _,.bk _,.sq _] 5 [] (Ar _) (λ_=>Bm (A9 rfl (Ac rfl D8 hb5 rfl)) ?_);have hw9:(!(Bc s==[]))=true:=h2;exact⟨6,0,s,by rw[Cy hr hf,h1,hw9,h3,h4,h5];rfl,rfl,hX⟩;refine AQ [.bk _,.sq _] 4 [] (Ar _) (λ_=>Ab rfl (Ht rfl rfl I8 ⟨dC,hne1⟩)<|A4 rfl (Ax Fi rfl rfl) (C0 _ (s.take 1) (by simp only[List.length_take];omega) (DR++FM) dC dC) ?_);rintro _ w14 ⟨rfl,hE11⟩;replace hb1:=hb1.ext hE11;replace hb2:=hb2.ext hE11;replace hX:=hX.trans hE11;have sz13:=hE11.size;refine Ab rfl (Ay rfl)<|sL 60 rfl (λh6=>?_) (λh6=>?_);refine AH [.sq _,.bk _,.sq _] 1 [] (Ar _) (λ_=>B7 rfl rfl rfl<|A4 rfl (Ax Fi rfl rfl) (C0 _ (s) oM (EK++DR++F7++FM) dC dC) ?_);rintro _ w15 ⟨rfl,hE12⟩;replace hb1:=hb1.ext hE12;replace hb2:=hb2.ext hE12;replace hX:=hX.trans hE12;have sz14:=hE12.size;refine AH [.sq _,.bk _,.sq _] 4 [] (Ar _) (λ_=>sP 56 rfl (λh7=>?_) (λh7=>?_));refine AQ [.bk _,.sq _] 6 [0,0] (kB hb1 (Ar _)) (y2<|λ_=>A2 rfl rfl rfl D8 rfl hb2 rfl rfl λw16 hb6 hC4=>?_);replace hb1:=hb1.chg hC4 oM;replace hX:=hX.chg hC4 oM;have sz15:=hC4.size;refine AH [.sq _,.bk _,.sq _] 5 [] (Ar _) (λ_=>Bm (A9 rfl (Ac rfl D8 hb6 rfl)) ?_);have hw9:(!(Bc s==[]))=true:=h2;exact⟨5,0,s,by rw[Cy hr hf,h1,hw9,h3,h4,h5,h6,h7];rfl,rfl,hX⟩;refine AQ [.bk _,.sq _] 7 [0,0] (kB hb1 (Ar _)) (y2<|λ_=>Ab rfl (BO rfl FC)<|Ce (B9 rfl) (aI rfl ?_));have hw9:(!(Bc s==[]))=true:=h2;exact⟨by rw[Cy hr hf,h1,hw9,h3,h4,h5,h6,h7];rfl,rfl,hX⟩;refine AH [.sq _,.bk _,.sq _] 13 [0,0] (kB hb1 (Ar _)) (y2<|λ_=>Ab rfl (BO rfl FC)<|Ce (B9 rfl) (aI rfl ?_));have hw9:(!(Bc s==[]))=true:=h2;exact⟨by rw[Cy hr hf,h1,hw9,h3,h4,h5,h6];rfl,rfl,hX⟩;refine AH [.sq _,.bk _,.sq _] 10 [] (Ar _) (λ_=>Ab rfl (Ht rfl rfl I8 ⟨dC,hne1⟩)<|A4 rfl (Ax Fi rfl rfl) (C0 _ (s.take 1) (by simp only[List.length_take];omega) (DR++FM) dC dC) ?_)
 rintro _ w17 ⟨rfl,hE13⟩;replace hb1:=hb1.ext hE13;replace hb2:=hb2.ext hE13;replace hX:=hX.trans hE13;have sz16:=hE13.size;refine Ab rfl (Ay rfl)<|sL 60 rfl (λh8=>?_) (λh8=>?_);refine AH [.sq _,.bk _,.sq _] 1 [] (Ar _) (λ_=>B7 rfl rfl rfl<|A4 rfl (Ax Fi rfl rfl) (C0 _ (s) oM (EK++DR++F7++FM) dC dC) ?_);rintro _ w18 ⟨rfl,hE14⟩;replace hb1:=hb1.ext hE14;replace hb2:=hb2.ext hE14;replace hX:=hX.trans hE14;have sz17:=hE14.size;refine AH [.sq _,.bk _,.sq _] 4 [] (Ar _) (λ_=>sP 56 rfl (λh9=>?_) (λh9=>?_));refine AQ [.bk _,.sq _] 6 [0,0] (kB hb1 (Ar _)) (y2<|λ_=>A2 rfl rfl rfl D8 rfl hb2 rfl rfl λw19 hb7 hC5=>?_);replace hb1:=hb1.chg hC5 oM;replace hX:=hX.chg hC5 oM;have sz18:=hC5.size;refine AH [.sq _,.bk _,.sq _] 5 [] (Ar _) (λ_=>Bm (A9 rfl (Ac rfl D8 hb7 rfl)) ?_);have hw9:(!(Bc s==[]))=true:=h2;exact⟨5,0,s,by rw[Cy hr hf,h1,hw9,h3,h4,h8,h9];rfl,rfl,hX⟩;refine AQ [.bk _,.sq _] 7 [0,0] (kB hb1 (Ar _)) (y2<|λ_=>Ab rfl (BO rfl FC)<|Ce (B9 rfl) (aI rfl ?_));have hw9:(!(Bc s==[]))=true:=h2;exact⟨by rw[Cy hr hf,h1,hw9,h3,h4,h8,h9];rfl,rfl,hX⟩;refine AH [.sq _,.bk _,.sq _] 13 [0,0] (kB hb1 (Ar _)) (y2<|λ_=>Ab rfl (BO rfl FC)<|Ce (B9 rfl) (aI rfl ?_));have hw9:(!(Bc s==[]))=true:=h2;exact⟨by rw[Cy hr hf,h1,hw9,h3,h4,h8];rfl,rfl,hX⟩;refine AH [.sq _,.bk _,.sq _] 11 [] (Ar _) (λ_=>Ab rfl (Ht rfl rfl I8 ⟨dC,hne1⟩)<|A4 rfl (Ax Fi rfl rfl) (C0 _ (s.take 1) (by simp only[List.length_take];omega) EK dC dC) ?_);rintro _ w20 ⟨rfl,hE15⟩;replace hb1:=hb1.ext hE15;replace hb2:=hb2.ext hE15;replace hX:=hX.trans hE15;have sz19:=hE15.size;refine Ab rfl (Ay rfl)<|sL 49 rfl (λh10=>?_) (λh10=>?_);refine AH [.sq _,.bk _,.sq _] 1 [] (Ar _) (λ_=>B7 rfl rfl rfl<|A4 rfl (Ax Fi rfl rfl) (C0 _ (s) oM (EK++DR++F7) dC dC) ?_);rintro _ w21 ⟨rfl,hE16⟩;replace hb1:=hb1.ext hE16;replace hb2:=hb2.ext hE16;replace hX:=hX.trans hE16;have sz20:=hE16.size;refine AH [.sq _,.bk _,.sq _] 4 [] (Ar _) (λ_=>sP 45 rfl (λh11=>?_) (λh11=>?_));refine AQ [.bk _,.sq _] 6 [0,0] (kB hb1 (Ar _)) (y2<|λ_=>A2 rfl rfl rfl D8 rfl hb2 rfl rfl λw22 hb8 hC6=>?_);replace hb1:=hb1.chg hC6 oM;replace hX:=hX.chg hC6 oM;have sz21:=hC6.size;refine AH [.sq _,.bk _,.sq _] 5 [] (Ar _) (λ_=>Bm (A9 rfl (Ac rfl D8 hb8 rfl)) ?_);have hw9:(!(Bc s==[]))=false:=h2;exact⟨6,0,s,by rw[Cy hr hf,h1,hw9,h10,h11];rfl,rfl,hX⟩;refine AQ [.bk _,.sq _] 4 [] (Ar _) (λ_=>Ab rfl (Ht rfl rfl I8 ⟨dC,hne1⟩)<|A4 rfl (Ax Fi rfl rfl) (C0 _ (s.take 1) (by simp only[List.length_take];omega) (DR++FM) dC dC) ?_);rintro _ w23 ⟨rfl,hE17⟩;replace hb1:=hb1.ext hE17;replace hb2:=hb2.ext hE17;replace hX:=hX.trans hE17;have sz22:=hE17.size;refine Ab rfl (Ay rfl)<|sL 60 rfl (λh12=>?_) (λh12=>?_);refine AH [.sq _,.bk _,.sq _] 1 [] (Ar _) (λ_=>B7 rfl rfl rfl<|A4 rfl (Ax Fi rfl rfl) (C0 _ (s) oM (EK++DR++F7++FM) dC dC) ?_);rintro _ w24 ⟨rfl,hE18⟩;replace hb1:=hb1.ext hE18;replace hb2:=hb2.ext hE18;replace hX:=hX.trans hE18;have sz23:=hE18.size
 refine AH [.sq _,.bk _,.sq _] 4 [] (Ar _) (λ_=>sP 56 rfl (λh13=>?_) (λh13=>?_));refine AQ [.bk _,.sq _] 6 [0,0] (kB hb1 (Ar _)) (y2<|λ_=>A2 rfl rfl rfl D8 rfl hb2 rfl rfl λw25 hb9 hC7=>?_);replace hb1:=hb1.chg hC7 oM;replace hX:=hX.chg hC7 oM;have sz24:=hC7.size;refine AH [.sq _,.bk _,.sq _] 5 [] (Ar _) (λ_=>Bm (A9 rfl (Ac rfl D8 hb9 rfl)) ?_);have hw9:(!(Bc s==[]))=false:=h2;exact⟨5,0,s,by rw[Cy hr hf,h1,hw9,h10,h11,h12,h13];rfl,rfl,hX⟩;refine AQ [.bk _,.sq _] 7 [0,0] (kB hb1 (Ar _)) (y2<|λ_=>Ab rfl (BO rfl FC)<|Ce (B9 rfl) (aI rfl ?_));have hw9:(!(Bc s==[]))=false:=h2;exact⟨by rw[Cy hr hf,h1,hw9,h10,h11,h12,h13];rfl,rfl,hX⟩;refine AH [.sq _,.bk _,.sq _] 13 [0,0] (kB hb1 (Ar _)) (y2<|λ_=>Ab rfl (BO rfl FC)<|Ce (B9 rfl) (aI rfl ?_));have hw9:(!(Bc s==[]))=false:=h2;exact⟨by rw[Cy hr hf,h1,hw9,h10,h11,h12];rfl,rfl,hX⟩;refine AH [.sq _,.bk _,.sq _] 10 [] (Ar _) (λ_=>Ab rfl (Ht rfl rfl I8 ⟨dC,hne1⟩)<|A4 rfl (Ax Fi rfl rfl) (C0 _ (s.take 1) (by simp only[List.length_take];omega) (DR++FM) dC dC) ?_);rintro _ w26 ⟨rfl,hE19⟩;replace hb1:=hb1.ext hE19;replace hb2:=hb2.ext hE19;replace hX:=hX.trans hE19;have sz25:=hE19.size;refine Ab rfl (Ay rfl)<|sL 60 rfl (λh14=>?_) (λh14=>?_);refine AH [.sq _,.bk _,.sq _] 1 [] (Ar _) (λ_=>B7 rfl rfl rfl<|A4 rfl (Ax Fi rfl rfl) (C0 _ (s) oM (EK++DR++F7++FM) dC dC) ?_);rintro _ w27 ⟨rfl,hE20⟩;replace hb1:=hb1.ext hE20;replace hb2:=hb2.ext hE20;replace hX:=hX.trans hE20;have sz26:=hE20.size;refine AH [.sq _,.bk _,.sq _] 4 [] (Ar _) (λ_=>sP 56 rfl (λh15=>?_) (λh15=>?_));refine AQ [.bk _,.sq _] 6 [0,0] (kB hb1 (Ar _)) (y2<|λ_=>A2 rfl rfl rfl D8 rfl hb2 rfl rfl λw28 hb10 hC8=>?_);replace hb1:=hb1.chg hC8 oM;replace hX:=hX.chg hC8 oM;have sz27:=hC8.size;refine AH [.sq _,.bk _,.sq _] 5 [] (Ar _) (λ_=>Bm (A9 rfl (Ac rfl D8 hb10 rfl)) ?_);have hw9:(!(Bc s==[]))=false:=h2;exact⟨5,0,s,by rw[Cy hr hf,h1,hw9,h10,h14,h15];rfl,rfl,hX⟩;refine AQ [.bk _,.sq _] 7 [0,0] (kB hb1 (Ar _)) (y2<|λ_=>Ab rfl (BO rfl FC)<|Ce (B9 rfl) (aI rfl ?_));have hw9:(!(Bc s==[]))=false:=h2;exact⟨by rw[Cy hr hf,h1,hw9,h10,h14,h15];rfl,rfl,hX⟩;refine AH [.sq _,.bk _,.sq _] 13 [0,0] (kB hb1 (Ar _)) (y2<|λ_=>Ab rfl (BO rfl FC)<|Ce (B9 rfl) (aI rfl ?_));have hw9:(!(Bc s==[]))=false:=h2;exact⟨by rw[Cy hr hf,h1,hw9,h10,h14];rfl,rfl,hX⟩
theorem Ww(hPF:pX)(w0 w:World)(hG:Gl w0)(hX0:AR w0 w)(b:Nat)(hb0:w0.heap.size≤b)(src:lU)(i:Nat)(p:Ps)(toks:List AK)(ta:Option Addr)(tc:Nat)(hsc:AI w b [S src,iV ((i:Nat):Int),iV p.1,iV p.2,(.slice ta toks.length tc)] 106)(hrow:BQ w 108 5 ta tc toks.length (ER toks))(hlow:∀x,rb ta=some x→w0.heap.size≤x∧x≠b)(c:UInt8)(hc:src[i]?=some c)(hp:Pk i p)(hlen:src.length≤65536)(htl:toks.length≤i) :
  BD prog 39 #[pB b] w (λv w'=>∃(ot:List AK)(i1:Nat)(p1:Ps)(ta1:Option Addr)(tc1:Nat),DD (src.length+1) p (src.drop i)=.ok (ot,src.drop i1,p1)∧v=.tuple #[]∧AI w' b [S src,iV ((i1:Nat):Int),iV p1.1,iV p1.2,(.slice ta1 (toks++ot).length tc1)] 106∧BQ w' 108 5 ta1 tc1 (toks++ot).length (ER (toks++ot))∧(∀x,rb ta1=some x→w0.heap.size≤x∧x≠b)∧AR w0 w'∧i<i1∧i1≤src.length∧Pk i1 p1) (λcc w'=>∃e,DD (src.length+1) p (src.drop i)=.error e∧cc=Qv 103 e∧AR w0 w'):=by
 have hbl:=hsc.lt;have hilt:=Ca hc;have hlowl:∀x,rb ta=some x→x<w.heap.size:=λx hx=>hrow.lt hx;have hX:=hX0;refine HO func39 rfl rfl rfl<|BR ?_;have hr1:=hsc;refine DE mixed (A5 w [b]) [(true,0),(true,1),(true,2),(true,3),(true,4),(true,5),(true,6),(true,7),(false,8),(false,9),(true,10)] kR kR rfl rfl λw1 hE1 hz1=>?_;have hKp:A5 w [b] w1:=A5.cons hr1 hE1 (A5.nil _ _);refine⟨hKp,?_⟩;replace hsc:=hsc.ext hE1;replace hrow:=hrow.ext hE1;replace hX:=hX.trans hE1;refine A0 rfl (λ_ hS=>Ay rfl)<|A0 rfl (λ_ hS=>Bv rfl)<|A0 rfl (λ_ hS=>B8 rfl PD)<|A0 rfl (λ_ hS=>CO rfl Il (hr1.keep hS (.head _)) rfl)<|A0 rfl (λ_ hS=>Ay rfl)<|A0 rfl (λ_ hS=>Bv rfl)<|A0 rfl (λ_ hS=>B8 rfl EN)<|A0 rfl (λ_ hS=>Ai rfl TL (hr1.keep hS (.head _)) rfl)<|El<|C1 rfl Tr λb1 w2 hb1 hE2 hs1 hz2=>?_;replace hsc:=hsc.ext hE2;replace hrow:=hrow.ext hE2;replace hX:=hX.trans hE2;replace hKp:=hKp.ext hE2;refine Ae (GB hKp<|El<|A2 rfl rfl rfl Il rfl hb1 rfl rfl λw3 hb2 hC1=>?_);replace hsc:=hsc.chg hC1 oM;replace hrow:=BQ.chg hrow hC1 (λe=>by have:=hlow _ e;have:=hlowl _ e;omega);replace hX:=hX.chg hC1 oM;replace hKp:=hKp.chg hC1 nM;have sz1:=hC1.size;refine Ae (GB hKp<|A0 rfl (λ_ hS=>CI rfl)<|DN<|J8 [.sq _] 4 [] (Ar _) (λ_=>A4 rfl (Ax Na rfl rfl) (Fu _ b src i p (.slice ta toks.length tc) hsc c hc oM hp) ?_));rintro _ w4 ⟨rfl,hb3,hE3⟩;replace hrow:=BQ.exb hrow hE3 (λe=>by have:=hlow _ e;omega);replace hb2:=hb2.exb hE3 oM;replace hX:=hE3.ext hX hb0;have sz2:=hE3.size;have hp1:=Pk.adv (c:=c) hp;refine AH [.sq _] 7 [] (Ar _) (λ_=>A4 rfl (Ax UF rfl rfl) (ET _ Gn _) ?_);rintro _ w5 ⟨rfl,hE4⟩;replace hrow:=hrow.ext hE4;replace hb2:=hb2.ext hE4;replace hb3:=hb3.ext hE4;replace hX:=hX.trans hE4;have sz3:=hE4.size;refine AH [.sq _,.bk _] 4 [] (Ar _) (λ_=>sP 53 rfl (λh1=>?_) (λh1=>?_));exact AQ [.bk _] 3 [] (Ar _) (λ_=>FU (D0 rfl)<|⟨[],i+1,adv c p,ta,tc,Qx hc h1,rfl,by rw[List.append_nil];exact hb3,by rw[List.append_nil];exact hrow,hlow,hX,oM,by have:=Ca hc;omega,hp1⟩);refine AQ [.bk _] 8 [] (Ar _) (λ_=>sP 57 rfl (λh2=>?_) (λh2=>?_));refine AQ [.bk _] 2 [] (Ar _) (λ_=>?_);refine DC (λk σ ds w'=>∃(j:Nat)(q:Ps),k=src.length-j∧ds=[]∧σ=(AA SW.e0 0 (pB b))∧i<j∧j≤src.length∧Pk j q∧N0 (adv c p) (src.drop (i+1))=N0 q (src.drop j)∧AI w' b [S src,iV ((j:Nat):Int),iV q.1,iV q.2,(.slice ta toks.length tc)] 106∧AI w' b1 [iV p.1,iV p.2] 27 ∧ BQ w' 108 5 ta tc toks.length (ER toks)∧AR w0 w') (src.length-(i+1)) (AA SW.e0 0 (pB b)) lE ⟨i+1,adv c p,rfl,rfl,rfl,oM,by have:=Ca hc;omega,hp1,rfl,hb3,hb2,hrow,hX⟩ ?_;rintro _ _ _ wl ⟨j,q,rfl,rfl,rfl,hij,hjl,hq,hm,hscl,hl2,hrow,hX⟩;have szl:=hX.size;have lt2:=hl2.lt;have lts:=hscl.lt;refine AQ [] 2 [] (Ar _) (λ_=>?_);have hr2:=hscl;have hr3:=hl2;refine DE mixed (A5 wl [b,b1]) [(true,0),(false,1),(true,2),(true,3),(true,4),(true,5),(true,6),(true,7),(true,8),(true,9),(true,10),(true,11),(true,12),(true,13)] kR kR rfl rfl λw6 hE5 hz3=>?_
 have hKp:A5 wl [b,b1] w6:=A5.cons hr2 hE5 (A5.cons hr3 hE5 (A5.nil _ _));refine⟨hKp,?_⟩;replace hscl:=hscl.ext hE5;replace hl2:=hl2.ext hE5;replace hrow:=hrow.ext hE5;replace hX:=hX.trans hE5;refine A0 rfl (λ_ hS=>Ay rfl)<|El<|A4 rfl (Ax R8 rfl rfl) (HC _ b src j q (.slice ta toks.length tc) hscl) ?_;rintro _ w7 ⟨rfl,hE6⟩;replace hscl:=hscl.ext hE6;replace hl2:=hl2.ext hE6;replace hrow:=hrow.ext hE6;replace hX:=hX.trans hE6;replace hKp:=hKp.ext hE6;have sz4:=hE6.size;refine Ae (GB hKp<|A0 rfl (λ_ hS=>Ay rfl)<|Og 62 rfl (λh3=>?_) (λh3=>?_));have hjlt:j<src.length:=by have:=of_decide_eq_true h3;omega
 obtain⟨c1,hc1⟩:=J7 hjlt;refine Ct rfl rfl rfl h3 (λ_ hS=>Ay rfl)<|Ct rfl rfl rfl h3 (λ_ hS=>Bv rfl)<|Ct rfl rfl rfl h3 (λ_ hS=>B8 rfl Hb)<|Ct rfl rfl rfl h3 (λ_ hS=>Ai rfl WO (hr2.keep hS (.head _)) rfl)<|Ct rfl rfl rfl h3 (λ_ hS=>Ay rfl)<|Ct rfl rfl rfl h3 (λ_ hS=>Bv rfl)<|Ct rfl rfl rfl h3 (λ_ hS=>B8 rfl EN)<|Ct rfl rfl rfl h3 (λ_ hS=>Ai rfl TL (hr2.keep hS (.head _)) rfl)<|Ct rfl rfl rfl h3 (λ_ hS=>Dk (c:=c1) rfl rfl I8 oM (by rw[Int.toNat_natCast];exact hc1))<|Ct rfl rfl rfl h3 (λ_ hS=>YT rfl rfl) ?_;refine A0 rfl (λ_ hS=>Ms rfl h3 rfl)<|DN<|Dh<|sP 73 rfl (λh4=>?_) (λh4=>?_);refine AQ [.sq _] 6 [] (Ar _) (λ_=>A4 rfl (Ax Na rfl rfl) (Fu _ b src j q (.slice ta toks.length tc) hscl c1 hc1 oM hq) ?_);rintro _ w8 ⟨rfl,hb4,hE7⟩;replace hl2:=hl2.exb hE7 oM;replace hrow:=BQ.exb hrow hE7 (λe=>by have:=hlow _ e;omega);replace hX:=hE7.ext hX hb0;have sz5:=hE7.size;have hp2:=Pk.adv (c:=c1) hq;refine AH [.bk _] 2 [] (Ar _) (λ_=>GV (src.length-(j+1)) (AA SW.e0 0 (pB b)) (by have:=Ca hc1;omega) lE ⟨j+1,adv c1 q,rfl,rfl,rfl,oM,by have:=Ca hc1;omega,hp2,hm.trans (Wx hc1 h4),hb4,hl2,hrow,hX⟩);exact AQ [.sq _] 3 [] (Ar _) (λ_=>MG<|J8 [.bk _,.bk _] 2 [] (Ar _) (λ_=>FU (D0 rfl)<|⟨[],j,q,ta,tc,by rw[Oy hc h1 h2,hm,OD (.inr ⟨c1,hc1,h4⟩)],rfl,by rw[List.append_nil];exact hscl,by rw[List.append_nil];exact hrow,hlow,hX,hij,hjl,hq⟩));refine Cu rfl rfl rfl h3<|Cu rfl rfl rfl h3<|Cu rfl rfl rfl h3<|Cu rfl rfl rfl h3<|Cu rfl rfl rfl h3<|Cu rfl rfl rfl h3<|Cu rfl rfl rfl h3<|Cu rfl rfl rfl h3<|Cu rfl rfl rfl h3<|Cu rfl rfl rfl h3 ?_;exact A0 rfl (λ_ hS=>NB rfl h3 rfl)<|DN<|J8 [.sq _,.sq _] 4 [] (Ar _) (λ_=>MG<|J8 [.bk _,.bk _] 2 [] (Ar _) (λ_=>FU (D0 rfl)<|⟨[],j,q,ta,tc,by rw[Oy hc h1 h2,hm,OD (.inl (by have:=of_decide_eq_false h3;omega))],rfl,by rw[List.append_nil];exact hscl,by rw[List.append_nil];exact hrow,hlow,hX,hij,hjl,hq⟩));refine AQ [.bk _] 8 [] (Ar _) (λ_=>sP 76 rfl (λh5=>?_) (λh5=>?_));refine F4 rfl rfl ?_;have hr4:=hb2;refine DK mixed (A5 w5 [b1]) (rd [0,1,2,3,5,6] (.br 4 (.br 7 (.br 8 (.rd 9 (.rd 10 (.br 11 .fin .fin))) .fin) .fin) (.br 7 (.br 4 (.br 8 (.rd 9 (.rd 10 (.br 11 .fin .fin))) .fin) .fin) .fin))) kR kR kR λw9 hE8 hz4=>?_;have hKp:A5 w5 [b1] w9:=A5.cons hr4 hE8 (A5.nil _ _);refine⟨hKp,?_⟩;replace hrow:=hrow.ext hE8;replace hb2:=hb2.ext hE8;replace hb3:=hb3.ext hE8;replace hX:=hX.trans hE8;refine Av rfl rfl (λ_ hS=>Ay rfl)<|Av rfl rfl (λ_ hS=>Ay rfl)<|Av rfl rfl (λ_ hS=>Bv rfl)<|Av rfl rfl (λ_ hS=>B8 rfl Cf)<|Av rfl rfl (λ_ hS=>CO rfl Il (hr4.keep hS (.head _)) rfl)<|Av rfl rfl (λ_ hS=>Ds rfl Rf Dn rfl)<|An rfl ?_ ?_;refine Ab rfl (Ai rfl Di hb3 rfl)<|Ae (Ao hKp<|An rfl ?_ Ag);refine BZ rfl rfl G9 Dn rfl rfl rfl rfl rfl λb2 w10 hb5 hE9 hs2 hz5=>?_;replace hrow:=hrow.ext hE9;replace hb2:=hb2.ext hE9;replace hb3:=hb3.ext hE9;replace hX:=hX.trans hE9;replace hKp:=hKp.ext hE9;refine Ae (Ao hKp<|An rfl ?_ Ag);refine AY rfl Ip rfl rfl rfl rfl hrow hb5 rfl rfl oM oM λta2 tc2 w11 hr2 hG2=>?_
 have hlow2:∀x,rb ta2=some x→w0.heap.size≤x∧x≠b:=BP hG2 hlow oM;replace hb3:=hb3.grow hG2 (λe=>by have:=hlow _ e.symm;have:=hlowl _ e.symm;omega);replace hX:=hX.grow hG2 (λx hx=>(hlow x hx).1);replace hKp:=hKp.grow hG2 (by simp only[List.mem_cons,List.not_mem_nil,or_false];intro c hc e;have:=hlow _ e.symm;have:=hlowl _ e.symm;omega);have sz6:=hG2.size;refine Ae (Ao hKp<|Av rfl rfl (λ_ hS=>Bv rfl)<|Av rfl rfl (λ_ hS=>B8 rfl Cf)<|An rfl ?_ Ag);refine A2 rfl rfl rfl Di rfl hb3 rfl rfl λw12 hb6 hC2=>?_;replace hr2:=BQ.chg hr2 hC2 (λe=>by have:=hlow2 _ e;omega);replace hX:=hX.chg hC2 oM;replace hKp:=hKp.chg hC2 nM;have sz7:=hC2.size;exact Ae (Ao hKp<|B1<|D4<|FU (D0 rfl)<|⟨[⟨0,p.1,p.2,0,[]⟩],i+1,adv c p,ta2,tc2,Sd hc h1 h2 h5,rfl,by rw[List.length_append];exact hb6,by rw[List.length_append,B6];exact hr2,hlow2,hX,oM,by first|omega|(have:=Ca hc;omega),hp1⟩);refine An rfl ?_ ?_;refine BZ rfl rfl G9 Dn rfl rfl rfl rfl rfl λb3 w13 hb7 hE10 hs3 hz6=>?_;replace hrow:=hrow.ext hE10;replace hb2:=hb2.ext hE10;replace hb3:=hb3.ext hE10;replace hX:=hX.trans hE10;replace hKp:=hKp.ext hE10;refine Ae (Ao hKp<|An rfl ?_ Ag);refine Ab rfl (Ai rfl Di hb3 rfl)<|Ae (Ao hKp<|An rfl ?_ Ag);refine AY rfl Ip rfl rfl rfl rfl hrow hb7 rfl rfl oM oM λta2 tc2 w14 hr2 hG2=>?_;have hlow2:∀x,rb ta2=some x→w0.heap.size≤x∧x≠b:=BP hG2 hlow oM;replace hb3:=hb3.grow hG2 (λe=>by have:=hlow _ e.symm;have:=hlowl _ e.symm;omega);replace hX:=hX.grow hG2 (λx hx=>(hlow x hx).1);replace hKp:=hKp.grow hG2 (by simp only[List.mem_cons,List.not_mem_nil,or_false];intro c hc e;have:=hlow _ e.symm;have:=hlowl _ e.symm;omega);have sz8:=hG2.size;refine Ae (Ao hKp<|Av rfl rfl (λ_ hS=>Bv rfl)<|Av rfl rfl (λ_ hS=>B8 rfl Cf)<|An rfl ?_ Ag);refine A2 rfl rfl rfl Di rfl hb3 rfl rfl λw15 hb8 hC3=>?_;replace hr2:=BQ.chg hr2 hC3 (λe=>by have:=hlow2 _ e;omega);replace hX:=hX.chg hC3 oM;replace hKp:=hKp.chg hC3 nM;have sz9:=hC3.size;exact Ae (Ao hKp<|B1<|D4<|FU (D0 rfl)<|⟨[⟨0,p.1,p.2,0,[]⟩],i+1,adv c p,ta2,tc2,Sd hc h1 h2 h5,rfl,by rw[List.length_append];exact hb8,by rw[List.length_append,B6];exact hr2,hlow2,hX,oM,by first|omega|(have:=Ca hc;omega),hp1⟩);exact Ag;refine AQ [.bk _] 8 [] (Ar _) (λ_=>sP 90 rfl (λh6=>?_) (λh6=>?_));refine F4 rfl rfl ?_;have hr5:=hb2;refine DK mixed (A5 w5 [b1]) (rd [0,1,2,3,5,6] (.br 4 (.br 7 (.br 8 (.rd 9 (.rd 10 (.br 11 .fin .fin))) .fin) .fin) (.br 7 (.br 4 (.br 8 (.rd 9 (.rd 10 (.br 11 .fin .fin))) .fin) .fin) .fin))) kR kR kR λw16 hE11 hz7=>?_;have hKp:A5 w5 [b1] w16:=A5.cons hr5 hE11 (A5.nil _ _);refine⟨hKp,?_⟩;replace hrow:=hrow.ext hE11;replace hb2:=hb2.ext hE11;replace hb3:=hb3.ext hE11;replace hX:=hX.trans hE11;refine Av rfl rfl (λ_ hS=>Ay rfl)<|Av rfl rfl (λ_ hS=>Ay rfl)<|Av rfl rfl (λ_ hS=>Bv rfl)<|Av rfl rfl (λ_ hS=>B8 rfl Cf)<|Av rfl rfl (λ_ hS=>CO rfl Il (hr5.keep hS (.head _)) rfl)<|Av rfl rfl (λ_ hS=>Ds rfl Rf Dn rfl)<|An rfl ?_ ?_;refine Ab rfl (Ai rfl Di hb3 rfl)<|Ae (Ao hKp<|An rfl ?_ Ag)
 refine BZ rfl rfl G9 Dn rfl rfl rfl rfl rfl λb4 w17 hb9 hE12 hs4 hz8=>?_;replace hrow:=hrow.ext hE12;replace hb2:=hb2.ext hE12;replace hb3:=hb3.ext hE12;replace hX:=hX.trans hE12;replace hKp:=hKp.ext hE12;refine Ae (Ao hKp<|An rfl ?_ Ag);refine AY rfl Ip rfl rfl rfl rfl hrow hb9 rfl rfl oM oM λta2 tc2 w18 hr2 hG2=>?_;have hlow2:∀x,rb ta2=some x→w0.heap.size≤x∧x≠b:=BP hG2 hlow oM;replace hb3:=hb3.grow hG2 (λe=>by have:=hlow _ e.symm;have:=hlowl _ e.symm;omega);replace hX:=hX.grow hG2 (λx hx=>(hlow x hx).1);replace hKp:=hKp.grow hG2 (by simp only[List.mem_cons,List.not_mem_nil,or_false];intro c hc e;have:=hlow _ e.symm;have:=hlowl _ e.symm;omega);have sz10:=hG2.size;refine Ae (Ao hKp<|Av rfl rfl (λ_ hS=>Bv rfl)<|Av rfl rfl (λ_ hS=>B8 rfl Cf)<|An rfl ?_ Ag);refine A2 rfl rfl rfl Di rfl hb3 rfl rfl λw19 hb10 hC4=>?_;replace hr2:=BQ.chg hr2 hC4 (λe=>by have:=hlow2 _ e;omega);replace hX:=hX.chg hC4 oM;replace hKp:=hKp.chg hC4 nM;have sz11:=hC4.size;exact Ae (Ao hKp<|B1<|D4<|FU (D0 rfl)<|⟨[⟨1,p.1,p.2,0,[]⟩],i+1,adv c p,ta2,tc2,RG hc h1 h2 h5 h6,rfl,by rw[List.length_append];exact hb10,by rw[List.length_append,B6];exact hr2,hlow2,hX,oM,by first|omega|(have:=Ca hc;omega),hp1⟩);refine An rfl ?_ ?_;refine BZ rfl rfl G9 Dn rfl rfl rfl rfl rfl λb5 w20 hb11 hE13 hs5 hz9=>?_;replace hrow:=hrow.ext hE13;replace hb2:=hb2.ext hE13;replace hb3:=hb3.ext hE13;replace hX:=hX.trans hE13;replace hKp:=hKp.ext hE13;refine Ae (Ao hKp<|An rfl ?_ Ag);refine Ab rfl (Ai rfl Di hb3 rfl)<|Ae (Ao hKp<|An rfl ?_ Ag);refine AY rfl Ip rfl rfl rfl rfl hrow hb11 rfl rfl oM oM λta2 tc2 w21 hr2 hG2=>?_;have hlow2:∀x,rb ta2=some x→w0.heap.size≤x∧x≠b:=BP hG2 hlow oM;replace hb3:=hb3.grow hG2 (λe=>by have:=hlow _ e.symm;have:=hlowl _ e.symm;omega);replace hX:=hX.grow hG2 (λx hx=>(hlow x hx).1);replace hKp:=hKp.grow hG2 (by simp only[List.mem_cons,List.not_mem_nil,or_false];intro c hc e;have:=hlow _ e.symm;have:=hlowl _ e.symm;omega);have sz12:=hG2.size;refine Ae (Ao hKp<|Av rfl rfl (λ_ hS=>Bv rfl)<|Av rfl rfl (λ_ hS=>B8 rfl Cf)<|An rfl ?_ Ag);refine A2 rfl rfl rfl Di rfl hb3 rfl rfl λw22 hb12 hC5=>?_;replace hr2:=BQ.chg hr2 hC5 (λe=>by have:=hlow2 _ e;omega);replace hX:=hX.chg hC5 oM;replace hKp:=hKp.chg hC5 nM;have sz13:=hC5.size;exact Ae (Ao hKp<|B1<|D4<|FU (D0 rfl)<|⟨[⟨1,p.1,p.2,0,[]⟩],i+1,adv c p,ta2,tc2,RG hc h1 h2 h5 h6,rfl,by rw[List.length_append];exact hb12,by rw[List.length_append,B6];exact hr2,hlow2,hX,oM,by first|omega|(have:=Ca hc;omega),hp1⟩);exact Ag;refine AQ [.bk _] 8 [] (Ar _) (λ_=>sP 104 rfl (λh7=>?_) (λh7=>?_));refine F4 rfl rfl ?_;have hr6:=hb2;refine DK mixed (A5 w5 [b1]) (rd [0,1,2,3,5,6] (.br 4 (.br 7 (.br 8 (.br 9 (.rd 10 (.rd 11 (.br 12 .fin .fin))) .fin) .fin) .fin) (.br 7 (.br 4 (.br 8 (.br 9 (.rd 10 (.rd 11 (.br 12 .fin .fin))) .fin) .fin) (.br 8 (.br 4 (.br 9 (.rd 10 (.rd 11 (.br 12 .fin .fin))) .fin) .fin) .fin)) .fin))) kR kR kR λw23 hE14 hz10=>?_;have hKp:A5 w5 [b1] w23:=A5.cons hr6 hE14 (A5.nil _ _)
 refine⟨hKp,?_⟩;replace hrow:=hrow.ext hE14;replace hb2:=hb2.ext hE14;replace hb3:=hb3.ext hE14;replace hX:=hX.trans hE14;refine Av rfl rfl (λ_ hS=>Ay rfl)<|Av rfl rfl (λ_ hS=>Ay rfl)<|Av rfl rfl (λ_ hS=>Bv rfl)<|Av rfl rfl (λ_ hS=>B8 rfl Cf)<|Av rfl rfl (λ_ hS=>Ay rfl)<|Av rfl rfl (λ_ hS=>CO rfl Il (hr6.keep hS (.head _)) rfl)<|An rfl ?_ ?_;refine Ab rfl (Ai rfl Di hb3 rfl)<|Ae (Ao hKp<|An rfl ?_ Ag);refine BX rfl (Ax gM rfl rfl) (Rq _ b src (i+1) (adv c p) (.slice ta toks.length tc) hb3 p (by have:=Ca hc;omega) oM hp1) ?_ (λcc wp hc1=>aI rfl (let ⟨e,he,hcc,hE⟩:=hc1;⟨e,by rw[Hw hc h1 h2 h5 h6 h7,he],hcc,hE.ext hX hb0⟩));rintro _ w24 ⟨tx,i1,p1,hstr,rfl,hb13,hE15,hi1,hi2,hp1⟩;replace hrow:=BQ.exb hrow hE15 (λe=>by have:=hlow _ e;omega);replace hb2:=hb2.exb hE15 oM;replace hX:=hE15.ext hX hb0;have sz14:=hE15.size;replace hKp:=hKp.exb hE15 nM;refine Ae (Ao hKp<|An rfl ?_ Ag);refine BZ rfl rfl G9 Dn rfl rfl rfl rfl rfl λb6 w25 hb14 hE16 hs6 hz11=>?_;replace hrow:=hrow.ext hE16;replace hb2:=hb2.ext hE16;replace hb13:=hb13.ext hE16;replace hX:=hX.trans hE16;replace hKp:=hKp.ext hE16;refine Ae (Ao hKp<|An rfl ?_ Ag);refine AY rfl Ip rfl rfl rfl rfl hrow hb14 rfl rfl oM oM λta2 tc2 w26 hr2 hG2=>?_;have hlow2:∀x,rb ta2=some x→w0.heap.size≤x∧x≠b:=BP hG2 hlow oM;replace hb13:=hb13.grow hG2 (λe=>by have:=hlow _ e.symm;have:=hlowl _ e.symm;omega);replace hX:=hX.grow hG2 (λx hx=>(hlow x hx).1);replace hKp:=hKp.grow hG2 (by simp only[List.mem_cons,List.not_mem_nil,or_false];intro c hc e;have:=hlow _ e.symm;have:=hlowl _ e.symm;omega);have sz15:=hG2.size;refine Ae (Ao hKp<|Av rfl rfl (λ_ hS=>Bv rfl)<|Av rfl rfl (λ_ hS=>B8 rfl Cf)<|An rfl ?_ Ag);refine A2 rfl rfl rfl Di rfl hb13 rfl rfl λw27 hb15 hC6=>?_;replace hr2:=BQ.chg hr2 hC6 (λe=>by have:=hlow2 _ e;omega);replace hX:=hX.chg hC6 oM;replace hKp:=hKp.chg hC6 nM;have sz16:=hC6.size;exact Ae (Ao hKp<|B1<|D4<|FU (D0 rfl)<|⟨[⟨4,p.1,p.2,0,tx⟩],i1,p1,ta2,tc2,by rw[Hw hc h1 h2 h5 h6 h7,hstr],rfl,by rw[List.length_append];exact hb15,by rw[List.length_append,B6];exact hr2,hlow2,hX,oM,by first|omega|(have:=Ca hc;omega),hp1⟩);refine An rfl ?_ ?_;refine BX rfl (Ax gM rfl rfl) (Rq _ b src (i+1) (adv c p) (.slice ta toks.length tc) hb3 p (by have:=Ca hc;omega) oM hp1) ?_ (λcc wp hc1=>aI rfl (let ⟨e,he,hcc,hE⟩:=hc1;⟨e,by rw[Hw hc h1 h2 h5 h6 h7,he],hcc,hE.ext hX hb0⟩));rintro _ w28 ⟨tx,i1,p1,hstr,rfl,hb16,hE17,hi1,hi2,hp1⟩;replace hrow:=BQ.exb hrow hE17 (λe=>by have:=hlow _ e;omega);replace hb2:=hb2.exb hE17 oM;replace hX:=hE17.ext hX hb0;have sz17:=hE17.size;replace hKp:=hKp.exb hE17 nM;refine Ae (Ao hKp<|An rfl ?_ ?_);refine Ab rfl (Ai rfl Di hb16 rfl)<|Ae (Ao hKp<|An rfl ?_ Ag);refine BZ rfl rfl G9 Dn rfl rfl rfl rfl rfl λb7 w29 hb17 hE18 hs7 hz12=>?_;replace hrow:=hrow.ext hE18;replace hb2:=hb2.ext hE18;replace hb16:=hb16.ext hE18;replace hX:=hX.trans hE18;replace hKp:=hKp.ext hE18;refine Ae (Ao hKp<|An rfl ?_ Ag)
 refine AY rfl Ip rfl rfl rfl rfl hrow hb17 rfl rfl oM oM λta2 tc2 w30 hr2 hG2=>?_;have hlow2:∀x,rb ta2=some x→w0.heap.size≤x∧x≠b:=BP hG2 hlow oM;replace hb16:=hb16.grow hG2 (λe=>by have:=hlow _ e.symm;have:=hlowl _ e.symm;omega);replace hX:=hX.grow hG2 (λx hx=>(hlow x hx).1);replace hKp:=hKp.grow hG2 (by simp only[List.mem_cons,List.not_mem_nil,or_false];intro c hc e;have:=hlow _ e.symm;have:=hlowl _ e.symm;omega);have sz18:=hG2.size;refine Ae (Ao hKp<|Av rfl rfl (λ_ hS=>Bv rfl)<|Av rfl rfl (λ_ hS=>B8 rfl Cf)<|An rfl ?_ Ag);refine A2 rfl rfl rfl Di rfl hb16 rfl rfl λw31 hb18 hC7=>?_;replace hr2:=BQ.chg hr2 hC7 (λe=>by have:=hlow2 _ e;omega);replace hX:=hX.chg hC7 oM;replace hKp:=hKp.chg hC7 nM;have sz19:=hC7.size;exact Ae (Ao hKp<|B1<|D4<|FU (D0 rfl)<|⟨[⟨4,p.1,p.2,0,tx⟩],i1,p1,ta2,tc2,by rw[Hw hc h1 h2 h5 h6 h7,hstr],rfl,by rw[List.length_append];exact hb18,by rw[List.length_append,B6];exact hr2,hlow2,hX,oM,by first|omega|(have:=Ca hc;omega),hp1⟩);refine An rfl ?_ ?_;refine BZ rfl rfl G9 Dn rfl rfl rfl rfl rfl λb8 w32 hb19 hE19 hs8 hz13=>?_;replace hrow:=hrow.ext hE19;replace hb2:=hb2.ext hE19;replace hb16:=hb16.ext hE19;replace hX:=hX.trans hE19;replace hKp:=hKp.ext hE19;refine Ae (Ao hKp<|An rfl ?_ Ag);refine Ab rfl (Ai rfl Di hb16 rfl)<|Ae (Ao hKp<|An rfl ?_ Ag);refine AY rfl Ip rfl rfl rfl rfl hrow hb19 rfl rfl oM oM λta2 tc2 w33 hr2 hG2=>?_;have hlow2:∀x,rb ta2=some x→w0.heap.size≤x∧x≠b:=BP hG2 hlow oM;replace hb16:=hb16.grow hG2 (λe=>by have:=hlow _ e.symm;have:=hlowl _ e.symm;omega);replace hX:=hX.grow hG2 (λx hx=>(hlow x hx).1);replace hKp:=hKp.grow hG2 (by simp only[List.mem_cons,List.not_mem_nil,or_false];intro c hc e;have:=hlow _ e.symm;have:=hlowl _ e.symm;omega);have sz20:=hG2.size;refine Ae (Ao hKp<|Av rfl rfl (λ_ hS=>Bv rfl)<|Av rfl rfl (λ_ hS=>B8 rfl Cf)<|An rfl ?_ Ag);refine A2 rfl rfl rfl Di rfl hb16 rfl rfl λw34 hb20 hC8=>?_;replace hr2:=BQ.chg hr2 hC8 (λe=>by have:=hlow2 _ e;omega);replace hX:=hX.chg hC8 oM;replace hKp:=hKp.chg hC8 nM;have sz21:=hC8.size;exact Ae (Ao hKp<|B1<|D4<|FU (D0 rfl)<|⟨[⟨4,p.1,p.2,0,tx⟩],i1,p1,ta2,tc2,by rw[Hw hc h1 h2 h5 h6 h7,hstr],rfl,by rw[List.length_append];exact hb20,by rw[List.length_append,B6];exact hr2,hlow2,hX,oM,by first|omega|(have:=Ca hc;omega),hp1⟩);exact Ag;exact Ag;refine Jo rfl rfl<|Pl (E3 0 (pB b) 2 (pB b1) 3 (iV (i:Int))) (λw'=>∃(j:Nat)(q:Ps),i<j∧j≤src.length∧Pk j q∧Fa (adv c p) (src.drop (i+1))=(E1 src (i+1) j,src.drop j,q)∧AI w' b [S src,iV ((j:Nat):Int),iV q.1,iV q.2,(.slice ta toks.length tc)] 106∧AI w' b1 [iV p.1,iV p.2] 27 ∧ BQ w' 108 5 ta tc toks.length (ER toks)∧AR w0 w') ?_ ?_;refine DP ?_
 refine DC (λk σ ds w'=>∃(j:Nat)(q:Ps),k=src.length-j∧ds=[]∧σ=(E3 0 (pB b) 2 (pB b1) 3 (iV (i:Int)))∧i<j∧j≤src.length∧Pk j q∧Fa (adv c p) (src.drop (i+1))=(E1 src (i+1) j++(Fa q (src.drop j)).1,(Fa q (src.drop j)).2)∧AI w' b [S src,iV ((j:Nat):Int),iV q.1,iV q.2,(.slice ta toks.length tc)] 106∧AI w' b1 [iV p.1,iV p.2] 27 ∧ BQ w' 108 5 ta tc toks.length (ER toks)∧AR w0 w') (src.length-(i+1)) (E3 0 (pB b) 2 (pB b1) 3 (iV (i:Int))) lE ⟨i+1,adv c p,rfl,rfl,rfl,oM,by have:=Ca hc;omega,hp1,by rw[TP];rfl,hb3,hb2,hrow,hX⟩ ?_;rintro _ _ _ wl ⟨j,q,rfl,rfl,rfl,hij,hjl,hq,hm,hscl,hl2,hrow,hX⟩;have szl:=hX.size;have lt2:=hl2.lt;have lts:=hscl.lt;refine AQ [] 2 [] (Ar _) (λ_=>?_);have hr7:=hscl;have hr8:=hl2;refine DE mixed (A5 wl [b,b1]) [(true,0),(false,1),(true,2),(true,3),(true,4),(true,5),(true,6),(true,7),(true,8),(true,9),(true,10),(true,11),(false,12),(true,13),(true,14)] kR kR rfl rfl λw35 hE20 hz14=>?_;have hKp:A5 wl [b,b1] w35:=A5.cons hr7 hE20 (A5.cons hr8 hE20 (A5.nil _ _));refine⟨hKp,?_⟩;replace hscl:=hscl.ext hE20;replace hl2:=hl2.ext hE20;replace hrow:=hrow.ext hE20;replace hX:=hX.trans hE20;refine A0 rfl (λ_ hS=>Ay rfl)<|El<|A4 rfl (Ax R8 rfl rfl) (HC _ b src j q (.slice ta toks.length tc) hscl) ?_;rintro _ w36 ⟨rfl,hE21⟩;replace hscl:=hscl.ext hE21;replace hl2:=hl2.ext hE21;replace hrow:=hrow.ext hE21;replace hX:=hX.trans hE21;replace hKp:=hKp.ext hE21;have sz22:=hE21.size;refine Ae (GB hKp<|A0 rfl (λ_ hS=>Ay rfl)<|Og 17 rfl (λh8=>?_) (λh8=>?_));have hjlt:j<src.length:=by have:=of_decide_eq_true h8;omega
 obtain⟨c1,hc1⟩:=J7 hjlt;refine Ct rfl rfl rfl h8 (λ_ hS=>Ay rfl)<|Ct rfl rfl rfl h8 (λ_ hS=>Bv rfl)<|Ct rfl rfl rfl h8 (λ_ hS=>B8 rfl Hb)<|Ct rfl rfl rfl h8 (λ_ hS=>Ai rfl WO (hr7.keep hS (.head _)) rfl)<|Ct rfl rfl rfl h8 (λ_ hS=>Ay rfl)<|Ct rfl rfl rfl h8 (λ_ hS=>Bv rfl)<|Ct rfl rfl rfl h8 (λ_ hS=>B8 rfl EN)<|Ct rfl rfl rfl h8 (λ_ hS=>Ai rfl TL (hr7.keep hS (.head _)) rfl)<|Ct rfl rfl rfl h8 (λ_ hS=>Dk (c:=c1) rfl rfl I8 oM (by rw[Int.toNat_natCast];exact hc1))<|El ?_;refine B7 rfl rfl h8<|A4 rfl (Ax UF rfl rfl) (ET _ UX _) ?_;rintro _ w37 ⟨rfl,hE22⟩;replace hscl:=hscl.ext hE22;replace hl2:=hl2.ext hE22;replace hrow:=hrow.ext hE22;replace hX:=hX.trans hE22;replace hKp:=hKp.ext hE22;have sz23:=hE22.size;refine Ae (GB hKp<|Ct rfl rfl rfl h8 (λ_ hS=>Sw rfl rfl)<|A0 rfl (λ_ hS=>Ms rfl h8 rfl)<|DN<|Dh<|sP 29 rfl (λh9=>?_) (λh9=>?_));refine AQ [.sq _] 6 [] (Ar _) (λ_=>A4 rfl (Ax Na rfl rfl) (Fu _ b src j q (.slice ta toks.length tc) hscl c1 hc1 oM hq) ?_);rintro _ w38 ⟨rfl,hb21,hE23⟩;replace hl2:=hl2.exb hE23 oM;replace hrow:=BQ.exb hrow hE23 (λe=>by have:=hlow _ e;omega);replace hX:=hE23.ext hX hb0;have sz24:=hE23.size;have hp3:=Pk.adv (c:=c1) hq;refine AH [.bk _] 2 [] (Ar _) (λ_=>GV (src.length-(j+1)) (E3 0 (pB b) 2 (pB b1) 3 (iV (i:Int))) (by have:=Ca hc1;omega) lE ⟨j+1,adv c1 q,rfl,rfl,rfl,oM,by have:=Ca hc1;omega,hp3,by rw[hm,Ul hc1 h9,Tb (by omega) hc1,List.append_assoc];rfl,hb21,hl2,hrow,hX⟩);exact AQ [.sq _] 3 [] (Ar _) (λ_=>MG<|Oo<|Ou lE ⟨j,q,hij,hjl,hq,by rw[hm,MH (p:=q) (src:=src) (j:=j) (.inr ⟨c1,hc1,h9⟩),List.append_nil],hscl,hl2,hrow,hX⟩);refine Cu rfl rfl rfl h8<|Cu rfl rfl rfl h8<|Cu rfl rfl rfl h8<|Cu rfl rfl rfl h8<|Cu rfl rfl rfl h8<|Cu rfl rfl rfl h8<|Cu rfl rfl rfl h8<|Cu rfl rfl rfl h8<|Cu rfl rfl rfl h8<|El ?_;exact cL rfl rfl rfl h8<|Ae (GB hKp<|Cu rfl rfl rfl h8<|A0 rfl (λ_ hS=>NB rfl h8 rfl)<|DN<|J8 [.sq _,.sq _] 4 [] (Ar _) (λ_=>MG<|Oo<|Ou lE ⟨j,q,hij,hjl,hq,by rw[hm,MH (p:=q) (src:=src) (j:=j) (.inl (by have:=of_decide_eq_false h8;omega)),List.append_nil],hscl,hl2,hrow,hX⟩));rintro wl ⟨j,q,hij,hjl,hq,hm,hscl,hl2,hrow,hX⟩;have szl:=hX.size;have lt2:=hl2.lt;have lts:=hscl.lt;have hr9:=hl2
 refine DK mixed (A5 wl [b1]) (rd [0,1,2,3,5,6,7,9,10,11,12,15] (.br 4 (.br 8 (.br 13 (.rd 14 (.br 16 (.br 17 (.br 18 (.rd 19 (.rd 20 (.br 21 .fin .fin))) .fin) .fin) .fin)) .fin) (.br 13 (.br 8 (.rd 14 (.br 16 (.br 17 (.br 18 (.rd 19 (.rd 20 (.br 21 .fin .fin))) .fin) .fin) .fin)) .fin) .fin)) (.br 8 (.br 4 (.br 13 (.rd 14 (.br 16 (.br 17 (.br 18 (.rd 19 (.rd 20 (.br 21 .fin .fin))) .fin) .fin) .fin)) .fin) (.br 13 (.rd 14 (.br 4 (.br 16 (.br 17 (.br 18 (.rd 19 (.rd 20 (.br 21 .fin .fin))) .fin) .fin) .fin) (.br 16 (.br 4 (.br 17 (.br 18 (.rd 19 (.rd 20 (.br 21 .fin .fin))) .fin) .fin) (.br 17 (.br 4 (.br 18 (.rd 19 (.rd 20 (.br 21 .fin .fin))) .fin) .fin) .fin)) .fin))) .fin)) (.br 13 (.br 4 (.br 8 (.rd 14 (.br 16 (.br 17 (.br 18 (.rd 19 (.rd 20 (.br 21 .fin .fin))) .fin) .fin) .fin)) .fin) (.br 8 (.rd 14 (.br 4 (.br 16 (.br 17 (.br 18 (.rd 19 (.rd 20 (.br 21 .fin .fin))) .fin) .fin) .fin) (.br 16 (.br 4 (.br 17 (.br 18 (.rd 19 (.rd 20 (.br 21 .fin .fin))) .fin) .fin) (.br 17 (.br 4 (.br 18 (.rd 19 (.rd 20 (.br 21 .fin .fin))) .fin) .fin) .fin)) .fin))) .fin)) .fin)))) kR kR kR λw39 hE24 hz15=>?_;have hKp:A5 wl [b1] w39:=A5.cons hr9 hE24 (A5.nil _ _);refine⟨hKp,?_⟩;replace hscl:=hscl.ext hE24;replace hl2:=hl2.ext hE24;replace hrow:=hrow.ext hE24;replace hX:=hX.trans hE24;refine Av rfl rfl (λ_ hS=>Ay rfl)<|Av rfl rfl (λ_ hS=>Ay rfl)<|Av rfl rfl (λ_ hS=>Bv rfl)<|Av rfl rfl (λ_ hS=>B8 rfl Cf)<|Av rfl rfl (λ_ hS=>Ay rfl)<|Av rfl rfl (λ_ hS=>Bv rfl)<|Av rfl rfl (λ_ hS=>B8 rfl Hb)<|Av rfl rfl (λ_ hS=>Ay rfl)<|Av rfl rfl (λ_ hS=>Ay rfl)<|Av rfl rfl (λ_ hS=>Bv rfl) ?_;refine Av rfl rfl (λ_ hS=>B8 rfl EN)<|Av rfl rfl (λ_ hS=>CO rfl Il (hr9.keep hS (.head _)) rfl)<|An rfl ?_ ?_;refine Ab rfl (Ai rfl Di hscl rfl)<|Ae (Ao hKp<|An rfl ?_ ?_);refine Ab rfl (Ai rfl WO hscl rfl)<|Ae (Ao hKp<|An rfl ?_ Ag);refine Ab rfl (Ai rfl TL hscl rfl)<|Ae (Ao hKp<|Av rfl rfl (λ_ hS=>KV rfl rfl rfl I8 ⟨oM,oM,oM⟩)<|An rfl ?_ Ag);refine BX rfl (Ax L2 rfl rfl) (Eu hPF _ (hG.ext hX) (E1 src i j) (by have:=EA src i j;omega) (by rw[AP hij hc];simp) p) ?_ (λcc wp hc1=>aI rfl (let ⟨he,hcc,hE⟩:=hc1;⟨p,by rw[BC hc h1 h2 h5 h6 h7,hm];simp only[];rw[← AP hij hc,he],hcc,hX.trans hE⟩));rintro _ w40 ⟨wk,wn,wt,hw,rfl,hE25⟩;replace hscl:=hscl.ext hE25;replace hl2:=hl2.ext hE25;replace hrow:=hrow.ext hE25;replace hX:=hX.trans hE25;replace hKp:=hKp.ext hE25;have sz25:=hE25.size;have hst2:DD (src.length+1) p (src.drop i)=.ok ([⟨wk,p.1,p.2,wn,wt⟩],src.drop j,q):=by rw[BC hc h1 h2 h5 h6 h7,hm];simp only[];rw[← AP hij hc,hw]
 refine Ae (Ao hKp<|An rfl ?_ Ag);refine BZ rfl rfl G9 Dn rfl rfl rfl rfl rfl λb9 w41 hb22 hE26 hs9 hz16=>?_;replace hscl:=hscl.ext hE26;replace hl2:=hl2.ext hE26;replace hrow:=hrow.ext hE26;replace hX:=hX.trans hE26;replace hKp:=hKp.ext hE26;refine Ae (Ao hKp<|An rfl ?_ Ag);refine AY rfl Ip rfl rfl rfl rfl hrow hb22 rfl rfl oM oM λta2 tc2 w42 hr2 hG2=>?_;have hlow2:∀x,rb ta2=some x→w0.heap.size≤x∧x≠b:=BP hG2 hlow oM;replace hscl:=hscl.grow hG2 (λe=>by have:=hlow _ e.symm;have:=hlowl _ e.symm;omega);replace hl2:=hl2.grow hG2 (λe=>by have:=hlow _ e.symm;have:=hlowl _ e.symm;omega);replace hX:=hX.grow hG2 (λx hx=>(hlow x hx).1);replace hKp:=hKp.grow hG2 (by simp only[List.mem_cons,List.not_mem_nil,or_false];intro c hc e;have:=hlow _ e.symm;have:=hlowl _ e.symm;omega);have sz26:=hG2.size;refine Ae (Ao hKp<|Av rfl rfl (λ_ hS=>Bv rfl)<|Av rfl rfl (λ_ hS=>B8 rfl Cf)<|An rfl ?_ Ag);refine A2 rfl rfl rfl Di rfl hscl rfl rfl λw43 hb23 hC9=>?_;replace hl2:=hl2.chg hC9 oM;replace hr2:=BQ.chg hr2 hC9 (λe=>by have:=hlow2 _ e;omega);replace hX:=hX.chg hC9 oM;replace hKp:=hKp.chg hC9 nM;have sz27:=hC9.size;exact Ae (Ao hKp<|B1<|D4<|FU (D0 rfl)<|⟨[⟨wk,p.1,p.2,wn,wt⟩],j,q,ta2,tc2,hst2,rfl,by rw[List.length_append];exact hb23,by rw[List.length_append,B6];exact hr2,hlow2,hX,oM,by first|omega|(have:=Ca hc;omega),hq⟩);refine An rfl ?_ ?_;refine Ab rfl (Ai rfl TL hscl rfl)<|Ae (Ao hKp<|An rfl ?_ Ag);refine Ab rfl (Ai rfl WO hscl rfl)<|Ae (Ao hKp<|Av rfl rfl (λ_ hS=>KV rfl rfl rfl I8 ⟨oM,oM,oM⟩)<|An rfl ?_ Ag);refine BX rfl (Ax L2 rfl rfl) (Eu hPF _ (hG.ext hX) (E1 src i j) (by have:=EA src i j;omega) (by rw[AP hij hc];simp) p) ?_ (λcc wp hc1=>aI rfl (let ⟨he,hcc,hE⟩:=hc1;⟨p,by rw[BC hc h1 h2 h5 h6 h7,hm];simp only[];rw[← AP hij hc,he],hcc,hX.trans hE⟩));rintro _ w44 ⟨wk,wn,wt,hw,rfl,hE27⟩;replace hscl:=hscl.ext hE27;replace hl2:=hl2.ext hE27;replace hrow:=hrow.ext hE27;replace hX:=hX.trans hE27;replace hKp:=hKp.ext hE27;have sz28:=hE27.size;have hst2:DD (src.length+1) p (src.drop i)=.ok ([⟨wk,p.1,p.2,wn,wt⟩],src.drop j,q):=by rw[BC hc h1 h2 h5 h6 h7,hm];simp only[];rw[← AP hij hc,hw]
 refine Ae (Ao hKp<|An rfl ?_ Ag);refine BZ rfl rfl G9 Dn rfl rfl rfl rfl rfl λb10 w45 hb24 hE28 hs10 hz17=>?_;replace hscl:=hscl.ext hE28;replace hl2:=hl2.ext hE28;replace hrow:=hrow.ext hE28;replace hX:=hX.trans hE28;replace hKp:=hKp.ext hE28;refine Ae (Ao hKp<|An rfl ?_ Ag);refine AY rfl Ip rfl rfl rfl rfl hrow hb24 rfl rfl oM oM λta2 tc2 w46 hr2 hG2=>?_;have hlow2:∀x,rb ta2=some x→w0.heap.size≤x∧x≠b:=BP hG2 hlow oM;replace hscl:=hscl.grow hG2 (λe=>by have:=hlow _ e.symm;have:=hlowl _ e.symm;omega);replace hl2:=hl2.grow hG2 (λe=>by have:=hlow _ e.symm;have:=hlowl _ e.symm;omega);replace hX:=hX.grow hG2 (λx hx=>(hlow x hx).1);replace hKp:=hKp.grow hG2 (by simp only[List.mem_cons,List.not_mem_nil,or_false];intro c hc e;have:=hlow _ e.symm;have:=hlowl _ e.symm;omega);have sz29:=hG2.size;refine Ae (Ao hKp<|Av rfl rfl (λ_ hS=>Bv rfl)<|Av rfl rfl (λ_ hS=>B8 rfl Cf)<|An rfl ?_ Ag);refine A2 rfl rfl rfl Di rfl hscl rfl rfl λw47 hb25 hC10=>?_;replace hl2:=hl2.chg hC10 oM;replace hr2:=BQ.chg hr2 hC10 (λe=>by have:=hlow2 _ e;omega);replace hX:=hX.chg hC10 oM;replace hKp:=hKp.chg hC10 nM;have sz30:=hC10.size;exact Ae (Ao hKp<|B1<|D4<|FU (D0 rfl)<|⟨[⟨wk,p.1,p.2,wn,wt⟩],j,q,ta2,tc2,hst2,rfl,by rw[List.length_append];exact hb25,by rw[List.length_append,B6];exact hr2,hlow2,hX,oM,by first|omega|(have:=Ca hc;omega),hq⟩);exact Ag;refine An rfl ?_ ?_;refine Ab rfl (Ai rfl WO hscl rfl)<|Ae (Ao hKp<|An rfl ?_ ?_);refine Ab rfl (Ai rfl Di hscl rfl)<|Ae (Ao hKp<|An rfl ?_ Ag);refine Ab rfl (Ai rfl TL hscl rfl)<|Ae (Ao hKp<|Av rfl rfl (λ_ hS=>KV rfl rfl rfl I8 ⟨oM,oM,oM⟩)<|An rfl ?_ Ag);refine BX rfl (Ax L2 rfl rfl) (Eu hPF _ (hG.ext hX) (E1 src i j) (by have:=EA src i j;omega) (by rw[AP hij hc];simp) p) ?_ (λcc wp hc1=>aI rfl (let ⟨he,hcc,hE⟩:=hc1;⟨p,by rw[BC hc h1 h2 h5 h6 h7,hm];simp only[];rw[← AP hij hc,he],hcc,hX.trans hE⟩));rintro _ w48 ⟨wk,wn,wt,hw,rfl,hE29⟩;replace hscl:=hscl.ext hE29;replace hl2:=hl2.ext hE29;replace hrow:=hrow.ext hE29;replace hX:=hX.trans hE29;replace hKp:=hKp.ext hE29;have sz31:=hE29.size;have hst2:DD (src.length+1) p (src.drop i)=.ok ([⟨wk,p.1,p.2,wn,wt⟩],src.drop j,q):=by rw[BC hc h1 h2 h5 h6 h7,hm];simp only[];rw[← AP hij hc,hw]
 refine Ae (Ao hKp<|An rfl ?_ Ag);refine BZ rfl rfl G9 Dn rfl rfl rfl rfl rfl λb11 w49 hb26 hE30 hs11 hz18=>?_;replace hscl:=hscl.ext hE30;replace hl2:=hl2.ext hE30;replace hrow:=hrow.ext hE30;replace hX:=hX.trans hE30;replace hKp:=hKp.ext hE30;refine Ae (Ao hKp<|An rfl ?_ Ag);refine AY rfl Ip rfl rfl rfl rfl hrow hb26 rfl rfl oM oM λta2 tc2 w50 hr2 hG2=>?_;have hlow2:∀x,rb ta2=some x→w0.heap.size≤x∧x≠b:=BP hG2 hlow oM;replace hscl:=hscl.grow hG2 (λe=>by have:=hlow _ e.symm;have:=hlowl _ e.symm;omega);replace hl2:=hl2.grow hG2 (λe=>by have:=hlow _ e.symm;have:=hlowl _ e.symm;omega);replace hX:=hX.grow hG2 (λx hx=>(hlow x hx).1);replace hKp:=hKp.grow hG2 (by simp only[List.mem_cons,List.not_mem_nil,or_false];intro c hc e;have:=hlow _ e.symm;have:=hlowl _ e.symm;omega);have sz32:=hG2.size;refine Ae (Ao hKp<|Av rfl rfl (λ_ hS=>Bv rfl)<|Av rfl rfl (λ_ hS=>B8 rfl Cf)<|An rfl ?_ Ag);refine A2 rfl rfl rfl Di rfl hscl rfl rfl λw51 hb27 hC11=>?_;replace hl2:=hl2.chg hC11 oM;replace hr2:=BQ.chg hr2 hC11 (λe=>by have:=hlow2 _ e;omega);replace hX:=hX.chg hC11 oM;replace hKp:=hKp.chg hC11 nM;have sz33:=hC11.size;exact Ae (Ao hKp<|B1<|D4<|FU (D0 rfl)<|⟨[⟨wk,p.1,p.2,wn,wt⟩],j,q,ta2,tc2,hst2,rfl,by rw[List.length_append];exact hb27,by rw[List.length_append,B6];exact hr2,hlow2,hX,oM,by first|omega|(have:=Ca hc;omega),hq⟩);refine An rfl ?_ ?_;refine Ab rfl (Ai rfl TL hscl rfl)<|Ae (Ao hKp<|Av rfl rfl (λ_ hS=>KV rfl rfl rfl I8 ⟨oM,oM,oM⟩)<|An rfl ?_ ?_);refine Ab rfl (Ai rfl Di hscl rfl)<|Ae (Ao hKp<|An rfl ?_ Ag);refine BX rfl (Ax L2 rfl rfl) (Eu hPF _ (hG.ext hX) (E1 src i j) (by have:=EA src i j;omega) (by rw[AP hij hc];simp) p) ?_ (λcc wp hc1=>aI rfl (let ⟨he,hcc,hE⟩:=hc1;⟨p,by rw[BC hc h1 h2 h5 h6 h7,hm];simp only[];rw[← AP hij hc,he],hcc,hX.trans hE⟩));rintro _ w52 ⟨wk,wn,wt,hw,rfl,hE31⟩;replace hscl:=hscl.ext hE31;replace hl2:=hl2.ext hE31;replace hrow:=hrow.ext hE31;replace hX:=hX.trans hE31;replace hKp:=hKp.ext hE31;have sz34:=hE31.size;have hst2:DD (src.length+1) p (src.drop i)=.ok ([⟨wk,p.1,p.2,wn,wt⟩],src.drop j,q):=by rw[BC hc h1 h2 h5 h6 h7,hm];simp only[];rw[← AP hij hc,hw]
 refine Ae (Ao hKp<|An rfl ?_ Ag);refine BZ rfl rfl G9 Dn rfl rfl rfl rfl rfl λb12 w53 hb28 hE32 hs12 hz19=>?_;replace hscl:=hscl.ext hE32;replace hl2:=hl2.ext hE32;replace hrow:=hrow.ext hE32;replace hX:=hX.trans hE32;replace hKp:=hKp.ext hE32;refine Ae (Ao hKp<|An rfl ?_ Ag);refine AY rfl Ip rfl rfl rfl rfl hrow hb28 rfl rfl oM oM λta2 tc2 w54 hr2 hG2=>?_;have hlow2:∀x,rb ta2=some x→w0.heap.size≤x∧x≠b:=BP hG2 hlow oM;replace hscl:=hscl.grow hG2 (λe=>by have:=hlow _ e.symm;have:=hlowl _ e.symm;omega);replace hl2:=hl2.grow hG2 (λe=>by have:=hlow _ e.symm;have:=hlowl _ e.symm;omega);replace hX:=hX.grow hG2 (λx hx=>(hlow x hx).1);replace hKp:=hKp.grow hG2 (by simp only[List.mem_cons,List.not_mem_nil,or_false];intro c hc e;have:=hlow _ e.symm;have:=hlowl _ e.symm;omega);have sz35:=hG2.size;refine Ae (Ao hKp<|Av rfl rfl (λ_ hS=>Bv rfl)<|Av rfl rfl (λ_ hS=>B8 rfl Cf)<|An rfl ?_ Ag);refine A2 rfl rfl rfl Di rfl hscl rfl rfl λw55 hb29 hC12=>?_;replace hl2:=hl2.chg hC12 oM;replace hr2:=BQ.chg hr2 hC12 (λe=>by have:=hlow2 _ e;omega);replace hX:=hX.chg hC12 oM;replace hKp:=hKp.chg hC12 nM;have sz36:=hC12.size;exact Ae (Ao hKp<|B1<|D4<|FU (D0 rfl)<|⟨[⟨wk,p.1,p.2,wn,wt⟩],j,q,ta2,tc2,hst2,rfl,by rw[List.length_append];exact hb29,by rw[List.length_append,B6];exact hr2,hlow2,hX,oM,by first|omega|(have:=Ca hc;omega),hq⟩);refine An rfl ?_ ?_;refine BX rfl (Ax L2 rfl rfl) (Eu hPF _ (hG.ext hX) (E1 src i j) (by have:=EA src i j;omega) (by rw[AP hij hc];simp) p) ?_ (λcc wp hc1=>aI rfl (let ⟨he,hcc,hE⟩:=hc1;⟨p,by rw[BC hc h1 h2 h5 h6 h7,hm];simp only[];rw[← AP hij hc,he],hcc,hX.trans hE⟩));rintro _ w56 ⟨wk,wn,wt,hw,rfl,hE33⟩;replace hscl:=hscl.ext hE33;replace hl2:=hl2.ext hE33;replace hrow:=hrow.ext hE33;replace hX:=hX.trans hE33;replace hKp:=hKp.ext hE33;have sz37:=hE33.size;have hst2:DD (src.length+1) p (src.drop i)=.ok ([⟨wk,p.1,p.2,wn,wt⟩],src.drop j,q):=by rw[BC hc h1 h2 h5 h6 h7,hm];simp only[];rw[← AP hij hc,hw]
 refine Ae (Ao hKp<|An rfl ?_ ?_);refine Ab rfl (Ai rfl Di hscl rfl)<|Ae (Ao hKp<|An rfl ?_ Ag);refine BZ rfl rfl G9 Dn rfl rfl rfl rfl rfl λb13 w57 hb30 hE34 hs13 hz20=>?_;replace hscl:=hscl.ext hE34;replace hl2:=hl2.ext hE34;replace hrow:=hrow.ext hE34;replace hX:=hX.trans hE34;replace hKp:=hKp.ext hE34;refine Ae (Ao hKp<|An rfl ?_ Ag);refine AY rfl Ip rfl rfl rfl rfl hrow hb30 rfl rfl oM oM λta2 tc2 w58 hr2 hG2=>?_;have hlow2:∀x,rb ta2=some x→w0.heap.size≤x∧x≠b:=BP hG2 hlow oM;replace hscl:=hscl.grow hG2 (λe=>by have:=hlow _ e.symm;have:=hlowl _ e.symm;omega);replace hl2:=hl2.grow hG2 (λe=>by have:=hlow _ e.symm;have:=hlowl _ e.symm;omega);replace hX:=hX.grow hG2 (λx hx=>(hlow x hx).1);replace hKp:=hKp.grow hG2 (by simp only[List.mem_cons,List.not_mem_nil,or_false];intro c hc e;have:=hlow _ e.symm;have:=hlowl _ e.symm;omega);have sz38:=hG2.size;refine Ae (Ao hKp<|Av rfl rfl (λ_ hS=>Bv rfl)<|Av rfl rfl (λ_ hS=>B8 rfl Cf)<|An rfl ?_ Ag);refine A2 rfl rfl rfl Di rfl hscl rfl rfl λw59 hb31 hC13=>?_;replace hl2:=hl2.chg hC13 oM;replace hr2:=BQ.chg hr2 hC13 (λe=>by have:=hlow2 _ e;omega);replace hX:=hX.chg hC13 oM;replace hKp:=hKp.chg hC13 nM;have sz39:=hC13.size;exact Ae (Ao hKp<|B1<|D4<|FU (D0 rfl)<|⟨[⟨wk,p.1,p.2,wn,wt⟩],j,q,ta2,tc2,hst2,rfl,by rw[List.length_append];exact hb31,by rw[List.length_append,B6];exact hr2,hlow2,hX,oM,by first|omega|(have:=Ca hc;omega),hq⟩);refine An rfl ?_ ?_;refine BZ rfl rfl G9 Dn rfl rfl rfl rfl rfl λb14 w60 hb32 hE35 hs14 hz21=>?_;replace hscl:=hscl.ext hE35;replace hl2:=hl2.ext hE35;replace hrow:=hrow.ext hE35;replace hX:=hX.trans hE35;replace hKp:=hKp.ext hE35;refine Ae (Ao hKp<|An rfl ?_ Ag);refine Ab rfl (Ai rfl Di hscl rfl)<|Ae (Ao hKp<|An rfl ?_ Ag);refine AY rfl Ip rfl rfl rfl rfl hrow hb32 rfl rfl oM oM λta2 tc2 w61 hr2 hG2=>?_;have hlow2:∀x,rb ta2=some x→w0.heap.size≤x∧x≠b:=BP hG2 hlow oM;replace hscl:=hscl.grow hG2 (λe=>by have:=hlow _ e.symm;have:=hlowl _ e.symm;omega);replace hl2:=hl2.grow hG2 (λe=>by have:=hlow _ e.symm;have:=hlowl _ e.symm;omega);replace hX:=hX.grow hG2 (λx hx=>(hlow x hx).1);replace hKp:=hKp.grow hG2 (by simp only[List.mem_cons,List.not_mem_nil,or_false];intro c hc e;have:=hlow _ e.symm;have:=hlowl _ e.symm;omega);have sz40:=hG2.size;refine Ae (Ao hKp<|Av rfl rfl (λ_ hS=>Bv rfl)<|Av rfl rfl (λ_ hS=>B8 rfl Cf)<|An rfl ?_ Ag);refine A2 rfl rfl rfl Di rfl hscl rfl rfl λw62 hb33 hC14=>?_;replace hl2:=hl2.chg hC14 oM;replace hr2:=BQ.chg hr2 hC14 (λe=>by have:=hlow2 _ e;omega);replace hX:=hX.chg hC14 oM;replace hKp:=hKp.chg hC14 nM;have sz41:=hC14.size;exact Ae (Ao hKp<|B1<|D4<|FU (D0 rfl)<|⟨[⟨wk,p.1,p.2,wn,wt⟩],j,q,ta2,tc2,hst2,rfl,by rw[List.length_append];exact hb33,by rw[List.length_append,B6];exact hr2,hlow2,hX,oM,by first|omega|(have:=Ca hc;omega),hq⟩);exact Ag;exact Ag;exact Ag;refine An rfl ?_ ?_;refine Ab rfl (Ai rfl TL hscl rfl)<|Ae (Ao hKp<|An rfl ?_ ?_);refine Ab rfl (Ai rfl Di hscl rfl)<|Ae (Ao hKp<|An rfl ?_ Ag)
 refine Ab rfl (Ai rfl WO hscl rfl)<|Ae (Ao hKp<|Av rfl rfl (λ_ hS=>KV rfl rfl rfl I8 ⟨oM,oM,oM⟩)<|An rfl ?_ Ag);refine BX rfl (Ax L2 rfl rfl) (Eu hPF _ (hG.ext hX) (E1 src i j) (by have:=EA src i j;omega) (by rw[AP hij hc];simp) p) ?_ (λcc wp hc1=>aI rfl (let ⟨he,hcc,hE⟩:=hc1;⟨p,by rw[BC hc h1 h2 h5 h6 h7,hm];simp only[];rw[← AP hij hc,he],hcc,hX.trans hE⟩));rintro _ w63 ⟨wk,wn,wt,hw,rfl,hE36⟩;replace hscl:=hscl.ext hE36;replace hl2:=hl2.ext hE36;replace hrow:=hrow.ext hE36;replace hX:=hX.trans hE36;replace hKp:=hKp.ext hE36;have sz42:=hE36.size;have hst2:DD (src.length+1) p (src.drop i)=.ok ([⟨wk,p.1,p.2,wn,wt⟩],src.drop j,q):=by rw[BC hc h1 h2 h5 h6 h7,hm];simp only[];rw[← AP hij hc,hw]
 refine Ae (Ao hKp<|An rfl ?_ Ag);refine BZ rfl rfl G9 Dn rfl rfl rfl rfl rfl λb15 w64 hb34 hE37 hs15 hz22=>?_;replace hscl:=hscl.ext hE37;replace hl2:=hl2.ext hE37;replace hrow:=hrow.ext hE37;replace hX:=hX.trans hE37;replace hKp:=hKp.ext hE37;refine Ae (Ao hKp<|An rfl ?_ Ag);refine AY rfl Ip rfl rfl rfl rfl hrow hb34 rfl rfl oM oM λta2 tc2 w65 hr2 hG2=>?_;have hlow2:∀x,rb ta2=some x→w0.heap.size≤x∧x≠b:=BP hG2 hlow oM;replace hscl:=hscl.grow hG2 (λe=>by have:=hlow _ e.symm;have:=hlowl _ e.symm;omega);replace hl2:=hl2.grow hG2 (λe=>by have:=hlow _ e.symm;have:=hlowl _ e.symm;omega);replace hX:=hX.grow hG2 (λx hx=>(hlow x hx).1);replace hKp:=hKp.grow hG2 (by simp only[List.mem_cons,List.not_mem_nil,or_false];intro c hc e;have:=hlow _ e.symm;have:=hlowl _ e.symm;omega);have sz43:=hG2.size;refine Ae (Ao hKp<|Av rfl rfl (λ_ hS=>Bv rfl)<|Av rfl rfl (λ_ hS=>B8 rfl Cf)<|An rfl ?_ Ag);refine A2 rfl rfl rfl Di rfl hscl rfl rfl λw66 hb35 hC15=>?_;replace hl2:=hl2.chg hC15 oM;replace hr2:=BQ.chg hr2 hC15 (λe=>by have:=hlow2 _ e;omega);replace hX:=hX.chg hC15 oM;replace hKp:=hKp.chg hC15 nM;have sz44:=hC15.size;exact Ae (Ao hKp<|B1<|D4<|FU (D0 rfl)<|⟨[⟨wk,p.1,p.2,wn,wt⟩],j,q,ta2,tc2,hst2,rfl,by rw[List.length_append];exact hb35,by rw[List.length_append,B6];exact hr2,hlow2,hX,oM,by first|omega|(have:=Ca hc;omega),hq⟩);refine An rfl ?_ ?_;refine Ab rfl (Ai rfl WO hscl rfl)<|Ae (Ao hKp<|Av rfl rfl (λ_ hS=>KV rfl rfl rfl I8 ⟨oM,oM,oM⟩)<|An rfl ?_ ?_);refine Ab rfl (Ai rfl Di hscl rfl)<|Ae (Ao hKp<|An rfl ?_ Ag);refine BX rfl (Ax L2 rfl rfl) (Eu hPF _ (hG.ext hX) (E1 src i j) (by have:=EA src i j;omega) (by rw[AP hij hc];simp) p) ?_ (λcc wp hc1=>aI rfl (let ⟨he,hcc,hE⟩:=hc1;⟨p,by rw[BC hc h1 h2 h5 h6 h7,hm];simp only[];rw[← AP hij hc,he],hcc,hX.trans hE⟩));rintro _ w67 ⟨wk,wn,wt,hw,rfl,hE38⟩;replace hscl:=hscl.ext hE38;replace hl2:=hl2.ext hE38;replace hrow:=hrow.ext hE38;replace hX:=hX.trans hE38;replace hKp:=hKp.ext hE38;have sz45:=hE38.size;have hst2:DD (src.length+1) p (src.drop i)=.ok ([⟨wk,p.1,p.2,wn,wt⟩],src.drop j,q):=by rw[BC hc h1 h2 h5 h6 h7,hm];simp only[];rw[← AP hij hc,hw]
 refine Ae (Ao hKp<|An rfl ?_ Ag);refine BZ rfl rfl G9 Dn rfl rfl rfl rfl rfl λb16 w68 hb36 hE39 hs16 hz23=>?_;replace hscl:=hscl.ext hE39;replace hl2:=hl2.ext hE39;replace hrow:=hrow.ext hE39;replace hX:=hX.trans hE39;replace hKp:=hKp.ext hE39;refine Ae (Ao hKp<|An rfl ?_ Ag);refine AY rfl Ip rfl rfl rfl rfl hrow hb36 rfl rfl oM oM λta2 tc2 w69 hr2 hG2=>?_;have hlow2:∀x,rb ta2=some x→w0.heap.size≤x∧x≠b:=BP hG2 hlow oM;replace hscl:=hscl.grow hG2 (λe=>by have:=hlow _ e.symm;have:=hlowl _ e.symm;omega);replace hl2:=hl2.grow hG2 (λe=>by have:=hlow _ e.symm;have:=hlowl _ e.symm;omega);replace hX:=hX.grow hG2 (λx hx=>(hlow x hx).1);replace hKp:=hKp.grow hG2 (by simp only[List.mem_cons,List.not_mem_nil,or_false];intro c hc e;have:=hlow _ e.symm;have:=hlowl _ e.symm;omega);have sz46:=hG2.size;refine Ae (Ao hKp<|Av rfl rfl (λ_ hS=>Bv rfl)<|Av rfl rfl (λ_ hS=>B8 rfl Cf)<|An rfl ?_ Ag);refine A2 rfl rfl rfl Di rfl hscl rfl rfl λw70 hb37 hC16=>?_;replace hl2:=hl2.chg hC16 oM;replace hr2:=BQ.chg hr2 hC16 (λe=>by have:=hlow2 _ e;omega);replace hX:=hX.chg hC16 oM;replace hKp:=hKp.chg hC16 nM;have sz47:=hC16.size;exact Ae (Ao hKp<|B1<|D4<|FU (D0 rfl)<|⟨[⟨wk,p.1,p.2,wn,wt⟩],j,q,ta2,tc2,hst2,rfl,by rw[List.length_append];exact hb37,by rw[List.length_append,B6];exact hr2,hlow2,hX,oM,by first|omega|(have:=Ca hc;omega),hq⟩);refine An rfl ?_ ?_;refine BX rfl (Ax L2 rfl rfl) (Eu hPF _ (hG.ext hX) (E1 src i j) (by have:=EA src i j;omega) (by rw[AP hij hc];simp) p) ?_ (λcc wp hc1=>aI rfl (let ⟨he,hcc,hE⟩:=hc1;⟨p,by rw[BC hc h1 h2 h5 h6 h7,hm];simp only[];rw[← AP hij hc,he],hcc,hX.trans hE⟩));rintro _ w71 ⟨wk,wn,wt,hw,rfl,hE40⟩;replace hscl:=hscl.ext hE40;replace hl2:=hl2.ext hE40;replace hrow:=hrow.ext hE40;replace hX:=hX.trans hE40;replace hKp:=hKp.ext hE40;have sz48:=hE40.size;have hst2:DD (src.length+1) p (src.drop i)=.ok ([⟨wk,p.1,p.2,wn,wt⟩],src.drop j,q):=by rw[BC hc h1 h2 h5 h6 h7,hm];simp only[];rw[← AP hij hc,hw]
 refine Ae (Ao hKp<|An rfl ?_ ?_);refine Ab rfl (Ai rfl Di hscl rfl)<|Ae (Ao hKp<|An rfl ?_ Ag);refine BZ rfl rfl G9 Dn rfl rfl rfl rfl rfl λb17 w72 hb38 hE41 hs17 hz24=>?_;replace hscl:=hscl.ext hE41;replace hl2:=hl2.ext hE41;replace hrow:=hrow.ext hE41;replace hX:=hX.trans hE41;replace hKp:=hKp.ext hE41;refine Ae (Ao hKp<|An rfl ?_ Ag);refine AY rfl Ip rfl rfl rfl rfl hrow hb38 rfl rfl oM oM λta2 tc2 w73 hr2 hG2=>?_;have hlow2:∀x,rb ta2=some x→w0.heap.size≤x∧x≠b:=BP hG2 hlow oM;replace hscl:=hscl.grow hG2 (λe=>by have:=hlow _ e.symm;have:=hlowl _ e.symm;omega);replace hl2:=hl2.grow hG2 (λe=>by have:=hlow _ e.symm;have:=hlowl _ e.symm;omega);replace hX:=hX.grow hG2 (λx hx=>(hlow x hx).1);replace hKp:=hKp.grow hG2 (by simp only[List.mem_cons,List.not_mem_nil,or_false];intro c hc e;have:=hlow _ e.symm;have:=hlowl _ e.symm;omega);have sz49:=hG2.size;refine Ae (Ao hKp<|Av rfl rfl (λ_ hS=>Bv rfl)<|Av rfl rfl (λ_ hS=>B8 rfl Cf)<|An rfl ?_ Ag);refine A2 rfl rfl rfl Di rfl hscl rfl rfl λw74 hb39 hC17=>?_;replace hl2:=hl2.chg hC17 oM;replace hr2:=BQ.chg hr2 hC17 (λe=>by have:=hlow2 _ e;omega);replace hX:=hX.chg hC17 oM;replace hKp:=hKp.chg hC17 nM;have sz50:=hC17.size;exact Ae (Ao hKp<|B1<|D4<|FU (D0 rfl)<|⟨[⟨wk,p.1,p.2,wn,wt⟩],j,q,ta2,tc2,hst2,rfl,by rw[List.length_append];exact hb39,by rw[List.length_append,B6];exact hr2,hlow2,hX,oM,by first|omega|(have:=Ca hc;omega),hq⟩);refine An rfl ?_ ?_;refine BZ rfl rfl G9 Dn rfl rfl rfl rfl rfl λb18 w75 hb40 hE42 hs18 hz25=>?_;replace hscl:=hscl.ext hE42;replace hl2:=hl2.ext hE42;replace hrow:=hrow.ext hE42;replace hX:=hX.trans hE42;replace hKp:=hKp.ext hE42;refine Ae (Ao hKp<|An rfl ?_ Ag);refine Ab rfl (Ai rfl Di hscl rfl)<|Ae (Ao hKp<|An rfl ?_ Ag);refine AY rfl Ip rfl rfl rfl rfl hrow hb40 rfl rfl oM oM λta2 tc2 w76 hr2 hG2=>?_;have hlow2:∀x,rb ta2=some x→w0.heap.size≤x∧x≠b:=BP hG2 hlow oM;replace hscl:=hscl.grow hG2 (λe=>by have:=hlow _ e.symm;have:=hlowl _ e.symm;omega);replace hl2:=hl2.grow hG2 (λe=>by have:=hlow _ e.symm;have:=hlowl _ e.symm;omega);replace hX:=hX.grow hG2 (λx hx=>(hlow x hx).1);replace hKp:=hKp.grow hG2 (by simp only[List.mem_cons,List.not_mem_nil,or_false];intro c hc e;have:=hlow _ e.symm;have:=hlowl _ e.symm;omega);have sz51:=hG2.size;refine Ae (Ao hKp<|Av rfl rfl (λ_ hS=>Bv rfl)<|Av rfl rfl (λ_ hS=>B8 rfl Cf)<|An rfl ?_ Ag);refine A2 rfl rfl rfl Di rfl hscl rfl rfl λw77 hb41 hC18=>?_;replace hl2:=hl2.chg hC18 oM;replace hr2:=BQ.chg hr2 hC18 (λe=>by have:=hlow2 _ e;omega);replace hX:=hX.chg hC18 oM;replace hKp:=hKp.chg hC18 nM;have sz52:=hC18.size;exact Ae (Ao hKp<|B1<|D4<|FU (D0 rfl)<|⟨[⟨wk,p.1,p.2,wn,wt⟩],j,q,ta2,tc2,hst2,rfl,by rw[List.length_append];exact hb41,by rw[List.length_append,B6];exact hr2,hlow2,hX,oM,by first|omega|(have:=Ca hc;omega),hq⟩);exact Ag;exact Ag;exact Ag;exact Ag
theorem R2(w:World)(c2 c3 c4:Nat) :
  CallsD prog 37 [pB c2,pB c3,pB c4].toArray .returning w λr m w'=>∃x,r=.returned x∧m=.returning∧(AR w w'):=by
 have hX:=AR.refl w;refine Dl (R:=λw'=>AR w w') func37 rfl rfl rfl rfl N9<|DP<|BR<|Cz<|Ab rfl (Pb fF rfl)<|Ae<|Dh<|F4 rfl rfl<|Cz<|Ab rfl (CI rfl) ?_;exact Ae<|D4<|FU (D0 rfl)<|hX
theorem TW(w0 w:World)(hX0:AR w0 w)(c2 c3 c4:Nat)(v2 x3 y3 v4:Value)(hc2:AI w c2 [v2] 57)(hc3:AI w c3 [x3,y3] 27)(hc4:AI w c4 [v4] 28)(g2:w0.heap.size≤c2)(g3:w0.heap.size≤c3)(g4:w0.heap.size≤c4)(n23:c2≠c3)(n24:c2≠c4)(n34:c3≠c4)(e:Int×Int) :
  CallsD prog 37 [pB c2,pB c3,pB c4].toArray (.panicking (Qv 103 e)) w λr m w'=>∃x,r=.returned x∧m=.panicking [{v:=.iface 103 (.agg #[iV e.1,iV e.2]),recovered:=true}]∧(AR w0 w'∧AI w' c2 [.slice none 0 0] 57∧AI w' c3 [iV e.1,iV e.2] 27∧AI w' c4 [iV 10] 28):=by
 have l2:=hc2.lt;have l3:=hc3.lt;have l4:=hc4.lt;have hX:=hX0;have szx:=hX.size;refine Dl (R:=λw'=>AR w0 w'∧AI w' c2 [.slice none 0 0] 57∧AI w' c3 [iV e.1,iV e.2] 27∧AI w' c4 [iV 10] 28) func37 rfl rfl rfl rfl PN<|DP<|BR<|Cz<|Ab rfl (Qg fF rfl)<|Ae<|Dh<|Jo rfl rfl<|BR<|Cz ?_;refine Ab rfl (Uc rfl jX)<|Ab rfl (To rfl rfl)<|Ab rfl (To rfl rfl)<|Ae<|Dh<|F4 rfl rfl<|BR<|Cz<|C1 rfl gC λb1 w1 hb1 hE1 hs1 hz1=>?_;replace hc2:=hc2.ext hE1;replace hc3:=hc3.ext hE1;replace hc4:=hc4.ext hE1;replace hX:=hX.trans hE1;refine A2 rfl rfl rfl rQ rfl hb1 rfl rfl λw2 hb2 hC1=>?_;replace hc2:=hc2.chg hC1 oM;replace hc3:=hc3.chg hC1 oM;replace hc4:=hc4.chg hC1 oM;replace hX:=hX.chg hC1 oM;have sz1:=hC1.size;refine Ae<|Dh ?_;have hr1:=hb2;refine DE mixed (A5 w2 [b1]) [(true,0),(true,1),(false,2),(false,3),(false,4)] kR kR rfl rfl λw3 hE2 hz2=>?_;have hKp:A5 w2 [b1] w3:=A5.cons hr1 hE2 (A5.nil _ _);refine⟨hKp,?_⟩;replace hc2:=hc2.ext hE2;replace hc3:=hc3.ext hE2;replace hc4:=hc4.ext hE2;replace hb2:=hb2.ext hE2;replace hX:=hX.trans hE2;refine A0 rfl (λ_ hS=>B8 rfl dJ)<|A0 rfl (λ_ hS=>CO rfl Il (hr1.keep hS (.head _)) rfl)<|El<|A2 rfl rfl rfl Di rfl hc2 rfl rfl λw4 hb3 hC2=>?_;replace hc3:=hc3.chg hC2 oM;replace hc4:=hc4.chg hC2 oM;replace hb2:=hb2.chg hC2 oM;replace hX:=hX.chg hC2 oM;replace hKp:=hKp.chg hC2 nM;have sz2:=hC2.size;refine Ae (GB hKp<|El<|A2 rfl rfl rfl Il rfl hc3 rfl rfl λw5 hb4 hC3=>?_);replace hb3:=hb3.chg hC3 oM;replace hc4:=hc4.chg hC3 oM;replace hb2:=hb2.chg hC3 oM;replace hX:=hX.chg hC3 oM;replace hKp:=hKp.chg hC3 nM;have sz3:=hC3.size;refine Ae (GB hKp<|El<|A2 rfl rfl rfl VL rfl hc4 rfl rfl λw6 hb5 hC4=>?_);replace hb3:=hb3.chg hC4 oM;replace hb4:=hb4.chg hC4 oM;replace hb2:=hb2.chg hC4 oM;replace hX:=hX.chg hC4 oM;replace hKp:=hKp.chg hC4 nM;have sz4:=hC4.size;exact Ae (GB hKp<|DN<|D4<|FU (D0 rfl)<|⟨hX,hb3,hb4,hb5⟩)
def pG(w w':World)(v:Value):Except (Int×Int×Int) (List AK)→Prop
 |.error e=>v=.tuple #[.slice none 0 0,.agg #[iV e.1,iV e.2.1],iV e.2.2]∧AR w w'
 |.ok toks=>∃ta tc,v=.tuple #[.slice ta toks.length tc,.agg #[iV 0,iV 0],iV 0]∧(BQ w' 108 5 ta tc toks.length (ER toks)∧∀b,rb ta=some b→w.heap.size≤b)∧AR w w'
theorem Ov(hPF:pX)(w:World)(hG:Gl w)(src:lU) :
  Bo prog 16 #[S src] w λv w'=>pG w w' v (Lf src):=by
 have hX:=AR.refl w;refine lG (l:=[S src]) func16 rfl rfl rfl<|BR<|Cz<|C1 rfl vQ λb1 w1 hb1 hE1 hs1 hz1=>?_;replace hX:=hX.trans hE1;refine C1 rfl Tr λb2 w2 hb2 hE2 hs2 hz2=>?_;replace hb1:=hb1.ext hE2;replace hX:=hX.trans hE2;refine C1 rfl uV λb3 w3 hb3 hE3 hs3 hz3=>?_;replace hb1:=hb1.ext hE3;replace hb2:=hb2.ext hE3;replace hX:=hX.trans hE3;refine Ae<|Dh<|BR<|BR<|Cz<|Ab rfl (Ay rfl)<|Ab rfl (LN rfl I8)<|Ab rfl (Yn rfl rfl)<|Ae<|Dh ?_;refine MN rfl (λh1=>?_) (λh1=>?_);refine BR<|Cz<|Ab rfl (Ds rfl kD Tr rfl)<|A2 rfl rfl rfl Di rfl hb1 rfl rfl λw4 hb4 hC1=>?_;replace hb2:=hb2.chg hC1 oM;replace hb3:=hb3.chg hC1 oM;replace hX:=hX.chg hC1 oM;have sz1:=hC1.size;refine A2 rfl rfl rfl Il rfl hb2 rfl rfl λw5 hb5 hC2=>?_;replace hb4:=hb4.chg hC2 oM;replace hb3:=hb3.chg hC2 oM;replace hX:=hX.chg hC2 oM;have sz2:=hC2.size;refine A2 rfl rfl rfl VL rfl hb3 rfl rfl λw6 hb6 hC3=>?_;replace hb4:=hb4.chg hC3 oM;replace hb5:=hb5.chg hC3 oM;replace hX:=hX.chg hC3 oM;have sz3:=hC3.size;exact Ae<|Dh<|Jt<|Vg<|λtmps hσ=>BM hσ (D3 rfl (Bt rfl Di hb4 rfl) (Ac rfl Il hb5 rfl) (Bt rfl VL hb6 rfl)) ⟨_,rfl,by rw[Lf,if_pos h1];exact⟨rfl,hX⟩⟩;refine H2<|Dh<|BR<|Cz<|Ab rfl (Sv rfl)<|Oc rfl ?_;have hlen:src.length≤65536:=by have:=of_decide_eq_false h1;omega
 refine Ae<|Dh<|BR ?_;have hb1B:=hb1;have hb2B:=hb2;have hb3B:=hb3;have hX0:=hX;refine Cz<|Ab rfl (Ay rfl)<|Ab rfl (Ds rfl kD Tr rfl)<|Ab rfl (Ds rfl oX rW rfl)<|DJ rfl rfl rfl λb4 w7 hb7 hE4 hs4 hz4=>?_;replace hb1:=hb1.ext hE4;replace hb2:=hb2.ext hE4;replace hb3:=hb3.ext hE4;replace hX:=hX.trans hE4;refine Ab rfl (CI rfl)<|Ae<|Dh<|BR<|DP ?_;refine DC (λk σ ds w'=>∃(j n:Nat)(q:Ps)(toks:List AK)(ta:Option Addr)(tc:Nat),k=src.length-j∧ds=[{target:=.fn (.func 37) ([pB b1,pB b2,pB b3]:List Value).toArray,args:=#[]}]∧σ=(E4 2 (pB b1) 3 (pB b2) 4 (pB b3) 5 (pB b4))∧j≤src.length∧src.length≤j+n∧Pk j q∧toks.length≤j∧Hs (src.length+1) src.length (1,1) src=T4 toks (Hs (src.length+1) n q (src.drop j))∧AI w' b4 [S src,iV ((j:Nat):Int),iV q.1,iV q.2,(.slice ta toks.length tc)] 106∧BQ w' 108 5 ta tc toks.length (ER toks)∧(∀x,rb ta=some x→w3.heap.size≤x∧x≠b4)∧AR w3 w') src.length (E4 2 (pB b1) 3 (pB b2) 4 (pB b3) 5 (pB b4)) lE ⟨0,src.length,(1,1),[],none,0,rfl,rfl,rfl,oM,oM,⟨dC,dC,dC,dC⟩,by simp,(Zy _).symm,hb7,F5 _ _ _,(λx hx=>by cases hx),hE4⟩ ?_;rintro _ _ _ wl ⟨j,n,q,toks,ta,tc,rfl,rfl,rfl,hjl,hn,hq,htl,hm,hscl,hrow,hlow,hXB⟩;have szl:=hXB.size;have lts:=hscl.lt;replace hX:=hX0.trans hXB;have hb1Bl:=hb1B.ext hXB;have hb2Bl:=hb2B.ext hXB;have hb3Bl:=hb3B.ext hXB;refine BR<|BR<|Cz<|Ab rfl (Ay rfl)<|A4 rfl (Ax R8 rfl rfl) (HC _ b4 src j q (.slice ta toks.length tc) hscl) ?_;rintro _ w8 ⟨rfl,hE5⟩;replace hb1Bl:=hb1Bl.ext hE5;replace hb2Bl:=hb2Bl.ext hE5;replace hb3Bl:=hb3Bl.ext hE5;replace hscl:=hscl.ext hE5;replace hrow:=hrow.ext hE5;replace hX:=hX.trans hE5;replace hXB:=hXB.trans hE5;have sz4:=hE5.size;refine Ae<|Dh<|MN rfl (λh2=>?_) (λh2=>?_);refine H2<|Dh<|DP<|Cz<|Ab rfl (Ay rfl) ?_;obtain⟨c,hc⟩:=J7 (show j<src.length by have:=of_decide_eq_true h2;omega);obtain⟨n,rfl⟩:∃n1,n=n1+1:=⟨n-1,by have:=Ca hc;omega⟩;refine BX rfl (Ax rS rfl rfl) (Ww hPF w3 _ (hG.ext hX0) hXB b4 oM src j q toks ta tc hscl hrow hlow c hc hq hlen htl) ?_ (λcc wp hcc tmps hσ=>by obtain⟨e,he,rfl,hE⟩:=hcc;have sz:=hE.size;exact Fg (by simp) gI (TW w wp (hX0.trans hE) b1 b2 b3 _ _ _ _ (hb1B.ext hE) (hb2B.ext hE) (hb3B.ext hE) oM oM oM oM oM oM e) (λwz hz=>by rw[JW];obtain⟨h1,h2,h3,h4⟩:=hz;exact BM hσ (D3 rfl (Bt rfl Di h2 rfl) (Ac rfl Il h3 rfl) (Bt rfl VL h4 rfl)) ⟨_,rfl,by rw[Lf,if_neg (by rw[decide_eq_true_eq];omega),hm,Vw hc he,T4];exact⟨rfl,h1⟩⟩));rintro _ w9 ⟨ot,i1,p1,ta1,tc1,hst,rfl,hsc2,hrow2,hlow2,hX2,hi1,hi2,hp1⟩;have hot:(toks++ot).length≤i1:=by have:=Oe hst;rw[List.length_append];omega
 have hm2:=SU hc hst hm;refine Ae<|D4<|GV (src.length-i1) (E4 2 (pB b1) 3 (pB b2) 4 (pB b3) 5 (pB b4)) oM lE ⟨i1,n,p1,toks++ot,ta1,tc1,rfl,rfl,rfl,hi2,oM,hp1,hot,hm2,hsc2,hrow2,hlow2,hX2⟩;refine K7<|UM<|MG<|Oo<|Dh<|BR<|Cz<|Ab rfl (Ay rfl)<|Ab rfl (Bv rfl)<|Ab rfl (B8 rfl Cf) ?_;refine Ab rfl (Ai rfl Di hscl rfl)<|Ab rfl (Ds rfl kD Tr rfl)<|A2 rfl rfl rfl Di rfl hb1Bl rfl rfl λw10 hb8 hC4=>?_;replace hb2Bl:=hb2Bl.chg hC4 oM;replace hb3Bl:=hb3Bl.chg hC4 oM;replace hscl:=hscl.chg hC4 oM;replace hrow:=BQ.chg hrow hC4 (λe=>by have:=hlow _ e;omega);replace hX:=hX.chg hC4 oM;clear hXB;have sz5:=hC4.size;refine A2 rfl rfl rfl Il rfl hb2Bl rfl rfl λw11 hb9 hC5=>?_;replace hb8:=hb8.chg hC5 oM;replace hb3Bl:=hb3Bl.chg hC5 oM;replace hscl:=hscl.chg hC5 oM;replace hrow:=BQ.chg hrow hC5 (λe=>by have:=hlow _ e;omega);replace hX:=hX.chg hC5 oM;have sz6:=hC5.size;refine A2 rfl rfl rfl VL rfl hb3Bl rfl rfl λw12 hb10 hC6=>?_;replace hb8:=hb8.chg hC6 oM;replace hb9:=hb9.chg hC6 oM;replace hscl:=hscl.chg hC6 oM;replace hrow:=BQ.chg hrow hC6 (λe=>by have:=hlow _ e;omega);replace hX:=hX.chg hC6 oM;have sz7:=hC6.size;refine Ae<|Dh<|Jt ?_;intro tmps hσ;refine Fg (by simp) gI (R2 _ b1 b2 b3) λwz hz=>?_;have hlx:Lf src=.ok toks:=by rw[Lf,if_neg (by rw[decide_eq_true_eq];omega),hm,Jb (by have:=of_decide_eq_false h2;omega),KT];simp[T4]
 refine BM hσ (D3 rfl (Bt rfl Di (hb8.ext hz) rfl) (Ac rfl Il (hb9.ext hz) rfl) (Bt rfl VL (hb10.ext hz) rfl)) ⟨_,rfl,?_⟩;rw[hlx];exact⟨ta,tc,rfl,⟨hrow.ext hz,λx hx=>by have:=hlow x hx;omega⟩,hX.trans hz⟩
end Go.Proofs.YtelmolopaolbcaaGreatDoor
namespace Go.SP
open Go.SW Go.RowKit
def GL(l:lU):Prop:=∀c∈l,48≤c.toNat∧c.toNat≤57
def FV(b:lU):Bool→lU→Prop
 |false,rest=>∃a2,rest=a2++46::b∧GL a2
 |true,rest=>GL rest∧rest.length≤b.length
variable {dot:Bool}
theorem FV.cons{b r:lU}{c:UInt8}(h:FV b dot (c::r)):(c=46∧dot=false∧r=b)∨((48≤c.toNat∧c.toNat≤57)∧FV b dot r):=by
 cases dot with
 |false =>
   obtain⟨a2,h1,h2⟩:=h
   cases a2 with
   |nil=>left;simp at h1;exact⟨h1.1,rfl,h1.2⟩
   |cons d a3 =>
     right
     simp at h1;exact⟨h1.1▸h2 d (.head _),a3,h1.2,λx hx=>h2 x (.tail _ hx)⟩
 |true=>exact .inr ⟨h.1 c (.head _),λx hx=>h.1 x (.tail _ hx),by have:=h.2;simp only[List.length_cons] at this;omega⟩
theorem FV.nil{b:lU}(h:FV b dot []):dot=true:=by
 cases dot with
 |false=>obtain⟨a2,h1,_⟩:=h;cases a2 <;> cases h1
 |true=>rfl
def I5(l:lU):lU:=l.filter (λc=>c != 46)
theorem S8{l:lU}(h:GL l):I5 l=l:=by
 unfold I5;rw[List.filter_eq_self];intro c hc;have:=h c hc;have h2:c≠46:=λe=>by subst e;revert this;decide
 simpa using h2
theorem HI{c:UInt8}{l:lU}(h:48≤c.toNat∧c.toNat≤57):I5 (c::l)=c::I5 l:=by
 unfold I5;rw[List.filter_cons_of_pos];have h2:c≠46:=λe=>by subst e;revert h;decide
 simpa using h2
theorem OF(l:lU):I5 (46::l)=I5 l:=by
 unfold I5;rw[List.filter_cons_of_neg];simp
theorem WI{a b:lU}(ha:GL a)(hb:GL b):I5 (a++46::b)=a++b:=by
 induction a with
 |nil=>rw[List.nil_append,OF,S8 hb,List.nil_append]
 |cons c a ih=>rw[List.cons_append,HI (ha c (.head _)),ih λx hx=>ha x (.tail _ hx)];rfl
theorem Nc(n:Nat)(c:UInt8)(l:lU):C4 n (c::l)=C4 (n*10+(c.toNat-48)) l:=by conv=>lhs;unfold C4
theorem YW(n:Nat):C4 n []=n:=by conv=>lhs;unfold C4
theorem Oj:∀(l:lU)(n:Nat),n≤C4 n l
 | [],n=>Nat.le_refl _
 |c::l,n=>by
   have:=Oj l (n*10+(c.toNat-48));rw[Nc];omega
theorem Vn:∀(l:lU)(n:Nat),GL l→C4 n l<(n+1)*10 ^ l.length
 | [],n,_=>by
   rw[YW,List.length_nil,Nat.pow_zero];omega
 |c::l,n,h=>by
   have h1:=h c (.head _);have:=Vn l (n*10+(c.toNat-48)) λx hx=>h x (.tail _ hx);rw[Nc,List.length_cons,Nat.pow_succ];refine Nat.lt_of_lt_of_le this ?_;have h2:n*10+(c.toNat-48)+1≤(n+1)*10:=oM
   calc (n*10+(c.toNat-48)+1)*10 ^ l.length≤(n+1)*10*10 ^ l.length:=Nat.mul_le_mul_right _ h2
     _=(n+1)*(10 ^ l.length*10):=by rw[Nat.mul_assoc,Nat.mul_comm 10]
theorem Md{l:lU}(h:GL l)(hl:l.length≤15):C4 0 l<1000000000000000:=by
 have h1:=Vn l 0 h;have h2:10 ^ l.length≤10 ^ 15:=Nat.pow_le_pow_right dC hl;have h3:(10:Nat) ^ 15=1000000000000000:=dC;omega
theorem tI:∀n:Fin 58,46≤n.val→IntKind.u8.wrap (BitVec.ofInt 8 (n.val:Int) ||| BitVec.ofInt 8 32).toNat=(n.val:Int):=dC
theorem bO{z:lU}(h:(Lib.cut z [46]).2.2=true):z=(Lib.cut z [46]).1++46::(Lib.cut z [46]).2.1:=by
 unfold Lib.cut at h ⊢
 split at h
 · rename_i h0
   rw[if_pos h0];rcases Lib.index_spec z [46] with ⟨h1,_⟩|⟨i,h1,h2,h3,_⟩
   · omega
   · simp only[h1,Int.toNat_natCast,List.length_cons,List.length_nil]
     unfold Lib.occAt at h3
     cases hd:z.drop i with
     |nil=>rw[hd] at h3;cases h3
     |cons c t =>
       rw[hd] at h3
       have hc:c=46:=by
         have h4:(46:UInt8)=c:=by simpa[List.isPrefixOf] using h3
         exact h4.symm
       have ht:z.drop (i+(0+1))=t:=by
         rw[← List.drop_drop,hd];rfl
       rw[ht,← hc,← hd,List.take_append_drop]
 · cases h
theorem PQ{s a b:lU}(h:Hf s=some (a,b)):GL a∧GL b∧a≠[]∧b≠[]∧a.length+b.length≤15∧Bc s=a++46::b:=by
 unfold Hf at h;simp only at h
 split at h
 · rename_i hc
   simp only[Bool.and_eq_true,decide_eq_true_eq] at hc;obtain⟨h1,h2,h3,h4⟩:=hc;simp only[Option.some.injEq,Prod.mk.injEq] at h;obtain⟨rfl,rfl⟩:=h;have d1:=Gg h2;have d2:=Gg h3;exact⟨d1.2,d2.2,by simpa using d1.1,by simpa using d2.1,oM,bO h1⟩
 · cases h
end Go.SP
namespace Go.SP
variable {j:Nat}
theorem Jr{s r:lU}{c:UInt8}(h:s.drop j=c::r):s.drop (j+1)=r:=by
 rw[← List.drop_drop,h];rfl
theorem Qj{s r:lU}{c:UInt8}(h:s.drop j=c::r):s[j]?=some c:=by
 have:(s.drop j)[0]?=some c:=by rw[h];rfl
 simpa using this
theorem WC(o:Nat){s a b:lU}(ha:GL a)(hne:a≠[])(hs:s.drop o=a++46::b):∃c,s[((o:Int)+1).toNat]?=some c∧46≤c.toNat∧c.toNat≤57:=by
 have e:((o:Int)+1).toNat=o+1:=oM;rw[e];rcases a with _|⟨x,_|⟨y,a⟩⟩
 · exact absurd rfl hne
 · exact⟨46,Qj (r:=b) (Jr (c:=x) (by simpa using hs)),dC,dC⟩
 · have:=ha y (.tail _ (.head _))
   exact⟨y,Qj (r:=a++46::b) (Jr (c:=x) (by simpa using hs)),oM,oM⟩
end Go.SP
namespace Go.SP
open Ieee
variable {k:Nat}
theorem VS{d e:Datum}(h1:d.isNaN=false)(h2:e.isNaN=false∧e.isInfinity=false∧e.isZero=false):∃r,d.quotient k e=some r:=by
 obtain⟨h2,h3,h4⟩:=h2
 cases d with
 |nan s t=>cases h1
 |infinity s=>cases e with
   |nan s t=>cases h2
   |infinity s=>cases h3
   |number s m p=>exact⟨_,rfl⟩
 |number s m p=>cases e with
   |nan s t=>cases h2
   |infinity s=>cases h3
   |number s' m' p' =>
     cases m' with
     |zero=>cases h4
     |succ m'=>exact⟨_,rfl⟩
theorem Wk{x:Nat}(h:x % 9223372036854775808≤9218868437227405312):(double.read x).isNaN=false:=by
 unfold Format.read;simp only[show double.signWeight=9223372036854775808 from by decide,show double.infRung=9218868437227405312 from by decide]
 split
 · rfl
 · split
   · rfl
   · split
     · rfl
     · omega
theorem PY(m:Nat):FloatKind.f64.nearest (m:Int)≤9218868437227405312:=by
 unfold FloatKind.nearest FloatKind.encode;have hn:decide ((m:Int)<0)=false:=by simp
 rw[hn];show double.nearest false m 0≤_;unfold Format.nearest
 split
 · decide
 · simp only[Format.word,Bool.false_eq_true,if_false]
   exact Nat.le_trans (Nat.min_le_right _ _) dC
theorem ZG{x:Nat}(h:x≤9218868437227405312):Op.negFloat .f64 x % 9223372036854775808=x:=by
 have e:(9223372036854775808:Nat)=2 ^ 63:=dC;have e2:(FloatKind.f64.format.exponentBits+FloatKind.f64.format.fractionBits)=63:=dC;unfold Op.negFloat;rw[e,e2,Nat.xor_mod_two_pow,Nat.mod_self,Nat.xor_zero,Nat.mod_eq_of_lt (by omega)]
theorem Xb:∀n:Fin 15,(double.read (FO.getD n.val 0)).isNaN=false∧(double.read (FO.getD n.val 0)).isInfinity=false∧(double.read (FO.getD n.val 0)).isZero=false:=by decide +kernel
theorem Se(neg:Bool)(m n:Nat)(hn:n<15):∃r,FloatKind.f64.format.div (if neg then Op.negFloat .f64 (FloatKind.f64.nearest (m:Int)) else FloatKind.f64.nearest (m:Int)) (FO.getD n 0)=some r:=by
 have h1:=PY m
 have h2:(double.read (if neg then Op.negFloat .f64 (FloatKind.f64.nearest (m:Int)) else FloatKind.f64.nearest (m:Int))).isNaN=false:=by
   apply Wk
   cases neg with
   |true=>rw[if_pos rfl,ZG h1];exact h1
   |false=>rw[if_neg (by decide),Nat.mod_eq_of_lt (by omega)];exact h1
 obtain⟨r,hr⟩:=VS (k:=double.fractionBits+2) h2 (Xb ⟨n,hn⟩);exact⟨double.write r,congrArg (Option.map double.write) hr⟩
end Go.SP
namespace Go.SP
variable {n:Nat}
theorem RF(h:n<15):FO[n]?=some (FO.getD n 0):=by
 have hl:n<FO.length:=h;rw[List.getD_eq_getElem?_getD,List.getElem?_eq_getElem hl];rfl
end Go.SP
namespace Go.Proofs.YtelmolopaolbcaaGreatDoor
open Go.SW Go.SP Go.RowKit Go.Proofs.Tryz
theorem YL(w:World)(c:UInt8)(r:lU)(hc:48≤c.toNat∧c.toNat≤57) :
  Bo prog 205 #[S (c::r),S [105,110,102,105,110,105,116,121]] w λv w'=>v=iV 0∧AR w w':=by
 have hX:=AR.refl w;refine enter func205 rfl rfl rfl<|AQ [] 11 [] (Ar _) (λ_=>Ab rfl (Qo rfl rfl)<|AH [.sq _] 10 [] (Ar _) (λ_=>?_));refine DC (λk σ ds w'=>k=1∧ds=[]∧σ=(E4 0 (S (c::r)) 1 (S [105,110,102,105,110,105,116,121]) 5 (iV (if (((c::r).length:Nat):Int)<(([105,110,102,105,110,105,116,121]:lU).length:Int) then (((c::r).length:Nat):Int) else (([105,110,102,105,110,105,116,121]:lU).length:Int))) 6 (iV 0))∧AR w w') 1 (E4 0 (S (c::r)) 1 (S [105,110,102,105,110,105,116,121]) 5 (iV (if (((c::r).length:Nat):Int)<(([105,110,102,105,110,105,116,121]:lU).length:Int) then (((c::r).length:Nat):Int) else (([105,110,102,105,110,105,116,121]:lU).length:Int))) 6 (iV 0)) lE ⟨rfl,rfl,rfl,hX⟩ ?_;rintro _ _ _ wl ⟨rfl,rfl,rfl,hX⟩;refine AQ [] 8 [] (Ar _) (λ_=>sP 15 rfl (λh1=>?_) (λh1=>?_));refine AQ [.sq _] 9 [] (Ar _) (λ_=>Ab rfl (Dk (c:=c) rfl rfl I8 dC rfl)<|AH [.sq _,.bk _,.sq _] 9 [] (Ar _) (λ_=>sL 23 rfl (λh2=>?_) (λh2=>?_)))
 ·
  exfalso;have h9:=of_decide_eq_true h2;omega
 refine AH [.sq _,.sq _,.bk _,.sq _] 13 [] (Ar _) (λ_=>Ab rfl (Dk (c:=105) rfl rfl I8 dC rfl)<|AH [.sq _,.bk _,.sq _] 3 [] (Ar _) (λ_=>sP 33 rfl (λh3=>?_) (λh3=>?_)));exact AQ [.bk _,.sq _] 10 [] (Ar _) (λ_=>Vy<|J8 [.bk _,.sq _] 2 [] (Ar _) (λ_=>Bm (A9 rfl (Ah rfl))<|⟨rfl,hX⟩))
 ·
  exfalso;exact absurd (show (c.toNat:Int)=105 by simpa using h3) oM
 ·
  exfalso;have h9:=of_decide_eq_false h1;revert h9;simp only[List.length_cons,List.length_nil];split <;> omega
theorem QJ(w:World)(c:UInt8)(r:lU)(hc:48≤c.toNat∧c.toNat≤57) :
  Bo prog 191 #[S (c::r)] w λv w'=>v=.tuple #[.float .f64 0,iV 0,.bool false]∧AR w w':=by
 have hX:=AR.refl w;refine enter func191 rfl rfl rfl<|AQ [] 15 [] (Ar _) (λ_=>sP 10 rfl (λh1=>?_) (λh1=>?_))
 ·
  exfalso;have h9:=(beq_iff_eq).1 h1;simp only[List.length_cons] at h9;omega
 refine AQ [.sq _] 17 [] (Ar _) (λ_=>Ab rfl (Dk (c:=c) rfl rfl I8 dC rfl)<|AH [.sq _,.sq _] 18 [] (Ar _) (λ_=>sP 13 rfl (λh2=>?_) (λh2=>?_)))
 ·
  exfalso;have h9:=(beq_iff_eq).1 h2;omega
 refine AQ [.sq _,.sq _,.sq _,.bk _,.sq _,.bk _,.sq _,.bk _,.sq _,.bk _,.sq _] 6 [] (Ar _) (λ_=>sP 13 rfl (λh3=>?_) (λh3=>?_))
 ·
  exfalso;have h9:=(beq_iff_eq).1 h3;omega
 refine AQ [.sq _,.sq _,.bk _,.sq _,.bk _,.sq _,.bk _,.sq _,.bk _,.sq _] 11 [] (Ar _) (λ_=>sP 16 rfl (λh4=>?_) (λh4=>?_))
 ·
  exfalso;have h9:=(beq_iff_eq).1 h4;omega
 refine AQ [.sq _,.sq _,.sq _,.bk _,.sq _,.bk _,.sq _,.bk _,.sq _,.bk _,.sq _] 6 [] (Ar _) (λ_=>sP 16 rfl (λh5=>?_) (λh5=>?_))
 ·
  exfalso;have h9:=(beq_iff_eq).1 h5;omega
 refine AQ [.sq _,.sq _,.bk _,.sq _,.bk _,.sq _,.bk _,.sq _,.bk _,.sq _] 10 [] (Ar _) (λ_=>sP 19 rfl (λh6=>?_) (λh6=>?_))
 ·
  exfalso;have h9:=(beq_iff_eq).1 h6;omega
 refine AQ [.sq _,.sq _,.bk _,.sq _,.bk _,.sq _,.bk _,.sq _,.bk _,.sq _] 6 [] (Ar _) (λ_=>sP 19 rfl (λh7=>?_) (λh7=>?_))
 ·
  exfalso;have h9:=(beq_iff_eq).1 h7;omega
 exact AQ [.sq _,.bk _,.sq _,.bk _,.sq _,.bk _,.sq _,.bk _,.sq _] 20 [] (Ar _) (λ_=>Bm (D3 rfl (Ah rfl) (Ah rfl) (Ah rfl))<|⟨rfl,hX⟩)
theorem QV(w:World)(c:UInt8)(r:lU)(hc:48≤c.toNat∧c.toNat≤57) :
  Bo prog 191 #[S (45::c::r)] w λv w'=>v=.tuple #[.float .f64 0,iV 0,.bool false]∧AR w w':=by
 have hX:=AR.refl w;refine enter func191 rfl rfl rfl<|AQ [] 15 [] (Ar _) (λ_=>sP 10 rfl (λh1=>?_) (λh1=>?_))
 ·
  exfalso;have h9:=(beq_iff_eq).1 h1;simp only[List.length_cons] at h9;omega
 refine AQ [.sq _] 17 [] (Ar _) (λ_=>Ab rfl (Dk (c:=45) rfl rfl I8 dC rfl)<|AH [.sq _,.sq _] 34 [] (Ar _) (λ_=>Ab rfl (Dk (c:=45) rfl rfl I8 dC rfl)<|AH [.sq _,.sq _,.bk _,.sq _,.bk _,.sq _,.bk _,.sq _] 15 [] (Ar _) (λ_=>Ab rfl (L1 rfl rfl I8)<|AH [.bk _,.sq _,.bk _,.sq _,.bk _,.sq _] 8 [] (Ar _) (λ_=>A4 rfl (Ax jO rfl rfl) (YL _ c r hc) ?_))));rintro _ w1 ⟨rfl,hE1⟩;replace hX:=hX.trans hE1;have sz1:=hE1.size;exact AH [.sq _,.sq _,.bk _,.sq _,.bk _,.sq _] 43 [] (Ar _) (λ_=>Bm (D3 rfl (Ah rfl) (Ah rfl) (Ah rfl))<|⟨rfl,hX⟩)
theorem Ug(w:World)(c:UInt8)(hc:46≤c.toNat∧c.toNat≤57) :
  Bo prog 180 #[.int .u8 c.toNat] w λv w'=>v=.int .u8 c.toNat∧AR w w':=by
 have hX:=AR.refl w;exact enter func180 rfl rfl rfl<|AQ [] 8 [] (Ar _) (λ_=>Ab rfl (XH (c.toNat:Int) rfl rfl (tI ⟨c.toNat,oM⟩ hc.1))<|AH [.sq _] 4 [] (Ar _) (λ_=>Bm (A9 rfl (Ah rfl))<|⟨rfl,hX⟩))
theorem ME(w:World)(s:lU)(a b:lU)(ha:GL a)(hb:GL b)(hane:a≠[])(hbne:b≠[])(hab:a.length+b.length≤15)(neg:Bool)(hs:s=(bif neg then [45] else [])++(a++46::b)) :
  Bo prog 192 #[S s] w λv w'=>v=.tuple #[.int .u64 (C4 0 (a++b):Int),iV (if C4 0 (a++b)=0 then 0 else -(b.length:Int)),.bool neg,.bool false,.bool false,iV (s.length:Int),.bool true]∧AR w w':=by
 have hal:1≤a.length:=List.length_pos_iff.2 hane;have hbl:1≤b.length:=List.length_pos_iff.2 hbne
 obtain⟨a0,ar,hae⟩:∃c r,a=c::r:=by
  cases a with
  |nil=>exact absurd rfl hane
  |cons c r=>exact⟨c,r,rfl⟩
 obtain⟨o,ho,ho1⟩:∃o,(bif neg then 1 else 0:Nat)=o∧o≤1:=⟨_,rfl,by cases neg <;> decide⟩;have hso:s.drop o=a++46::b:=by subst ho;rw[hs];cases neg <;> rfl
 have hlo:s.length=o+(a.length+(b.length+1)):=by subst ho;rw[hs];cases neg <;> simp <;> omega
 obtain⟨c0,hc0,hcn⟩:∃c:UInt8,s[0]?=some c∧(c.toNat=45∧neg=true∨(48≤c.toNat∧c.toNat≤57)∧neg=false):=by
  cases neg with
  |true=>exact⟨45,by rw[hs];rfl,.inl ⟨rfl,rfl⟩⟩
  |false=>exact⟨a0,by rw[hs,hae];rfl,.inr ⟨ha a0 (hae▸List.mem_cons_self),rfl⟩⟩
 have ha0:s[o]?=some a0:=by rw[← Nat.add_zero o,← List.getElem?_drop,hso,hae];rfl
 obtain⟨a1,ha1,ha1d⟩:=WC (s:=s) (b:=b) o ha hane hso;have hX:=AR.refl w;refine enter func192 rfl rfl rfl<|AQ [] 11 [] (Ar _) (λ_=>Vx<|AQ [] 14 [] (Ar _) (λ_=>sP 24 rfl (λh1=>?_) (λh1=>?_)))
 ·
  exfalso;have h9:=of_decide_eq_true h1;omega
 refine AQ [.sq _] 3 [] (Ar _) (λ_=>Pl (E9 0 (S s) 2 (.int .u64 0) 3 (iV 0) 4 (.bool neg) 5 (.bool false) 6 (.bool false) 7 (iV (o:Int)) 8 (.bool false) 9 (.bool false)) (λw'=>AR w w') ?_ ?_);refine AQ [] 4 [] (Ar _) (λ_=>Ab rfl (Dk (c:=c0) rfl rfl I8 dC hc0)<|AH [.sq _] 9 [] (Ar _) (λ_=>sP 28 rfl (λh2=>?_) (λh2=>?_)))
 ·
  exfalso;have h9:=(beq_iff_eq).1 h2;omega
 refine AQ [.bk _] 7 [] (Ar _) (λ_=>sP 32 rfl (λh3=>?_) (λh3=>?_));refine AQ [.bk _] 2 [] (Ar _) (λ_=>?_);obtain rfl:neg=true:=by have h9:(c0.toNat:Int)=45:=(beq_iff_eq).1 h3;rcases hcn with h|h;exact h.2;omega
 subst ho;exact AQ [.sq _,.bk _] 2 [] (Ar _) (λ_=>Ab rfl (LU (1) rfl rfl dC)<|AH [.sq _,.bk _] 7 [] (Ar _) (λ_=>Ou lE hX));obtain rfl:neg=false:=by have h9:¬(c0.toNat:Int)=45:=(by simpa using h3);rcases hcn with h|h;omega;exact h.2
 subst ho;exact AQ [.bk _] 3 [] (Ar _) (λ_=>Ou lE hX);rintro wl hX;refine AQ [] 15 [] (Ar _) (λ_=>Pl (oS 0 (S s) 2 (.int .u64 0) 3 (iV 0) 4 (.bool neg) 5 (.bool false) 6 (.bool false) 7 (iV (o:Int)) 8 (.bool false) 9 (.bool false) 10 (.int .u64 10) 11 (iV 19)) (λw'=>AR w w') ?_ ?_);refine AQ [] 8 [] (Ar _) (aI ⟨oM,oM⟩<|λ_=>sL 41 rfl (λh4=>?_) (λh4=>?_));refine AH [.sq _] 2 [] (Ar _) (λ_=>B7 rfl rfl rfl<|Ab rfl (Dk (c:=a0) rfl rfl I8 oM (by rw[Int.toNat_natCast];exact ha0))<|AH [.sq _] 3 [] (Ar _) (λ_=>sL 47 rfl (λh5=>?_) (λh5=>?_)));refine AH [.sq _] 3 [] (Ar _) (aI ⟨oM,oM⟩<|λ_=>B7 rfl rfl rfl<|Ab rfl (Dk (c:=a1) rfl rfl I8 oM ha1)<|B7 rfl rfl rfl<|A4 rfl (Ax jQ rfl rfl) (Ug _ a1 ha1d) ?_);rintro _ w1 ⟨rfl,hE1⟩;replace hX:=hX.trans hE1;have sz1:=hE1.size;refine AH [.sq _] 4 [] (Ar _) (λ_=>sP 54 rfl (λh6=>?_) (λh6=>?_))
 ·
  exfalso;have h9:=(beq_iff_eq).1 h6;omega
 exact AQ [] 2 [] (Ar _) (λ_=>Ou lE hX);exact AH [.sq _] 11 [] (Ar _) (λ_=>Ou lE hX)
 ·
  exfalso;have h9:=of_decide_eq_false h4;omega
 rintro wl hX;refine AQ [] 26 [] (Ar _) (λ_=>Vz<|J8 [.sq _] 3 [] (Ar _) (λ_=>?_));refine DC (λk σ ds w'=>∃(j m nd:Nat)(dp:Int)(dot sd:Bool)(rest:lU),k=rest.length∧ds=[]∧σ=(oJ 0 (S s) 2 (.int .u64 (m:Int)) 3 (iV 0) 4 (.bool neg) 5 (.bool false) 6 (.bool false) 7 (iV (j:Int)) 8 (.bool false) 9 (.bool false) 10 (.int .u64 10) 11 (iV 19) 13 (.bool dot) 14 (.bool sd) 15 (iV (nd:Int)) 16 (iV (nd:Int)) 17 (iV dp))∧s.drop j=rest∧j+rest.length=s.length∧FV b dot rest∧C4 0 (a++b)=C4 m (I5 rest)∧(dot=true→dp=(nd:Int)-((b.length:Int)-rest.length))∧nd≤j ∧ -(j:Int)≤dp∧dp≤j∧(nd=0↔m=0)∧(sd=true∨rest=a++46::b)∧AR w w') (a++46::b).length (oJ 0 (S s) 2 (.int .u64 ((0:Nat):Int)) 3 (iV 0) 4 (.bool neg) 5 (.bool false) 6 (.bool false) 7 (iV (o:Int)) 8 (.bool false) 9 (.bool false) 10 (.int .u64 10) 11 (iV 19) 13 (.bool false) 14 (.bool false) 15 (iV ((0:Nat):Int)) 16 (iV ((0:Nat):Int)) 17 (iV 0)) lE ⟨o,0,0,0,false,false,a++46::b,rfl,rfl,rfl,hso,by rw[hlo];simp <;> omega,⟨a,rfl,ha⟩,by rw[WI ha hb],(λh=>by cases h),oM,oM,oM,by simp,.inr rfl,hX⟩ ?_;rintro _ _ _ wl ⟨j,m,nd,dp,dot,sd,rest,rfl,rfl,rfl,hdr,hjr,hfv,hdec,hdp,hnd,hd1,hd2,hnm,hsd,hX⟩;have hml:m<1000000000000000:=by have h1:=Oj (I5 rest) m;have h2:=Md (l:=a++b) (λx hx=>(List.mem_append.1 hx).elim (ha x) (hb x)) (by rw[List.length_append];exact hab);omega
 have hsl:s.length≤17:=oM;refine AQ [] 9 [] (Ar _) (λ_=>sP 60 rfl (λh7=>?_) (λh7=>?_));refine AQ [.sq _] 7 [] (Ar _) (λ_=>?_);rcases rest with _|⟨c,r⟩
 · exfalso;have h9:=of_decide_eq_true h7;simp at hjr;omega
 have hcj:s[j]?=some c:=Qj hdr;have hcl:=hfv.cons;have hc46:46≤c.toNat∧c.toNat≤57:=hcl.elim (λh=>by rw[h.1];decide) (λh=>by omega);refine AQ [.sq _,.sq _,.bk _,.sq _] 3 [] (Ar _) (λ_=>Ab rfl (Dk (c:=c) rfl rfl I8 oM (by rw[Int.toNat_natCast];exact hcj))<|AH [.sq _,.sq _,.bk _,.sq _] 8 [] (Ar _) (λ_=>Ab rfl (P0 uI rfl rfl)<|AH [.sq _,.bk _,.sq _,.bk _,.sq _] 3 [] (Ar _) (λ_=>sP 66 rfl (λh8=>?_) (λh8=>?_))))
 ·
  exfalso;have h9:=(beq_iff_eq).1 h8;omega
 refine AQ [.bk _,.sq _,.bk _,.sq _] 5 [] (Ar _) (λ_=>Ab rfl (P0 uI rfl rfl)<|AH [.sq _,.bk _,.sq _,.bk _,.sq _] 3 [] (Ar _) (λ_=>sP 70 rfl (λh9=>?_) (λh9=>?_)));refine AQ [.bk _,.sq _,.bk _,.sq _] 3 [] (Ar _) (λ_=>?_);have hc6:(c.toNat:Int)=46:=by simpa using h9
 obtain⟨hc6,hdf,hrb⟩:c=46∧dot=false∧r=b:=hcl.elim id (λh=>by omega);replace hrb:=hrb.symm;subst hdf hrb hc6;have hsd2:sd=true:=hsd.resolve_right (λh=>by cases a with|nil=>exact hane rfl|cons x a=>simp at h;have:=ha x (.head _);rw[← h.1] at this;revert this;decide);refine AQ [.sq _,.sq _,.bk _,.sq _,.bk _,.sq _] 28 [] (Ar _) (aI ⟨oM,oM⟩<|λ_=>GV b.length (oJ 0 (S s) 2 (.int .u64 (m:Int)) 3 (iV 0) 4 (.bool neg) 5 (.bool false) 6 (.bool false) 7 (iV ((j+1:Nat):Int)) 8 (.bool false) 9 (.bool false) 10 (.int .u64 10) 11 (iV 19) 13 (.bool true) 14 (.bool sd) 15 (iV (nd:Int)) 16 (iV (nd:Int)) 17 (iV (nd:Int))) (by simp) lE ⟨j+1,m,nd,(nd:Int),true,sd,b,rfl,rfl,rfl,Jr hdr,by simp only[List.length_cons] at hjr;omega,⟨hb,Nat.le_refl _⟩,by rw[hdec,OF],(λ_=>by omega),oM,oM,oM,hnm,.inl hsd2,hX⟩);refine AQ [.bk _,.sq _,.bk _,.sq _] 2 [] (Ar _) (λ_=>?_);have hn6:(c.toNat:Int)≠46:=by simpa using h9
 obtain⟨hcd,hfr⟩:(48≤c.toNat∧c.toNat≤57)∧FV b dot r:=hcl.elim (λh=>absurd (by rw[h.1];rfl) hn6) id;refine AQ [.sq _,.bk _,.sq _,.bk _,.sq _] 4 [] (Ar _) (λ_=>sL 79 rfl (λh10=>?_) (λh10=>?_));refine AH [.sq _,.bk _,.sq _,.bk _,.sq _] 3 [] (Ar _) (λ_=>Ab rfl (P0 uI rfl rfl)<|AH [.sq _,.bk _,.sq _,.bk _,.sq _] 3 [] (Ar _) (λ_=>sP 76 rfl (λh11=>?_) (λh11=>?_)));refine AQ [.bk _,.sq _,.bk _,.sq _] 12 [] (Ar _) (λ_=>sL 86 rfl (λh12=>?_) (λh12=>?_));refine AH [.sq _,.sq _,.bk _,.sq _,.bk _,.sq _] 5 [] (Ar _) (λ_=>sP 89 rfl (λh13=>?_) (λh13=>?_));refine AQ [.sq _,.bk _,.sq _,.bk _,.sq _] 19 [] (Ar _) (aI ⟨oM,oM⟩<|aI ⟨oM,oM⟩<|λ_=>?_);have hm0:m=0:=hnm.1 (by have:=h13;simp at this;omega);have hc0:c.toNat=48:=by have:=h12;simp at this;omega
 refine GV r.length (oJ 0 (S s) 2 (.int .u64 (m:Int)) 3 (iV 0) 4 (.bool neg) 5 (.bool false) 6 (.bool false) 7 (iV ((j+1:Nat):Int)) 8 (.bool false) 9 (.bool false) 10 (.int .u64 10) 11 (iV 19) 13 (.bool dot) 14 (.bool true) 15 (iV (nd:Int)) 16 (iV (nd:Int)) 17 (iV (dp-1))) (by simp) lE ⟨j+1,m,nd,dp-1,dot,true,r,rfl,rfl,rfl,Jr hdr,by simp only[List.length_cons] at hjr;omega,hfr,by rw[hdec,HI hcd,Nc,hc0,hm0],(λh=>by have h1:=hdp h;simp only[List.length_cons] at h1;omega),oM,oM,oM,hnm,.inl rfl,hX⟩;refine AQ [.sq _,.bk _,.sq _,.bk _,.sq _] 4 [] (Ar _) (λ_=>?_)
 have hnz:¬(m*10+(c.toNat-48)=0):=by
  intro h9;have hm9:m=0:=oM;have hn9:=hnm.2 hm9;have h8:=h13;simp at h8;omega
 refine AQ [.sq _,.bk _,.sq _,.bk _,.sq _] 14 [] (Ar _) (aI ⟨oM,oM⟩<|λ_=>sP 96 rfl (λh14=>?_) (λh14=>?_));refine AQ [.sq _,.bk _,.sq _,.bk _,.sq _] 5 [] (Ar _) (λ_=>Ab rfl (Pz ((m:Int)*10) rfl rfl (Hc ⟨oM,oM⟩))<|AH [.sq _,.sq _,.bk _,.sq _,.bk _,.sq _] 7 [] (Ar _) (λ_=>Ab rfl (F3 ((c.toNat:Int)-48) rfl rfl (Vd ⟨oM,oM⟩))<|Ab rfl (Dg (m:=(c.toNat:Int)-48) rfl T7 (Hc ⟨oM,oM⟩))<|Ab rfl (LU ((m:Int)*10+((c.toNat:Int)-48)) rfl rfl (Hc ⟨oM,oM⟩))<|AH [.sq _,.sq _,.bk _,.sq _,.bk _,.sq _] 19 [] (Ar _) (aI ⟨oM,oM⟩<|aI ⟨oM,oM⟩<|λ_=>?_)));have hme:(m:Int)*10+((c.toNat:Int)-48)=((m*10+(c.toNat-48):Nat):Int):=oM;refine GV r.length (oJ 0 (S s) 2 (.int .u64 ((m*10+(c.toNat-48):Nat):Int)) 3 (iV 0) 4 (.bool neg) 5 (.bool false) 6 (.bool false) 7 (iV ((j+1:Nat):Int)) 8 (.bool false) 9 (.bool false) 10 (.int .u64 10) 11 (iV 19) 13 (.bool dot) 14 (.bool true) 15 (iV ((nd+1:Nat):Int)) 16 (iV ((nd+1:Nat):Int)) 17 (iV dp)) (by simp) (sI rfl (hme▸rfl) rfl rfl rfl rfl rfl rfl rfl rfl rfl rfl rfl rfl rfl rfl) ⟨j+1,m*10+(c.toNat-48),nd+1,dp,dot,true,r,rfl,rfl,rfl,Jr hdr,by simp only[List.length_cons] at hjr;omega,hfr,by rw[hdec,HI hcd,Nc],(λh=>by have h1:=hdp h;simp only[List.length_cons] at h1;omega),oM,oM,oM,⟨λh=>by omega,λh=>?_⟩,.inl rfl,hX⟩;exfalso;have hz:=hnz;omega
 ·
  exfalso;have h9:=of_decide_eq_false h14;omega
 refine AH [.sq _,.sq _,.bk _,.sq _,.bk _,.sq _] 9 [] (Ar _) (λ_=>?_)
 have hnz:¬(m*10+(c.toNat-48)=0):=by
  intro h9;have hm9:m=0:=oM;have hn9:=hnm.2 hm9;have h8:=h12;simp at h8;omega
 refine AQ [.sq _,.bk _,.sq _,.bk _,.sq _] 14 [] (Ar _) (aI ⟨oM,oM⟩<|λ_=>sP 96 rfl (λh15=>?_) (λh15=>?_));refine AQ [.sq _,.bk _,.sq _,.bk _,.sq _] 5 [] (Ar _) (λ_=>Ab rfl (Pz ((m:Int)*10) rfl rfl (Hc ⟨oM,oM⟩))<|AH [.sq _,.sq _,.bk _,.sq _,.bk _,.sq _] 7 [] (Ar _) (λ_=>Ab rfl (F3 ((c.toNat:Int)-48) rfl rfl (Vd ⟨oM,oM⟩))<|Ab rfl (Dg (m:=(c.toNat:Int)-48) rfl T7 (Hc ⟨oM,oM⟩))<|Ab rfl (LU ((m:Int)*10+((c.toNat:Int)-48)) rfl rfl (Hc ⟨oM,oM⟩))<|AH [.sq _,.sq _,.bk _,.sq _,.bk _,.sq _] 19 [] (Ar _) (aI ⟨oM,oM⟩<|aI ⟨oM,oM⟩<|λ_=>?_)));have hme:(m:Int)*10+((c.toNat:Int)-48)=((m*10+(c.toNat-48):Nat):Int):=oM;refine GV r.length (oJ 0 (S s) 2 (.int .u64 ((m*10+(c.toNat-48):Nat):Int)) 3 (iV 0) 4 (.bool neg) 5 (.bool false) 6 (.bool false) 7 (iV ((j+1:Nat):Int)) 8 (.bool false) 9 (.bool false) 10 (.int .u64 10) 11 (iV 19) 13 (.bool dot) 14 (.bool true) 15 (iV ((nd+1:Nat):Int)) 16 (iV ((nd+1:Nat):Int)) 17 (iV dp)) (by simp) (sI rfl (hme▸rfl) rfl rfl rfl rfl rfl rfl rfl rfl rfl rfl rfl rfl rfl rfl) ⟨j+1,m*10+(c.toNat-48),nd+1,dp,dot,true,r,rfl,rfl,rfl,Jr hdr,by simp only[List.length_cons] at hjr;omega,hfr,by rw[hdec,HI hcd,Nc],(λh=>by have h1:=hdp h;simp only[List.length_cons] at h1;omega),oM,oM,oM,⟨λh=>by omega,λh=>?_⟩,.inl rfl,hX⟩;exfalso;have hz:=hnz;omega
 ·
  exfalso;have h9:=of_decide_eq_false h15;omega
 ·
  exfalso;have h9:=of_decide_eq_false h11;omega
 ·
  exfalso;have h9:=of_decide_eq_false h10;omega
 refine AQ [.sq _] 3 [] (Ar _) (λ_=>MG<|J8 [.bk _,.sq _] 4 [] (Ar _) (λ_=>?_));have hrn:rest=[]:=by cases rest with|nil=>rfl|cons x r=>exfalso;have h9:=of_decide_eq_false h7;simp only[List.length_cons] at hjr;omega
 subst hrn;have hdt:=hfv.nil;subst hdt;have hst:sd=true:=hsd.resolve_right (λh=>by cases a <;> cases h);subst hst;have hdp2:=hdp rfl;simp only[List.length_nil] at hdp2 hjr;have hM:C4 0 (a++b)=m:=by rw[hdec];exact YW m
 refine AQ [.sq _,.sq _] 36 [] (Ar _) (λ_=>sL 154 rfl (λD2=>?_) (λD2=>?_))
 ·
  exfalso;have h9:=of_decide_eq_true D2;omega
 refine AH [.sq _,.sq _] 26 [] (Ar _) (λ_=>sP 241 rfl (λh17=>?_) (λh17=>?_));exact AQ [.sq _] 30 [] (Ar _) (aI ⟨oM,oM⟩<|λ_=>fO<|Bm (fN rfl (Ah rfl) (Ah rfl) (Ah rfl) (Ah rfl) (Ah rfl) (Ah rfl) (Ah rfl))<|⟨by rw[if_neg (by rw[hM];have h9:=h17;simp at h9;omega),hM,show dp-(nd:Int) = -(b.length:Int) by omega,show ((j:Nat):Int)=(s.length:Int) by omega],hX⟩);exact AQ [.sq _] 25 [] (Ar _) (λ_=>fO<|Bm (fN rfl (Ah rfl) (Ah rfl) (Ah rfl) (Ah rfl) (Ah rfl) (Ah rfl) (Ah rfl))<|⟨by rw[if_pos (by rw[hM];have h9:=h17;simp at h9;omega),hM,show ((j:Nat):Int)=(s.length:Int) by omega],hX⟩)
theorem nU:Extern.findNext Tryz.f201=none:=kR
theorem mB:Extern.find Tryz.f201=some Extern.MathFloatBits.float64frombits:=kR
theorem Wn:vA prog 43 213=some .f64:=kR
theorem SS(w:World)(hG:Gl w)(m n:Nat)(neg:Bool)(hm:m<1000000000000000)(hn:1≤n∧n≤14) :
  Bo prog 202 #[.int .u64 (m:Int),iV (-(n:Int)),.bool neg] w λv w'=>v=.tuple #[.float .f64 ((FloatKind.f64.format.div (if neg then Op.negFloat .f64 (FloatKind.f64.nearest (m:Int)) else FloatKind.f64.nearest (m:Int)) (FO.getD n 0)).getD 0),.bool true]∧AR w w':=by
 obtain⟨pb,po,pn,pc,hp1,hp2,hp3⟩:=hG.pow10;have hX:=AR.refl w;refine enter func202 rfl rfl rfl<|AQ [] 11 [] (Ar _) (λ_=>Ab rfl (H3 rfl rX (hG.ext hX).finfo)<|Ab rfl (UU 0 rfl rfl dC (by rw[show min (52:Int).toNat IntKind.u64.bits=52 by decide,RY,Nat.div_eq_of_lt (by omega)];rfl))<|AH [.sq _,.sq _] 9 [] (Ar _) (λ_=>Ab rfl (jY rfl Wn)<|AH [.sq _] 9 [] (Ar _) (λ_=>sP 15 rfl (λh1=>?_) (λh1=>?_))));refine AQ [.sq _] 3 [] (Ar _) (λ_=>Ab rfl (eF rfl)<|AH [.sq _] 12 [] (Ar _) (λ_=>sP 18 rfl (λh2=>?_) (λh2=>?_)))
 ·
  exfalso;have h9:=(beq_iff_eq).1 h2;omega
 refine AQ [.bk _,.sq _] 6 [] (Ar _) (λ_=>sL 25 rfl (λh3=>?_) (λh3=>?_))
 ·
  exfalso;have h9:=of_decide_eq_true h3;omega
 refine AH [.sq _,.bk _,.sq _] 12 [] (Ar _) (λ_=>sL 53 rfl (λh4=>?_) (λh4=>?_));refine AH [.sq _,.bk _,.sq _] 6 [] (Ar _) (λ_=>sP 50 rfl (λh5=>?_) (λh5=>?_));refine AQ [.bk _,.sq _] 2 [] (Ar _) (λ_=>?_);obtain⟨r,hr⟩:=Se neg m n oM;rw[h1] at hr;simp only[Bool.false_eq_true,if_true,if_false] at hr;have hpn:=RF (show n<15 by omega);refine AQ [.sq _,.bk _,.sq _] 2 [] (Ar _) (λ_=>Ab rfl (H3 rfl fT (Ed hp1 hX))<|Ab rfl (Ay rfl)<|Ab rfl (Ku (n:Int) rfl (by rw[Jl ⟨by omega,by omega⟩];omega))<|Ab rfl (JG (i:=n) rfl rfl gR oM)<|Ab rfl (H3 rfl gK (by rw[Nat.mul_one];exact Ed (hp3 n _ hpn) hX))<|Ab rfl (Uz rfl rfl hr)<|AH [.sq _,.bk _,.sq _] 7 [] (Ar _) (λ_=>Bm (Ch rfl (Ah rfl) (Ah rfl))<|⟨?_,hX⟩));rw[h1];simp only[Bool.false_eq_true,if_true,if_false];rw[hr];rfl
 ·
  exfalso;have h9:=of_decide_eq_false h5;omega
 ·
  exfalso;have h9:=of_decide_eq_false h4;omega
 refine AQ [.sq _] 12 [] (Ar _) (λ_=>sP 18 rfl (λh6=>?_) (λh6=>?_))
 ·
  exfalso;have h9:=(beq_iff_eq).1 h6;omega
 refine AQ [.bk _,.sq _] 6 [] (Ar _) (λ_=>sL 25 rfl (λh7=>?_) (λh7=>?_))
 ·
  exfalso;have h9:=of_decide_eq_true h7;omega
 refine AH [.sq _,.bk _,.sq _] 12 [] (Ar _) (λ_=>sL 53 rfl (λh8=>?_) (λh8=>?_));refine AH [.sq _,.bk _,.sq _] 6 [] (Ar _) (λ_=>sP 50 rfl (λh9=>?_) (λh9=>?_));refine AQ [.bk _,.sq _] 2 [] (Ar _) (λ_=>?_);obtain⟨r,hr⟩:=Se neg m n oM;rw[h1] at hr;simp only[Bool.false_eq_true,if_true,if_false] at hr;have hpn:=RF (show n<15 by omega);refine AQ [.sq _,.bk _,.sq _] 2 [] (Ar _) (λ_=>Ab rfl (H3 rfl fT (Ed hp1 hX))<|Ab rfl (Ay rfl)<|Ab rfl (Ku (n:Int) rfl (by rw[Jl ⟨by omega,by omega⟩];omega))<|Ab rfl (JG (i:=n) rfl rfl gR oM)<|Ab rfl (H3 rfl gK (by rw[Nat.mul_one];exact Ed (hp3 n _ hpn) hX))<|Ab rfl (Uz rfl rfl hr)<|AH [.sq _,.bk _,.sq _] 7 [] (Ar _) (λ_=>Bm (Ch rfl (Ah rfl) (Ah rfl))<|⟨?_,hX⟩));rw[h1];simp only[Bool.false_eq_true,if_true,if_false];rw[hr];rfl
 ·
  exfalso;have h9:=of_decide_eq_false h9;omega
 ·
  exfalso;have h9:=of_decide_eq_false h8;omega
theorem S7(w:World)(neg:Bool) :
  Bo prog 200 #[.bool neg] w λv w'=>v=.int .u64 (if neg then 1 else 0)∧AR w w':=by
 have hX:=AR.refl w;refine enter func200 rfl rfl rfl<|AQ [] 11 [] (Ar _) (λ_=>sP 3 rfl (λh1=>?_) (λh1=>?_));exact AQ [.sq _] 8 [] (Ar _) (λ_=>Bm (A9 rfl (Ah rfl))<|⟨by rw[h1];rfl,hX⟩);exact AQ [.sq _] 9 [] (Ar _) (λ_=>Bm (A9 rfl (Ah rfl))<|⟨by rw[h1];rfl,hX⟩)
theorem Ri(w:World)(s a b:lU)(neg:Bool)(ha:GL a)(hane:a≠[])(hs:s=if neg then 45::(a++46::b) else a++46::b) :
  Bo prog 191 #[S s] w λv w'=>v=.tuple #[.float .f64 0,iV 0,.bool false]∧AR w w':=by
 cases a with
 |nil=>exact absurd rfl hane
 |cons c r =>
  have hc:=ha c (.head _)
  cases neg with
  |true=>rw[hs];exact QV w c (r++46::b) hc
  |false=>rw[hs];exact QJ w c (r++46::b) hc
theorem NR(w:World)(s a b:lU)(neg:Bool)(ha:GL a)(hb:GL b)(hane:a≠[])(hbne:b≠[])(hab:a.length+b.length≤15)(hs:s=if neg then 45::(a++46::b) else a++46::b) :
  Bo prog 192 #[S s] w λv w'=>v=.tuple #[.int .u64 (C4 0 (a++b):Int),iV (if C4 0 (a++b)=0 then 0 else -(b.length:Int)),.bool neg,.bool false,.bool false,iV (s.length:Int),.bool true]∧AR w w':=by
 cases neg with
 |true=>exact ME w s a b ha hb hane hbne hab true hs
 |false=>exact ME w s a b ha hb hane hbne hab false hs
theorem Rc(w:World)(hG:Gl w)(s:lU)(a b:lU)(ha:GL a)(hb:GL b)(hane:a≠[])(hbne:b≠[])(hab:a.length+b.length≤15)(neg:Bool)(hs:s=if neg then 45::(a++46::b) else a++46::b) :
  Bo prog 185 #[S s] w λv w'=>v=.tuple #[.float .f64 (L3 neg a b),iV (s.length:Int),.nilIface]∧AR w w':=by
 have hal:1≤a.length:=List.length_pos_iff.2 hane;have hbl:1≤b.length:=List.length_pos_iff.2 hbne;have hML:=Md (l:=a++b) (λx hx=>(List.mem_append.1 hx).elim (ha x) (hb x)) (by rw[List.length_append];exact hab);have hX:=AR.refl w;refine enter func185 rfl rfl rfl<|AQ [] 11 [] (Ar _) (λ_=>A4 rfl (Ax mE rfl rfl) (Ri _ s a b neg ha hane hs) ?_);rintro _ w1 ⟨rfl,hE1⟩;replace hX:=hX.trans hE1;have sz1:=hE1.size;refine AH [.sq _,.sq _] 20 [] (Ar _) (λ_=>A4 rfl (Ax lD rfl rfl) (NR _ s a b neg ha hb hane hbne hab hs) ?_);rintro _ w2 ⟨rfl,hE2⟩;replace hX:=hX.trans hE2;have sz2:=hE2.size;refine AH [.sq _] 39 [] (Ar _) (λ_=>Ab rfl (H3 rfl lL (hG.ext hX).optimize)<|AH [.sq _,.sq _] 6 [] (Ar _) (λ_=>A4 rfl (Ax lR rfl rfl) (S7 _ neg) ?_));rintro _ w3 ⟨rfl,hE3⟩;replace hX:=hX.trans hE3;have sz3:=hE3.size;refine Ab rfl (Jw (if neg then 9223372036854775808 else 0) rfl rfl dC (by cases neg <;> decide))<|AH [.sq _,.sq _] 10 [] (Ar _) (λ_=>sP 69 rfl (λh1=>?_) (λh1=>?_));refine AQ [.sq _,.sq _] 4 [] (Ar _) (λ_=>Ab rfl (XH (if neg then 9223372036854775808 else 0) rfl rfl (by cases neg <;> decide))<|Ab rfl (ZR func201 rfl rfl nU mB rfl rfl rfl)<|AH [.sq _,.sq _,.sq _] 9 [] (Ar _) (λ_=>Bm (D3 rfl (Ah rfl) (Ah rfl) (Ah rfl)) ?_));have hM0:C4 0 (a++b)=0:=by have h9:=(beq_iff_eq).1 h1;omega
 exact⟨by cases neg <;> simp[L3,hM0],hX⟩;refine AQ [.sq _,.sq _] 10 [] (Ar _) (λ_=>sP 75 rfl (λh2=>?_) (λh2=>?_))
 ·
  exfalso;have h9:=of_decide_eq_true h2;revert h9;split <;> omega
 refine AQ [.sq _,.sq _] 10 [] (Ar _) (λ_=>sP 82 rfl (λh3=>?_) (λh3=>?_))
 ·
  exfalso;have h9:=of_decide_eq_true h3;revert h9;split <;> omega
 refine AQ [.sq _,.sq _] 16 [] (Ar _) (λ_=>?_);have hM0:¬C4 0 (a++b)=0:=by have h9:=h1;simp at h9;omega
 refine A4 rfl (Ax jH rfl rfl) ((show (if C4 0 (a++b)=0 then (0:Int) else -(b.length:Int)) = -(b.length:Int) from if_neg hM0)▸SS _ (hG.ext hX) (C4 0 (a++b)) b.length neg hML oM) ?_;rintro _ w4 ⟨rfl,hE4⟩;replace hX:=hX.trans hE4;have sz4:=hE4.size;exact AH [.sq _,.sq _,.sq _] 25 [] (Ar _) (λ_=>Bm (D3 rfl (Ah rfl) (Ah rfl) (Ah rfl))<|⟨by rw[L3,if_neg hM0],hX⟩)
theorem Im(w:World)(hG:Gl w)(s:lU)(a b:lU)(ha:GL a)(hb:GL b)(hane:a≠[])(hbne:b≠[])(hab:a.length+b.length≤15)(neg:Bool)(hs:s=if neg then 45::(a++46::b) else a++46::b) :
  Bo prog 170 #[S s,iV 64] w λv w'=>v=.tuple #[.float .f64 (L3 neg a b),iV (s.length:Int),.nilIface]∧AR w w':=by
 have hX:=AR.refl w;refine enter func170 rfl rfl rfl<|AQ [] 20 [] (Ar _) (λ_=>A4 rfl (Ax mN rfl rfl) (Rc _ (hG.ext hX) s a b ha hb hane hbne hab neg hs) ?_);rintro _ w1 ⟨rfl,hE1⟩;replace hX:=hX.trans hE1;have sz1:=hE1.size;exact AH [.sq _] 9 [] (Ar _) (λ_=>Bm (D3 rfl (Ah rfl) (Ah rfl) (Ah rfl))<|⟨rfl,hX⟩)
theorem Lg(w:World)(hG:Gl w)(s:lU)(a b:lU)(ha:GL a)(hb:GL b)(hane:a≠[])(hbne:b≠[])(hab:a.length+b.length≤15)(neg:Bool)(hs:s=if neg then 45::(a++46::b) else a++46::b) :
  Bo prog 147 #[S s,iV 64] w λv w'=>v=.tuple #[.float .f64 (L3 neg a b),.nilIface]∧AR w w':=by
 have hX:=AR.refl w;refine enter func147 rfl rfl rfl<|AQ [] 10 [] (Ar _) (λ_=>A4 rfl (Ax kA rfl rfl) (Im _ (hG.ext hX) s a b ha hb hane hbne hab neg hs) ?_);rintro _ w1 ⟨rfl,hE1⟩;replace hX:=hX.trans hE1;have sz1:=hE1.size;refine AH [.sq _] 18 [] (Ar _) (λ_=>sP 19 rfl (λh1=>?_) (λh1=>?_))
 ·
  exfalso;simp at h1
 exact AQ [.sq _] 12 [] (Ar _) (λ_=>Bm (Ch rfl (Ah rfl) (Ah rfl))<|⟨rfl,hX⟩)
theorem LH(w:World)(hG:Gl w)(s:lU)(a b:lU)(ha:GL a)(hb:GL b)(hane:a≠[])(hbne:b≠[])(hab:a.length+b.length≤15)(neg:Bool)(hs:s=if neg then 45::(a++46::b) else a++46::b) :
  Bo prog 129 #[S s,iV 64] w λv w'=>v=.tuple #[.float .f64 (L3 neg a b),.nilIface]∧AR w w':=by
 have hX:=AR.refl w;refine enter func129 rfl rfl rfl<|AQ [] 10 [] (Ar _) (λ_=>A4 rfl (Ax nS rfl rfl) (Lg _ (hG.ext hX) s a b ha hb hane hbne hab neg hs) ?_);rintro _ w1 ⟨rfl,hE1⟩;replace hX:=hX.trans hE1;have sz1:=hE1.size;exact AH [.sq _] 11 [] (Ar _) (λ_=>Ab rfl (H5 FK rfl)<|AH [.sq _,.sq _] 13 [] (Ar _) (λ_=>Bm (Ch rfl (Ah rfl) (Ah rfl))<|⟨rfl,hX⟩))
theorem vT:pX:=λw s a b hG hlen hf=>by
 obtain⟨h1,h2,h3,h4,h5,h6⟩:=PQ hf;refine LH w hG s a b h1 h2 h3 h4 h5 (NU s) ?_;rcases JJ s with hn|⟨r,rfl⟩
 · rw[hn,if_neg (by decide),← h6,Ia hn]
 ·
  rw[HS] at h6;rw[h6];rfl
end Go.Proofs.YtelmolopaolbcaaGreatDoor
namespace Go.SP
theorem Fo.len_snoc':∀(a:Fo)(t:AK)(k:Fo),(a.snoc t k).len=a.len+1
 |.nil,_,_=>rfl
 |.cons _ _ r,t,k=>by simp only[Fo.snoc,Fo.len,Fo.len_snoc' r t k]
theorem Fo.ok_snoc:∀(a:Fo)(t:AK)(k:Fo),a.ok→t.ok→k.ok→k.len≤100000→(a.snoc t k).ok
 |.nil,_,_,_,h1,h2,h3=>⟨h1,h2,h3,tQ⟩
 |.cons _ _ r,t,k,h,h1,h2,h3=>⟨h.1,h.2.1,h.2.2.1,Fo.ok_snoc r t k h.2.2.2 h1 h2 h3⟩
theorem Fo.deep_snoc:∀(a:Fo)(n:Nat)(t:AK)(k:Fo),a.deep (n+1)=true→k.deep n=true→(a.snoc t k).deep (n+1)=true
 |.nil,n,t,k,_,h=>by simp[Fo.snoc,Fo.deep,h]
 |.cons u l r,n,t,k,h1,h2=>by
   simp only[Fo.deep,Bool.and_eq_true] at h1;simp only[Fo.snoc,Fo.deep,Bool.and_eq_true];exact⟨h1.1,Fo.deep_snoc r n t k h1.2 h2⟩
def sV:Nat→List (AK×Fo)→Prop
 |_,[]=>True
 |i,(o,p)::s=>o.ok∧p.ok∧p.len≤i∧p.deep (201-s.length)=true∧sV i s
theorem sV.up:∀{i:Nat}{st:List (AK×Fo)},sV i st→sV (i+1) st
 |_,[],_=>trivial
 |_,_::_,⟨a,b,c,d,e⟩=>⟨a,b,Nat.le_succ_of_le c,d,e.up⟩
theorem GM:∀(l:List AK)(i:Nat)(st:List (AK×Fo))(cur fo:Fo),(∀t∈l,t.ok)→i+l.length≤100000→st.length≤200→sV i st→cur.ok→cur.len≤i→cur.deep (201-st.length)=true →
   Bn l st cur=.ok fo→fo.ok∧fo.len≤i+l.length∧fo.deep 201=true
 | [],i,[],cur,fo,_,_,_,_,h1,h2,h3,h=>by
   simp only[Bn] at h
   cases h
   exact⟨h1,by simpa using h2,by simpa using h3⟩
 | [],i,(o,p)::s,cur,fo,_,_,_,_,_,_,_,h=>by
   unfold Bn at h
   split at h <;> cases h
 |k::l,i,st,cur,fo,hl,hi,hs,hI,h1,h2,h3,h=>by
   have hk:k.ok:=hl k (.head _);have hl':∀t∈l,t.ok:=λt ht=>hl t (.tail _ ht);simp only[List.length_cons] at hi;unfold Bn at h
   split at h
   · split at h
     · cases h
     · rename_i h200
       have hne:st.length≠200:=by simpa using h200
       have:=GM l (i+1) ((k,cur)::st) .nil fo hl' oM (by simp only[List.length_cons];omega) ⟨hk,h1,oM,h3,hI.up⟩ tQ (by simp[Fo.len]) (by simp[Fo.deep]) h;refine⟨this.1,?_,this.2.2⟩;have:=this.2.1;simp only[List.length_cons];omega
   · split at h
     · cases st with
       |nil=>cases h
       |cons op s =>
         obtain⟨o,p⟩:=op;simp only at h;obtain⟨ho,hp,hpl,hpd,hIs⟩:=hI;simp only[List.length_cons] at hs h3;have e:201-s.length=(201-(s.length+1))+1:=oM;have:=GM l (i+1) s (p.snoc o cur) fo hl' oM oM hIs.up (Fo.ok_snoc p o cur hp ho h1 oM) (by rw[Fo.len_snoc'];omega) (by rw[e] at hpd ⊢;exact Fo.deep_snoc p _ o cur hpd h3) h;refine⟨this.1,?_,this.2.2⟩;have:=this.2.1;simp only[List.length_cons];omega
     · have e:201-st.length=(201-(st.length+1))+1:=oM
       have:=GM l (i+1) st (cur.snoc k .nil) fo hl' oM hs hI.up (Fo.ok_snoc cur k .nil h1 hk tQ (by simp[Fo.len])) (by rw[Fo.len_snoc'];omega)
         (by rw[e] at h3 ⊢;exact Fo.deep_snoc cur _ k .nil h3 (by simp[Fo.deep])) h
       refine⟨this.1,?_,this.2.2⟩;have:=this.2.1;simp only[List.length_cons];omega
variable {fo:Fo}{toks:List AK}
theorem Un(hl:∀t∈toks,t.ok)(hi:toks.length≤100000)(h:Bn toks [] .nil=.ok fo):fo.all (Gc 200)∧fo.len≤100000:=by
 obtain⟨h1,h2,h3⟩:=GM toks 0 [] .nil fo hl oM (by simp) tQ tQ (by simp[Fo.len]) (by rfl) h;exact⟨MQ 200 fo h1 h3,oM⟩
end Go.SP
namespace Go.SP
open Go.SW Go.RowKit
variable {nm:Int}{ot toks:List AK}{F:Nat}{p p1:Ps}{src:lU}
theorem OC:∀(n:Nat)(p:Ps)(l:lU)(toks:List AK),Hs F n p l=.ok toks→toks.length≤n
 |n,p,[],toks,h=>by rw[KT] at h;cases h;exact Nat.zero_le _
 |0,p,c::l,toks,h=>by cases h
 |n+1,p,c::l,toks,h=>by
   rw[HJ] at h
   split at h
   · cases h
   · rename_i t r' p' hs
     split at h
     · cases h
     · rename_i l' hl
       cases h
       have:=OC n p' r' l' hl;have:=Oe hs;rw[List.length_append];omega
theorem N1{start:Ps}:∀(n:Nat)(p:Ps)(acc l tx r:lU)(p':Ps),GJ start n p acc l=.ok (tx,r,p')→tx.length≤4096
 |0,_,_,_,_,_,_,h=>by cases h
 |n+1,p,acc,[],tx,r,p',h=>by cases h
 |n+1,p,acc,c::l,tx,r,p',h=>by
   rw[Ev] at h
   split at h
   · split at h
     · cases h
     · rename_i hd
       cases h
       simp at hd;omega
   · split at h
     · cases h
     · split at h
       · exact N1 n _ _ _ tx r p' h
       · split at h
         · cases h
         · split at h
           · cases h
           · exact N1 n _ _ _ tx r p' h
theorem Xc{w:lU}{k:Int}{tx:lU}(hne:w≠[])(h:IP w=some (k,nm,tx)):(k=5→tx≠[])∧tx.length≤100000∧k≠0∧k≠1:=by
 unfold IP at h
 split at h
 · cases h;simp
 · split at h
   · cases h;simp[NG,O8]
   · split at h
     · cases h
     · rename_i hc
       simp only[Bool.or_eq_true,not_or,decide_eq_true_eq] at hc
       split at h
       · cases h;exact⟨by simp,oM,dC,dC⟩
       · split at h
         · cases h;exact⟨λ_=>hne,oM,dC,dC⟩
         · cases h
theorem Zg{l r:lU}(h:DD F p l=.ok (ot,r,p1)):∀t∈ot,t.ok:=by
 cases l with
 |nil=>cases h
 |cons c r =>
   rw[D9] at h
   split at h
   · cases h;simp
   · split at h
     · simp only[Except.ok.injEq,Prod.mk.injEq] at h;rw[← h.1];simp
     · split at h
       · cases h;simp[AK.ok]
       · split at h
         · cases h;simp[AK.ok]
         · split at h
           · split at h
             · cases h
             · rename_i tx r' p' hs
               cases h
               have:=N1 _ _ _ _ _ _ _ hs;simp only[List.mem_singleton,forall_eq,AK.ok];exact⟨by simp,oM⟩
           · split at h
             · cases h
             · rename_i k nm tx hw
               simp only[Except.ok.injEq,Prod.mk.injEq] at h;rw[← h.1];simp only[List.mem_singleton,forall_eq,AK.ok];have:=Xc (by simp) hw;exact⟨this.1,this.2.1⟩
theorem Sn:∀(n:Nat)(p:Ps)(l:lU)(toks:List AK),Hs F n p l=.ok toks→∀t∈toks,t.ok
 |n,p,[],toks,h=>by rw[KT] at h;cases h;simp
 |0,p,c::l,toks,h=>by cases h
 |n+1,p,c::l,toks,h=>by
   rw[HJ] at h
   split at h
   · cases h
   · rename_i t r' p' hs
     split at h
     · cases h
     · rename_i l' hl
       cases h
       intro t ht;rcases List.mem_append.1 ht with ht|ht
       · exact Zg hs t ht
       · exact Sn n p' r' l' hl t ht
theorem Va(h:Lf src=.ok toks):toks.length≤100000∧∀t∈toks,t.ok:=by
 unfold Lf at h
 split at h
 · cases h
 · rename_i hl
   simp only[decide_eq_true_eq] at hl
   split at h
   · cases h
   · rename_i l hs
     cases h
     exact⟨by have:=OC _ _ _ _ hs;omega,Sn _ _ _ _ hs⟩
theorem XZ{e:Int×Int×Int}(h:Lf src=.error e):(e.2.2 != 0)=true:=by
 unfold Lf at h
 split at h
 · cases h;rfl
 · split at h <;> cases h
   rfl
end Go.SP
namespace Go.Proofs.YtelmolopaolbcaaGreatDoor
open Go.SW Go.SP Go.RowKit Go.Proofs.Tryz
def Db(src:lU):Nd×Int×Int×Int:=Kw 200 (Lf src)
abbrev qO(p:Nd×Int×Int×Int)(a:Option Addr)(c:Nat):Value:=.tuple #[.slice a p.1.len c,.agg #[.int .i64 p.2.1,.int .i64 p.2.2.1],.int .i64 p.2.2.2]
variable {f:Fq}{w w':World}
theorem Rp.out{p:Nd×Int×Int×Int}{v:Value}(h:Rp p w f v w'):Bx (α:=Option Addr×Nat) (λx=>qO p x.1 x.2) (λ_=>True) (λx=>[λw f=>AD w f p.1 x.1 x.2]) w f v w' :=
 let ⟨f',a,c,h1,h2,h3⟩:=h
 ⟨(a,c),f',h2,tQ,h1,h3,tQ⟩
theorem Yc(w:World)(f:Fq)(hv:Vl w f)(hJ:CX w f)(src:lU) :
   Bo prog 11 #[S src] w (Bx (α:=Option Addr×Nat) (λx=>qO (Db src) x.1 x.2) (λ_=>True) (λx=>[λw f=>AD w f (Db src).1 x.1 x.2]) w f):=by
 refine Bo.mono (R:=Rp (Db src) w f) ?_ λ_ _ h=>Rp.out h;unfold Db
 cases hl:Lf src with
 |error e =>
   exact V4 w f hv hJ 199 src e (XZ hl) λw1 hG1=>by
     have:=Ov vT w1 hG1 src;rw[hl] at this;exact this
 |ok toks =>
   obtain⟨h1,h2⟩:=Va hl
   exact Zn w f hv hJ 199 src toks h1 (λfo hfo=>Un h2 h1 hfo) λw1 hG1=>by
     have:=Ov vT w1 hG1 src;rw[hl] at this;exact this
theorem DA(w:World)(f:Fq)(hv:Vl w f)(n:Int) :
  Bo prog 56 #[iV n] w (Bx (α:=Unit) (λ_=>tV (.var n) none 0) (λ_=>True) (λ_=>[]) w f):=by
 exact Cg (X:=X0 w f) (H:=[]) (R:=[]) (B:=[]) (Fs:=[]) (f:=f) func56 rfl rfl rfl (BS hv tQ tQ)<|Aa 13 [0] (λb1=>y<|λ_=>AL (λw f hM=>A9 rfl (Ac rfl AV hM.k0 rfl)) (λw f hM=>⟨(),f,rfl,tQ,hM.exm,tQ⟩))
theorem L6(w:World)(f:Fq)(hv:Vl w f)(l:List Int)(a:Option Addr)(c:Nat)(n:Int)(hl:l.length≤1000000)(hI:BG w f l a c) :
  Bo prog 84 #[.slice a l.length c,iV n] w (Bx (α:=Unit) (λ_=>iV (WT l n)) (λ_=>True) (λ_=>[]) w f):=by
 refine Cg (X:=X0 w f) (H:=[]) (R:=[]) (B:=[]) (Fs:=[λw f=>BG w f l a c]) (f:=f) func84 rfl rfl rfl (BS hv ⟨hI,tQ⟩ ⟨BG.mono,tQ⟩)<|Aa 14 [] (λ_=>?_);refine EZ (α:=Nat) (λi=>l.length-i) (λi=>i≤l.length∧(l.take i).contains n=false) (λi=>(E4 0 (.slice a l.length c) 1 (iV n) 7 (iV (l.length:Int)) 8 (iV (i:Int)))) (λi=>X0 w f) (λi=>[]) (λi=>[]) (λi=>[]) (λi=>[λw f=>BG w f l a c]) (0) ⟨oM,rfl⟩ lE (λw f hM=>hM) ?_;rintro i ⟨hi,hno⟩;refine Aa 6 [] (λ_=>AJ 9 rfl rfl (λh1=>?_) (λh1=>?_));refine Aa 12 [] (λ_=>?_);have hil:i<l.length:=by have:=of_decide_eq_true h1;omega
 obtain⟨v0,hx⟩:∃v,l[i]?=some v:=⟨_,List.getElem?_eq_getElem hil⟩;refine kO 0 rfl hx ?_;rintro⟨b,off⟩ rfl;refine Aa 9 [100,0] (aI oM<|y2<|λ_=>AJ 16 rfl rfl (λh2=>?_) (λh2=>?_));exact Aa 10 [] (λ_=>U3<|Aa 2 [] (λ_=>AL (C3 rfl rfl) (λw f hM=>⟨(),f,(by rw[WT,US hno (by rw[hx,show v0=n from (beq_iff_eq.1 h2).symm])]),tQ,hM.exm,tQ⟩)));refine Aa 8 [] (aI ⟨oM,oM⟩<|λ_=>?_);have hno2:(l.take (i+1)).contains n=false:=by rw[BA hx];have h9:¬n=v0:=(by simpa using h2);have h8:n∉l.take i:=(by simpa using hno);simp[h8,h9]
 exact CY (i+1) (show l.length-(i+1)<l.length-i by omega) ⟨oM,hno2⟩ lE (λw f hM=>⟨_,hM.less sR sR nE (λ_ h=>h)⟩);refine Aa 3 [] (λ_=>EH<|Aa 8 [] (λ_=>?_));have hge:l.length≤i:=by have:=of_decide_eq_false h1;omega
 rw[List.take_of_length_le hge] at hno;exact AL (C3 rfl rfl) (λw f hM=>⟨(),f,(by rw[WT,N5 hno]),tQ,hM.exm,tQ⟩)
theorem Y7(m:Nat)(ih:sX prog 85 m)(w:World)(f:Fq)(hv:Vl w f)(t:T1)(a:Option Addr)(c:Nat)(hm:t.kids.size<m+1)(hbd:t.bnd)(hT:Al w f t.kids a c) :
  Bo prog 85 #[tV t a c] w (Bx (α:=Option Addr×Nat) (λx=>tV t x.1 x.2) (λ_=>True) (λx=>[λw f=>Al w f t.kids x.1 x.2]) w f):=by
 have hbl:=hbd.1;refine Cg (X:=X0 w f) (H:=[]) (R:=[]) (B:=[]) (Fs:=[λw f=>Al w f t.kids a c]) (f:=f) func85 rfl rfl rfl (BS hv ⟨hT,tQ⟩ ⟨Al.mono,tQ⟩)<|Aa 15 [1] (λb1=>λb2=>y<|λ_=>AJ 9 rfl rfl (λh1=>?_) (λh1=>?_));refine Aa 15 [1,1,0] (y<|y<|y<|λ_=>?_);have h0:t.kids.len=0:=by have:=beq_iff_eq.1 h1;omega
 exact AL (λw f hM=>A9 rfl (Ac rfl AV hM.k0 rfl)) (λw f hM=>⟨(none,0),f,(by show Value.agg _=Value.agg _;rw[h0]),tQ,hM.exm,⟨by rw[Ty.len0 h0];exact Al.nil _ _ _ _,tQ⟩⟩);refine Aa 8 [1] (y<|λ_=>vS rfl rfl CU rfl rfl rfl rfl (by have:=hbd.1;omega) (by have:=hbd.1;unfold maxLen;omega) λbr1=>Aa 13 [1] (y<|λ_=>?_));refine EZ (α:=Nat×Ty×Ty×List Value) (λx=>x.2.1.len) (λx=>x.1+x.2.1.len=t.kids.len∧x.2.2.1.len=x.1∧t.kids=x.2.2.1.app x.2.1∧x.2.1.bnd∧x.2.1.size≤t.kids.size) (λx=>(E6 1 (pB b1) 2 (pB b2) 3 (.slice (some ⟨br1,0,none⟩) t.kids.len t.kids.len) 17 (.slice a t.kids.len c) 18 (iV (t.kids.len:Int)) 19 (iV (x.1:Int)))) (λx=>X0 w f) (λx=>[⟨b2,zT,76,true⟩,⟨b1,[iV t.op,iV t.num,S t.tx,.slice a t.kids.len c],76,true⟩]) (λx=>[⟨76,4,some ⟨br1,0,none⟩,t.kids.len,t.kids.len,x.2.2.2++FA x.2.1.len zT⟩]) (λx=>[]) (λx=>[λw f=>BI w f a x.1 x.2.1,λw f=>Be w f x.2.2.1 x.2.2.2]) (0,t.kids,.nil,[]) ⟨by simp,rfl,rfl,hbd.2,Nat.le_refl _⟩ lE (λw f hM=>hM.more (B':=[]) (F':=[λw f=>BI w f a 0 t.kids,λw f=>Be w f .nil []]) nE (AE.mem ⟨Al.at hM.f0,rfl,tQ⟩) (Aw.mem ⟨BI.mono,Be.mono,tQ⟩) |>.less sR sR (λ_ h=>h) (mR [0,1])) ?_;rintro⟨i,r,dn,xs⟩ ⟨hi,hdl,hk,hb,hs⟩;dsimp only at hi hdl hk hb hs ⊢;refine Aa 6 [] (λ_=>AJ 20 rfl rfl (λh2=>?_) (λh2=>?_));refine Aa 6 [] (λ_=>?_);have hil:i<t.kids.len:=by have:=of_decide_eq_true h2;omega
 obtain⟨t2,r,rfl⟩:=Ty.cases1 r oM;rw[T1.len_cons] at hi;refine WN 0 rfl ?_;rintro⟨eb,eo,ka,kc⟩ rfl;refine Aa 13 [100,0,0,0] (aI oM<|y2<|λb3=>y<|y<|λ_=>Br rfl rfl (eC Qs rfl rfl) (λw f hM=>ih w f hM.vl t2 ka kc (by have:=T1.size_cons t2 r;omega) (T1.bnd_cons.1 hb).1 hM.f0) (λx=>⟨Al.mono,tQ⟩) ?_);rintro⟨a2,c2⟩ -;refine Aa 1 [] (aI oM<|λ_=>Ig (λw f hM=>Be.len hM.f4) λhxl=>?_);rw[hdl] at hxl;exact vN 0 ((xs++tC t2 a2 c2)++FA r.len zT) rfl rfl rfl rfl AV rfl rfl rfl (by simp only[Nat.zero_add,List.length_cons,List.length_nil,Int.toNat_natCast];omega) (by rw[Nat.zero_add,Int.toNat_natCast,← hxl,T1.len_cons,FA];exact RO _ _ _ _ rfl) rfl<|Aa 7 [] (aI ⟨oM,oM⟩<|λ_=>CY ((i+1,r,dn.snoc t2,xs++tC t2 a2 c2)) (show r.len<(t2.cons r).len by rw[T1.len_cons];omega) ⟨show i+1+r.len=t.kids.len by omega,show (dn.snoc t2).len=i+1 by rw[Ty.len_snoc,hdl],show t.kids=(dn.snoc t2).app r by rw[hk,Ty.snoc_app],(T1.bnd_cons.1 hb).2,show r.size≤t.kids.size by have:=T1.size_cons t2 r;omega⟩ lE (λw f hM=>⟨_,(hM.more (B':=[]) (F':=[λw f=>Be w f (dn.snoc t2) (xs++tC t2 a2 c2)]) nE (AE.mem ⟨Be.snoc hM.f0 hM.f4,tQ⟩) (Aw.mem ⟨Be.mono,tQ⟩)).less (List.sublist_cons_self _ _) sR nE (mR [3,0])⟩));refine Aa 3 [] (λ_=>EH<|Aa 3 [] (λ_=>?_));obtain rfl:r=.nil:=Ty.len0 (by have:=of_decide_eq_false h2;omega);rw[Ty.app_nil] at hk;exact gG 0 rfl rfl<|Aa 13 [1,1,0] (y<|y<|y<|λ_=>AL (λw f hM=>A9 rfl (Ac rfl AV hM.k0 rfl)) (λw f hM=>⟨(some ⟨br1,0,none⟩,t.kids.len),f,rfl,tQ,hM.exm,⟨hk▸Be.toF hM.f1 (by have:=hM.b0;simpa[FA,Ty.len] using this) (Nat.le_refl _),tQ⟩⟩))
end Go.Proofs.YtelmolopaolbcaaGreatDoor
namespace Go.SP
def Nd.bnd:Nd→Prop
 |.nil=>True
 |.cons _ _ _ _ _ kids rest=>kids.len≤200000∧kids.bnd∧rest.bnd
def N.bnd(a:N):Prop:=a.kids.len≤200000∧a.kids.bnd
variable {r:Nd}
theorem N.bnd_cons{a:N}(h:a.bnd)(hr:r.bnd):(a.cons r).bnd:=⟨h.1,h.2,hr⟩
theorem Nd.bnd_app:∀{x y:Nd},x.bnd→y.bnd→(x.app y).bnd
 |.nil,_,_,h=>h
 |.cons _ _ _ _ _ _ _,_,h,hy=>⟨h.1,h.2.1,Nd.bnd_app h.2.2 hy⟩
def AK.er(t:AK):AK:=⟨t.k,0,0,t.nm,t.tx⟩
def Fo.er:Fo→Fo
 |.nil=>.nil
 |.cons t k r=>.cons t.er k.er r.er
def Nd.er:Nd→Nd
 |.nil=>.nil
 |.cons op _ _ tx nm kids r=>.cons op 0 0 tx nm kids.er r.er
def N.er(a:N):N:=⟨a.op,0,0,a.tx,a.nm,a.kids.er⟩
theorem Fo.app_nil:∀a:Fo,a.app .nil=a
 |.nil=>rfl
 |.cons _ _ r=>by simp only[Fo.app,Fo.app_nil r]
end Go.SP
namespace Go.SP
open Go.SW Go.RowKit
def fM(U:Nat→Prop)(w:World)(a:Option Addr)(i:Nat)(r:Nd):Prop :=
 r=.nil∨∃b off l T,U b∧a=some ⟨b,off,none⟩∧AI w b l T∧Fy U w r (l.drop (off+i*6))
variable {co ln nm:Int}{i:Nat}{U:Nat→Prop}{r:Nd}{a:Option Addr}{w':World}
theorem fM.ext{w:World}(h:fM U w a i r)(hE:AR w w'):fM U w' a i r :=
 h.imp id λ⟨b,off,l,T,hu,ha,hb,hc⟩=>⟨b,off,l,T,hu,ha,hb.ext hE,hc.ext hE⟩
theorem fM.head{w:World}{op:Int}{tx:lU}{kids:Nd}(h:fM U w a i (.cons op ln co tx nm kids r)):∃b off l T ka kn kc l',U b∧a=some ⟨b,off,none⟩∧AI w b l T ∧
   l.drop (off+i*6)=.int .i64 op::.int .i64 ln::.int .i64 co::S tx::.int .i64 nm::.slice ka kn kc::l'∧GN U w ka kn kc kids:=by
 rcases h with h|⟨b,off,l,T,hu,ha,hb,ka,kn,kc,l',h4,h5,h6⟩
 · cases h
 · exact⟨b,off,l,T,ka,kn,kc,l',hu,ha,hb,h4,h5⟩
theorem fM.next{w:World}{op:Int}{tx:lU}{kids:Nd}(h:fM U w a i (.cons op ln co tx nm kids r)):fM U w a (i+1) r:=by
 rcases h with h|⟨b,off,l,T,hu,ha,hb,ka,kn,kc,l',h4,h5,h6⟩
 · cases h
 · refine .inr ⟨b,off,l,T,hu,ha,hb,?_⟩
   have:l.drop (off+(i+1)*6)=l':=by
     rw[show off+(i+1)*6=(off+i*6)+6 by omega,← List.drop_drop,h4];rfl
   rw[this];exact h6
theorem LS{p:Nat→Prop}(h0:p 0)(h:∀m,p m→p (m+1))(m:Nat):p m:=by
 induction m with
 |zero=>exact h0
 |succ m ih=>exact h m ih
end Go.SP
namespace Go.SW
open Go.RowKit
variable {zl:List Value}{bytes cs k:Nat}{a:Option Addr}{e:TypeId}
theorem aU{P:Program}{σ:Ba}{w:World}{ty T:TypeId}{x y:Operand}{size:Nat}(hT:Lb P T=some (e,size,bytes,zl)){b:Option Addr}{c:Nat}
   (hs:ev σ x=some (.slice a k c)) (hx:ev σ y=some (.slice b 0 cs)) (hk:k≤c):AG P σ (.call {callee:=.builtin .append,args:=#[x,y],argTypes:=#[T,T]}) ty w (.slice a k c) w:=by
 unfold Lb at hT
 split at hT
 · rename_i e' hu
   split at hT
   · rename_i i hi
     intro ρ _ _ _ _ hρ
     have h0:(Builtin.firstCells i.size 0 (.slice b 0 cs)).run P w=.ok #[] w:=by
       cases b with
       |none=>simp[Builtin.firstCells]
       |some q=>simp only[Builtin.firstCells,Nat.zero_mul];exact run_loadCells_list (P:=P) w q [] (λj v hj=>by simp at hj)
     have h1:∀q:Addr,(storeCells q []).run P w=.ok () w:=λq=>by simp[storeCells]
     cases a with
     |none=>simp[execOp,resolve,invoke,builtin,hρ _ _ hs,hρ _ _ hx,Builtin.append_,run_underlying hu,sizeOf,typeInfo,hi,Builtin.lenOf,hk,h0]
     |some q=>simp[execOp,resolve,invoke,builtin,hρ _ _ hs,hρ _ _ hx,Builtin.append_,run_underlying hu,sizeOf,typeInfo,hi,Builtin.lenOf,hk,h0,h1]
   · cases hT
 · cases hT
end Go.SW
namespace Go.SP
open Go.SW Go.RowKit
variable {U:Nat→Prop}{a q':Option Addr}{w':World}
theorem GN.lt{w:World}{n c:Nat}{x:Nd}(h:GN U w a n c x):GN (λb=>U b∧b<w.heap.size) w a n c x:=GN.imp h λ_ hu hl=>⟨⟨hu,hl⟩,rfl⟩
theorem GN.grow{w:World}{q:Option Addr}{n c:Nat}{x:Nd}(h:GN U w a n c x)(hG:En q w q' w')(hne:∀b,U b→some b≠rb q):GN U w' a n c x :=
 GN.imp h λb hu hl=>⟨hu,hG.block b hl (hne b hu)⟩
theorem En.refl(a:Option Addr)(w:World):En a w a w:=⟨rfl,rfl,rfl,Nat.le_refl _,λ_ _ _=>rfl,.inl rfl⟩
section
variable{P:Program}{n:Nat}{Q:AT}{σ:Ba}{ds:List Deferred}{w w0 w1:World}{ops:Array Oper}{ty T:TypeId}{pos:String}{af:Array Edge}{rest:List Oper}{d:Nat}{x y:Operand}
end
end Go.SP
namespace Go.Proofs.YtelmolopaolbcaaGreatDoor
open Go.SW Go.SP Go.RowKit Go.Proofs.Tryz
theorem Mv(w:World)(f:Fq)(hv:Vl w f)(t:T1)(a:Option Addr)(c:Nat)(hb:t.bnd)(hT:Al w f t.kids a c) :
  Bo prog 85 #[tV t a c] w (Bx (α:=Option Addr×Nat) (λx=>tV t x.1 x.2) (λ_=>True) (λx=>[λw f=>Al w f t.kids x.1 x.2]) w f) :=
 LS (p:=sX prog 85) (λw f hv t a c h=>by omega) (λm ih w f hv t a c h1 h2 h3=>Y7 m ih w f hv t a c h1 h2 h3) (t.kids.size+1) w f hv t a c (Nat.lt_succ_self _) hb hT
theorem TX(w:World)(f:Fq)(hv:Vl w f)(k:Ty)(a:Option Addr)(c:Nat)(hl:k.len≤200000)(hT:Al w f k a c) :
  Bo prog 61 #[.slice a k.len c] w (Bx (α:=Option Addr×Nat) (λx=>.slice x.1 k.len x.2) (λ_=>True) (λx=>[λw f=>Al w f k x.1 x.2]) w f):=by
 refine Cg (X:=X0 w f) (H:=[]) (R:=[]) (B:=[]) (Fs:=[λw f=>Al w f k a c]) (f:=f) func61 rfl rfl rfl (BS hv ⟨hT,tQ⟩ ⟨Al.mono,tQ⟩)<|Aa 12 [] (λ_=>AJ 4 rfl rfl (λh1=>?_) (λh1=>?_));obtain rfl:a=none:=by cases a with|none=>rfl|some q=>cases h1
 obtain rfl:k=.nil:=by rcases hT.2 with h|⟨_,_,h,_⟩;exact h;cases h
 exact Aa 8 [] (λ_=>AL (C3 rfl rfl) (λw f hM=>⟨(none,0),f,rfl,tQ,hM.exm,⟨Al.nil _ _ _ _,tQ⟩⟩));refine Aa 5 [] (λ_=>xA rfl rfl RL λbr1=>Aa 1 [] (λ_=>?_));rcases Nat.eq_zero_or_pos k.len with h0|h0
 obtain rfl:=Ty.len0 h0;exact D6 rfl rfl (λw f hM=>aU CU rfl rfl (Nat.le_refl _))<|Aa 4 [] (λ_=>AL (C3 rfl rfl) (λw f hM=>⟨(some ⟨br1,0,none⟩,0),f,rfl,tQ,hM.exm,⟨Al.nil _ _ _ _,tQ⟩⟩));refine Kb (α:=Nat×Nat×List Value) (λx=>a=some ⟨x.1,x.2.1,none⟩∧(∀v∈x.2.2,v.oneCell'=true)∧x.2.2.length=k.len*4) (λx=>[⟨x.1,x.2.1,x.2.2⟩]) (λx=>[λw f=>Be w f k x.2.2]) (λw f hM=>let ⟨x,h1,h2,h3⟩:=Al.cells (k:=k) (a:=a) (c:=c) hM.f0 h0;⟨x,h1,(oE h2),AE.mem ⟨h3,tQ⟩⟩) (λx=>Aw.mem ⟨Be.mono,tQ⟩) ?_;rintro⟨eb,eo,xs⟩ ⟨rfl,h1c,hxl⟩;exact W9 0 0 rfl rfl CU rfl rfl rfl rfl rfl rfl hxl h1c h0 (λ_ _=>rfl) oM oM λa2 c2=>Aa 4 [] (λ_=>AL (C3 rfl rfl) (λw f hM=>let ⟨f2,hM2,hF⟩:=Me hM hM.f0 h0;⟨(a2,c2),f2,by simp only[Nat.zero_add],tQ,hM2.exm,⟨hF,tQ⟩⟩))
theorem C9(w:World)(f:Fq)(hv:Vl w f)(tx:lU)(k:Ty)(a:Option Addr)(c:Nat)(hl:k.len≤200000)(hT:Al w f k a c) :
  Bo prog 28 #[S tx,.slice a k.len c] w (Bx (α:=Option Addr×Nat) (λx=>tV (.con tx k) x.1 x.2) (λ_=>True) (λx=>[λw f=>Al w f k x.1 x.2]) w f):=by
 refine Cg (X:=X0 w f) (H:=[]) (R:=[]) (B:=[]) (Fs:=[λw f=>Al w f k a c]) (f:=f) func28 rfl rfl rfl (BS hv ⟨hT,tQ⟩ ⟨Al.mono,tQ⟩)<|Aa 9 [] (λb1=>λ_=>Br rfl rfl (eC Yq rfl rfl) (λw f hM=>TX w f hM.vl k a c hl hM.f0) (λx=>⟨Al.mono,tQ⟩) ?_);rintro⟨a2,c2⟩ -;exact Aa 5 [0] (y<|λ_=>AL (λw f hM=>A9 rfl (Ac rfl AV hM.k0 rfl)) (λw f hM=>⟨(a2,c2),f,rfl,tQ,hM.exm,⟨hM.f0,tQ⟩⟩))
theorem DH(w:World)(f:Fq)(hv:Vl w f)(sb mb:Nat)(s:BT)(fr pr:Int)(hS:BB 163 sb mb s fr pr w f)(hw:Is s)(t:T1)(a:Option Addr)(c:Nat)(hb:t.bnd)(hT:Al w f t.kids a c) :
  Bo prog 116 #[pB sb,tV t a c] w (Bx (α:=Option Addr×Nat) (λx=>tV (Ap s t) x.1 x.2) (λ_=>True) (λx=>[λw f=>Al w f (Ap s t).kids x.1 x.2]) w f):=by
 obtain⟨hSb,es,hSm,hSe⟩:=hS;have hdis:=FG.dis hSe hw;have hlb:=hSb.lt;have hlm:=hSm.lt;refine Cg (X:=X0 w f) (H:=[]) (R:=[]) (B:=[]) (Fs:=[λw f=>Al w f t.kids a c]) (f:=f) func116 rfl rfl rfl (BS hv ⟨hT,tQ⟩ ⟨Al.mono,tQ⟩)<|Aa 8 [] (λb1=>λb2=>λ_=>?_);refine EZ (α:=T1×Option Addr×Nat) (λx=>E0 s x.1) (λx=>Ap s t=Ap s x.1∧x.1.bnd) (λx=>(E3 0 (pB sb) 3 (pB b1) 4 (pB b2))) (λx=>X0 w f) (λx=>[⟨b2,zT,76,true⟩,⟨b1,tC x.1 x.2.1 x.2.2,76,true⟩]) (λx=>[]) (λx=>[]) (λx=>[λw f=>Al w f x.1.kids x.2.1 x.2.2]) (t,a,c) ⟨rfl,hb⟩ lE (λw f hM=>hM) ?_;rintro⟨u,ua,uc⟩ ⟨hh,hub⟩;dsimp only at hh hub ⊢;refine Aa 8 [1] (y<|λ_=>AJ 9 rfl rfl (λh1=>?_) (λh1=>?_));refine Aa 5 [] (λ_=>?_);obtain⟨n,rfl⟩:=DV h1
 cases hl:CC s n with
 |none =>
  have hlk:=(FG.look hSe n).1 hl;refine Ki (λw=>AI w sb [.map (some mb),iV fr,iV pr] 163∧BF EB w mb es) (λw2 f2 _ hE=>⟨(hE.stp.block sb hlb (λh=>h)).trans hSb,hSm.heap (hE.stp.block mb hlm (λh=>h))⟩) [0,1] Ak (rd [0,1,2,3,4,5,6,7,8,9] (.br 10 (.br 11 (.rd 12 .fin) .fin) .fin)) rfl kR kR kR (λ_ _ _ _ _ h=>h)<|A1 3 [] (λ_=>F6 rfl rfl rfl (λw hK=>Ai rfl Sx hK.2.2.1 rfl)<|A1 2 [1] (y<|λ_=>F6 rfl rfl rfl (λw hK=>I1 (K:=EB) (a:=n) rfl rfl TV NX MJ hK.2.2.2 hdis hlk)<|A1 3 [] (λ_=>Af rfl ?_ Aj)));refine Aa 2 [] (λb3=>λ_=>AW [1,2] (λw2 f2 _ hE=>⟨(hE.stp.block sb hlb (λh=>h)).trans hSb,hSm.heap (hE.stp.block mb hlm (λh=>h))⟩) rfl (λ_ h=>h)<|Af rfl ?_ Aj);refine Aa 2 [0] (y<|λ_=>AW [1,2] (λw2 f2 _ hE=>⟨(hE.stp.block sb hlb (λh=>h)).trans hSb,hSm.heap (hE.stp.block mb hlm (λh=>h))⟩) rfl (λ_ h=>h)<|A1 1 [] (λ_=>Bf<|Aa 12 [] (λ_=>EH<|Aa 9 [2,1] (y<|y<|λ_=>?_))));have hfin:Ap s t=.var n:=by rw[hh,Ng hl]
  exact AL (λw f hM=>A9 rfl (Ac rfl AV hM.k1 rfl)) (λw f hM=>⟨(ua,uc),f,(by show _=tV (Ap s t) ua uc;rw[hfin]),tQ,hM.exm,⟨by show Al w f (Ap s t).kids ua uc;rw[hfin];exact hM.f0,tQ⟩⟩)
 |some t2 =>
  refine Kb (α:=Option Addr×Nat) (λx=>Em es n=some (tV t2 x.1 x.2)) (λx=>[]) (λx=>[λw f=>Al w f t2.kids x.1 x.2]) (λw f hM=>let ⟨a2,c2,h1,h2⟩:=(FG.look hSe n).2 t2 hl;⟨(a2,c2),h1,nE,AE.mem ⟨Al.mono _ _ _ _ h2 hM.ent,tQ⟩⟩) (λx=>Aw.mem ⟨Al.mono,tQ⟩) ?_;rintro⟨a2,c2⟩ hlk;refine Ki (λw=>AI w sb [.map (some mb),iV fr,iV pr] 163∧BF EB w mb es) (λw2 f2 _ hE=>⟨(hE.stp.block sb hlb (λh=>h)).trans hSb,hSm.heap (hE.stp.block mb hlm (λh=>h))⟩) [0,1] Ak (rd [0,1,2,3,4,5,6,7,8,9] (.br 10 (.br 11 (.rd 12 .fin) .fin) .fin)) rfl kR kR kR (λ_ _ _ _ _ h=>h)<|A1 3 [] (λ_=>F6 rfl rfl rfl (λw hK=>Ai rfl Sx hK.2.2.1 rfl)<|A1 2 [1] (y<|λ_=>F6 rfl rfl rfl (λw hK=>IW (K:=EB) (a:=n) rfl rfl TV NX MJ hK.2.2.2 hdis hlk)<|A1 3 [] (λ_=>Af rfl ?_ Aj)));refine Aa 2 [] (λb4=>λ_=>AW [1,2] (λw2 f2 _ hE=>⟨(hE.stp.block sb hlb (λh=>h)).trans hSb,hSm.heap (hE.stp.block mb hlm (λh=>h))⟩) rfl (λ_ h=>h)<|Af rfl ?_ Aj);exact Aa 2 [0] (y<|λ_=>AW [1,2] (λw2 f2 _ hE=>⟨(hE.stp.block sb hlb (λh=>h)).trans hSb,hSm.heap (hE.stp.block mb hlm (λh=>h))⟩) rfl (λ_ h=>h)<|A1 1 [] (λ_=>Bf<|Aa 16 [0,2] (y<|y<|λ_=>CY ((t2,a2,c2)) (dT hw hl) ⟨by rw[hh,SB hw hl],Ny hw hl⟩ lE (λw f hM=>⟨_,hM.less (List.sublist_cons_self _ _) sR nE (mR [0])⟩))))
 refine Aa 3 [] (λ_=>EH<|Aa 9 [1,0] (y<|y<|λ_=>?_));obtain⟨tx,k,rfl⟩:=Fe h1;have hfin:Ap s t=.con tx k:=by rw[hh,Gr]
 exact AL (λw f hM=>A9 rfl (Ac rfl AV hM.k0 rfl)) (λw f hM=>⟨(ua,uc),f,(by show _=tV (Ap s t) ua uc;rw[hfin]),tQ,hM.exm,⟨by show Al w f (Ap s t).kids ua uc;rw[hfin];exact hM.f0,tQ⟩⟩)
theorem Sr(w:World)(f:Fq)(hv:Vl w f)(nb:Nat)(n:Int)(hn:0≤n∧n≤100000)(hC:J4 nb n w f)(hf:f nb=0)(t:T1)(a:Option Addr)(c:Nat) :
  Bo prog 122 #[tV t a c,pB nb] w (EC (α:=Unit) (λ_=>.bool (decide (n+1≤1000))) (λ_=>True) (λb=>b=nb) (λ_=>J4 nb (n+1)) (λ_=>[]) w f):=by
 exact Cg (X:=⟨λb=>b=nb,λ_=>False,λ_ _=>True,w,f⟩) (H:=[⟨nb,[iV n],3,false⟩]) (R:=[]) (B:=[]) (Fs:=[]) (f:=f) func122 rfl rfl rfl (oZ hv hC hf tQ tQ)<|Aa 21 [1,1,1] (λb1=>y<|aI ⟨oM,oM⟩<|y<|y<|λ_=>AL (C3 rfl rfl) (λw f hM=>⟨(),f,rfl,tQ,hM.exm,hM.blk _ gU,tQ⟩))
theorem TB(k:Nat)(ih:∀j,j<k→rO prog 121 163 122 j)(w:World)(f:Fq)(hv:Vl w f)(sb mb:Nat)(s:BT)(fr pr:Int)(nb:Nat)(hS:BB 163 sb mb s fr pr w f)(hw:Is s)(hns:sb≠nb)(hnm:mb≠nb)(hf:f nb=0)(hC:J4 nb (1000-(k:Int)) w f)(hk:k≤1000)(t:T1)(a:Option Addr)(c:Nat)(hb:t.bnd)(hT:Al w f t.kids a c) :
  Bo prog 121 #[pB sb,tV t a c,.func (.func 122) #[] #[pB nb]] w (EC (α:=Int) (λ_=>.bool (B2 s k t.one).isSome) (λx=>∀j,B2 s k t.one=some j→x=1000-(j:Int)) (λb=>b=nb) (λx=>J4 nb x) (λ_=>[]) w f):=by
 have hkb:=(Cn hw hb).1;refine Cg (X:=⟨λb=>b=nb,λb=>b=nb,J4 nb (1000-(k:Int)),w,f⟩) (H:=[]) (R:=[]) (B:=[]) (Fs:=[λw f=>Al w f t.kids a c]) (f:=f) func121 rfl rfl rfl (RZ (M:=λb=>b=nb) (I:=J4 nb (1000-(k:Int))) hv hC (J4.stab rfl) (λb hb=>by cases hb;exact⟨AI.lt hC,hf⟩) ⟨hT,tQ⟩ ⟨Al.mono,tQ⟩)<|Aa 10 [0] (λb1=>y<|λ_=>Br rfl rfl (eC Gj rfl rfl) (λw f hM=>DH w f hM.vl sb mb s fr pr (BB.keep hS hM.exm hM.ent hns hnm) hw t a c hb hM.f0) (λx=>⟨Al.mono,tQ⟩) ?_);rintro⟨ha,hc⟩ -;refine Aa 8 [0,0] (y<|y<|λ_=>NT (XX:=λ_ _=>False) rfl rfl (λ_=>Qi (caps:=[pB nb]) cD rfl rfl) (λw f hM=>(Sr w f hM.vl nb (1000-(k:Int)) oM hM.res (hM.mi nb rfl).2.1 (Ap s t) ha hc).retP) (λ_=>J4.stab rfl) (λ_=>trivial) (λ_ _ _ _ _ h=>h.elim) ?_);rintro⟨⟩ -;refine Aa 3 [] (λ_=>AJ 15 rfl rfl (λh1=>?_) (λh1=>?_));replace h1:=EV h1;refine Aa 8 [] (λ_=>?_);obtain rfl:k=0:=by have:=of_decide_eq_false h1;omega
 have hres:=Kf s t;exact AL (C3 rfl rfl) (λw f hM=>⟨_,f,(by rw[hres];rfl),(λj h=>by rw[hres] at h;cases h),hM.exm,hM.res,tQ⟩);replace h1:=Fl h1;refine Aa 5 [] (λ_=>?_);obtain⟨k2,rfl⟩:∃k2,k=k2+1:=⟨k-1,by have:=of_decide_eq_true h1;omega⟩;refine Aa 6 [0] (y<|λ_=>AJ 18 rfl rfl (λh2=>?_) (λh2=>?_));refine Aa 10 [0] (y<|λ_=>?_);refine EZ (α:=Nat×Ty×Nat) (λx=>x.2.1.len) (λx=>x.1+x.2.1.len=(Ap s t).kids.len∧B2 s k2 (Ap s t).kids=B2 s x.2.2 x.2.1∧x.2.2≤k2∧x.2.1.bnd) (λx=>(E6 0 (pB sb) 2 (.func (.func 122) #[] #[pB nb]) 4 (pB b1) 20 (.slice ha (Ap s t).kids.len hc) 21 (iV ((Ap s t).kids.len:Int)) 22 (iV (x.1:Int)))) (λx=>⟨λb=>b=nb,λb=>b=nb,J4 nb (1000-(x.2.2:Int)),w,f⟩) (λx=>[⟨b1,tC (Ap s t) ha hc,76,true⟩]) (λx=>[]) (λx=>[]) (λx=>[λw f=>BI w f ha x.1 x.2.1]) (0,(Ap s t).kids,k2) ⟨by simp,rfl,Nat.le_refl _,(Cn hw hb).2⟩ lE (λw f hM=>(by have hM2:=hM.more (B':=[]) (F':=[λw f=>BI w f ha 0 (Ap s t).kids]) nE (AE.mem ⟨Al.at hM.f0,tQ⟩) (Aw.mem ⟨BI.mono,tQ⟩) |>.less (H':=[⟨b1,tC (Ap s t) ha hc,76,true⟩]) (R':=[]) (B':=[]) (F':=[λw f=>BI w f ha 0 (Ap s t).kids]) sR sR nE (mR [0]);rw[show (1000-((k2+1:Nat):Int))+1=1000-(k2:Int) by omega] at hM2;exact hM2)) ?_;rintro⟨i,r,j⟩ ⟨hi,hrem,hjk,hrb⟩;dsimp only at hi hrem hjk hrb ⊢;refine Aa 6 [] (λ_=>AJ 23 rfl rfl (λh3=>?_) (λh3=>?_));refine Aa 6 [] (λ_=>?_);have hil:i<(Ap s t).kids.len:=by have:=of_decide_eq_true h3;omega
 obtain⟨t2,r,rfl⟩:=Ty.cases1 r oM;rw[T1.len_cons] at hi;refine WN 0 rfl ?_;rintro⟨eb,eo,ka,kc⟩ rfl;refine Aa 12 [100,0,0,0] (aI oM<|y2<|λb2=>y<|y<|λ_=>NT (XX:=λ_ _=>False) rfl rfl (eC Mb rfl rfl) (λw f hM=>(ih j oM w f hM.vl sb mb s fr pr nb (BB.keep hS hM.exm hM.ent hns hnm) hw hns hnm (hM.mi nb rfl).2.1 hM.res oM t2 ka kc (T1.bnd_cons.1 hrb).1 hM.f0).retP) (λ_=>J4.stab rfl) (λ_=>trivial) (λ_ _ _ _ _ h=>h.elim) ?_);rintro cx hcx;refine Aa 3 [] (λ_=>AJ 30 rfl rfl (λh4=>?_) (λh4=>?_));replace h4:=EV h4;have hj2:B2 s j t2.one=none:=by cases hx:B2 s j t2.one with|none=>rfl|some q=>rw[hx] at h4;cases h4
 refine Aa 9 [] (λ_=>U3<|Aa 2 [] (λ_=>?_));have hone:=Jv s k2 t;have hres:B2 s (k2+1) t.one=none:=by rw[hone,hrem,IF,hj2];rfl
 exact AL (C3 rfl rfl) (λw f hM=>⟨_,f,(by rw[hres];rfl),(λj h=>by rw[hres] at h;cases h),hM.exm,hM.res,tQ⟩);replace h4:=Fl h4;obtain⟨j2,hj2⟩:=Option.isSome_iff_exists.1 h4;exact Aa 8 [] (aI ⟨oM,oM⟩<|λ_=>CY ((i+1,r,j2)) (show r.len<(t2.cons r).len by rw[T1.len_cons];omega) ⟨show i+1+r.len=(Ap s t).kids.len by omega,show B2 s k2 (Ap s t).kids=B2 s j2 r by rw[hrem,IF,hj2];rfl,show j2≤k2 by have:=Ej s j t2.one j2 hj2;omega,(T1.bnd_cons.1 hrb).2⟩ lE (λw f hM=>⟨_,by have hM2:=hM.less (H':=[⟨b1,tC (Ap s t) (some ⟨eb,eo,none⟩) hc,76,true⟩]) (R':=[]) (B':=[]) (F':=[λw f=>BI w f (some ⟨eb,eo,none⟩) (i+1) r]) (List.sublist_cons_self _ _) sR nE (mR [1]);rw[hcx j2 hj2] at hM2;exact hM2⟩));refine Aa 3 [] (λ_=>EH<|Aa 8 [] (λ_=>?_));have hone:=Jv s k2 t;obtain rfl:r=.nil:=Ty.len0 (by have:=of_decide_eq_false h3;omega);have hres:B2 s (k2+1) t.one=some j:=by rw[hone,hrem];cases j <;> rfl
 exact AL (C3 rfl rfl) (λw f hM=>⟨_,f,(by rw[hres];rfl),(λq h=>by rw[hres] at h;cases h;rfl),hM.exm,hM.res,tQ⟩);refine Aa 9 [] (λ_=>?_);have hone:=Jv s k2 t;obtain⟨n,hv2⟩:=DV (t:=Ap s t) (by have:=h2;simpa using this);have hres:B2 s (k2+1) t.one=some k2:=by rw[hone,hv2];cases k2 <;> rfl
 exact AL (C3 rfl rfl) (λw f hM=>⟨_,f,(by rw[hres];rfl),(λq h=>by rw[hres] at h;cases h;omega),hM.exm,hM.res,tQ⟩)
theorem Sy:∀k,rO prog 121 163 122 k:=λk=>Nat.strongRecOn k λk ih w f hv sb mb s fr pr nb hS hw hns hnm hf hC hk t a c hb hT=>TB k ih w f hv sb mb s fr pr nb hS hw hns hnm hf hC hk t a c hb hT
theorem N6(w:World)(f:Fq)(hv:Vl w f)(sb mb:Nat)(s:BT)(fr pr:Int)(hS:BB 163 sb mb s fr pr w f)(hw:Is s)(t:T1)(a:Option Addr)(c:Nat)(hb:t.bnd)(hT:Al w f t.kids a c) :
  Bo prog 96 #[pB sb,tV t a c] w (Bx (α:=Unit) (λ_=>.bool (Hh s t)) (λ_=>True) (λ_=>[]) w f):=by
 have hlb:=hS.1.lt;have hlm:mb<w.heap.size:=by obtain⟨_,es,h,_⟩:=hS;exact h.lt
 refine Cg (X:=X0 w f) (H:=[]) (R:=[]) (B:=[]) (Fs:=[λw f=>Al w f t.kids a c]) (f:=f) func96 rfl rfl rfl (BS hv ⟨hT,tQ⟩ ⟨Al.mono,tQ⟩)<|Aa 16 [0,1] (λb1=>λb2=>y<|y<|λ_=>D6 rfl rfl (λw f hM=>Ni rfl)<|oQ 0 rfl rfl<|Ig (λw f hM=>(⟨λe=>(hM.mi _ (.inr rfl)).2.2.elim (λh=>absurd hlb (by rw[e];exact Nat.not_lt.2 h)) (λh=>h),λe=>(hM.mi _ (.inr rfl)).2.2.elim (λh=>absurd hlm (by rw[e];exact Nat.not_lt.2 h)) (λh=>h)⟩:sb≠b2∧mb≠b2)) λhne=>NT (α:=Int) (val:=λ_=>.bool (B2 s 1000 t.one).isSome) (q:=λ_=>True) (I':=λx w f=>True∧J4 b2 x w f) (F':=λ_=>[]) (XX:=λ_ _=>False) rfl rfl (eC Mb rfl rfl) (λw f hM=>((Sy 1000 w f hM.vl sb mb s fr pr b2 (BB.keep hS hM.exm hM.ent (λh=>h) (λh=>h)) hw hne.1 hne.2 (hM.mi _ (.inr rfl)).2.1 hM.res.2 (Nat.le_refl _) t a c hb hM.f0).mono λv w2 ⟨x,f2,h1,h2,h3,h4,h5⟩=>⟨x,f2,h1,tQ,h3.mono (λb hb=>.inr hb),⟨tQ,h4⟩,h5⟩).retP) (λ_=>(λ_ _ _ _ h hF hm=>⟨tQ,J4.stab (MI:=λb=>False∨b=b2) (.inr rfl) _ _ _ _ h.2 hF hm⟩)) (λ_=>trivial) (λ_ _ _ _ _ h=>h.elim) ?_);rintro cx -;exact Aa 4 [] (λ_=>AL (C3 rfl rfl) (λw f hM=>⟨(),f,(by rw[Hh,Fv]),tQ,hM.exm,tQ⟩))
theorem Ue(w:World)(f:Fq)(hv:Vl w f)(xb:Nat)(x:Int)(hB:AI w xb [iV x] 3)(t:T1)(a:Option Addr)(c:Nat) :
  Bo prog 140 #[tV t a c,pB xb] w (Bx (α:=Unit) (λ_=>.bool (VF x t)) (λ_=>True) (λ_=>[]) w f):=by
 have hlx:=hB.lt;refine Cg (X:=X0 w f) (H:=[]) (R:=[]) (B:=[]) (Fs:=[]) (f:=f) func140 rfl rfl rfl (BS hv tQ tQ)<|Aa 12 [0] (λb1=>y<|λ_=>AJ 7 rfl rfl (λh1=>?_) (λh1=>?_));refine Aa 9 [] (λ_=>?_)
 cases t with
 |var m=>cases h1
 |con tx k=>exact AL (C3 rfl rfl) (λw f hM=>⟨(),f,rfl,tQ,hM.exm,tQ⟩)
 refine Aa 2 [0] (y<|λ_=>D6 rfl rfl (λw f hM=>Ai rfl Hz ((hM.stp.block xb hlx (λh=>h)).trans hB) rfl)<|Aa 6 [] (λ_=>?_))
 cases t with
 |var m=>exact AL (C3 rfl rfl) (λw f hM=>⟨(),f,rfl,tQ,hM.exm,tQ⟩)
 |con tx k=>cases h1
theorem QX(k:Nat)(ih:∀j,j<k→qL prog 121 163 140 j)(w:World)(f:Fq)(hv:Vl w f)(sb mb:Nat)(s:BT)(fr pr:Int)(xb:Nat)(x:Int)(hS:BB 163 sb mb s fr pr w f)(hw:Is s)(hB:AI w xb [iV x] 3)(t:T1)(a:Option Addr)(c jj:Nat)(hb:t.bnd)(hT:Al w f t.kids a c)(hfin:B2 s k t.one=some jj) :
  Bo prog 121 #[pB sb,tV t a c,.func (.func 140) #[] #[pB xb]] w (Bx (α:=Unit) (λ_=>.bool (CE s x k t.one)) (λ_=>True) (λ_=>[]) w f):=by
 have hkb:=(Cn hw hb).1;have hlx:=hB.lt;obtain⟨k2,rfl⟩:∃q,k=q+1:=by cases k with|zero=>rw[Kf] at hfin;cases hfin|succ q=>exact⟨q,rfl⟩
 have hk3:B2 s k2 (Ap s t).kids=some jj:=by rw[← Jv];exact hfin
 refine Cg (X:=X0 w f) (H:=[]) (R:=[]) (B:=[]) (Fs:=[λw f=>Al w f t.kids a c]) (f:=f) func121 rfl rfl rfl (BS hv ⟨hT,tQ⟩ ⟨Al.mono,tQ⟩)<|Aa 10 [0] (λb1=>y<|λ_=>Br rfl rfl (eC Gj rfl rfl) (λw f hM=>DH w f hM.vl sb mb s fr pr (BB.keep hS hM.exm hM.ent (λh=>h) (λh=>h)) hw t a c hb hM.f0) (λx=>⟨Al.mono,tQ⟩) ?_);rintro⟨ha,hc⟩ -;refine Aa 8 [0,0] (y<|y<|λ_=>Br rfl rfl (λ_=>Qi (caps:=[pB xb]) dV rfl rfl) (λw f hM=>Ue w f hM.vl xb x ((hM.stp.block xb hlx (λh=>h)).trans hB) (Ap s t) ha hc) (λx=>trivial) ?_);rintro⟨⟩ -;refine Aa 3 [] (λ_=>AJ 15 rfl rfl (λh1=>?_) (λh1=>?_));replace h1:=EV h1;refine Aa 8 [] (λ_=>?_);have hres:CE s x (k2+1) t.one=false:=by rw[IK,h1];rfl
 exact AL (C3 rfl rfl) (λw f hM=>⟨(),f,(by rw[hres]),tQ,hM.exm,tQ⟩);replace h1:=Fl h1;refine Aa 11 [0] (y<|λ_=>AJ 18 rfl rfl (λh2=>?_) (λh2=>?_));refine Aa 10 [0] (y<|λ_=>?_);refine EZ (α:=Nat×Ty×Nat) (λy=>y.2.1.len) (λy=>y.1+y.2.1.len=(Ap s t).kids.len∧B2 s k2 (Ap s t).kids=B2 s y.2.2 y.2.1∧y.2.2≤k2∧y.2.1.bnd∧CE s x k2 (Ap s t).kids=CE s x y.2.2 y.2.1) (λy=>(E6 0 (pB sb) 2 (.func (.func 140) #[] #[pB xb]) 4 (pB b1) 20 (.slice ha (Ap s t).kids.len hc) 21 (iV ((Ap s t).kids.len:Int)) 22 (iV (y.1:Int)))) (λy=>X0 w f) (λy=>[⟨b1,tC (Ap s t) ha hc,76,true⟩]) (λy=>[]) (λy=>[]) (λy=>[λw f=>BI w f ha y.1 y.2.1]) (0,(Ap s t).kids,k2) ⟨by simp,rfl,Nat.le_refl _,(Cn hw hb).2,rfl⟩ lE (λw f hM=>hM.more (B':=[]) (F':=[λw f=>BI w f ha 0 (Ap s t).kids]) nE (AE.mem ⟨Al.at hM.f0,tQ⟩) (Aw.mem ⟨BI.mono,tQ⟩) |>.less (H':=[⟨b1,tC (Ap s t) ha hc,76,true⟩]) (R':=[]) (B':=[]) (F':=[λw f=>BI w f ha 0 (Ap s t).kids]) sR sR nE (mR [0])) ?_;rintro⟨i,r,j⟩ ⟨hi,hrem,hjk,hrb,hfr⟩;dsimp only at hi hrem hjk hrb hfr ⊢;refine Aa 6 [] (λ_=>AJ 23 rfl rfl (λh3=>?_) (λh3=>?_));refine Aa 6 [] (λ_=>?_);have hil:i<(Ap s t).kids.len:=by have:=of_decide_eq_true h3;omega
 obtain⟨t2,r,rfl⟩:=Ty.cases1 r oM;rw[T1.len_cons] at hi;refine WN 0 rfl ?_;rintro⟨eb,eo,ka,kc⟩ rfl;refine Aa 12 [100,0,0,0] (aI oM<|y2<|λb2=>y<|y<|λ_=>?_);obtain⟨j2,hj2⟩:∃q,B2 s j t2.one=some q:=by cases hx:B2 s j t2.one with|some q=>exact⟨q,rfl⟩|none=>rw[hrem,IF,hx] at hk3;cases hk3
 refine Br rfl rfl (eC Mb rfl rfl) (λw f hM=>ih j oM w f hM.vl sb mb s fr pr xb x (BB.keep hS hM.exm hM.ent (λh=>h) (λh=>h)) hw ((hM.stp.block xb hlx (λh=>h)).trans hB) t2 ka kc j2 (T1.bnd_cons.1 hrb).1 hM.f0 hj2) (λx=>trivial) ?_;rintro⟨⟩ -;refine Aa 3 [] (λ_=>AJ 30 rfl rfl (λh4=>?_) (λh4=>?_));replace h4:=EV h4;refine Aa 9 [] (λ_=>U3<|Aa 2 [] (λ_=>?_));have hres:CE s x (k2+1) t.one=false:=by rw[IK,hfr,O4 hj2,h4];simp
 exact AL (C3 rfl rfl) (λw f hM=>⟨(),f,(by rw[hres]),tQ,hM.exm,tQ⟩);replace h4:=Fl h4;exact Aa 8 [] (aI ⟨oM,oM⟩<|λ_=>CY ((i+1,r,j2)) (show r.len<(t2.cons r).len by rw[T1.len_cons];omega) ⟨show i+1+r.len=(Ap s t).kids.len by omega,show B2 s k2 (Ap s t).kids=B2 s j2 r by rw[hrem,IF,hj2];rfl,show j2≤k2 by have:=Ej s j t2.one j2 hj2;omega,(T1.bnd_cons.1 hrb).2,show CE s x k2 (Ap s t).kids=CE s x j2 r by rw[hfr,O4 hj2,h4];rfl⟩ lE (λw f hM=>⟨_,hM.less (H':=[⟨b1,tC (Ap s t) (some ⟨eb,eo,none⟩) hc,76,true⟩]) (R':=[]) (B':=[]) (F':=[λw f=>BI w f (some ⟨eb,eo,none⟩) (i+1) r]) (List.sublist_cons_self _ _) sR nE (mR [1])⟩));refine Aa 3 [] (λ_=>EH<|Aa 8 [] (λ_=>?_));obtain rfl:r=.nil:=Ty.len0 (by have:=of_decide_eq_false h3;omega);have hres:CE s x (k2+1) t.one=true:=by rw[IK,h1,hfr];cases j <;> rfl
 exact AL (C3 rfl rfl) (λw f hM=>⟨(),f,(by rw[hres]),tQ,hM.exm,tQ⟩);refine Aa 9 [] (λ_=>?_);obtain⟨n,hv2⟩:=DV (t:=Ap s t) (by have:=h2;simpa using this);have hres:CE s x (k2+1) t.one=true:=by rw[IK,h1,hv2];cases k2 <;> rfl
 exact AL (C3 rfl rfl) (λw f hM=>⟨(),f,(by rw[hres]),tQ,hM.exm,tQ⟩)
theorem Rs:∀k,qL prog 121 163 140 k:=λk=>Nat.strongRecOn k λk ih w f hv sb mb s fr pr xb x hS hw hB t a c j hb hT hj=>QX k ih w f hv sb mb s fr pr xb x hS hw hB t a c j hb hT hj
theorem La(w:World)(f:Fq)(hv:Vl w f)(sb mb:Nat)(s:BT)(fr pr:Int)(hS:BB 163 sb mb s fr pr w f)(hf:f sb=0∧f mb=0)(hne:sb≠mb)(hw:Is s)(n:Int)(hun:CC s n=none)(t:T1)(a:Option Addr)(c:Nat)(hb:t.bnd)(hT:Al w f t.kids a c) :
  Bo prog 117 #[pB sb,iV n,tV t a c] w (EC (α:=Unit) (λ_=>iV (IH s n t).1) (λ_=>True) (LC sb mb) (λ_=>BB 163 sb mb (IH s n t).2 fr pr) (λ_=>[]) w f):=by
 refine Cg (X:=XS 163 sb mb s fr pr w f) (H:=[]) (R:=[]) (B:=[]) (Fs:=[λw f=>Al w f t.kids a c]) (f:=f) func117 rfl rfl rfl (dS hv hS hf ⟨hT,tQ⟩ ⟨Al.mono,tQ⟩)<|Aa 12 [0] (λb1=>λb2=>y<|λ_=>Br rfl rfl (eC YH rfl rfl) (λw f hM=>N6 w f hM.vl sb mb s fr pr hM.res hw t a c hb hM.f0) (λx=>trivial) ?_);rintro⟨⟩ -;refine Aa 3 [] (λ_=>AJ 10 rfl rfl (λh1=>?_) (λh1=>?_));replace h1:=EV h1;refine Aa 8 [] (λ_=>?_);have hr:=WG (n:=n) h1;exact AL (C3 rfl rfl) (λw f hM=>⟨(),f,(by rw[hr]),tQ,hM.exm,(by rw[hr];exact hM.res),tQ⟩);replace h1:=Fl h1;refine Aa 8 [0] (y<|λ_=>D6 rfl rfl (λw f hM=>Ni rfl) ?_);obtain⟨j,hj⟩:∃j,B2 s 1000 t.one=some j:=by have h9:=h1;rw[Hh,Fv] at h9;exact Option.isSome_iff_exists.1 h9
 refine Br rfl rfl (eC Mb rfl rfl) (λw f hM=>Rs 1000 w f hM.vl sb mb s fr pr b1 n hM.res hw hM.k1 t a c j hb hM.f0 hj) (λx=>trivial) ?_;rintro⟨⟩ -;refine Aa 3 [] (λ_=>AJ 15 rfl rfl (λh2=>?_) (λh2=>?_));replace h2:=EV h2;refine Aa 8 [] (λ_=>?_);have hr:=Zo h1 h2;exact AL (C3 rfl rfl) (λw f hM=>⟨(),f,(by rw[hr]),tQ,hM.exm,(by rw[hr];exact hM.res),tQ⟩);replace h2:=Fl h2;refine Aa 4 [] (λ_=>fY (eA 163 sb mb s fr pr) (λw f h=>let ⟨h1,es,h2,h3⟩:=h;⟨es,h1,h2,h3⟩) (λ_=>eA.stab (.inl rfl) (.inr rfl)) ?_);intro es;refine Ig (λw f hM=>(⟨FG.dis hM.res.2.2 hw,(FG.look hM.res.2.2 n).1 hun⟩:Ir es∧Em es n=none)) λhes=>Ki (λw=>AI w sb [.map (some mb),iV fr,iV pr] 163) (λw f h _=>h.1) [0,1] Ak (rd [0,1,2,3,4,5] (.br 6 .fin .fin)) rfl kR kR kR (λ_ _ _ _ _ h=>h)<|A1 3 [] (λ_=>F6 rfl rfl rfl (λw hK=>Ai rfl Sx hK.2.2 rfl)<|A1 2 [1,0] (y<|y<|λ_=>Af rfl ?_ Aj));refine Zd (K:=EB) (a:=n) (l:=es) (I':=BB 163 sb mb ((n,t)::s) fr pr) rfl rfl rfl rfl TV NX (.inr rfl) hes.1 hes.2 (λw f h=>h.2.1) (λw f w2 h hM hC hm=>⟨(hC.block sb hne).trans h.1,_,hm,a,c,es,rfl,Al.mono _ _ _ _ hM.f0 (hC.fle (hM.mi mb (.inr rfl)).2.1),FG.mono (hC.fle (hM.mi mb (.inr rfl)).2.1) s es h.2.2⟩) (BB.stab (.inl rfl) (.inr rfl))<|Aa 1 [] (λ_=>AW [0,1] (λw f h _=>h.1) rfl (λ_ h=>h)<|Bf<|Aa 7 [] (λ_=>?_));have hr:=YE h1 h2;exact AL (C3 rfl rfl) (λw f hM=>⟨(),f,(by rw[hr]),tQ,hM.exm,(by rw[hr];exact hM.res),tQ⟩)
theorem M5(w:World)(f:Fq)(hv:Vl w f)(sb mb:Nat)(s:BT)(fr pr:Int)(hS:BB 163 sb mb s fr pr w f)(hf:f sb=0∧f mb=0)(hne:sb≠mb)  (hfr:0≤fr∧fr<1000000000000) :
  Bo prog 66 #[pB sb] w (EC (α:=Unit) (λ_=>tV (.var (fr+1)) none 0) (λ_=>True) (LC sb mb) (λ_=>BB 163 sb mb s (fr+1) pr) (λ_=>[]) w f):=by
 refine Cg (X:=XS 163 sb mb s fr pr w f) (H:=[]) (R:=[]) (B:=[]) (Fs:=[]) (f:=f) func66 rfl rfl rfl (dS hv hS hf tQ tQ)<|Aa 20 [] (λb1=>λ_=>D6 rfl rfl (λw f hM=>Ai rfl Hz hM.res.1 rfl)<|Aa 3 [] (aI ⟨oM,oM⟩<|λ_=>SJ (b:=sb) (I':=BB 163 sb mb s (fr+1) pr) rfl rfl rfl rfl Hz rfl rfl rfl (.inl rfl) (λw f h=>h.1) (λw f w2 h hM hC hb=>⟨hb,let ⟨_,es,h2,h3⟩:=h;⟨es,h2.heap (hC.block mb (λe=>hne e.symm)),FG.mono (hC.fle (hM.mi sb (.inl rfl)).2.1) s es h3⟩⟩) (BB.stab (.inl rfl) (.inr rfl))<|Aa 7 [] (λ_=>D6 rfl rfl (λw f hM=>Ai rfl Hz hM.res.1 rfl)<|Br rfl rfl (eC GH rfl rfl) (λw f hM=>DA w f hM.vl (fr+1)) (λx=>trivial) ?_)));rintro⟨⟩ -;exact Aa 4 [0] (y<|λ_=>AL (λw f hM=>A9 rfl (Ac rfl AV hM.k0 rfl)) (λw f hM=>⟨(),f,rfl,tQ,hM.exm,hM.res,tQ⟩))
theorem WA(k:Nat)(ih:∀j,j<k→fA prog 87 163 j)(w:World)(f:Fq)(hv:Vl w f)(sb mb:Nat)(s:BT)(fr:Int)(hS:BB 163 sb mb s fr (10000-(k:Int)) w f)(hf:f sb=0∧f mb=0)(hne:sb≠mb)(hw:Is s)(hk:k≤10000)(t u:T1)(a:Option Addr)(c:Nat)(a2:Option Addr)(c2:Nat)(hbt:t.bnd)(hbu:u.bnd)(hT:Al w f t.kids a c)(hU:Al w f u.kids a2 c2) :
  Bo prog 87 #[pB sb,tV t a c,tV u a2 c2] w (EC (α:=Int×BT×Int) (λx=>iV x.1) (λx=>(∀z,Gq k s t.one u.one=.ok z→x.1=0∧x.2.1=z.2∧x.2.2=10000-(z.1:Int)∧Is z.2)∧∀e,Gq k s t.one u.one=.error e→x.1=e∧e≠0) (LC sb mb) (λx=>BB 163 sb mb x.2.1 fr x.2.2) (λ_=>[]) w f):=by
 have hkt:=(Cn hw hbt).1;have hku:=(Cn hw hbu).1;refine Cg (X:=XS 163 sb mb s fr (10000-(k:Int)) w f) (H:=[]) (R:=[]) (B:=[]) (Fs:=[λw f=>Al w f t.kids a c,λw f=>Al w f u.kids a2 c2]) (f:=f) func87 rfl rfl rfl (dS hv hS hf ⟨hT,hU,tQ⟩ ⟨Al.mono,Al.mono,tQ⟩)<|Aa 13 [] (λb1=>λb2=>λ_=>D6 rfl rfl (λw f hM=>Ai rfl Hz hM.res.1 rfl)<|Aa 3 [] (λ_=>AJ 13 rfl rfl (λh1=>?_) (λh1=>?_)));refine Aa 8 [] (λ_=>?_);obtain rfl:k=0:=by have h9:=beq_iff_eq.1 h1;omega
 have hun:=cJ s t u;exact AL (C3 rfl rfl) (λw f hM=>⟨(4,s,_),f,rfl,⟨λz h=>(by rw[hun] at h;cases h),λe h=>(by rw[hun] at h;cases h;exact⟨rfl,dC⟩)⟩,hM.exm,hM.res,tQ⟩);refine Aa 4 [] (λ_=>?_);obtain⟨k2,rfl⟩:∃q,k=q+1:=⟨k-1,by have h9:=h1;have:¬(10000-(k:Int))=10000:=(by simpa using h9);omega⟩;refine Aa 4 [] (λ_=>D6 rfl rfl (λw f hM=>Ai rfl Hz hM.res.1 rfl)<|Aa 3 [] (aI ⟨oM,oM⟩<|λ_=>SJ (b:=sb) (I':=BB 163 sb mb s fr (10000-(k2:Int))) rfl rfl rfl rfl Hz rfl rfl rfl (.inl rfl) (λw f h=>h.1) (λw f w2 h hM hC hb=>(by rw[show (10000-((k2+1:Nat):Int)+1)=10000-(k2:Int) by omega] at hb;exact⟨hb,let ⟨_,es,h2,h3⟩:=h;⟨es,h2.heap (hC.block mb (λe=>hne e.symm)),FG.mono (hC.fle (hM.mi sb (.inl rfl)).2.1) s es h3⟩⟩)) (BB.stab (.inl rfl) (.inr rfl))<|Aa 3 [] (λ_=>?_)));refine Nv (α:=Option Addr×Nat×Option Addr×Nat) (λx=>True) (λx=>(E3 0 (pB sb) 4 (pB b1) 5 (pB b2))) (λx=>⟨LC sb mb,LC sb mb,BB 163 sb mb s fr (10000-(k2:Int)),w,f⟩) (λx=>[⟨b2,tC (Ap s u) x.2.2.1 x.2.2.2,76,true⟩,⟨b1,tC (Ap s t) x.1 x.2.1,76,true⟩]) (λx=>[]) (λx=>[]) (λx=>[λw f=>Al w f (Ap s t).kids x.1 x.2.1,λw f=>Al w f (Ap s u).kids x.2.2.1 x.2.2.2]) ?_ ?_;refine Cv [] Ak (.rd 0 (.rd 3 (.br 1 (.br 2 (.br 4 (.br 5 (.br 6 (.br 7 .fin .fin) .fin) .fin) .fin) (.br 4 (.br 2 (.br 5 (.br 6 (.br 7 .fin .fin) .fin) .fin) .fin) .fin)) (.br 4 (.br 1 (.br 2 (.br 5 (.br 6 (.br 7 .fin .fin) .fin) .fin) .fin) .fin) .fin)))) rfl kR<|A1 2 [] (λ_=>Af rfl ?_ ?_);refine Aa 2 [1] (y<|λ_=>Au [] rfl<|Af rfl ?_ ?_);refine Br rfl rfl (eC Gj rfl rfl) (λw f hM=>DH w f hM.vl sb mb s fr (10000-(k2:Int)) hM.res hw t a c hbt hM.f0) (λx=>⟨Al.mono,tQ⟩) ?_;rintro⟨ha,hc⟩ -;refine Aa 1 [] (λ_=>Au [] rfl<|Af rfl ?_ Aj);refine Aa 2 [0] (y<|λ_=>Au [] rfl<|Af rfl ?_ Aj);refine Br rfl rfl (eC Gj rfl rfl) (λw f hM=>DH w f hM.vl sb mb s fr (10000-(k2:Int)) hM.res hw u a2 c2 hbu hM.f2) (λx=>⟨Al.mono,tQ⟩) ?_;rintro⟨ga,gc⟩ -;refine Aa 1 [] (λ_=>Au [] rfl<|Af rfl ?_ Aj);refine Aa 2 [1] (y<|λ_=>Au [] rfl<|Af rfl ?_ Aj);exact Aa 2 [0] (y<|λ_=>Au [] rfl<|Bf<|HE (ha,hc,ga,gc) tQ lE (λw f hM=>⟨f,hM.less sR sR (λ_ h=>h) (mR [1,0])⟩));refine Af rfl ?_ Aj;refine Aa 2 [0] (y<|λ_=>Au [] rfl<|Af rfl ?_ Aj);refine Br rfl rfl (eC Gj rfl rfl) (λw f hM=>DH w f hM.vl sb mb s fr (10000-(k2:Int)) hM.res hw t a c hbt hM.f0) (λx=>⟨Al.mono,tQ⟩) ?_;rintro⟨ha,hc⟩ -;refine Aa 1 [] (λ_=>Au [] rfl<|Af rfl ?_ Aj);refine Br rfl rfl (eC Gj rfl rfl) (λw f hM=>DH w f hM.vl sb mb s fr (10000-(k2:Int)) hM.res hw u a2 c2 hbu hM.f2) (λx=>⟨Al.mono,tQ⟩) ?_;rintro⟨ga,gc⟩ -;refine Aa 1 [] (λ_=>Au [] rfl<|Af rfl ?_ Aj);refine Aa 2 [1] (y<|λ_=>Au [] rfl<|Af rfl ?_ Aj);exact Aa 2 [0] (y<|λ_=>Au [] rfl<|Bf<|HE (ha,hc,ga,gc) tQ lE (λw f hM=>⟨f,hM.less sR sR (λ_ h=>h) (mR [1,0])⟩));refine Af rfl ?_ Aj;refine Aa 2 [0] (y<|λ_=>Au [] rfl<|Af rfl ?_ Aj);refine Aa 2 [1] (y<|λ_=>Au [] rfl<|Af rfl ?_ Aj)
 refine Br rfl rfl (eC Gj rfl rfl) (λw f hM=>DH w f hM.vl sb mb s fr (10000-(k2:Int)) hM.res hw t a c hbt hM.f0) (λx=>⟨Al.mono,tQ⟩) ?_;rintro⟨ha,hc⟩ -;refine Aa 1 [] (λ_=>Au [] rfl<|Af rfl ?_ Aj);refine Br rfl rfl (eC Gj rfl rfl) (λw f hM=>DH w f hM.vl sb mb s fr (10000-(k2:Int)) hM.res hw u a2 c2 hbu hM.f2) (λx=>⟨Al.mono,tQ⟩) ?_;rintro⟨ga,gc⟩ -;refine Aa 1 [] (λ_=>Au [] rfl<|Af rfl ?_ Aj);refine Aa 2 [1] (y<|λ_=>Au [] rfl<|Af rfl ?_ Aj);exact Aa 2 [0] (y<|λ_=>Au [] rfl<|Bf<|HE (ha,hc,ga,gc) tQ lE (λw f hM=>⟨f,hM.less sR sR (λ_ h=>h) (mR [1,0])⟩));rintro⟨ha,hc,ga,gc⟩ -;dsimp only;refine Aa 9 [1] (y<|λ_=>AJ 31 rfl rfl (λh2=>?_) (λh2=>?_));refine Aa 5 [0] (y<|λ_=>AJ 36 rfl rfl (λh3=>?_) (λh3=>?_));refine Aa 9 [1,0] (y<|y<|λ_=>AJ 27 rfl rfl (λh4=>?_) (λh4=>?_));refine Aa 9 [] (λ_=>?_);obtain⟨n,hn⟩:=DV h2;obtain⟨m,hm⟩:=DV h3;have hun:Gq (k2+1) s t.one u.one=.ok (k2,s):=by rw[JS,hn,hm];simp only[JZ];rw[if_pos (by have h9:=h4;rw[hn,hm] at h9;exact h9)];cases k2 <;> rfl
 exact AL (C3 rfl rfl) (λw f hM=>⟨(0,s,_),f,rfl,⟨λz h=>(by rw[hun] at h;cases h;exact⟨rfl,rfl,rfl,hw⟩),λe h=>(by rw[hun] at h;cases h)⟩,hM.exm,hM.res,tQ⟩);refine Aa 9 [1] (y<|λ_=>vI 43 true rfl rfl h2<|Aa 7 [1,0] (y<|y<|λ_=>?_));obtain⟨n,hn⟩:=DV h2;refine NT (XX:=λ_ _=>False) rfl rfl (eC P3 rfl rfl) (λw f hM=>(La w f hM.vl sb mb s fr (10000-(k2:Int)) hM.res ⟨(hM.mi sb (.inl rfl)).2.1,(hM.mi mb (.inr rfl)).2.1⟩ hne hw (Ap s t).num (by rw[hn];exact Fp hw hn) (Ap s u) ga gc (Cn hw hbu) hM.f1).retP) (λ_=>(BB.stab (.inl rfl) (.inr rfl))) (λ_=>trivial) (λ_ _ _ _ _ h=>h.elim) ?_;rintro⟨⟩ -;refine Aa 6 [] (λ_=>?_)
 have hun:Gq (k2+1) s t.one u.one=(match Ck s n (Ap s u) with|.error e=>.error e|.ok b=>.ok (k2,b)):=by
  rw[JS,hn]
  cases hm:(Ap s u) with
  |var m=>simp only[JZ];rw[if_neg (by have h9:=h4;rw[hn,hm] at h9;simp only[T1.num] at h9;rw[h9];simp)];cases Ck s n (.var m) with|error e=>rfl|ok b=>cases k2 <;> rfl
  |con ty kb=>simp only[JZ];cases Ck s n (.con ty kb) with|error e=>rfl|ok b=>cases k2 <;> rfl
 have hnum:(Ap s t).num=n:=by rw[hn];rfl
 have hbr:IH s (Ap s t).num (Ap s u)=(match Ck s n (Ap s u) with|.error e=>(e,s)|.ok b=>(0,b)):=by rw[hnum];rfl
 cases hb9:Ck s n (Ap s u) with
 |error er=>rw[hb9] at hun hbr;exact AL (C3 rfl rfl) (λw f hM=>⟨(er,s,_),f,(by rw[hbr]),⟨λz h=>(by rw[hun] at h;cases h),λe h=>(by rw[hun] at h;cases h;exact⟨rfl,OY hb9⟩)⟩,hM.exm,(by have h7:=hM.res;rw[hbr] at h7;exact h7),tQ⟩)
 |ok b9=>rw[hb9] at hun hbr;exact AL (C3 rfl rfl) (λw f hM=>⟨(0,b9,_),f,(by rw[hbr]),⟨λz h=>(by rw[hun] at h;cases h;exact⟨rfl,rfl,rfl,Pp hw (Fp hw hn) (KP hw _) (Cn hw hbu) hb9⟩),λe h=>(by rw[hun] at h;cases h)⟩,hM.exm,(by have h7:=hM.res;rw[hbr] at h7;exact h7),tQ⟩)
 refine Aa 18 [1] (y<|λ_=>vI 43 true rfl rfl h2<|Aa 7 [1,0] (y<|y<|λ_=>?_));obtain⟨n,hn⟩:=DV h2;refine NT (XX:=λ_ _=>False) rfl rfl (eC P3 rfl rfl) (λw f hM=>(La w f hM.vl sb mb s fr (10000-(k2:Int)) hM.res ⟨(hM.mi sb (.inl rfl)).2.1,(hM.mi mb (.inr rfl)).2.1⟩ hne hw (Ap s t).num (by rw[hn];exact Fp hw hn) (Ap s u) ga gc (Cn hw hbu) hM.f1).retP) (λ_=>(BB.stab (.inl rfl) (.inr rfl))) (λ_=>trivial) (λ_ _ _ _ _ h=>h.elim) ?_;rintro⟨⟩ -;refine Aa 6 [] (λ_=>?_)
 have hun:Gq (k2+1) s t.one u.one=(match Ck s n (Ap s u) with|.error e=>.error e|.ok b=>.ok (k2,b)):=by
  rw[JS,hn]
  cases hm:(Ap s u) with
  |var m=>simp only[JZ];rw[if_neg (by have h9:=h3;rw[hm] at h9;cases h9)];cases Ck s n (.var m) with|error e=>rfl|ok b=>cases k2 <;> rfl
  |con ty kb=>simp only[JZ];cases Ck s n (.con ty kb) with|error e=>rfl|ok b=>cases k2 <;> rfl
 have hnum:(Ap s t).num=n:=by rw[hn];rfl
 have hbr:IH s (Ap s t).num (Ap s u)=(match Ck s n (Ap s u) with|.error e=>(e,s)|.ok b=>(0,b)):=by rw[hnum];rfl
 cases hb9:Ck s n (Ap s u) with
 |error er=>rw[hb9] at hun hbr;exact AL (C3 rfl rfl) (λw f hM=>⟨(er,s,_),f,(by rw[hbr]),⟨λz h=>(by rw[hun] at h;cases h),λe h=>(by rw[hun] at h;cases h;exact⟨rfl,OY hb9⟩)⟩,hM.exm,(by have h7:=hM.res;rw[hbr] at h7;exact h7),tQ⟩)
 |ok b9=>rw[hb9] at hun hbr;exact AL (C3 rfl rfl) (λw f hM=>⟨(0,b9,_),f,(by rw[hbr]),⟨λz h=>(by rw[hun] at h;cases h;exact⟨rfl,rfl,rfl,Pp hw (Fp hw hn) (KP hw _) (Cn hw hbu) hb9⟩),λe h=>(by rw[hun] at h;cases h)⟩,hM.exm,(by have h7:=hM.res;rw[hbr] at h7;exact h7),tQ⟩)
 refine Aa 23 [1] (y<|λ_=>vI 43 false rfl rfl h2<|Aa 9 [0] (y<|λ_=>AJ 52 rfl rfl (λh5=>?_) (λh5=>?_)));refine Aa 7 [0,1] (y<|y<|λ_=>?_);obtain⟨n,hn⟩:=DV h5;refine NT (XX:=λ_ _=>False) rfl rfl (eC P3 rfl rfl) (λw f hM=>(La w f hM.vl sb mb s fr (10000-(k2:Int)) hM.res ⟨(hM.mi sb (.inl rfl)).2.1,(hM.mi mb (.inr rfl)).2.1⟩ hne hw (Ap s u).num (by rw[hn];exact Fp hw hn) (Ap s t) ha hc (Cn hw hbt) hM.f0).retP) (λ_=>(BB.stab (.inl rfl) (.inr rfl))) (λ_=>trivial) (λ_ _ _ _ _ h=>h.elim) ?_;rintro⟨⟩ -;refine Aa 6 [] (λ_=>?_)
 have hun:Gq (k2+1) s t.one u.one=(match Ck s n (Ap s t) with|.error e=>.error e|.ok b=>.ok (k2,b)):=by
  rw[JS,hn];obtain⟨tx,ka,hTc⟩:=Fe h2;rw[hTc];simp only[JZ]
  cases Ck s n (.con tx ka) with|error e=>rfl|ok b=>cases k2 <;> rfl
 have hnum:(Ap s u).num=n:=by rw[hn];rfl
 have hbr:IH s (Ap s u).num (Ap s t)=(match Ck s n (Ap s t) with|.error e=>(e,s)|.ok b=>(0,b)):=by rw[hnum];rfl
 cases hb9:Ck s n (Ap s t) with
 |error er=>rw[hb9] at hun hbr;exact AL (C3 rfl rfl) (λw f hM=>⟨(er,s,_),f,(by rw[hbr]),⟨λz h=>(by rw[hun] at h;cases h),λe h=>(by rw[hun] at h;cases h;exact⟨rfl,OY hb9⟩)⟩,hM.exm,(by have h7:=hM.res;rw[hbr] at h7;exact h7),tQ⟩)
 |ok b9=>rw[hb9] at hun hbr;exact AL (C3 rfl rfl) (λw f hM=>⟨(0,b9,_),f,(by rw[hbr]),⟨λz h=>(by rw[hun] at h;cases h;exact⟨rfl,rfl,rfl,Pp hw (Fp hw hn) (KP hw _) (Cn hw hbt) hb9⟩),λe h=>(by rw[hun] at h;cases h)⟩,hM.exm,(by have h7:=hM.res;rw[hbr] at h7;exact h7),tQ⟩)
 refine Aa 9 [1,0] (y<|y<|λ_=>AJ 67 rfl rfl (λh6=>?_) (λh6=>?_));refine Aa 20 [] (λ_=>?_);obtain⟨tx,ka,hTc⟩:=Fe h2;obtain⟨ty,kb,hUc⟩:=Fe h5;have hun:Gq (k2+1) s t.one u.one=.error 11:=by rw[JS,hTc,hUc];simp only[JZ];rw[if_pos (by have h8:=h6;rw[hTc,hUc] at h8;simp only[T1.tx] at h8;rw[h8];rfl)]
 exact AL (C3 rfl rfl) (λw f hM=>⟨(11,s,_),f,rfl,⟨λz h=>(by rw[hun] at h;cases h),λe h=>(by rw[hun] at h;cases h;exact⟨rfl,dC⟩)⟩,hM.exm,hM.res,tQ⟩);refine Aa 11 [1,0] (y<|y<|λ_=>AJ 61 rfl rfl (λh7=>?_) (λh7=>?_));refine Aa 9 [] (λ_=>?_);obtain⟨tx,ka,hTc⟩:=Fe h2;obtain⟨ty,kb,hUc⟩:=Fe h5;have hun:Gq (k2+1) s t.one u.one=.error 11:=by rw[JS,hTc,hUc];simp only[JZ];rw[if_pos (by have h9:=h7;rw[hTc,hUc] at h9;simp only[T1.kids] at h9;rw[h9];simp)]
 exact AL (C3 rfl rfl) (λw f hM=>⟨(11,s,_),f,rfl,⟨λz h=>(by rw[hun] at h;cases h),λe h=>(by rw[hun] at h;cases h;exact⟨rfl,dC⟩)⟩,hM.exm,hM.res,tQ⟩);refine Aa 6 [] (λ_=>?_);obtain⟨tx,ka,hTc⟩:=Fe h2;obtain⟨ty,kb,hUc⟩:=Fe h5;have hlen:(Ap s t).kids.len=(Ap s u).kids.len:=by have h9:(((Ap s t).kids.len:Int) != (Ap s u).kids.len)=false:=h7;simp at h9;omega
 have hun:Gq (k2+1) s t.one u.one=Gq k2 s (Ap s t).kids (Ap s u).kids:=by rw[JS];rw[hTc,hUc];simp only[JZ,T1.kids];rw[if_neg (by have h8:=h6;have h9:=h7;rw[hTc,hUc] at h8 h9;simp only[T1.tx,T1.kids] at h8 h9;rw[h8,h9];simp),Ty.app_nil,Ty.app_nil]
 refine Aa 8 [1] (y<|λ_=>?_);refine EZ (α:=Nat×Ty×Ty×Nat×BT) (λx=>x.2.1.len) (λx=>x.1+x.2.1.len=(Ap s t).kids.len∧x.2.2.1.len=x.2.1.len∧Gq k2 s (Ap s t).kids (Ap s u).kids=Gq x.2.2.2.1 x.2.2.2.2 x.2.1 x.2.2.1∧x.2.2.2.1≤k2∧Is x.2.2.2.2∧x.2.1.bnd∧x.2.2.1.bnd) (λx=>(E5 0 (pB sb) 4 (pB b1) 5 (pB b2) 78 (iV ((Ap s t).kids.len:Int)) 79 (iV (x.1:Int)))) (λx=>⟨LC sb mb,LC sb mb,BB 163 sb mb x.2.2.2.2 fr (10000-(x.2.2.2.1:Int)),w,f⟩) (λx=>[⟨b2,tC (Ap s u) ga gc,76,true⟩,⟨b1,tC (Ap s t) ha hc,76,true⟩]) (λx=>[]) (λx=>[]) (λx=>[λw f=>BI w f ha x.1 x.2.1,λw f=>BI w f ga x.1 x.2.2.1]) (0,(Ap s t).kids,(Ap s u).kids,k2,s) ⟨by simp,hlen.symm,rfl,Nat.le_refl _,hw,(Cn hw hbt).2,(Cn hw hbu).2⟩ lE (λw f hM=>hM.more (B':=[]) (F':=[λw f=>BI w f ha 0 (Ap s t).kids,λw f=>BI w f ga 0 (Ap s u).kids]) nE (AE.mem ⟨Al.at hM.f0,Al.at hM.f1,tQ⟩) (Aw.mem ⟨BI.mono,BI.mono,tQ⟩) |>.less (H':=[⟨b2,tC (Ap s u) ga gc,76,true⟩,⟨b1,tC (Ap s t) ha hc,76,true⟩]) (R':=[]) (B':=[]) (F':=[λw f=>BI w f ha 0 (Ap s t).kids,λw f=>BI w f ga 0 (Ap s u).kids]) sR sR nE (mR [0,1])) ?_;rintro⟨i,r,q,j,s2⟩ ⟨hi,hq,hrun,hjk,hw2,hrb,hqb⟩;dsimp only at hi hq hrun hjk hw2 hrb hqb ⊢;refine Aa 6 [] (λ_=>AJ 80 rfl rfl (λh8=>?_) (λh8=>?_));refine Aa 12 [] (λ_=>?_);have hil:i<(Ap s t).kids.len:=by have:=of_decide_eq_true h8;omega
 obtain⟨t2,r,rfl⟩:=Ty.cases1 r oM;rw[T1.len_cons] at hi hq;obtain⟨u2,q,rfl⟩:=Ty.cases1 q oM;rw[T1.len_cons] at hq;refine WN 0 rfl ?_;rintro⟨eb,eo,ea,ec⟩ rfl;refine WN 3 rfl ?_;rintro⟨pb,po,pa,pc⟩ rfl;refine Cv [0,1] Ak (rd [0,1,2,3,4,5,6,7,8,9,10] (.br 11 (.rd 12 .fin) .fin)) rfl kR<|A1 11 [1,101,0,0,100,0] (y<|aI oM<|y2<|y<|aI oM<|y2<|λ_=>Af rfl ?_ Aj);refine NT (XX:=λ_ _=>False) rfl rfl (eC YI rfl rfl) (λw f hM=>(ih j oM w f hM.vl sb mb s2 fr hM.res ⟨(hM.mi sb (.inl rfl)).2.1,(hM.mi mb (.inr rfl)).2.1⟩ hne hw2 oM t2 u2 ea ec pa pc (T1.bnd_cons.1 hrb).1 (T1.bnd_cons.1 hqb).1 hM.f2 hM.f0).retP) (λ_=>(BB.stab (.inl rfl) (.inr rfl))) (λ_=>trivial) (λ_ _ _ _ _ h=>h.elim) ?_;rintro⟨cd,s3,pr3⟩ ⟨hok,herr⟩;refine Aa 1 [] (λ_=>Au [0,1] rfl<|A1 1 [] (λ_=>Bf<|Aa 7 [] (λ_=>AJ 95 rfl rfl (λh9=>?_) (λh9=>?_))));obtain⟨er,her⟩:∃e,Gq j s2 t2.one u2.one=.error e:=by cases hx:Gq j s2 t2.one u2.one with|error e=>exact⟨e,rfl⟩|ok z=>have g9:=(hok z hx).1;rw[g9] at h9;cases h9
 refine Aa 10 [] (λ_=>U3<|Aa 2 [] (λ_=>?_));have hun2:Gq (k2+1) s t.one u.one=.error er:=by rw[hun,hrun,R5 _ _ _ _ _ _ (by omega),her];rfl
 exact AL (C3 rfl rfl) (λw f hM=>⟨(cd,s3,pr3),f,rfl,⟨λz h=>(by rw[hun2] at h;cases h),λe h=>(by rw[hun2] at h;cases h;exact herr _ her)⟩,hM.exm,hM.res,tQ⟩);obtain⟨z,hz⟩:∃z,Gq j s2 t2.one u2.one=.ok z:=by cases hx:Gq j s2 t2.one u2.one with|ok z=>exact⟨z,rfl⟩|error e=>have g9:=herr e hx;have g8:cd=0:=(by simpa using h9);exact absurd (g9.1.symm.trans g8) g9.2
 obtain⟨hz1,hz2,hz3,hz4⟩:=hok z hz;exact Aa 8 [] (aI ⟨oM,oM⟩<|λ_=>CY ((i+1,r,q,z.1,z.2)) (show r.len<(t2.cons r).len by rw[T1.len_cons];omega) ⟨show i+1+r.len=_ by omega,show q.len=r.len by omega,show Gq k2 s _ _=Gq z.1 z.2 r q by rw[hrun,R5 _ _ _ _ _ _ (by omega),hz];rfl,show z.1≤k2 by have:=rL _ _ _ _ _ hz;omega,hz4,(T1.bnd_cons.1 hrb).2,(T1.bnd_cons.1 hqb).2⟩ lE (λw f hM=>⟨_,by have hM2:=hM.less (H':=[⟨b2,tC (Ap s u) (some ⟨pb,po,none⟩) gc,76,true⟩,⟨b1,tC (Ap s t) (some ⟨eb,eo,none⟩) hc,76,true⟩]) (R':=[]) (B':=[]) (F':=[λw f=>BI w f (some ⟨eb,eo,none⟩) (i+1) r,λw f=>BI w f (some ⟨pb,po,none⟩) (i+1) q]) sR sR nE (mR [3,1]);rw[hz2,hz3] at hM2;exact hM2⟩));refine Aa 3 [] (λ_=>EH<|Aa 8 [] (λ_=>?_));obtain rfl:r=.nil:=Ty.len0 (by have:=of_decide_eq_false h8;omega);have hun2:Gq (k2+1) s t.one u.one=.ok (j,s2):=by rw[hun,hrun];cases j <;> rfl
 exact AL (C3 rfl rfl) (λw f hM=>⟨(0,s2,_),f,rfl,⟨λz h=>(by rw[hun2] at h;cases h;exact⟨rfl,rfl,rfl,hw2⟩),λe h=>(by rw[hun2] at h;cases h)⟩,hM.exm,hM.res,tQ⟩)
theorem Wt(k:Nat):fA prog 87 163 k:=Nat.strongRecOn k λk ih w f hv sb mb s fr hS hf hne hw hk t u a c a2 c2 hbt hbu hT hU=>WA k ih w f hv sb mb s fr hS hf hne hw hk t u a c a2 c2 hbt hbu hT hU
theorem Td(w:World)(f:Fq)(hv:Vl w f)(sb mb:Nat)(s:BT)(fr pr:Int)(hS:BB 163 sb mb s fr pr w f)(hf:f sb=0∧f mb=0)(hne:sb≠mb)(hw:Is s)(t u:T1)(a:Option Addr)(c:Nat)(a2:Option Addr)(c2:Nat)(hbt:t.bnd)(hbu:u.bnd)(hT:Al w f t.kids a c)(hU:Al w f u.kids a2 c2) :
  Bo prog 59 #[pB sb,tV t a c,tV u a2 c2] w (EC (α:=Int×BT×Int) (λx=>iV x.1) (λx=>(∀b,FT s t u=.ok b→x.1=0∧x.2.1=b∧Is b)∧∀e,FT s t u=.error e→x.1=e∧e≠0) (LC sb mb) (λx=>BB 163 sb mb x.2.1 fr x.2.2) (λ_=>[]) w f):=by
 refine Cg (X:=XS 163 sb mb s fr pr w f) (H:=[]) (R:=[]) (B:=[]) (Fs:=[λw f=>Al w f t.kids a c,λw f=>Al w f u.kids a2 c2]) (f:=f) func59 rfl rfl rfl (dS hv hS hf ⟨hT,hU,tQ⟩ ⟨Al.mono,Al.mono,tQ⟩)<|Aa 22 [] (λb1=>λb2=>λ_=>SJ (b:=sb) (I':=BB 163 sb mb s fr (10000-((10000:Nat):Int))) rfl rfl rfl rfl Hz rfl rfl rfl (.inl rfl) (λw f h=>h.1) (λw f w2 h hM hC hb=>⟨hb,let ⟨_,es,h2,h3⟩:=h;⟨es,h2.heap (hC.block mb (λe=>hne e.symm)),FG.mono (hC.fle (hM.mi sb (.inl rfl)).2.1) s es h3⟩⟩) (BB.stab (.inl rfl) (.inr rfl))<|Aa 3 [] (λ_=>Cv [0,1] Ak (rd [0,1,3] (.br 2 (.br 4 (.br 5 (.rd 6 .fin) .fin) .fin) .fin)) rfl kR<|A1 3 [1,0] (y<|y<|λ_=>Af rfl ?_ Aj)));refine Br rfl rfl (eC Qs rfl rfl) (λw f hM=>Mv w f hM.vl t a c hbt hM.f0) (λx=>⟨Al.mono,tQ⟩) ?_;rintro⟨ha,hc⟩ -;refine Aa 1 [] (λ_=>Au [0,1] rfl<|Af rfl ?_ Aj);refine Br rfl rfl (eC Qs rfl rfl) (λw f hM=>Mv w f hM.vl u a2 c2 hbu hM.f2) (λx=>⟨Al.mono,tQ⟩) ?_;rintro⟨ga,gc⟩ -;refine Aa 1 [] (λ_=>Au [0,1] rfl<|Af rfl ?_ Aj);refine NT (XX:=λ_ _=>False) rfl rfl (eC YI rfl rfl) (λw f hM=>(Wt 10000 w f hM.vl sb mb s fr hM.res ⟨(hM.mi sb (.inl rfl)).2.1,(hM.mi mb (.inr rfl)).2.1⟩ hne hw (Nat.le_refl _) t u ha hc ga gc hbt hbu hM.f1 hM.f0).retP) (λ_=>(BB.stab (.inl rfl) (.inr rfl))) (λ_=>trivial) (λ_ _ _ _ _ h=>h.elim) ?_;rintro⟨cd,s3,pr3⟩ ⟨hok,herr⟩;exact Aa 1 [] (λ_=>Au [0,1] rfl<|A1 1 [] (λ_=>Bf<|Aa 2 [] (λ_=>AL (C3 rfl rfl) (λw f hM=>⟨(cd,s3,pr3),f,rfl,⟨λb h=>(by rw[FT,RH] at h;cases hx:Gq 10000 s t.one u.one with|error e=>rw[hx] at h;cases h|ok z=>rw[hx] at h;cases h;exact⟨(hok z hx).1,(hok z hx).2.1,(hok z hx).2.2.2⟩),λe h=>(by rw[FT,RH] at h;cases hx:Gq 10000 s t.one u.one with|error e=>rw[hx] at h;cases h;exact herr _ hx|ok z=>rw[hx] at h;cases h)⟩,hM.exm,hM.res,tQ⟩))))
theorem Q4(w:World)(f:Fq)(hv:Vl w f)  :
  Bo prog 61 #[.slice none 0 0] w (Bx (α:=Unit) (λ_=>.slice none 0 0) (λ_=>True) (λ_=>[]) w f):=by
 refine Cg (X:=X0 w f) (H:=[]) (R:=[]) (B:=[]) (Fs:=[]) (f:=f) func61 rfl rfl rfl (BS hv tQ tQ)<|Aa 12 [] (λ_=>AJ 4 rfl rfl (λh1=>?_) (λh1=>?_));exact Aa 8 [] (λ_=>AL (C3 rfl rfl) (λw f hM=>⟨(),f,rfl,tQ,hM.exm,tQ⟩))
 cases h1
theorem Bl(w:World)(f:Fq)(hv:Vl w f)(tx:lU) :
  Bo prog 28 #[S tx,.slice none 0 0] w (Bx (α:=Unit) (λ_=>tV (.con tx .nil) none 0) (λ_=>True) (λ_=>[]) w f):=by
 refine Cg (X:=X0 w f) (H:=[]) (R:=[]) (B:=[]) (Fs:=[]) (f:=f) func28 rfl rfl rfl (BS hv tQ tQ)<|Aa 9 [] (λb1=>λ_=>Br rfl rfl (eC Yq rfl rfl) (λw f hM=>Q4 w f hM.vl) (λx=>trivial) ?_);rintro⟨⟩ -;exact Aa 5 [0] (y<|λ_=>AL (λw f hM=>A9 rfl (Ac rfl AV hM.k0 rfl)) (λw f hM=>⟨(),f,rfl,tQ,hM.exm,tQ⟩))
theorem WH(k:Nat)(ih:∀j,j<k→gD prog 97 163 j)(w:World)(f:Fq)(hv:Vl w f)(sb mb:Nat)(s:BT)(fr pr:Int)(hS:BB 163 sb mb s fr pr w f)(hw:Is s)(t:T1)(a:Option Addr)(c jj:Nat)(hb:t.bnd)(hT:Al w f t.kids a c)(hfin:B2 s k t.one=some jj) :
  Bo prog 97 #[pB sb,tV t a c] w (Bx (α:=Option Addr×Nat) (λx=>tV (AN s k t.one).hd x.1 x.2) (λ_=>True) (λx=>[λw f=>Al w f (AN s k t.one).hd.kids x.1 x.2]) w f):=by
 have hkb:=(Cn hw hb).1;refine Cg (X:=X0 w f) (H:=[]) (R:=[]) (B:=[]) (Fs:=[λw f=>Al w f t.kids a c]) (f:=f) func97 rfl rfl rfl (BS hv ⟨hT,tQ⟩ ⟨Al.mono,tQ⟩)<|Aa 10 [1] (λb1=>λb2=>y<|λ_=>Br rfl rfl (eC Gj rfl rfl) (λw f hM=>DH w f hM.vl sb mb s fr pr (BB.keep hS hM.exm hM.ent (λh=>h) (λh=>h)) hw t a c hb hM.f0) (λx=>⟨Al.mono,tQ⟩) ?_);rintro⟨ha,hc⟩ -;refine Aa 5 [1] (y<|λ_=>?_);obtain⟨k2,rfl⟩:∃q,k=q+1:=by cases k with|zero=>rw[Kf] at hfin;cases hfin|succ q=>exact⟨q,rfl⟩
 rw[Jv] at hfin;refine Aa 6 [1] (y<|λ_=>AJ 13 rfl rfl (λh1=>?_) (λh1=>?_));refine Aa 5 [1] (y<|λ_=>Br rfl rfl (eC GH rfl rfl) (λw f hM=>DA w f hM.vl (Ap s t).num) (λx=>trivial) ?_);rintro⟨⟩ -;refine Aa 5 [0] (y<|λ_=>?_);obtain⟨n,hn⟩:=DV h1;have hone:(AN s (k2+1) t.one).hd=.var n:=by rw[N4,hn]
 exact AL (λw f hM=>A9 rfl (Ac rfl AV hM.k0 rfl)) (λw f hM=>⟨(none,0),f,(by rw[hone,hn];rfl),tQ,hM.exm,⟨by rw[hone];exact Al.nil _ _ _ _,tQ⟩⟩);refine Aa 7 [1] (y<|λ_=>Br rfl rfl (eC Bu rfl rfl) (λw f hM=>Bl w f hM.vl (Ap s t).tx) (λx=>trivial) ?_);rintro⟨⟩ -;refine Aa 14 [0,2] (λb3=>y<|y<|λ_=>MD 76 4 ?_);refine EZ (α:=Nat×Ty×Ty×List Value×Option Addr×Nat×Nat) (λx=>x.2.1.len) (λx=>x.1+x.2.1.len=(Ap s t).kids.len∧x.2.2.1.len=x.1∧AN s k2 (Ap s t).kids=x.2.2.1.app (AN s x.2.2.2.2.2.2 x.2.1)∧B2 s x.2.2.2.2.2.2 x.2.1=some jj∧x.2.2.2.2.2.2≤k2∧x.2.1.bnd) (λx=>(E7 0 (pB sb) 3 (pB b1) 4 (pB b2) 5 (pB b3) 21 (.slice ha (Ap s t).kids.len hc) 22 (iV ((Ap s t).kids.len:Int)) 23 (iV (x.1:Int)))) (λx=>X0 w f) (λx=>[⟨b3,[iV 1,iV 0,S (Ap s t).tx,.slice x.2.2.2.2.1 x.1 x.2.2.2.2.2.1],76,true⟩,⟨b2,zT,76,true⟩,⟨b1,tC (Ap s t) ha hc,76,true⟩]) (λx=>[⟨76,4,x.2.2.2.2.1,x.2.2.2.2.2.1,x.1,x.2.2.2.1⟩]) (λx=>[]) (λx=>[λw f=>BI w f ha x.1 x.2.1,λw f=>Be w f x.2.2.1 x.2.2.2.1]) (0,(Ap s t).kids,.nil,[],none,0,k2) ⟨by simp,rfl,rfl,hfin,Nat.le_refl _,(Cn hw hb).2⟩ lE (λw f hM=>hM.more (B':=[]) (F':=[λw f=>BI w f ha 0 (Ap s t).kids,λw f=>Be w f .nil []]) nE (AE.mem ⟨Al.at hM.f0,rfl,tQ⟩) (Aw.mem ⟨BI.mono,Be.mono,tQ⟩) |>.less sR sR nE (mR [0,1])) ?_;rintro⟨i,r,dn,xs,ra,rc,j⟩ ⟨hi,hdl,hk,hj1,hjk,hrb⟩;dsimp only at hi hdl hk hj1 hjk hrb ⊢;refine Aa 6 [] (λ_=>AJ 24 rfl rfl (λh2=>?_) (λh2=>?_));refine Aa 6 [] (λ_=>?_);have hil:i<(Ap s t).kids.len:=by have:=of_decide_eq_true h2;omega
 obtain⟨t2,r,rfl⟩:=Ty.cases1 r oM;rw[T1.len_cons] at hi;obtain⟨j2,hj2,hj3⟩:∃j2,B2 s j t2.one=some j2∧B2 s j2 r=some jj:=by rw[IF] at hj1;cases hx:B2 s j t2.one with|none=>rw[hx] at hj1;cases hj1|some q=>rw[hx] at hj1;exact⟨q,rfl,hj1⟩
 refine WN 0 rfl ?_;rintro⟨eb,eo,ka,kc⟩ rfl;refine Aa 7 [100,0,0] (aI oM<|y2<|λb4=>y<|λ_=>Cv [0,2,3] Ak (rd [0,2,3] (.br 1 (.br 4 (.br 5 (.br 6 (.rd 7 (.br 8 .fin .fin)) .fin) .fin) .fin) (.br 4 (.br 1 (.br 5 (.br 6 (.rd 7 (.br 8 .fin .fin)) .fin) .fin) (.br 5 (.br 1 (.br 6 (.rd 7 (.br 8 .fin .fin)) .fin) .fin) .fin)) .fin))) rfl kR<|A1 3 [0] (y<|λ_=>Af rfl ?_ ?_));refine Aa 2 [1] (y<|λ_=>Au [0,2,3] rfl<|Af rfl ?_ Aj);refine Br rfl rfl (eC Tg rfl rfl) (λw f hM=>ih j oM w f hM.vl sb mb s fr pr (BB.keep hS hM.exm hM.ent (λh=>h) (λh=>h)) hw t2 ka kc j2 (T1.bnd_cons.1 hrb).1 hM.f0 hj2) (λx=>⟨Al.mono,tQ⟩) ?_;rintro⟨a2,c2⟩ -;refine Aa 1 [] (λ_=>Au [0,2,3] rfl<|Af rfl ?_ Aj);refine Aa 2 [] (λb5=>λ_=>Au [1,3,4] rfl<|Af rfl ?_ Aj);refine CT 0 0 rfl rfl CU rfl rfl rfl rfl rfl rfl rfl rfl (λ_ _=>rfl) oM oM λra2 rc2=>Aa 1 [] (λ_=>Au [1,3,4] rfl<|A1 1 [] (λ_=>Af rfl ?_ Aj));exact Aa 2 [2] (y<|λ_=>Au [1,3,4] rfl<|Bf<|Aa 6 [] (aI ⟨oM,oM⟩<|λ_=>CY ((i+1,r,dn.snoc (AN s j t2.one).hd,xs++tC (AN s j t2.one).hd a2 c2,ra2,rc2,j2)) (show r.len<(t2.cons r).len by rw[T1.len_cons];omega) ⟨show i+1+r.len=_ by omega,show (dn.snoc _).len=i+1 by rw[Ty.len_snoc,hdl],show AN s k2 _=(dn.snoc _).app (AN s j2 r) by rw[hk,KZ hj2 hj3,Ty.snoc_app],hj3,show j2≤k2 by have:=Ej s _ _ _ hj2;omega,(T1.bnd_cons.1 hrb).2⟩ lE (λw f hM=>⟨_,(hM.more (B':=[]) (F':=[λw f=>Be w f (dn.snoc (AN s j t2.one).hd) (xs++tC (AN s j t2.one).hd a2 c2)]) nE (AE.mem ⟨Be.snoc hM.f0 hM.f4,tQ⟩) (Aw.mem ⟨Be.mono,tQ⟩)).less (.cons _ (.cons _ sR)) sR nE (mR [3,0])⟩)));refine Af rfl ?_ Aj;refine Br rfl rfl (eC Tg rfl rfl) (λw f hM=>ih j oM w f hM.vl sb mb s fr pr (BB.keep hS hM.exm hM.ent (λh=>h) (λh=>h)) hw t2 ka kc j2 (T1.bnd_cons.1 hrb).1 hM.f0 hj2) (λx=>⟨Al.mono,tQ⟩) ?_;rintro⟨a2,c2⟩ -;refine Aa 1 [] (λ_=>Au [0,2,3] rfl<|Af rfl ?_ ?_);refine Aa 2 [1] (y<|λ_=>Au [0,2,3] rfl<|Af rfl ?_ Aj);refine Aa 2 [] (λb6=>λ_=>Au [1,3,4] rfl<|Af rfl ?_ Aj);refine CT 0 0 rfl rfl CU rfl rfl rfl rfl rfl rfl rfl rfl (λ_ _=>rfl) oM oM λra2 rc2=>Aa 1 [] (λ_=>Au [1,3,4] rfl<|A1 1 [] (λ_=>Af rfl ?_ Aj));exact Aa 2 [2] (y<|λ_=>Au [1,3,4] rfl<|Bf<|Aa 6 [] (aI ⟨oM,oM⟩<|λ_=>CY ((i+1,r,dn.snoc (AN s j t2.one).hd,xs++tC (AN s j t2.one).hd a2 c2,ra2,rc2,j2)) (show r.len<(t2.cons r).len by rw[T1.len_cons];omega) ⟨show i+1+r.len=_ by omega,show (dn.snoc _).len=i+1 by rw[Ty.len_snoc,hdl],show AN s k2 _=(dn.snoc _).app (AN s j2 r) by rw[hk,KZ hj2 hj3,Ty.snoc_app],hj3,show j2≤k2 by have:=Ej s _ _ _ hj2;omega,(T1.bnd_cons.1 hrb).2⟩ lE (λw f hM=>⟨_,(hM.more (B':=[]) (F':=[λw f=>Be w f (dn.snoc (AN s j t2.one).hd) (xs++tC (AN s j t2.one).hd a2 c2)]) nE (AE.mem ⟨Be.snoc hM.f0 hM.f4,tQ⟩) (Aw.mem ⟨Be.mono,tQ⟩)).less (.cons _ (.cons _ sR)) sR nE (mR [3,0])⟩)));refine Af rfl ?_ Aj;refine Aa 2 [] (λb7=>λ_=>Au [1,3,4] rfl<|Af rfl ?_ Aj);refine Aa 2 [2] (y<|λ_=>Au [1,3,4] rfl<|Af rfl ?_ Aj)
 refine CT 0 0 rfl rfl CU rfl rfl rfl rfl rfl rfl rfl rfl (λ_ _=>rfl) oM oM λra2 rc2=>Aa 1 [] (λ_=>Au [1,3,4] rfl<|A1 1 [] (λ_=>Af rfl ?_ Aj));exact Aa 2 [2] (y<|λ_=>Au [1,3,4] rfl<|Bf<|Aa 6 [] (aI ⟨oM,oM⟩<|λ_=>CY ((i+1,r,dn.snoc (AN s j t2.one).hd,xs++tC (AN s j t2.one).hd a2 c2,ra2,rc2,j2)) (show r.len<(t2.cons r).len by rw[T1.len_cons];omega) ⟨show i+1+r.len=_ by omega,show (dn.snoc _).len=i+1 by rw[Ty.len_snoc,hdl],show AN s k2 _=(dn.snoc _).app (AN s j2 r) by rw[hk,KZ hj2 hj3,Ty.snoc_app],hj3,show j2≤k2 by have:=Ej s _ _ _ hj2;omega,(T1.bnd_cons.1 hrb).2⟩ lE (λw f hM=>⟨_,(hM.more (B':=[]) (F':=[λw f=>Be w f (dn.snoc (AN s j t2.one).hd) (xs++tC (AN s j t2.one).hd a2 c2)]) nE (AE.mem ⟨Be.snoc hM.f0 hM.f4,tQ⟩) (Aw.mem ⟨Be.mono,tQ⟩)).less (.cons _ (.cons _ sR)) sR nE (mR [3,0])⟩)));refine Aa 3 [] (λ_=>EH<|Aa 9 [0,1] (y<|y<|λ_=>?_));obtain rfl:r=.nil:=Ty.len0 (by have:=of_decide_eq_false h2;omega);rw[GC,Ty.app_nil] at hk;obtain⟨tx,ka,hTc⟩:=Fe h1;have hone:(AN s (k2+1) t.one).hd=.con tx dn:=by rw[N4,hTc,← hk,hTc];rfl
 have htx:(Ap s t).tx=tx:=by rw[hTc];rfl
 rcases Nat.eq_zero_or_pos dn.len with h0|h0
 · exact AL (λw f hM=>A9 rfl (Ac rfl AV hM.k1 rfl)) (λw f hM=>⟨(ra,rc),f,(by rw[hone,htx,← hdl];rfl),tQ,hM.exm,⟨by rw[hone];obtain rfl:=Ty.len0 h0;exact Al.nil _ _ _ _,tQ⟩⟩)
 · exact AL (λw f hM=>A9 rfl (Ac rfl AV hM.k1 rfl)) (λw f hM=>let ⟨f2,hM2,hF⟩:=Me hM hM.f1 h0;⟨(ra,rc),f2,(by rw[hone,htx,← hdl];rfl),tQ,hM2.exm,⟨by rw[hone];exact hF,tQ⟩⟩)
theorem Uf(k:Nat):gD prog 97 163 k:=Nat.strongRecOn k λk ih w f hv sb mb s fr pr hS hw t a c j hb hT hj=>WH k ih w f hv sb mb s fr pr hS hw t a c j hb hT hj
end Go.Proofs.YtelmolopaolbcaaGreatDoor
