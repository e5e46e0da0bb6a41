/- What it rests on, part 3. -/
import Derived.Test.YtgdndhedjlmagaaGreatDoorGw2
import Derived.RangeFuncNested
import Derived.RangeFuncCalls
import Derived.RangeFuncLeaves
set_option linter.unusedVariables false
set_option linter.unusedSimpArgs false
namespace Go.Proofs.YtgdndhedjlmagaaGreatDoor
open Go.SW Go.SP Go.RowKit Go.Proofs.Tryz
theorem TB(n:Nat)(ih:∀n',n=n'+1→∀ (w:wO) (f:Fq) (_:Vl w f) (_:D3 w f) (t:A4) (k:Fo) (a:oA) (c:Nat),GK n' t k→Eo w f k a c→BU prog 104 #[fV t a k.len c] w (Im (Dw (n'+1) t k) w f) (IA 40 (Dw (n'+1) t k) w f))(w:wO)(f:Fq)(hv:Vl w f)(hJ:D3 w f)(t:A4)(k:Fo)(ka:oA)(kc:Nat)(hp:GK n t k)(hL:Eo w f k ka kc) :
  BU prog 104 #[fV t ka k.len kc] w (Im (Dw (n+1) t k) w f) (IA 40 (Dw (n+1) t k) w f):=by
 refine Oe (X:=X0 w f) (H:=[]) (R:=[]) (B:=[]) (Fs:=[λw f=>Eo w f k ka kc,λw f=>D3 w f]) (f:=f) func104 C C C (CC hv ⟨hL,hJ,tQ⟩ ⟨Eo.mono,D3.mono,tQ⟩)<|Aa 21 [1] (λb1=>λb2=>y<|λ_=>Bb 8 C C (λF=>?_) (λF=>?_));exact Aa 16 [1,1,0] (y<|y<|y<|λ_=>Bc (λw f D=>AG C (Ae C BI D.k0 C)) (λw f D=>⟨(⟨23,t.ln,t.co,[],t.nm,.nil⟩,none,0),f,C,(by unfold Dw;simp[SP.need,Av,F]),D.exm,⟨⟨Nat.zero_le _,.inl C⟩,tQ⟩⟩));refine Aa 7 [] (λ_=>Bb 17 C C (λG=>?_) (λG=>?_));exact Aa 7 [1,1] (y<|y<|λ_=>D1 C C (eC Bq C C) (λw f D=>AF _ t _ _ _ _ _ _)<|Aa 6 [0] (y<|λ_=>Bc (λw f D=>AG C (Ae C BI D.k0 C)) (λw f D=>⟨(⟨24,t.ln,t.co,t.tx,0,.nil⟩,none,0),f,C,(by unfold Dw;simp[SP.need,Av,F,G]),D.exm,⟨⟨Nat.zero_le _,.inl C⟩,tQ⟩⟩)));refine Aa 7 [] (λ_=>Bb 24 C C (λJ=>?_) (λJ=>?_));exact Aa 7 [1,1] (y<|y<|λ_=>D1 C C (eC Bq C C) (λw f D=>AF _ t _ _ _ _ _ _)<|Aa 6 [0] (y<|λ_=>Bc (λw f D=>AG C (Ae C BI D.k0 C)) (λw f D=>⟨(⟨26,t.ln,t.co,t.tx,0,.nil⟩,none,0),f,C,(by unfold Dw;simp[SP.need,Av,F,G,J]),D.exm,⟨⟨Nat.zero_le _,.inl C⟩,tQ⟩⟩)));refine Aa 7 [] (λ_=>Bb 31 C C (λL=>?_) (λL=>?_));refine Aa 2 [] (λ_=>Dh [0,1] Aq (.rd 0 (.rd 1 (.br 2 (.br 3 .fin .fin) .fin))) C kR<|A9 2 [1,1] (y<|y<|λ_=>Ah C ?_ Aj));refine D1 C C (eC Vx C C) (λw f D=>J3 _ (D3.gl D.f1) t _ hp.1.1 hp.1.2)<|Aa 1 [] (λ_=>Az [0,1] C<|Ah C ?_ Aj);refine Bg C C (eC AI C C) (λw2 f2 he K=>⟨C,_,f2,C,(by unfold Dw;simp[SP.need,Av,he,F,G,J,L]),K⟩) λhn1=>Aa 1 [] (λ_=>Az [0,1] C<|Bx<|Aa 4 [1] (y<|λ_=>BA C C (eC cF C C) (λw f D=>Og w f D.vl D.f1 t _ _ _) (λ_=>⟨Ba.mono,tQ⟩) ?_));rintro⟨nd1,and1,cnd1⟩ Z;dsimp only at Z ⊢;exact Aa 6 [0] (y<|λ_=>Bc (λw f D=>AG C (Ae C BI D.k0 C)) (λw f D=>⟨(nd1,and1,cnd1),f,C,(by unfold Dw;simp[SP.need,Av,F,G,J,L,hn1,Z]),D.exm,⟨D.f0,tQ⟩⟩));refine Aa 7 [] (λ_=>Bb 39 C C (λW=>?_) (λW=>?_));exact Aa 3 [1] (y<|λ_=>sA C C (eC UX C C) (pe:=λe=>e=(t.ln,t.co)) (T:=40) (λw f D=>(IY w t _).mono (λ_ _ h=>h.elim) λ_ w2 ⟨F,G⟩=>⟨_,f,F,C,CQ.of_ext G D.vl⟩) (λe w2 f2 he K=>by subst he;exact⟨C,_,f2,C,(by unfold Dw;simp[SP.need,Av,F,G,J,L,W]),K⟩));refine Aa 13 [1] (y<|λ_=>Bb 46 C C (λO=>?_) (λO=>?_));refine Aa 2 [] (λ_=>?_);obtain rfl:k=.nil:=Fo.len0 (by have h9:((k.len:Int)==0)=true:=O;have:=beq_iff_eq.1 h9;omega);exact Aa 2 [1] (y<|λ_=>D1 C C (eC Bq C C) (λw f D=>AF _ t _ _ _ _ _ _)<|Aa 5 [0] (y<|λ_=>Bc (λw f D=>AG C (Ae C BI D.k0 C)) (λw f D=>⟨(⟨25,t.ln,t.co,[],0,.nil⟩,none,0),f,C,(by unfold Dw;simp[SP.need,Av,F,G,J,L,W,O]),D.exm,⟨⟨Nat.zero_le _,.inl C⟩,tQ⟩⟩)));refine Aa 4 [] (λ_=>?_);obtain⟨h,hk,r,rfl⟩:=Fo.cases1 k (by have h9:((k.len:Int)==0)=false:=O;have:=beq_eq_false_iff_ne.1 h9;omega)
 obtain⟨hto,hko,hkl,Y⟩:=hp;have hkl2:r.len+1≤100000:=hkl;obtain⟨n,rfl⟩:∃q,n=q+1:=by cases n with|zero=>exact absurd Y (by simp[Fo.deep])|succ q=>exact⟨q,C⟩
 simp only[Fo.deep,Bool.and_eq_true] at Y;refine sH 0 C<|QQ 1 C<|Pf 0 C ?_;rintro⟨eb,eo,hka,hkc⟩ rfl;refine Dh [0,1] Aq (rd [0,1,2,3,4,5,6] (.br 7 (.br 8 (.rd 9 .fin) .fin) .fin)) C kR<|A9 6 [1,100,0,1] (y<|aI (by simp only[Fo.len];omega)<|y2<|y<|λ_=>HX C C C (λw hK=>Hm C C C LG)<|Ah C ?_ Aj);refine Aa 2 [] (λb3=>λ_=>Az [1,2] C<|Ah C ?_ Aj);refine Aa 2 [0] (y<|λ_=>Az [1,2] C<|A9 1 [] (λ_=>Bx<|Aa 10 [0] (y<|λ_=>Bb 59 C C (λh7=>?_) (λh7=>?_))));refine Aa 2 [] (λ_=>Dh [0,1,2] Aq (rd [0,1,2] (.br 3 (.br 4 .fin .fin) .fin)) C kR<|A9 3 [2] (y<|λ_=>Ah C ?_ Aj));refine D1 C C (eC IC C C) (λw f D=>Dz _ _ _ _)<|Aa 1 [] (λ_=>Az [0,1,2] C<|Ah C ?_ Aj);refine Bg C C (eC AI C C) (λw2 f2 he K=>⟨C,_,f2,C,(by unfold Dw;simp[SP.need,Av,he,F,G,J,L,W,O,h7]),K⟩) λhn2=>Aa 1 [] (λ_=>Az [0,1,2] C<|Bx<|Aa 2 [] (λ_=>Dh [0,2] Aq (rd [0,1,2,3,4] (.br 5 (.br 6 (.br 7 .fin .fin) .fin) .fin)) C kR<|A9 5 [1,0] (y<|y<|λ_=>Ah C ?_ Aj)));refine JX C C (eC EK C C) (λw f D=>Cg 104 RP (Dw (n+1)) (GK n) (λw f hv hJ t k a c hd hT=>ih n C w f hv hJ t k a c hd hT) w f D.vl D.f5 r _ _ (OV n r hko.2.2.2 Y.2) oM D.f3) (λ_=>⟨Ba.mono,tQ⟩) (λe w2 f2 he K=>⟨C,e,f2,C,(by unfold Dw;simp[SP.need,Av,he,F,G,J,L,W,O,h7,hn2]),K⟩) ?_;rintro⟨⟨nds1,xnds1⟩,ands1,cnds1⟩ Q;dsimp only at Q ⊢;refine Aa 1 [] (λ_=>Az [0,2] C<|Ah C ?_ Aj);refine D1 C C (eC Bq C C) (λw f D=>AF _ t _ _ _ _ _ _)<|Aa 1 [] (λ_=>Az [0,2] C<|Ah C ?_ Aj);exact Aa 2 [1] (y<|λ_=>Az [0,2] C<|Bx<|Aa 3 [] (λ_=>Bc (λw f D=>AG C (Ae C BI D.k1 C)) (λw f D=>⟨(⟨26,t.ln,t.co,h.tx,0,nds1⟩,ands1,cnds1),f,C,(by unfold Dw;simp[SP.need,Av,F,G,J,L,W,O,h7,hn2,Q]),D.exm,⟨D.f0,tQ⟩⟩)));refine Aa 4 [] (λ_=>Dh [0,1,2] Aq (.rd 0 (.rd 1 (.br 2 (rd [3,4,5] (.br 6 (.rd 7 (.br 8 .fin .fin)) .fin)) .fin))) C kR<|A9 2 [2,0] (y<|y<|λ_=>Ah C ?_ Aj));refine D1 C C (eC KU C C) (λw f D=>DF _ h _ _)<|Aa 1 [] (λ_=>Az [0,1,2] C<|A9 1 [] (λ_=>K4 75 C (λh8=>?_) (λh8=>?_)));refine A9 2 [] (λ_=>Ah C ?_ Aj);refine D1 C C (eC IC C C) (λw f D=>Dz _ _ _ _)<|Aa 1 [] (λ_=>Az [0,1,2] C<|A9 1 [] (λ_=>Ah C ?_ Aj));refine Bg C C (eC AI C C) (λw2 f2 he K=>⟨C,_,f2,C,(by unfold Dw;simp[SP.need,Av,he,F,G,J,L,W,O,h7,h8]),K⟩) λhn3=>Aa 1 [] (λ_=>Az [0,1,2] C<|Bx<|Aa 2 [] (λ_=>Dh [0,2] Aq (.rd 0 (.rd 1 (.br 2 (.br 3 (.br 4 .fin .fin) .fin) .fin))) C kR<|A9 2 [1] (y<|λ_=>Ah C ?_ Aj)));refine JX C C (eC EK C C) (λw f D=>Cg 104 RP (Dw (n+1)) (GK n) (λw f hv hJ t k a c hd hT=>ih n C w f hv hJ t k a c hd hT) w f D.vl D.f5 r _ _ (OV n r hko.2.2.2 Y.2) oM D.f3) (λ_=>⟨Ba.mono,tQ⟩) (λe w2 f2 he K=>⟨C,e,f2,C,(by unfold Dw;simp[SP.need,Av,he,F,G,J,L,W,O,h7,h8,hn3]),K⟩) ?_;rintro⟨⟨nds2,xnds2⟩,ands2,cnds2⟩ U;dsimp only at U ⊢
 refine Aa 1 [] (λ_=>Az [0,2] C<|Ah C ?_ Aj);refine D1 C C (eC Bq C C) (λw f D=>AF _ t _ _ _ _ _ _)<|Aa 1 [] (λ_=>Az [0,2] C<|Ah C ?_ Aj);exact Aa 2 [1] (y<|λ_=>Az [0,2] C<|Bx<|Aa 2 [] (λ_=>Bc (λw f D=>AG C (Ae C BI D.k1 C)) (λw f D=>⟨(⟨27,t.ln,t.co,[],0,nds2⟩,ands2,cnds2),f,C,(by unfold Dw;simp[SP.need,Av,F,G,J,L,W,O,h7,h8,hn3,U]),D.exm,⟨D.f0,tQ⟩⟩)));refine A9 2 [] (λ_=>Ah C ?_ Aj);refine Aa 2 [] (λ_=>Az [0,1,2] C<|A9 1 [] (λ_=>Ah C ?_ Aj));refine Bg C C (eC AI C C) (λw2 f2 he K=>⟨C,_,f2,C,(by unfold Dw;simp[SP.need,Av,he,F,G,J,L,W,O,h7,h8]),K⟩) λhn4=>?_
 cases hn4
theorem Qj:∀n,∀(w:wO)(f:Fq)(_:Vl w f)(_:D3 w f)(t:A4)(k:Fo)(a:oA)(c:Nat),GK n t k→Eo w f k a c→BU prog 104 #[fV t a k.len c] w (Im (Dw (n+1) t k) w f) (IA 40 (Dw (n+1) t k) w f)
 |0=>TB 0 (λ_ D=>by cases D)
 |n+1=>TB (n+1) (λn' h=>by cases h;exact Qj n)
theorem Pp(w:wO)(f:Fq)(L:Vl w f)(t:A4)(k:Fo)(ka:oA)(kc:Nat)(O:Eo w f k ka kc) :
  BF prog 26 #[fV t ka k.len kc] w (Ce (α:=Unit) (λ_=>.bool (QL t k)) (λ_=>True) (λ_=>[]) w f):=by
 refine Df (X:=X0 w f) (H:=[]) (R:=[]) (B:=[]) (Fs:=[λw f=>Eo w f k ka kc]) (f:=f) func26 C C C (CC L ⟨O,tQ⟩ ⟨Eo.mono,tQ⟩)<|Aa 7 [] (λb1=>λ_=>?_)
 cases k with
 |nil =>
  refine Aa 2 [0] (y<|λ_=>D1 C C (eC Hg C C) (λw f D=>CD _ t _)<|Aa 1 [] (λ_=>Bb 5 C C (λF=>?_) (λF=>?_)));refine Aa 6 [0] (y<|λ_=>Bb 11 C C (λJ=>?_) (λJ=>?_));simp[Fo.len] at J;exact Aa 10 [] (λ_=>Bc (DE C C) (λw f D=>⟨(),f,(by simp[QL,F]),tQ,D.exm,tQ⟩));exact Aa 16 [] (λ_=>Bc (DE C C) (λw f D=>⟨(),f,(by simp[QL,F]),tQ,D.exm,tQ⟩))
 |cons h Y r =>
  refine QQ 0 C<|Pf 0 C ?_;rintro⟨Z,eo,Q,U⟩ rfl;refine Aa 2 [0] (y<|λ_=>D1 C C (eC Hg C C) (λw f D=>CD _ t _)<|Aa 1 [] (λ_=>Bb 5 C C (λG=>?_) (λG=>?_)));refine Aa 6 [0] (y<|λ_=>Bb 11 C C (λK=>?_) (λK=>?_));exact Aa 4 [0,100,0] (y<|aI (by simp only[Fo.len];omega)<|y2<|λ_=>D1 C C (eC KU C C) (λw f D=>DF _ h _ _)<|Aa 5 [] (λ_=>Bc (DE C C) (λw f D=>⟨(),f,(by simp[QL,G]),tQ,D.exm,tQ⟩)));have W:=dF K;simp only[Fo.len] at W;omega;exact Aa 16 [] (λ_=>Bc (DE C C) (λw f D=>⟨(),f,(by simp[QL,G]),tQ,D.exm,tQ⟩))
set_option maxHeartbeats 1000000 in
theorem YU(n:Nat)(ihx:∀ (w:wO) (f:Fq) (_:Vl w f) (_:D3 w f) (t:A4) (k:Fo) (a:oA) (c:Nat),GK n t k→Eo w f k a c→BU prog 25 #[fV t a k.len c] w (Im (AO (n+1) t k) w f) (IA 40 (AO (n+1) t k) w f))(iha:∀ (w:wO) (f:Fq) (_:Vl w f) (_:D3 w f) (t:A4) (k:Fo) (a:oA) (c:Nat),GK n t k→Eo w f k a c→BU prog 77 #[fV t a k.len c] w (Im (Fb (n+1) (AO (n+1)) t k) w f) (IA 40 (Fb (n+1) (AO (n+1)) t k) w f))(w:wO)(f:Fq)(hv:Vl w f)(hJ:D3 w f)(t:A4)(k:Fo)(ka:oA)(kc:Nat)(wd:lU)(l:Fo)(la:oA)(lc:Nat)(F:l.all (GK n))(hlen:l.len≤100000)(hL:Eo w f l la lc) :
  BU prog 48 #[fV t ka k.len kc,S wd,.slice la l.len lc] w (Im (Bf (n+1) (AO (n+1)) t wd l) w f) (IA 40 (Bf (n+1) (AO (n+1)) t wd l) w f):=by
 refine Oe (X:=X0 w f) (H:=[]) (R:=[]) (B:=[]) (Fs:=[λw f=>Eo w f l la lc,λw f=>D3 w f]) (f:=f) func48 C C C (CC hv ⟨hL,hJ,tQ⟩ ⟨Eo.mono,D3.mono,tQ⟩)<|Aa 26 [] (λb1=>λb2=>λ_=>Bb 13 C C (λO=>?_) (λO=>?_));obtain rfl:=beq_iff_eq.1 O;refine Aa 2 [] (λ_=>?_);rcases Fo.two l with ⟨p,pk,b,bk,rfl⟩|hne
 refine QQ 0 C<|Pf 0 C ?_;rintro⟨eb0,eo0,k0a,k0c⟩ rfl;refine ZN 1 C ?_;rintro⟨k1a,k1c⟩;refine Dh [0,1] Aq (rd [0,1,2,3,4,5,6] (.br 7 (rd [8,9,10,11,12,13,14] (.br 15 (rd [16,17,18,19,20,21] (.br 22 (.rd 23 (.br 24 .fin .fin)) .fin)) .fin)) .fin)) C kR<|A9 4 [1] (y<|λ_=>K4 18 C (λh2=>?_) (λh2=>?_));refine A9 3 [101,0] (aI (by simp only[Fo.len];omega)<|y2<|λ_=>Ah C ?_ Aj);refine D1 C C (eC Hg C C) (λw f D=>CD _ p _)<|Aa 1 [] (λ_=>Az [0,1] C<|A9 2 [] (λ_=>K4 24 C (λh3=>?_) (λh3=>?_)));refine A9 5 [101,5] (aI (by simp only[Fo.len];omega)<|y2<|λ_=>Ah C ?_ Aj);refine D1 C C (eC IC C C) (λw f D=>Dz _ _ _ _)<|Aa 1 [] (λ_=>Az [0,1] C<|A9 2 [] (λ_=>K4 32 C (λh4=>?_) (λh4=>?_)));refine A9 4 [101,5] (aI (by simp only[Fo.len];omega)<|y2<|λ_=>Ah C ?_ Aj);refine BA C C (eC uQ C C) (λw f D=>UB w f D.vl D.f6 pk _ _ (Fo.ok.all F.1.2.1) F.1.2.2.1 D.f2) (λ_=>trivial) ?_;rintro⟨⟩ -;refine Aa 1 [] (λ_=>Az [0,1] C<|A9 1 [] (λ_=>Ah C ?_ Aj));refine Bg C C (eC AI C C) (λY f2 he G=>⟨C,_,f2,C,(by simp[Bf,SP.need,Av,he,h2,h3,h4]),G⟩) λhn1=>Aa 1 [] (λ_=>Az [0,1] C<|Bx<|Aa 2 [] (λ_=>Dh [1] Aq (rd [0,1,2,3,4,6,7,8] (.br 5 (.br 9 (.br 10 (.br 11 (.br 12 (.br 13 .fin .fin) .fin) .fin) .fin) .fin) .fin)) C kR<|A9 8 [0,101,5,100,0] (y<|aI (by simp only[Fo.len];omega)<|y2<|aI (by simp only[Fo.len];omega)<|y2<|λ_=>Ah C ?_ Aj)));refine YZ C C (eC EK C C) (λw f D=>Hx 75 cF H2 (λ_ _=>True) (λw f hv hJ t k a c hd hT=>(Og w f hv hJ t k a c).retP) w f D.vl D.f6 pk _ _ (Fo.all_true _) F.1.2.2.1 D.f2) (λ_=>⟨Cu.mono,tQ⟩) (λe Y f2 he G=>⟨C,e,f2,C,(by simp[Bf,SP.need,Av,he,h2,h3,h4,hn1]),G⟩) ?_;rintro⟨nds1,xnds1⟩ ands1 cnds1 hnds1;dsimp only at hnds1 ⊢;have hnl:=Ey hnds1;have hpl:=F.1.2.2.1;refine Aa 1 [] (λ_=>Az [1] C<|Ah C ?_ Aj);refine JX C C (eC DB C C) (λw f D=>ihx w f D.vl D.f7 b bk _ _ F.2.1 D.f1) (λ_=>⟨Ba.mono,tQ⟩) (λe Y f2 he G=>⟨C,e,f2,C,(by simp[Bf,SP.need,Av,he,h2,h3,h4,hn1,hnds1]),G⟩) ?_;rintro⟨nd1,and1,cnd1⟩ hnd1;dsimp only at hnd1 ⊢;refine Aa 1 [] (λ_=>Az [1] C<|Ah C ?_ Aj);refine Aa 2 [] (λb3=>λ_=>Az [2] C<|Ah C ?_ Aj);refine DI 0 0 C C MV C C C C C C C C (λ_ _=>C) oM oM λands2 cnds2=>DN (λw f=>Cu w f (nds1.app nd1.one) (xnds1++Nk nd1.op nd1.ln nd1.co nd1.tx nd1.nm and1 nd1.kids.len cnd1)) (λw f D=>Cu.app (Cu.one D.f0) D.f1) Cu.mono<|Sp (λw f=>Ba w f (nds1.app nd1.one) ands2 cnds2) Ba.mono (λw f D=>KR D D.f0)<|Aa 1 [] (λ_=>Az [2] C<|Ah C ?_ Aj);refine D1 C C (eC Bq C C) (λw f D=>AF _ t _ _ _ _ _ _)<|Aa 1 [] (λ_=>Az [2] C<|Ah C ?_ Aj)
 exact Aa 2 [1] (y<|λ_=>Az [2] C<|Bx<|Aa 4 [] (λ_=>Bc (λw f D=>AG C (Ae C BI D.k1 C)) (λw f D=>⟨(⟨7,t.ln,t.co,[],0,(nds1.app nd1.one)⟩,ands2,cnds2),f,(by simp[nV,Nd.app_len,N.one,N.cons,Nd.len,Nat.add_comm]),(by simp[Bf,SP.need,Av,h2,h3,h4,hn1,hnds1,hnd1]),D.exm,⟨D.f0,tQ⟩⟩)));refine A9 4 [] (λ_=>Ah C ?_ Aj);refine Aa 2 [] (λ_=>Az [0,1] C<|A9 1 [] (λ_=>Ah C ?_ Aj));refine Bg C C (eC AI C C) (λY f2 he G=>⟨C,_,f2,C,(by simp[Bf,SP.need,Av,he,h2,h3,h4]),G⟩) λhn2=>?_
 cases hn2
 refine A9 5 [] (λ_=>Ah C ?_ Aj);refine Aa 2 [] (λ_=>Az [0,1] C<|A9 6 [] (λ_=>Ah C ?_ Aj));refine Aa 2 [] (λ_=>Az [0,1] C<|A9 1 [] (λ_=>Ah C ?_ Aj));refine Bg C C (eC AI C C) (λY f2 he G=>⟨C,_,f2,C,(by simp[Bf,SP.need,Av,he,h2,h3]),G⟩) λhn3=>?_
 cases hn3
 simp[Fo.len] at h2;refine Dh [0,1] Aq (rd [0,1,2,3,4,5,6] (.br 7 (rd [8,9,10,11,12,13,14] (.br 15 (rd [16,17,18,19,20,21] (.br 22 (.rd 23 (.br 24 .fin .fin)) .fin)) .fin)) .fin)) C kR<|A9 4 [1] (y<|λ_=>K4 18 C (λh5=>?_) (λh5=>?_));exact absurd (by have J:=beq_iff_eq.1 h5;omega) hne;refine A9 3 [] (λ_=>Ah C ?_ Aj);refine Aa 2 [] (λ_=>Az [0,1] C<|A9 7 [] (λ_=>Ah C ?_ Aj));refine Aa 2 [] (λ_=>Az [0,1] C<|A9 6 [] (λ_=>Ah C ?_ Aj));refine Aa 2 [] (λ_=>Az [0,1] C<|A9 1 [] (λ_=>Ah C ?_ Aj));refine Bg C C (eC AI C C) (λY f2 he G=>⟨C,_,f2,C,(by rw[zW hne]),G⟩) λhn4=>?_
 cases hn4
 refine Aa 7 [] (λ_=>Bb 53 C C (λZ=>?_) (λZ=>?_));obtain rfl:=beq_iff_eq.1 Z;refine Aa 2 [] (λ_=>?_);rcases Fo.three l with ⟨p,pk,b,bk,c,ck,rfl⟩|hne
 refine QQ 0 C<|Pf 0 C ?_;rintro⟨eb0,eo0,k0a,k0c⟩ rfl;refine ZN 1 C ?_;rintro⟨k1a,k1c⟩;refine ZN 1 C ?_;rintro⟨k2a,k2c⟩;refine Dh [0,1] Aq (rd [0,1,2,3,4,5,6] (.br 7 (.rd 8 (.br 9 .fin .fin)) .fin)) C kR<|A9 4 [1] (y<|λ_=>K4 58 C (λh7=>?_) (λh7=>?_));refine A9 3 [102,0] (aI (by simp only[Fo.len];omega)<|y2<|λ_=>Ah C ?_ Aj);refine D1 C C (eC Vx C C) (λw f D=>J3 _ (D3.gl D.f8) p _ F.1.1.1 F.1.1.2)<|Aa 1 [] (λ_=>Az [0,1] C<|A9 1 [] (λ_=>Ah C ?_ Aj));refine Bg C C (eC AI C C) (λY f2 he G=>⟨C,_,f2,C,(by simp[Bf,SP.need,Av,he,O,h7]),G⟩) λhn5=>Aa 1 [] (λ_=>Az [0,1] C<|Bx<|Aa 2 [] (λ_=>Dh [1] Aq (rd [0,1,2,3,4,5,6,7,8,10,11,12] (.br 9 (.br 13 (.br 14 (.br 15 (.br 16 .fin .fin) .fin) .fin) .fin) .fin)) C kR<|A9 12 [0,102,4,101,0,100,0] (y<|aI (by simp only[Fo.len];omega)<|y2<|aI (by simp only[Fo.len];omega)<|y2<|aI (by simp only[Fo.len];omega)<|y2<|λ_=>Ah C ?_ Aj)));refine JX C C (eC DB C C) (λw f D=>ihx w f D.vl D.f8 b bk _ _ F.2.1 D.f2) (λ_=>⟨Ba.mono,tQ⟩) (λe Y f2 he G=>⟨C,e,f2,C,(by simp[Bf,SP.need,Av,he,O,h7,hn5]),G⟩) ?_;rintro⟨nd2,and2,cnd2⟩ hnd2;dsimp only at hnd2 ⊢;refine Aa 1 [] (λ_=>Az [1] C<|Ah C ?_ Aj);refine JX C C (eC DB C C) (λw f D=>ihx w f D.vl D.f9 c ck _ _ F.2.2.1 D.f1) (λ_=>⟨Ba.mono,tQ⟩) (λe Y f2 he G=>⟨C,e,f2,C,(by simp[Bf,SP.need,Av,he,O,h7,hn5,hnd2]),G⟩) ?_;rintro⟨nd3,and3,cnd3⟩ hnd3;dsimp only at hnd3 ⊢;refine Aa 1 [] (λ_=>Az [1] C<|Ah C ?_ Aj);refine Aa 2 [] (λb4=>λ_=>Az [2] C<|Ah C ?_ Aj);refine Dg 0 C C<|DN (λw f=>Ba w f (nd2.cons (nd3.one)) (some ⟨b4,0,none⟩) 2) (λw f D=>Cu.toF (Cu.cons' D.f1 (Cu.cons' D.f0 (show Cu _ _ .nil [] from C))) D.b0 (Nat.le_refl _)) Ba.mono<|D1 C C (eC Bq C C) (λw f D=>AF _ t _ _ _ _ _ _)<|Aa 1 [] (λ_=>Bl [1] Fy C (λ_ h=>.tail _ h)<|Ah C ?_ Aj);exact Aa 2 [0] (y<|λ_=>Bl [1] Fy C (λ_ h=>.tail _ h)<|Bx<|Aa 4 [] (λ_=>Bc (λw f D=>AG C (Ae C BI D.k0 C)) (λw f D=>⟨(⟨9,t.ln,t.co,p.tx,0,(nd2.cons (nd3.one))⟩,(some ⟨b4,0,none⟩),2),f,C,(by simp[Bf,SP.need,Av,O,h7,hn5,hnd2,hnd3]),D.exm,⟨D.f0,tQ⟩⟩)));simp[Fo.len] at h7;refine Dh [0,1] Aq (rd [0,1,2,3,4,5,6] (.br 7 (.rd 8 (.br 9 .fin .fin)) .fin)) C kR<|A9 4 [1] (y<|λ_=>K4 58 C (λh8=>?_) (λh8=>?_));exact absurd (by have J:=beq_iff_eq.1 h8;omega) hne;refine A9 3 [] (λ_=>Ah C ?_ Aj);refine Aa 2 [] (λ_=>Az [0,1] C<|A9 1 [] (λ_=>Ah C ?_ Aj));refine Bg C C (eC AI C C) (λY f2 he G=>⟨C,_,f2,C,(by rw[vI hne]),G⟩) λhn6=>?_
 cases hn6
 refine Aa 7 [] (λ_=>Bb 81 C C (λJ=>?_) (λJ=>?_));obtain rfl:=beq_iff_eq.1 J;refine Aa 2 [] (λ_=>?_);rcases Fo.three l with ⟨p,pk,b,bk,c,ck,rfl⟩|hne
 refine QQ 0 C<|Pf 0 C ?_;rintro⟨eb0,eo0,k0a,k0c⟩ rfl;refine ZN 1 C ?_;rintro⟨k1a,k1c⟩;refine ZN 1 C ?_;rintro⟨k2a,k2c⟩;refine Dh [0,1] Aq (rd [0,1,2,3,4,5,6] (.br 7 (rd [8,9,10,11,12] (.br 13 (.rd 14 (.br 15 .fin .fin)) .fin)) .fin)) C kR<|A9 4 [1] (y<|λ_=>K4 86 C (λh10=>?_) (λh10=>?_));refine A9 3 [102,0] (aI (by simp only[Fo.len];omega)<|y2<|λ_=>Ah C ?_ Aj);refine D1 C C (eC O9 C C) (λw f D=>ET _ (D3.gl D.f8) p _ F.1.1.1 F.1.1.2)<|Aa 1 [] (λ_=>Az [0,1] C<|A9 2 [] (λ_=>K4 92 C (λh11=>?_) (λh11=>?_)));refine A9 3 [101,0] (aI (by simp only[Fo.len];omega)<|y2<|λ_=>Ah C ?_ Aj);refine BA C C (eC fW C C) (λw f D=>Pp w f D.vl b bk _ _ D.f2) (λ_=>trivial) ?_;rintro⟨⟩ -;refine Aa 1 [] (λ_=>Az [0,1] C<|A9 1 [] (λ_=>Ah C ?_ Aj));refine Bg C C (eC AI C C) (λY f2 he G=>⟨C,_,f2,C,(by simp[Bf,SP.need,Av,he,O,Z,h10,h11]),G⟩) λhn7=>Aa 1 [] (λ_=>Az [0,1] C<|Bx<|Aa 2 [] (λ_=>Dh [1] Aq (rd [0,1,2,3,4,5,6,7,8,10,11,12] (.br 9 (.br 13 (.br 14 (.br 15 (.br 16 .fin .fin) .fin) .fin) .fin) .fin)) C kR<|A9 12 [0,102,4,101,0,100,0] (y<|aI (by simp only[Fo.len];omega)<|y2<|aI (by simp only[Fo.len];omega)<|y2<|aI (by simp only[Fo.len];omega)<|y2<|λ_=>Ah C ?_ Aj)));refine JX C C (eC DB C C) (λw f D=>ihx w f D.vl D.f8 b bk _ _ F.2.1 D.f2) (λ_=>⟨Ba.mono,tQ⟩) (λe Y f2 he G=>⟨C,e,f2,C,(by simp[Bf,SP.need,Av,he,O,Z,h10,h11,hn7]),G⟩) ?_;rintro⟨nd4,and4,cnd4⟩ hnd4;dsimp only at hnd4 ⊢;refine Aa 1 [] (λ_=>Az [1] C<|Ah C ?_ Aj);refine JX C C (eC DB C C) (λw f D=>ihx w f D.vl D.f9 c ck _ _ F.2.2.1 D.f1) (λ_=>⟨Ba.mono,tQ⟩) (λe Y f2 he G=>⟨C,e,f2,C,(by simp[Bf,SP.need,Av,he,O,Z,h10,h11,hn7,hnd4]),G⟩) ?_;rintro⟨nd5,and5,cnd5⟩ hnd5;dsimp only at hnd5 ⊢;refine Aa 1 [] (λ_=>Az [1] C<|Ah C ?_ Aj);refine Aa 2 [] (λb5=>λ_=>Az [2] C<|Ah C ?_ Aj);refine Dg 0 C C<|DN (λw f=>Ba w f (nd4.cons (nd5.one)) (some ⟨b5,0,none⟩) 2) (λw f D=>Cu.toF (Cu.cons' D.f1 (Cu.cons' D.f0 (show Cu _ _ .nil [] from C))) D.b0 (Nat.le_refl _)) Ba.mono<|D1 C C (eC Bq C C) (λw f D=>AF _ t _ _ _ _ _ _)<|Aa 1 [] (λ_=>Bl [1] Fy C (λ_ h=>.tail _ h)<|Ah C ?_ Aj);exact Aa 2 [0] (y<|λ_=>Bl [1] Fy C (λ_ h=>.tail _ h)<|Bx<|Aa 4 [] (λ_=>Bc (λw f D=>AG C (Ae C BI D.k0 C)) (λw f D=>⟨(⟨10,t.ln,t.co,p.tx,0,(nd4.cons (nd5.one))⟩,(some ⟨b5,0,none⟩),2),f,C,(by simp[Bf,SP.need,Av,O,Z,h10,h11,hn7,hnd4,hnd5]),D.exm,⟨D.f0,tQ⟩⟩)));refine A9 3 [] (λ_=>Ah C ?_ Aj);refine Aa 2 [] (λ_=>Az [0,1] C<|A9 1 [] (λ_=>Ah C ?_ Aj));refine Bg C C (eC AI C C) (λY f2 he G=>⟨C,_,f2,C,(by simp[Bf,SP.need,Av,he,O,Z,h10,h11]),G⟩) λhn8=>?_
 cases hn8
 simp[Fo.len] at h10;refine Dh [0,1] Aq (rd [0,1,2,3,4,5,6] (.br 7 (rd [8,9,10,11,12] (.br 13 (.rd 14 (.br 15 .fin .fin)) .fin)) .fin)) C kR<|A9 4 [1] (y<|λ_=>K4 86 C (λh12=>?_) (λh12=>?_));exact absurd (by have J:=beq_iff_eq.1 h12;omega) hne;refine A9 3 [] (λ_=>Ah C ?_ Aj);refine Aa 2 [] (λ_=>Az [0,1] C<|A9 5 [] (λ_=>Ah C ?_ Aj));refine Aa 2 [] (λ_=>Az [0,1] C<|A9 1 [] (λ_=>Ah C ?_ Aj));refine Bg C C (eC AI C C) (λY f2 he G=>⟨C,_,f2,C,(by rw[uK hne]),G⟩) λhn9=>?_
 cases hn9
 refine Aa 7 [] (λ_=>Bb 115 C C (λK=>?_) (λK=>?_));obtain rfl:=beq_iff_eq.1 K;refine Aa 6 [1] (y<|λ_=>Bg C C (eC AI C C) (λY f2 he G=>⟨C,_,f2,C,(by simp[Bf,SP.need,Av,he,O,Z,J]),G⟩) λhn10=>Aa 3 [] (λ_=>Dh [1] Aq (.rd 0 (.rd 1 (.br 2 (.br 3 (.br 4 .fin .fin) .fin) .fin))) C kR<|A9 2 [0] (y<|λ_=>Ah C ?_ Aj)));refine JX C C (eC EK C C) (λw f D=>Cg 25 DB (AO (n+1)) (GK n) (λw f hv hJ t k a c hd hT=>ihx w f hv hJ t k a c hd hT) w f D.vl D.f1 l _ _ F hlen D.f0) (λ_=>⟨Ba.mono,tQ⟩) (λe Y f2 he G=>⟨C,e,f2,C,(by simp[Bf,SP.need,Av,he,O,Z,J,hn10]),G⟩) ?_;rintro⟨⟨nds5,xnds5⟩,ands5,cnds5⟩ hnds5;dsimp only at hnds5 ⊢;refine Aa 1 [] (λ_=>Az [1] C<|Ah C ?_ Aj);refine D1 C C (eC Bq C C) (λw f D=>AF _ t _ _ _ _ _ _)<|Aa 1 [] (λ_=>Az [1] C<|Ah C ?_ Aj);exact Aa 2 [0] (y<|λ_=>Az [1] C<|Bx<|Aa 4 [] (λ_=>Bc (λw f D=>AG C (Ae C BI D.k0 C)) (λw f D=>⟨(⟨11,t.ln,t.co,[],0,nds5⟩,ands5,cnds5),f,C,(by simp[Bf,SP.need,Av,O,Z,J,hn10,hnds5]),D.exm,⟨D.f0,tQ⟩⟩)));refine Aa 7 [] (λ_=>Bb 125 C C (λL=>?_) (λL=>?_));obtain rfl:=beq_iff_eq.1 L;refine Aa 6 [1] (y<|λ_=>Bg C C (eC AI C C) (λY f2 he G=>⟨C,_,f2,C,(by simp[Bf,SP.need,Av,he,O,Z,J,K]),G⟩) λhn11=>Aa 3 [] (λ_=>Dh [1] Aq (.rd 0 (.rd 1 (.br 2 (.br 3 (.br 4 .fin .fin) .fin) .fin))) C kR<|A9 2 [0] (y<|λ_=>Ah C ?_ Aj)));refine JX C C (eC EK C C) (λw f D=>Cg 25 DB (AO (n+1)) (GK n) (λw f hv hJ t k a c hd hT=>ihx w f hv hJ t k a c hd hT) w f D.vl D.f1 l _ _ F hlen D.f0) (λ_=>⟨Ba.mono,tQ⟩) (λe Y f2 he G=>⟨C,e,f2,C,(by simp[Bf,SP.need,Av,he,O,Z,J,K,hn11]),G⟩) ?_;rintro⟨⟨nds6,xnds6⟩,ands6,cnds6⟩ hnds6;dsimp only at hnds6 ⊢;refine Aa 1 [] (λ_=>Az [1] C<|Ah C ?_ Aj);refine D1 C C (eC Bq C C) (λw f D=>AF _ t _ _ _ _ _ _)<|Aa 1 [] (λ_=>Az [1] C<|Ah C ?_ Aj);exact Aa 2 [0] (y<|λ_=>Az [1] C<|Bx<|Aa 4 [] (λ_=>Bc (λw f D=>AG C (Ae C BI D.k0 C)) (λw f D=>⟨(⟨12,t.ln,t.co,[],0,nds6⟩,ands6,cnds6),f,C,(by simp[Bf,SP.need,Av,O,Z,J,K,hn11,hnds6]),D.exm,⟨D.f0,tQ⟩⟩)));refine Aa 7 [] (λ_=>Bb 135 C C (λQ=>?_) (λQ=>?_));obtain rfl:=beq_iff_eq.1 Q;refine Aa 2 [] (λ_=>Dh [0,1] Aq (.rd 0 (.rd 1 (.br 2 (.br 3 .fin .fin) .fin))) C kR<|A9 2 [1] (y<|λ_=>Ah C ?_ Aj));refine D1 C C (eC IC C C) (λw f D=>Dz _ _ _ _)<|Aa 1 [] (λ_=>Az [0,1] C<|Ah C ?_ Aj);refine Bg C C (eC AI C C) (λY f2 he G=>⟨C,_,f2,C,(by simp[Bf,SP.need,Av,he,O,Z,J,K,L]),G⟩) λhn12=>Aa 1 [] (λ_=>Az [0,1] C<|Bx<|Aa 2 [] (λ_=>Dh [1] Aq (.rd 0 (.rd 1 (.br 2 (.br 3 (.br 4 .fin .fin) .fin) .fin))) C kR<|A9 2 [0] (y<|λ_=>Ah C ?_ Aj)))
 refine JX C C (eC EK C C) (λw f D=>Cg 25 DB (AO (n+1)) (GK n) (λw f hv hJ t k a c hd hT=>ihx w f hv hJ t k a c hd hT) w f D.vl D.f1 l _ _ F hlen D.f0) (λ_=>⟨Ba.mono,tQ⟩) (λe Y f2 he G=>⟨C,e,f2,C,(by simp[Bf,SP.need,Av,he,O,Z,J,K,L,hn12]),G⟩) ?_;rintro⟨⟨nds7,xnds7⟩,ands7,cnds7⟩ hnds7;dsimp only at hnds7 ⊢;refine Aa 1 [] (λ_=>Az [1] C<|Ah C ?_ Aj);refine D1 C C (eC Bq C C) (λw f D=>AF _ t _ _ _ _ _ _)<|Aa 1 [] (λ_=>Az [1] C<|Ah C ?_ Aj);exact Aa 2 [0] (y<|λ_=>Az [1] C<|Bx<|Aa 4 [] (λ_=>Bc (λw f D=>AG C (Ae C BI D.k0 C)) (λw f D=>⟨(⟨13,t.ln,t.co,[],0,nds7⟩,ands7,cnds7),f,C,(by simp[Bf,SP.need,Av,O,Z,J,K,L,hn12,hnds7]),D.exm,⟨D.f0,tQ⟩⟩)));refine Aa 8 [] (λ_=>Bb 145 C C (λEb=>?_) (λEb=>?_));obtain rfl:=beq_iff_eq.1 Eb;refine Aa 5 [] (λ_=>Aa 4 [1] (y<|λ_=>Bg C C (eC AI C C) (λY f2 he G=>⟨C,_,f2,C,(by simp[Bf,SP.need,Av,he,O,Z,J,K,L,Q]),G⟩) λhn13=>Aa 18 [] (λ_=>?_)));obtain⟨p,pk,r,rfl⟩:=Fo.cases1 l (by have:=dT hn13;omega);have hge:0<r.len:=by have J:=dT hn13;simp only[Fo.len] at J;omega
 have hlr:r.len+1≤100000:=hlen;refine sH 0 C<|QQ 1 C<|Pf 0 C ?_;rintro⟨eb0,eo0,k0a,k0c⟩ rfl;refine Dh [1] Aq (rd [0,1,2,3,4,7,8] (.br 5 (.br 6 (.br 9 (.br 10 (.br 11 (.br 12 .fin .fin) .fin) .fin) .fin) (.br 9 (.br 6 (.br 10 (.br 11 (.br 12 .fin .fin) .fin) .fin) .fin) .fin)) .fin)) C kR<|A9 6 [0,100,0] (y<|aI (by simp only[Fo.len];omega)<|y2<|λ_=>HX C C C (λw hK=>Hm C C C LG)<|Ah C ?_ Aj);refine JX C C (eC DB C C) (λw f D=>ihx w f D.vl D.f5 p pk _ _ F.1 D.f0) (λ_=>⟨Ba.mono,tQ⟩) (λe Y f2 he G=>⟨C,e,f2,C,(by simp[Bf,SP.need,Av,he,O,Z,J,K,L,Q,hn13]),G⟩) ?_;rintro⟨U,and6,cnd6⟩ hnd6;dsimp only at hnd6 ⊢;refine Aa 1 [] (λ_=>Az [1] C<|Ah C ?_ ?_);refine Aa 2 [] (λb6=>λ_=>Az [2] C<|Ah C ?_ Aj);refine YZ C C (eC EK C C) (λw f D=>Hx 77 QX (Fb (n+1) (AO (n+1))) (GK n) (λw f hv hJ t k a c hd hT=>iha w f hv hJ t k a c hd hT) w f D.vl D.f6 r _ _ F.2 oM D.f4) (λ_=>⟨Cu.mono,tQ⟩) (λe Y f2 he G=>⟨C,e,f2,C,(by simp[Bf,SP.need,Av,he,O,Z,J,K,L,Q,hn13,hnd6]),G⟩) ?_;rintro⟨nds8,xnds8⟩ ands8 cnds8 hnds8;dsimp only at hnds8 ⊢;have hnl:=Ey hnds8;refine KH (p:=∃rb,ands8=some ⟨rb,0,none⟩) (λw f D=>by rcases (D.row _ (.head _)).2 with ⟨_,_,J⟩|⟨ob,_,J,_⟩;(dsimp only at J;omega);exact⟨ob,J⟩) λhob=>?_;obtain⟨rb,rfl⟩:=hob;refine pW 0 C C<|Aa 1 [] (λ_=>Bl [2] Fy C (λ_ h=>.tail _ h)<|Ah C ?_ Aj);refine mhr 0 6 1 C C C dC<|KH (p:=xnds8.length=nds8.len*6∧∀v∈xnds8,v.oneCell'=true) (λw f D=>⟨Cu.len D.f0,Cu.one' D.f0⟩) λ⟨hxl,hx1⟩=>Z6 0 0 C C MV C C C C C C hxl hx1 oM (λ_ _=>C) oM oM λands9 cnds9=>DN (λw f=>Cu w f (U.cons nds8) (Nk U.op U.ln U.co U.tx U.nm and6 U.kids.len cnd6++xnds8)) (λw f D=>Cu.cons' D.f1 D.f0) Cu.mono<|Sp (λw f=>Ba w f (U.cons nds8) ands9 cnds9) Ba.mono (λw f D=>KR D D.f0)<|Aa 1 [] (λ_=>Bl [1] Fy C (λ_ h=>.tail _ h)<|Ah C ?_ Aj);refine D1 C C (eC Bq C C) (λw f D=>AF _ t _ _ _ _ _ _)<|Aa 1 [] (λ_=>Bl [1] Fy C (λ_ h=>.tail _ h)<|Ah C ?_ Aj);exact Aa 2 [0] (y<|λ_=>Bl [1] Fy C (λ_ h=>.tail _ h)<|Bx<|Aa 4 [] (λ_=>Bc (λw f D=>AG C (Ae C BI D.k0 C)) (λw f D=>⟨(⟨14,t.ln,t.co,[],0,(U.cons nds8)⟩,ands9,cnds9),f,(by simp[nV,Nd.app_len,N.one,N.cons,Nd.len,Nat.add_comm]),(by simp[Bf,SP.need,Av,O,Z,J,K,L,Q,hn13,hnd6,hnds8]),D.exm,⟨D.f0,tQ⟩⟩)));refine Ah C ?_ Aj;refine YZ C C (eC EK C C) (λw f D=>Hx 77 QX (Fb (n+1) (AO (n+1))) (GK n) (λw f hv hJ t k a c hd hT=>iha w f hv hJ t k a c hd hT) w f D.vl D.f6 r _ _ F.2 oM D.f4) (λ_=>⟨Cu.mono,tQ⟩) (λe Y f2 he G=>⟨C,e,f2,C,(by simp[Bf,SP.need,Av,he,O,Z,J,K,L,Q,hn13,hnd6]),G⟩) ?_;rintro⟨nds10,xnds10⟩ ands10 cnds10 hnds10;dsimp only at hnds10 ⊢;have hnl:=Ey hnds10
 refine KH (p:=∃rb,ands10=some ⟨rb,0,none⟩) (λw f D=>by rcases (D.row _ (.head _)).2 with ⟨_,_,J⟩|⟨ob,_,J,_⟩;(dsimp only at J;omega);exact⟨ob,J⟩) λhob=>?_;obtain⟨rb,rfl⟩:=hob;refine pW 0 C C<|Aa 1 [] (λ_=>Bl [1] Fy C (λ_ h=>.tail _ h)<|Ah C ?_ Aj);refine Aa 2 [] (λb7=>λ_=>Bl [2] Fy C (λ_ h=>.tail _ h)<|Ah C ?_ Aj);refine mhr 0 6 1 C C C dC<|KH (p:=xnds10.length=nds10.len*6∧∀v∈xnds10,v.oneCell'=true) (λw f D=>⟨Cu.len D.f0,Cu.one' D.f0⟩) λ⟨hxl,hx1⟩=>Z6 0 0 C C MV C C C C C C hxl hx1 oM (λ_ _=>C) oM oM λands11 cnds11=>DN (λw f=>Cu w f (U.cons nds10) (Nk U.op U.ln U.co U.tx U.nm and6 U.kids.len cnd6++xnds10)) (λw f D=>Cu.cons' D.f1 D.f0) Cu.mono<|Sp (λw f=>Ba w f (U.cons nds10) ands11 cnds11) Ba.mono (λw f D=>KR D D.f0)<|Aa 1 [] (λ_=>Bl [1] Fy C (λ_ h=>.tail _ h)<|Ah C ?_ Aj);refine D1 C C (eC Bq C C) (λw f D=>AF _ t _ _ _ _ _ _)<|Aa 1 [] (λ_=>Bl [1] Fy C (λ_ h=>.tail _ h)<|Ah C ?_ Aj);exact Aa 2 [0] (y<|λ_=>Bl [1] Fy C (λ_ h=>.tail _ h)<|Bx<|Aa 4 [] (λ_=>Bc (λw f D=>AG C (Ae C BI D.k0 C)) (λw f D=>⟨(⟨14,t.ln,t.co,[],0,(U.cons nds10)⟩,ands11,cnds11),f,(by simp[nV,Nd.app_len,N.one,N.cons,Nd.len,Nat.add_comm]),(by simp[Bf,SP.need,Av,O,Z,J,K,L,Q,hn13,hnd6,hnds10]),D.exm,⟨D.f0,tQ⟩⟩)));refine Aa 6 [] (λ_=>Bb 145 C C (λh17=>?_) (λh17=>?_));obtain rfl:=beq_iff_eq.1 h17;refine Aa 2 [] (λ_=>Aa 4 [1] (y<|λ_=>Bg C C (eC AI C C) (λY f2 he G=>⟨C,_,f2,C,(by simp[Bf,SP.need,Av,he,O,Z,J,K,L,Q,Eb]),G⟩) λhn14=>Aa 20 [] (λ_=>?_)));obtain⟨p,pk,r,rfl⟩:=Fo.cases1 l (by have:=dT hn14;omega);have hge:0<r.len:=by have J:=dT hn14;simp only[Fo.len] at J;omega
 have hlr:r.len+1≤100000:=hlen;refine sH 0 C<|QQ 1 C<|Pf 0 C ?_;rintro⟨eb0,eo0,k0a,k0c⟩ rfl;refine Dh [1] Aq (rd [0,1,2,3,4,7,8] (.br 5 (.br 6 (.br 9 (.br 10 (.br 11 (.br 12 .fin .fin) .fin) .fin) .fin) (.br 9 (.br 6 (.br 10 (.br 11 (.br 12 .fin .fin) .fin) .fin) .fin) .fin)) .fin)) C kR<|A9 6 [0,100,0] (y<|aI (by simp only[Fo.len];omega)<|y2<|λ_=>HX C C C (λw hK=>Hm C C C LG)<|Ah C ?_ Aj);refine JX C C (eC DB C C) (λw f D=>ihx w f D.vl D.f5 p pk _ _ F.1 D.f0) (λ_=>⟨Ba.mono,tQ⟩) (λe Y f2 he G=>⟨C,e,f2,C,(by simp[Bf,SP.need,Av,he,O,Z,J,K,L,Q,Eb,hn14]),G⟩) ?_;rintro⟨W,and7,cnd7⟩ hnd7;dsimp only at hnd7 ⊢;refine Aa 1 [] (λ_=>Az [1] C<|Ah C ?_ ?_);refine Aa 2 [] (λb8=>λ_=>Az [2] C<|Ah C ?_ Aj);refine YZ C C (eC EK C C) (λw f D=>Hx 77 QX (Fb (n+1) (AO (n+1))) (GK n) (λw f hv hJ t k a c hd hT=>iha w f hv hJ t k a c hd hT) w f D.vl D.f6 r _ _ F.2 oM D.f4) (λ_=>⟨Cu.mono,tQ⟩) (λe Y f2 he G=>⟨C,e,f2,C,(by simp[Bf,SP.need,Av,he,O,Z,J,K,L,Q,Eb,hn14,hnd7]),G⟩) ?_;rintro⟨nds12,xnds12⟩ ands12 cnds12 hnds12;dsimp only at hnds12 ⊢;have hnl:=Ey hnds12;refine KH (p:=∃rb,ands12=some ⟨rb,0,none⟩) (λw f D=>by rcases (D.row _ (.head _)).2 with ⟨_,_,J⟩|⟨ob,_,J,_⟩;(dsimp only at J;omega);exact⟨ob,J⟩) λhob=>?_;obtain⟨rb,rfl⟩:=hob;refine pW 0 C C<|Aa 1 [] (λ_=>Bl [2] Fy C (λ_ h=>.tail _ h)<|Ah C ?_ Aj);refine mhr 0 6 1 C C C dC<|KH (p:=xnds12.length=nds12.len*6∧∀v∈xnds12,v.oneCell'=true) (λw f D=>⟨Cu.len D.f0,Cu.one' D.f0⟩) λ⟨hxl,hx1⟩=>Z6 0 0 C C MV C C C C C C hxl hx1 oM (λ_ _=>C) oM oM λands13 cnds13=>DN (λw f=>Cu w f (W.cons nds12) (Nk W.op W.ln W.co W.tx W.nm and7 W.kids.len cnd7++xnds12)) (λw f D=>Cu.cons' D.f1 D.f0) Cu.mono<|Sp (λw f=>Ba w f (W.cons nds12) ands13 cnds13) Ba.mono (λw f D=>KR D D.f0)<|Aa 1 [] (λ_=>Bl [1] Fy C (λ_ h=>.tail _ h)<|Ah C ?_ Aj);refine D1 C C (eC Bq C C) (λw f D=>AF _ t _ _ _ _ _ _)<|Aa 1 [] (λ_=>Bl [1] Fy C (λ_ h=>.tail _ h)<|Ah C ?_ Aj);exact Aa 2 [0] (y<|λ_=>Bl [1] Fy C (λ_ h=>.tail _ h)<|Bx<|Aa 4 [] (λ_=>Bc (λw f D=>AG C (Ae C BI D.k0 C)) (λw f D=>⟨(⟨15,t.ln,t.co,[],0,(W.cons nds12)⟩,ands13,cnds13),f,(by simp[nV,Nd.app_len,N.one,N.cons,Nd.len,Nat.add_comm]),(by simp[Bf,SP.need,Av,O,Z,J,K,L,Q,Eb,hn14,hnd7,hnds12]),D.exm,⟨D.f0,tQ⟩⟩)));refine Ah C ?_ Aj;refine YZ C C (eC EK C C) (λw f D=>Hx 77 QX (Fb (n+1) (AO (n+1))) (GK n) (λw f hv hJ t k a c hd hT=>iha w f hv hJ t k a c hd hT) w f D.vl D.f6 r _ _ F.2 oM D.f4) (λ_=>⟨Cu.mono,tQ⟩) (λe Y f2 he G=>⟨C,e,f2,C,(by simp[Bf,SP.need,Av,he,O,Z,J,K,L,Q,Eb,hn14,hnd7]),G⟩) ?_;rintro⟨nds14,xnds14⟩ ands14 cnds14 hnds14;dsimp only at hnds14 ⊢;have hnl:=Ey hnds14
 refine KH (p:=∃rb,ands14=some ⟨rb,0,none⟩) (λw f D=>by rcases (D.row _ (.head _)).2 with ⟨_,_,J⟩|⟨ob,_,J,_⟩;(dsimp only at J;omega);exact⟨ob,J⟩) λhob=>?_;obtain⟨rb,rfl⟩:=hob;refine pW 0 C C<|Aa 1 [] (λ_=>Bl [1] Fy C (λ_ h=>.tail _ h)<|Ah C ?_ Aj);refine Aa 2 [] (λb9=>λ_=>Bl [2] Fy C (λ_ h=>.tail _ h)<|Ah C ?_ Aj);refine mhr 0 6 1 C C C dC<|KH (p:=xnds14.length=nds14.len*6∧∀v∈xnds14,v.oneCell'=true) (λw f D=>⟨Cu.len D.f0,Cu.one' D.f0⟩) λ⟨hxl,hx1⟩=>Z6 0 0 C C MV C C C C C C hxl hx1 oM (λ_ _=>C) oM oM λands15 cnds15=>DN (λw f=>Cu w f (W.cons nds14) (Nk W.op W.ln W.co W.tx W.nm and7 W.kids.len cnd7++xnds14)) (λw f D=>Cu.cons' D.f1 D.f0) Cu.mono<|Sp (λw f=>Ba w f (W.cons nds14) ands15 cnds15) Ba.mono (λw f D=>KR D D.f0)<|Aa 1 [] (λ_=>Bl [1] Fy C (λ_ h=>.tail _ h)<|Ah C ?_ Aj);refine D1 C C (eC Bq C C) (λw f D=>AF _ t _ _ _ _ _ _)<|Aa 1 [] (λ_=>Bl [1] Fy C (λ_ h=>.tail _ h)<|Ah C ?_ Aj);exact Aa 2 [0] (y<|λ_=>Bl [1] Fy C (λ_ h=>.tail _ h)<|Bx<|Aa 4 [] (λ_=>Bc (λw f D=>AG C (Ae C BI D.k0 C)) (λw f D=>⟨(⟨15,t.ln,t.co,[],0,(W.cons nds14)⟩,ands15,cnds15),f,(by simp[nV,Nd.app_len,N.one,N.cons,Nd.len,Nat.add_comm]),(by simp[Bf,SP.need,Av,O,Z,J,K,L,Q,Eb,hn14,hnd7,hnds14]),D.exm,⟨D.f0,tQ⟩⟩)));refine Aa 8 [] (λ_=>Bb 166 C C (λh18=>?_) (λh18=>?_));obtain rfl:=beq_iff_eq.1 h18;refine Aa 5 [] (λ_=>?_);rcases Fo.single l with ⟨p,pk,rfl⟩|hne
 refine QQ 0 C<|Pf 0 C ?_;rintro⟨eb0,eo0,k0a,k0c⟩ rfl;refine Aa 4 [1] (y<|λ_=>Bg C C (eC AI C C) (λY f2 he G=>⟨C,_,f2,C,(by simp[Fo.len] at he),G⟩) λhn15=>Aa 18 [] (λ_=>Dh [1] Aq (rd [0,1,2,3,4] (.br 5 (.br 6 (.br 7 (.br 8 .fin .fin) .fin) .fin) .fin)) C kR<|A9 5 [0,100,0] (y<|aI (by simp only[Fo.len];omega)<|y2<|λ_=>Ah C ?_ Aj)));refine JX C C (eC DB C C) (λw f D=>ihx w f D.vl D.f4 p pk _ _ F.1 D.f0) (λ_=>⟨Ba.mono,tQ⟩) (λe Y f2 he G=>⟨C,e,f2,C,(by simp[Bf,SP.need,Av,he,O,Z,J,K,L,Q,Eb,h17,hn15]),G⟩) ?_;rintro⟨nd8,and8,cnd8⟩ hnd8;dsimp only at hnd8 ⊢;refine Aa 1 [] (λ_=>Az [1] C<|Ah C ?_ Aj);refine Aa 2 [] (λb10=>λ_=>Az [2] C<|Ah C ?_ Aj);refine Dg 0 C C<|DN (λw f=>Ba w f (nd8.one) (some ⟨b10,0,none⟩) 1) (λw f D=>Cu.toF (Cu.cons' D.f0 (show Cu _ _ .nil [] from C)) D.b0 (Nat.le_refl _)) Ba.mono<|D1 C C (eC Bq C C) (λw f D=>AF _ t _ _ _ _ _ _)<|Aa 1 [] (λ_=>Bl [1] Fy C (λ_ h=>.tail _ h)<|Ah C ?_ Aj);exact Aa 2 [0] (y<|λ_=>Bl [1] Fy C (λ_ h=>.tail _ h)<|Bx<|Aa 4 [] (λ_=>Bc (λw f D=>AG C (Ae C BI D.k0 C)) (λw f D=>⟨(⟨16,t.ln,t.co,[],0,(nd8.one)⟩,(some ⟨b10,0,none⟩),1),f,C,(by simp[Bf,SP.need,Av,O,Z,J,K,L,Q,Eb,h17,hn15,hnd8]),D.exm,⟨D.f0,tQ⟩⟩)));exact Aa 4 [1] (y<|λ_=>Bg C C (eC AI C C) (λY f2 he G=>⟨C,_,f2,C,(by rw[aM (.inl C) hne]),G⟩) λhn16=>absurd (by have J:=beq_iff_eq.1 hn16;omega) hne);refine Aa 6 [] (λ_=>Bb 166 C C (λh19=>?_) (λh19=>?_));obtain rfl:=beq_iff_eq.1 h19;refine Aa 2 [] (λ_=>?_);rcases Fo.single l with ⟨p,pk,rfl⟩|hne
 refine QQ 0 C<|Pf 0 C ?_;rintro⟨eb0,eo0,k0a,k0c⟩ rfl;refine Aa 4 [1] (y<|λ_=>Bg C C (eC AI C C) (λY f2 he G=>⟨C,_,f2,C,(by simp[Fo.len] at he),G⟩) λhn17=>Aa 20 [] (λ_=>Dh [1] Aq (rd [0,1,2,3,4] (.br 5 (.br 6 (.br 7 (.br 8 .fin .fin) .fin) .fin) .fin)) C kR<|A9 5 [0,100,0] (y<|aI (by simp only[Fo.len];omega)<|y2<|λ_=>Ah C ?_ Aj)));refine JX C C (eC DB C C) (λw f D=>ihx w f D.vl D.f4 p pk _ _ F.1 D.f0) (λ_=>⟨Ba.mono,tQ⟩) (λe Y f2 he G=>⟨C,e,f2,C,(by simp[Bf,SP.need,Av,he,O,Z,J,K,L,Q,Eb,h17,h18,hn17]),G⟩) ?_;rintro⟨nd9,and9,cnd9⟩ hnd9;dsimp only at hnd9 ⊢;refine Aa 1 [] (λ_=>Az [1] C<|Ah C ?_ Aj);refine Aa 2 [] (λb11=>λ_=>Az [2] C<|Ah C ?_ Aj);refine Dg 0 C C<|DN (λw f=>Ba w f (nd9.one) (some ⟨b11,0,none⟩) 1) (λw f D=>Cu.toF (Cu.cons' D.f0 (show Cu _ _ .nil [] from C)) D.b0 (Nat.le_refl _)) Ba.mono<|D1 C C (eC Bq C C) (λw f D=>AF _ t _ _ _ _ _ _)<|Aa 1 [] (λ_=>Bl [1] Fy C (λ_ h=>.tail _ h)<|Ah C ?_ Aj);exact Aa 2 [0] (y<|λ_=>Bl [1] Fy C (λ_ h=>.tail _ h)<|Bx<|Aa 4 [] (λ_=>Bc (λw f D=>AG C (Ae C BI D.k0 C)) (λw f D=>⟨(⟨17,t.ln,t.co,[],0,(nd9.one)⟩,(some ⟨b11,0,none⟩),1),f,C,(by simp[Bf,SP.need,Av,O,Z,J,K,L,Q,Eb,h17,h18,hn17,hnd9]),D.exm,⟨D.f0,tQ⟩⟩)));exact Aa 4 [1] (y<|λ_=>Bg C C (eC AI C C) (λY f2 he G=>⟨C,_,f2,C,(by rw[aM (.inr C) hne]),G⟩) λhn18=>absurd (by have J:=beq_iff_eq.1 hn18;omega) hne);exact Aa 7 [1] (y<|λ_=>sA C C (eC UX C C) (pe:=λe=>e=(t.ln,t.co)) (T:=40) (λw f D=>(IY w t _).mono (λ_ _ h=>h.elim) λ_ Y ⟨O,h2⟩=>⟨_,f,O,C,CQ.of_ext h2 D.vl⟩) (λe Y f2 he G=>by subst he;exact⟨C,_,f2,C,(by simp[Bf,SP.need,Av,O,Z,J,K,L,Q,Eb,h17,h18,h19]),G⟩))
theorem Vy(w:wO)(h:Gl w)(tx:lU):BF prog 45 #[S pF,S ([32]++tx++[32])] w λv w'=>v=.bool (NJ tx)∧AY w w':=HV w h _ _ dC
theorem SE(n:Nat)(ih:∀n',n=n'+1→∀ (w:wO) (f:Fq) (_:Vl w f) (_:D3 w f) (t:A4) (k:Fo) (a:oA) (c:Nat),GK n' t k→Eo w f k a c→BU prog 25 #[fV t a k.len c] w (Im (AO (n'+1) t k) w f) (IA 40 (AO (n'+1) t k) w f))(iha:∀n',n=n'+1→∀ (w:wO) (f:Fq) (_:Vl w f) (_:D3 w f) (t:A4) (k:Fo) (a:oA) (c:Nat),GK n' t k→Eo w f k a c→BU prog 77 #[fV t a k.len c] w (Im (Fb (n'+1) (AO (n'+1)) t k) w f) (IA 40 (Fb (n'+1) (AO (n'+1)) t k) w f))(w:wO)(f:Fq)(hv:Vl w f)(hJ:D3 w f)(t:A4)(k:Fo)(ka:oA)(kc:Nat)(hp:GK n t k)(hL:Eo w f k ka kc) :
  BU prog 25 #[fV t ka k.len kc] w (Im (AO (n+1) t k) w f) (IA 40 (AO (n+1) t k) w f):=by
 refine Oe (X:=X0 w f) (H:=[]) (R:=[]) (B:=[]) (Fs:=[λw f=>Eo w f k ka kc,λw f=>D3 w f]) (f:=f) func25 C C C (CC hv ⟨hL,hJ,tQ⟩ ⟨Eo.mono,D3.mono,tQ⟩)<|Aa 21 [1] (λb1=>λb2=>y<|λ_=>Bb 8 C C (λF=>?_) (λF=>?_));exact Aa 16 [1,1,0] (y<|y<|y<|λ_=>Bc (λw f D=>AG C (Ae C BI D.k0 C)) (λw f D=>⟨(⟨1,t.ln,t.co,[],t.nm,.nil⟩,none,0),f,C,(by unfold AO;simp[SP.need,Av,F]),D.exm,⟨⟨Nat.zero_le _,.inl C⟩,tQ⟩⟩));refine Aa 7 [] (λ_=>Bb 17 C C (λG=>?_) (λG=>?_));exact Aa 7 [1,1] (y<|y<|λ_=>D1 C C (eC Bq C C) (λw f D=>AF _ t _ _ _ _ _ _)<|Aa 6 [0] (y<|λ_=>Bc (λw f D=>AG C (Ae C BI D.k0 C)) (λw f D=>⟨(⟨2,t.ln,t.co,t.tx,0,.nil⟩,none,0),f,C,(by unfold AO;simp[SP.need,Av,F,G]),D.exm,⟨⟨Nat.zero_le _,.inl C⟩,tQ⟩⟩)));refine Aa 7 [] (λ_=>Bb 24 C C (λJ=>?_) (λJ=>?_));exact Aa 7 [1,1] (y<|y<|λ_=>D1 C C (eC Bq C C) (λw f D=>AF _ t _ _ _ _ _ _)<|Aa 6 [0] (y<|λ_=>Bc (λw f D=>AG C (Ae C BI D.k0 C)) (λw f D=>⟨(⟨3,t.ln,t.co,t.tx,0,.nil⟩,none,0),f,C,(by unfold AO;simp[SP.need,Av,F,G,J]),D.exm,⟨⟨Nat.zero_le _,.inl C⟩,tQ⟩⟩)));refine Aa 7 [] (λ_=>Bb 31 C C (λK=>?_) (λK=>?_));exact Aa 7 [1,1] (y<|y<|λ_=>D1 C C (eC Bq C C) (λw f D=>AF _ t _ _ _ _ _ _)<|Aa 6 [0] (y<|λ_=>Bc (λw f D=>AG C (Ae C BI D.k0 C)) (λw f D=>⟨(⟨6,t.ln,t.co,t.tx,0,.nil⟩,none,0),f,C,(by unfold AO;simp[SP.need,Av,F,G,J,K]),D.exm,⟨⟨Nat.zero_le _,.inl C⟩,tQ⟩⟩)));refine Aa 7 [] (λ_=>Bb 38 C C (λL=>?_) (λL=>?_));refine Aa 2 [] (λ_=>Dh [0,1] Aq (.rd 0 (.rd 1 (.br 2 (.br 3 .fin .fin) .fin))) C kR<|A9 2 [1,1] (y<|y<|λ_=>Ah C ?_ Aj));refine D1 C C (eC O9 C C) (λw f D=>ET _ (D3.gl D.f1) t _ hp.1.1 hp.1.2)<|Aa 1 [] (λ_=>Az [0,1] C<|Ah C ?_ Aj);exact Bg C C (eC AI C C) (λw2 f2 he O=>⟨C,_,f2,C,(by unfold AO;simp[SP.need,Av,he,F,G,J,K,L]),O⟩) λhn1=>Aa 1 [] (λ_=>Az [0,1] C<|Bx<|Aa 7 [1,1] (y<|y<|λ_=>D1 C C (eC Bq C C) (λw f D=>AF _ t _ _ _ _ _ _)<|Aa 6 [0] (y<|λ_=>Bc (λw f D=>AG C (Ae C BI D.k0 C)) (λw f D=>⟨(⟨5,t.ln,t.co,t.tx,0,.nil⟩,none,0),f,C,(by unfold AO;simp[SP.need,Av,F,G,J,K,L,hn1]),D.exm,⟨⟨Nat.zero_le _,.inl C⟩,tQ⟩⟩))));refine Aa 13 [1] (y<|λ_=>Bb 52 C C (λQ=>?_) (λQ=>?_));refine Aa 2 [] (λ_=>?_);obtain rfl:k=.nil:=Fo.len0 (by have h9:((k.len:Int)==0)=true:=Q;have:=beq_iff_eq.1 h9;omega);exact Aa 2 [1] (y<|λ_=>D1 C C (eC Bq C C) (λw f D=>AF _ t _ _ _ _ _ _)<|Aa 5 [0] (y<|λ_=>Bc (λw f D=>AG C (Ae C BI D.k0 C)) (λw f D=>⟨(⟨4,t.ln,t.co,[],0,.nil⟩,none,0),f,C,(by unfold AO;simp[SP.need,Av,F,G,J,K,L,Q]),D.exm,⟨⟨Nat.zero_le _,.inl C⟩,tQ⟩⟩)));refine Aa 4 [] (λ_=>?_);obtain⟨h,hk,r,rfl⟩:=Fo.cases1 k (by have h9:((k.len:Int)==0)=false:=Q;have:=beq_eq_false_iff_ne.1 h9;omega);have hp0:=hp;obtain⟨hto,hko,hkl,hdp⟩:=hp
 have hkl2:r.len+1≤100000:=hkl;obtain⟨n,rfl⟩:∃q,n=q+1:=by cases n with|zero=>exact absurd hdp (by simp[Fo.deep])|succ q=>exact⟨q,C⟩
 have htl:=hko.1.2;refine sH 0 C<|QQ 1 C<|Pf 0 C ?_;rintro⟨eb,eo,hka,hkc⟩ rfl;refine Dh [0,1] Aq (rd [0,1,2,3,4,5,6] (.br 7 (.br 8 (.rd 9 .fin) .fin) .fin)) C kR<|A9 6 [1,100,0,1] (y<|aI (by simp only[Fo.len];omega)<|y2<|y<|λ_=>HX C C C (λw hK=>Hm C C C LG)<|Ah C ?_ Aj);refine Aa 2 [] (λb3=>λ_=>Az [1,2] C<|Ah C ?_ Aj);refine Aa 2 [0] (y<|λ_=>Az [1,2] C<|A9 1 [] (λ_=>Bx<|Aa 12 [0] (y<|λ_=>Bb 62 C C (λU=>?_) (λU=>?_))));refine Aa 2 [] (λ_=>Dh [0,1,2] Aq (rd [0,1,2] (.br 3 (.br 4 .fin .fin) .fin)) C kR<|A9 3 [2] (y<|λ_=>Ah C ?_ Aj));refine D1 C C (eC IC C C) (λw f D=>Dz _ _ _ _)<|Aa 1 [] (λ_=>Az [0,1,2] C<|Ah C ?_ Aj);refine Bg C C (eC AI C C) (λw2 f2 he O=>⟨C,_,f2,C,(by unfold AO;simp[SP.need,Av,he,F,G,J,K,L,Q,U]),O⟩) λhn2=>Aa 1 [] (λ_=>Az [0,1,2] C<|Bx<|Aa 2 [] (λ_=>Dh [0,2] Aq (rd [0,1,2,3,4] (.br 5 (.br 6 (.br 7 .fin .fin) .fin) .fin)) C kR<|A9 5 [1,0] (y<|y<|λ_=>Ah C ?_ Aj)));refine JX C C (eC EK C C) (λw f D=>Cg 25 DB (AO (n+1)) (GK n) (λw f hv hJ t k a c hd hT=>ih n C w f hv hJ t k a c hd hT) w f D.vl D.f5 r _ _ (D7 hp0).2 oM D.f3) (λ_=>⟨Ba.mono,tQ⟩) (λe w2 f2 he O=>⟨C,e,f2,C,(by unfold AO;simp[SP.need,Av,he,F,G,J,K,L,Q,U,hn2]),O⟩) ?_;rintro⟨⟨nds1,xnds1⟩,ands1,cnds1⟩ W;dsimp only at W ⊢;refine Aa 1 [] (λ_=>Az [0,2] C<|Ah C ?_ Aj);refine D1 C C (eC Bq C C) (λw f D=>AF _ t _ _ _ _ _ _)<|Aa 1 [] (λ_=>Az [0,2] C<|Ah C ?_ Aj);exact Aa 2 [1] (y<|λ_=>Az [0,2] C<|Bx<|Aa 4 [] (λ_=>Bc (λw f D=>AG C (Ae C BI D.k1 C)) (λw f D=>⟨(⟨6,t.ln,t.co,h.tx,0,nds1⟩,ands1,cnds1),f,C,(by unfold AO;simp[SP.need,Av,F,G,J,K,L,Q,U,hn2,W]),D.exm,⟨D.f0,tQ⟩⟩)));refine Aa 4 [0] (y<|λ_=>D1 C C (eC dD C C) (λw f D=>Gh _ h _)<|Aa 1 [] (λ_=>Bb 82 C C (λh8=>?_) (λh8=>?_)));refine Aa 5 [0] (y<|aI (by simp <;> omega)<|aI (by simp <;> omega)<|λ_=>D1 C C (eC Rk C C) (λw f D=>Vy _ (D3.gl D.f5) h.tx)<|Aa 4 [] (λ_=>Bb 79 C C (λh9=>?_) (λh9=>?_)));refine Aa 8 [2,0] (y<|y<|λ_=>?_);refine JX C C (eC rV C C) (λw f D=>YU n (ih n C) (iha n C) w f D.vl D.f5 t (.cons h hk r) _ _ h.tx r _ _ (D7 hp0).2 oM D.f3) (λ_=>⟨Ba.mono,tQ⟩) (λe w2 f2 he O=>⟨C,e,f2,C,(by unfold AO;simp[SP.need,Av,he,F,G,J,K,L,Q,U,h8,h9]),O⟩) ?_;rintro⟨nd1,and1,cnd1⟩ hnd1;dsimp only at hnd1 ⊢;exact Aa 6 [1] (y<|λ_=>Bc (λw f D=>AG C (Ae C BI D.k1 C)) (λw f D=>⟨(nd1,and1,cnd1),f,C,(by unfold AO;simp[SP.need,Av,F,G,J,K,L,Q,U,h8,h9,hnd1]),D.exm,⟨D.f0,tQ⟩⟩));refine Aa 5 [] (λ_=>Dh [0,1,2] Aq (rd [0,1,2] (.br 3 (.br 4 .fin .fin) .fin)) C kR<|A9 3 [2] (y<|λ_=>Ah C ?_ Aj));refine D1 C C (eC IC C C) (λw f D=>Dz _ _ _ _)<|Aa 1 [] (λ_=>Az [0,1,2] C<|Ah C ?_ Aj)
 refine Bg C C (eC AI C C) (λw2 f2 he O=>⟨C,_,f2,C,(by unfold AO;simp[SP.need,Av,he,F,G,J,K,L,Q,U,h8,h9]),O⟩) λhn3=>Aa 1 [] (λ_=>Az [0,1,2] C<|Bx<|Aa 2 [] (λ_=>Dh [0,2] Aq (rd [0,1,2] (.br 3 (.br 4 (.br 5 .fin .fin) .fin) .fin)) C kR<|A9 3 [1,1] (y<|y<|λ_=>Ah C ?_ Aj)));refine JX C C (eC EK C C) (λw f D=>Cg 25 DB (AO (n+1)) (GK n) (λw f hv hJ t k a c hd hT=>ih n C w f hv hJ t k a c hd hT) w f D.vl D.f5 (.cons h hk r) _ _ (D7 hp0) hkl D.f4) (λ_=>⟨Ba.mono,tQ⟩) (λe w2 f2 he O=>⟨C,e,f2,C,(by unfold AO;simp[SP.need,Av,he,F,G,J,K,L,Q,U,h8,h9,hn3]),O⟩) ?_;rintro⟨⟨nds2,xnds2⟩,ands2,cnds2⟩ Y;dsimp only at Y ⊢;refine Aa 1 [] (λ_=>Az [0,2] C<|Ah C ?_ Aj);refine D1 C C (eC Bq C C) (λw f D=>AF _ t _ _ _ _ _ _)<|Aa 1 [] (λ_=>Az [0,2] C<|Ah C ?_ Aj);exact Aa 2 [1] (y<|λ_=>Az [0,2] C<|Bx<|Aa 2 [] (λ_=>Bc (λw f D=>AG C (Ae C BI D.k1 C)) (λw f D=>⟨(⟨8,t.ln,t.co,[],0,nds2⟩,ands2,cnds2),f,C,(by unfold AO;simp[SP.need,Av,F,G,J,K,L,Q,U,h8,h9,hn3,Y]),D.exm,⟨D.f0,tQ⟩⟩)));refine Aa 15 [] (λ_=>Dh [0,1,2] Aq (rd [0,1,2] (.br 3 (.br 4 .fin .fin) .fin)) C kR<|A9 3 [2] (y<|λ_=>Ah C ?_ Aj));refine D1 C C (eC IC C C) (λw f D=>Dz _ _ _ _)<|Aa 1 [] (λ_=>Az [0,1,2] C<|Ah C ?_ Aj);refine Bg C C (eC AI C C) (λw2 f2 he O=>⟨C,_,f2,C,(by unfold AO;simp[SP.need,Av,he,F,G,J,K,L,Q,U,h8]),O⟩) λhn4=>Aa 1 [] (λ_=>Az [0,1,2] C<|Bx<|Aa 2 [] (λ_=>Dh [0,2] Aq (rd [0,1,2] (.br 3 (.br 4 (.br 5 .fin .fin) .fin) .fin)) C kR<|A9 3 [1,1] (y<|y<|λ_=>Ah C ?_ Aj)));refine JX C C (eC EK C C) (λw f D=>Cg 25 DB (AO (n+1)) (GK n) (λw f hv hJ t k a c hd hT=>ih n C w f hv hJ t k a c hd hT) w f D.vl D.f5 (.cons h hk r) _ _ (D7 hp0) hkl D.f4) (λ_=>⟨Ba.mono,tQ⟩) (λe w2 f2 he O=>⟨C,e,f2,C,(by unfold AO;simp[SP.need,Av,he,F,G,J,K,L,Q,U,h8,hn4]),O⟩) ?_;rintro⟨⟨nds3,xnds3⟩,ands3,cnds3⟩ Z;dsimp only at Z ⊢;refine Aa 1 [] (λ_=>Az [0,2] C<|Ah C ?_ Aj);refine D1 C C (eC Bq C C) (λw f D=>AF _ t _ _ _ _ _ _)<|Aa 1 [] (λ_=>Az [0,2] C<|Ah C ?_ Aj);exact Aa 2 [1] (y<|λ_=>Az [0,2] C<|Bx<|Aa 2 [] (λ_=>Bc (λw f D=>AG C (Ae C BI D.k1 C)) (λw f D=>⟨(⟨8,t.ln,t.co,[],0,nds3⟩,ands3,cnds3),f,C,(by unfold AO;simp[SP.need,Av,F,G,J,K,L,Q,U,h8,hn4,Z]),D.exm,⟨D.f0,tQ⟩⟩)))
end Go.Proofs.YtgdndhedjlmagaaGreatDoor
namespace Go.SP
open Go.SW Go.RowKit
def MX(l:List lU):List (lU×Value):=l.map λk=>(k,.bool true)
theorem XW(n:lU):∀l:List lU,FF (MX l) n=if l.contains n then some (.bool true) else none
 | []=>rfl
 |k::l=>by
   have:=XW n l;simp only[MX,List.map,FF,List.contains_cons] at this ⊢
   by_cases hk:n=k
   · subst hk;simp
   · have e:(n==k)=false:=by simpa using hk
     rw[e,this];simp
theorem lkSD(n:lU)(l:List lU):(FF (MX l) n).getD (.bool false)=.bool (l.contains n):=by rw[XW];cases l.contains n <;> rfl
theorem lkS0{n:lU}{l:List lU}(h:l.contains n=false):FF (MX l) n=none:=by rw[XW,h];rfl
theorem vT:∀{l:List lU},l.Nodup→Lj (MX l)
 | [],_=>trivial
 |k::l,h=>⟨by
     have D:=List.nodup_cons.1 h;show FF (MX l) k=none;rw[XW,if_neg];simpa using D.1,vT (List.nodup_cons.1 h).2⟩
abbrev KD(m:Nat)(l:List lU):wO→Fq→Prop:=λw _=>Cz CJ w m (MX l)
variable {m:Nat}
theorem Jz{l:List lU}:G4 (λb=>b=m) (KD m l):=λ_ _ _ _ h _ D=>h.heap (D m C)
section
variable{s s0 s2:List lU}{op ln co nm:Int}{tx:lU}{k k0 r:Nd}
theorem Xz(h:(op==22)=false):BS s (.cons op ln co tx nm k .nil)=BS s k:=by
 simp only[BS,h];show (match BS s k with|none=>none|some s2=>some s2)=_
 cases BS s k <;> rfl
theorem Tc(h:(op==22)=true)(D:s.contains tx=false):BS s (.cons op ln co tx nm k .nil)=BS (tx::s) k:=by
 simp only[BS,h,D];show (match BS (tx::s) k with|none=>none|some s2=>some s2)=_
 cases BS (tx::s) k <;> rfl
theorem fY(h:(op==22)=true)(D:s.contains tx=true):BS s (.cons op ln co tx nm k .nil)=none:=by
 simp only[BS,h,D];rfl
theorem QC(hk:BS s0 k0=BS s (.cons op ln co tx nm k r))(h:(BS s (.cons op ln co tx nm k .nil)).isSome=true)(F:∀s',BS s (.cons op ln co tx nm k .nil)=some s'→s'=s2):BS s0 k0=BS s2 r:=by
 obtain⟨s',D⟩:=Option.isSome_iff_exists.1 h;obtain rfl:=F s' D;rw[hk,OW,D]
theorem Tj(hk:BS s0 k0=BS s (.cons op ln co tx nm k r))(h:(BS s (.cons op ln co tx nm k .nil)).isSome=false):BS s0 k0=none:=by
 rw[hk,OW]
 cases D:BS s (.cons op ln co tx nm k .nil) with
 |none=>rfl
 |some _=>rw[D] at h;cases h
end
def qA(P:Program)(D:FuncId)(n:Nat):Prop:=∀(w:wO)(f:Fq)(_:Vl w f)(m:Nat)(seen:List lU),KD m seen w f→f m=0→seen.Nodup→∀(op ln co nm:Int)(tx:lU)(kids:Nd)(F:oA)(nc:Nat),kids.size<n→kids.len≤100000∧kids.ok→Ba w f kids F nc →
 BF P D #[.agg #[.int .i64 op,.int .i64 ln,.int .i64 co,S tx,.int .i64 nm,.slice F kids.len nc],.map (some m)] w (P4 (α:=List lU) (λ_=>.bool (BS seen (.cons op ln co tx nm kids .nil)).isSome) (λs=>(∀s',BS seen (.cons op ln co tx nm kids .nil)=some s'→s'=s)∧s.Nodup) (λb=>b=m) (λ_ b=>b=m) (λs=>KD m s) (λ_=>[]) w f)
theorem Fo.all_imp{p q:A4→Fo→Prop}(h:∀t k,p t k→q t k):∀{fo:Fo},fo.all p→fo.all q
 |.nil,_=>trivial
 |.cons _ _ _,D=>⟨h _ _ D.1,Fo.all_imp h D.2⟩
theorem jE:∀{n:Nat}{t:A4}{k:Fo},GK n t k→k.all (GK n)
 |0,_,.nil,_=>trivial
 |0,_,.cons _ _ _,h=>absurd h.2.2.2 (by simp[Fo.deep])
 |_+1,_,_,h=>Fo.all_imp (λ_ _ h=>Te h) (D7 h)
theorem Xb{n:Nat}{ex:A4→Fo→R N}{t:A4}{k:Fo}(h:k.len≠2):Fb n ex t k=.error (t.ln,t.co):=by
 unfold Fb
 split
 · simp[Fo.len] at h
 · rfl
end Go.SP
namespace Go.SP
open Go.SW Go.RowKit
theorem Nd.getN(i:Nat)(x:Nd)(h:i<x.len):∃q:N,x.drop i=q.cons (x.drop (i+1)) :=
 let ⟨op,ln,co,tx,nm,k,e⟩:=Nd.drop_lt i x h
 ⟨⟨op,ln,co,tx,nm,k⟩,e⟩
variable {f:Fq}{i:Nat}{a:oA}{w:wO}
theorem B2.elem{q:N}:∀{i:Nat}{k:Nd}{j:Nat},B2 w f a j k→k.drop i=q.cons (k.drop (i+1))→∃b off ka kc,a=some ⟨b,off,none⟩∧Cs w f b (off+(j+i)*6) (Nk q.op q.ln q.co q.tx q.nm ka q.kids.len kc)∧Ba w f q.kids ka kc
 |0,k,j,h,e=>by
   have e:k=q.cons (k.drop 1):=e;rw[e] at h;obtain⟨b,off,ka,kc,D,F,G,-⟩:=B2.head h;exact⟨b,off,ka,kc,D,F,G⟩
 |_+1,.nil,_,_,e=>by cases e
 |i+1,.cons _ _ _ _ _ _ r,j,h,e=>by
   obtain⟨_,_,_,_,_,_,_,J⟩:=B2.head h;have:=B2.elem (i:=i) (k:=r) J e;rwa[show j+1+i=j+(i+1) by omega] at this
theorem Ba.elem{q:N}{c:Nat}{k:Nd}(h:Ba w f k a c)(e:k.drop i=q.cons (k.drop (i+1))):∃b off ka kc,a=some ⟨b,off,none⟩∧Cs w f b (off+i*6) (Nk q.op q.ln q.co q.tx q.nm ka q.kids.len kc)∧Ba w f q.kids ka kc:=by
 have:=B2.elem (Ba.at h) e;rwa[Nat.zero_add] at this
end Go.SP
namespace Go.SP
theorem Fo.nc:∀k:Fo,k=.nil∨∃h hk r,k=.cons h hk r
 |.nil=>.inl C
 |.cons h hk r=>.inr ⟨h,hk,r,C⟩
theorem Fo.most:∀l:Fo,(∃a D b bk c F r,l=.cons a D (.cons b bk (.cons c F r)))∨l.len<3
 |.nil=>.inr (by simp[Fo.len])
 |.cons _ _ .nil=>.inr (by simp[Fo.len])
 |.cons _ _ (.cons _ _ .nil)=>.inr (by simp[Fo.len])
 |.cons a D (.cons b bk (.cons c F r))=>.inl ⟨a,D,b,bk,c,F,r,C⟩
section
variable{n:Nat}{t h:A4}{hk l:Fo}{b:Bool}{X:R N}
theorem Ir(D:X=.error (t.ln,t.co)):SP.need t b X=.error (t.ln,t.co):=by subst D;cases b <;> rfl
theorem kG(hw:h.tx=[100,97,116,97])(D:l.len<3):Cj n t (.cons h hk l)=.error (t.ln,t.co):=by
 unfold Cj;refine Ir ?_;rw[if_pos (by rw[hw];decide)]
 split
 · simp[Fo.len] at D;omega
 · rfl
theorem iY(hw:h.tx=[114,111,111,116])(D:l.len≠3):Cj n t (.cons h hk l)=.error (t.ln,t.co):=by
 unfold Cj;refine Ir ?_;rw[if_neg (by rw[hw];decide),if_pos (by rw[hw];decide)]
 split
 · simp[Fo.len] at D
 · rfl
theorem uR(hw:h.tx=[100,101,102])(D:l.len≠2):Cj n t (.cons h hk l)=.error (t.ln,t.co):=by
 unfold Cj;refine Ir ?_;rw[if_neg (by rw[hw];decide),if_neg (by rw[hw];decide),if_pos (by rw[hw];decide)]
 split
 · simp[Fo.len] at D
 · rfl
theorem wF(hw:h.tx=[114,101,99])(D:l.len≠2):Cj n t (.cons h hk l)=.error (t.ln,t.co):=by
 unfold Cj;refine Ir ?_;rw[if_neg (by rw[hw];decide),if_neg (by rw[hw];decide),if_neg (by rw[hw];decide),if_pos (by rw[hw];decide)]
 split
 · simp[Fo.len] at D
 · rfl
theorem yC(hw:h.tx=[100,111])(D:l.len≠1):Cj n t (.cons h hk l)=.error (t.ln,t.co):=by
 unfold Cj;refine Ir ?_;rw[if_neg (by rw[hw];decide),if_neg (by rw[hw];decide),if_neg (by rw[hw];decide),if_neg (by rw[hw];decide),if_pos (by rw[hw];decide)]
 split
 · simp[Fo.len] at D
 · rfl
theorem Vw(D:(h.tx==[100,97,116,97])=false)(F:(h.tx==[114,111,111,116])=false)(G:(h.tx==[100,101,102])=false)(J:(h.tx==[114,101,99])=false)(K:(h.tx==[100,111])=false):Cj n t (.cons h hk l)=.error (t.ln,t.co):=by
 unfold Cj;refine Ir ?_;simp only[D,F,G,J,K];rfl
end
end Go.SP
namespace Go.SP
open Go.SW Go.RowKit
variable {σ:Bp}{f:Fq}{i o off:Nat}{x:Operand}{P:Program}{T e ty:tI}{w:wO}
theorem FC.toF{b c:Nat}{k:Fo}(h:FC w f (some ⟨b,o,none⟩) i k)(D:k.len≤c):Eo w f k (some ⟨b,o+i*6,none⟩) c:=⟨D,h.imp id λ⟨_,_,F,G⟩=>⟨b,o+i*6,C,by cases F;exact G⟩⟩
theorem iG{lo:Operand}{k len b c:Nat}(m:Nat)(F:len=m+2)(G:ev σ x=some (.slice (some ⟨b,off,none⟩) len c))(D:ev σ lo=some (.int .i64 2))(J:c≠2)(K:Kj P T=some (e,k)):AR P σ (.slice T x (some lo) none none) ty w (.slice (some ⟨b,off+2*k,none⟩) m (c-2)) w:=by
 subst F;exact aN G D K J
section
variable{bk q vk:Fo}{v:A4}{vs:Nd}
theorem mP(h:BO bk=match BO (.cons v vk q) with|none=>none|some x=>some (vs.app x))(F:v.isTypeVar=true):BO bk=match BO q with|none=>none|some x=>some ((vs.app (Av v 31 v.tx .nil).one).app x):=by
 rw[h]
 cases D:BO q with
 |none=>rw[Ua D]
 |some x=>rw[Vp F D];simp only[Nd.app_assoc];rfl
theorem vD(h:BO bk=match BO (.cons v vk q) with|none=>none|some x=>some (vs.app x))(D:v.isTypeVar=false):BO bk=none:=by rw[h,Vs D]
theorem cK:BO bk=match BO bk with|none=>none|some x=>some (Nd.nil.app x):=by cases BO bk <;> rfl
theorem wH(h:BO bk=match BO .nil with|none=>none|some x=>some (vs.app x)):BO bk=some vs:=by rw[h];show some (vs.app .nil)=_;rw[Nd.app_nil]
end
end Go.SP
namespace Go.Proofs.YtgdndhedjlmagaaGreatDoor
open Go.SW Go.SP Go.RowKit Go.Proofs.Tryz
theorem YP(n:Nat)(ih:qA prog 105 n)(w:wO)(f:Fq)(hv:Vl w f)(m:Nat)(seen:List lU)(hS:KD m seen w f)(hf:f m=0)(hnd:seen.Nodup)(op ln co nm:Int)(tx:lU)(kids:Nd)(na:oA)(nc:Nat)(hm:kids.size<n+1)(hok:kids.len≤100000∧kids.ok)(hN:Ba w f kids na nc) :
  BF prog 105 #[.agg #[iV op,iV ln,iV co,S tx,iV nm,.slice na kids.len nc],.map (some m)] w (P4 (α:=List lU) (λ_=>.bool (BS seen (.cons op ln co tx nm kids .nil)).isSome) (λs=>(∀s',BS seen (.cons op ln co tx nm kids .nil)=some s'→s'=s)∧s.Nodup) (λb=>b=m) (λ_ b=>b=m) (λs=>KD m s) (λ_=>[]) w f):=by
 have hkl:=hok.1;refine Df (X:=⟨λb=>b=m,λb=>b=m,KD m seen,w,f⟩) (H:=[]) (R:=[]) (B:=[]) (Fs:=[λw f=>Ba w f kids na nc]) (f:=f) func105 C C C (cI (M:=λb=>b=m) hv hS Jz (λb hb=>by subst hb;exact⟨Cz.lt hS,hf⟩) ⟨hN,tQ⟩ ⟨Ba.mono,tQ⟩)<|Aa 14 [0] (λb1=>y<|λ_=>Bb 9 C C (λh1=>?_) (λh1=>?_));refine Aa 7 [0] (y<|λ_=>FJ C C (λw f D=>Ow (K:=CJ) (a:=tx) C C WT HG kH D.res (vT hnd) (lkSD tx seen))<|Aa 2 [] (λ_=>Bb 13 C C (λh2=>?_) (λh2=>?_)));refine Aa 9 [] (λ_=>?_);have F:=fY (ln:=ln) (co:=co) (nm:=nm) (k:=kids) h1 h2;exact Bc (DE C C) (λw f D=>⟨seen,f,(by rw[F];rfl),⟨(λs' h=>by rw[F] at h;cases h <;> rfl),hnd⟩,D.exm,(λb h=>.inl h),D.res,tQ⟩);refine Aa 7 [0] (y<|λ_=>iT (K:=CJ) (a:=tx) (l:=MX seen) (I':=KD m (tx::seen)) C C C C WT HG C (vT hnd) (lkS0 h2) (λw f h=>h) (λw f w2 h D hC hm=>hm) Jz<|Aa 12 [0] (y<|λ_=>?_));refine HE (α:=Nat×Nd×List lU) (λx=>x.2.1.len) (λx=>x.1+x.2.1.len=kids.len∧BS (tx::seen) kids=BS x.2.2 x.2.1∧x.2.2.Nodup∧x.2.1.ok∧x.2.1.size≤kids.size) (λx=>(E4 1 (.map (some m)) 18 (.slice na kids.len nc) 19 (iV (kids.len:Int)) 20 (iV (x.1:Int)))) (λx=>⟨λb=>b=m,λb=>b=m,KD m x.2.2,w,f⟩) (λx=>[]) (λx=>[]) (λx=>[]) (λx=>[λw f=>B2 w f na x.1 x.2.1]) (0,kids,(tx::seen)) ⟨Nat.zero_add _,C,(List.nodup_cons.2 ⟨by simpa using h2,hnd⟩),hok.2,Nat.le_refl _⟩ lE (λw f D=>D.more (B':=[]) (F':=[λw f=>B2 w f na 0 kids]) nE (AM.mem ⟨Ba.at D.f0,tQ⟩) (A2.mem ⟨B2.mono,tQ⟩) |>.less (.cons _ sR) sR nE (mR [0])) ?_;rintro⟨i,r,s⟩ ⟨hi,hk,L,G,O⟩;dsimp only at hi hk L G O ⊢;refine Aa 6 [] (λ_=>Bb 21 C C (λh3=>?_) (λh3=>?_));refine Aa 6 [] (λ_=>?_);have hil:i<kids.len:=by have:=dT h3;omega
 obtain⟨Q,U,W,Y,Z,k2,r,rfl⟩:=Nd.cases1 r oM;have hi2:i+(r.len+1)=kids.len:=hi;refine Kw 0 C ?_;rintro⟨eb,eo,ka,kc⟩ rfl;refine Aa 11 [100,0,0,0] (aI oM<|y2<|λb2=>y<|y<|λ_=>mG (α:=List lU) (XX:=λ_ _=>False) C C (eC Si C C) (λw f D=>(ih w f D.vl m s D.res (D.mi m C).2.1 L Q U W Z Y k2 ka kc (by have F:(Nd.cons Q U W Y Z k2 r).size≤kids.size:=O;simp only[Nd.size] at F;omega) ⟨G.1,G.2.1⟩ D.f0).retP) (λ_=>Jz) (λ_=>trivial) (λ_ _ _ _ _ h=>h.elim) ?_);rintro s2 ⟨hs2,J⟩;refine Aa 3 [] (λ_=>Bb 27 C C (λh4=>?_) (λh4=>?_));replace h4:=FM h4;refine Aa 9 [] (λ_=>pM<|Aa 2 [] (λ_=>?_));have F:=(Tc (ln:=ln) (co:=co) (nm:=nm) (k:=kids) h1 h2).trans (Tj hk h4);exact Bc (DE C C) (λw f D=>⟨s2,f,(by rw[F];rfl),⟨(λs' h=>by rw[F] at h;cases h <;> rfl),J⟩,D.exm,(λb h=>.inl h),D.res,tQ⟩);replace h4:=Gt h4;exact Aa 8 [] (aI ⟨oM,oM⟩<|λ_=>DW ((i+1,r,s2)) (show r.len<r.len+1 from Nat.lt_succ_self _) ⟨show i+1+r.len=_ by omega,QC hk h4 hs2,J,G.2.2,show r.size≤kids.size by have F:(Nd.cons Q U W Y Z k2 r).size≤kids.size:=O;simp only[Nd.size] at F;omega⟩ lE (λw f D=>⟨_,D.less (.cons _ sR) sR nE (mR [1])⟩));refine Aa 3 [] (λ_=>GP<|Aa 8 [] (λ_=>?_));obtain rfl:r=.nil:=Nd.len0 (by have:=dF h3;omega);have F:=(Tc (ln:=ln) (co:=co) (nm:=nm) (k:=kids) h1 h2).trans (hk.trans (show BS s .nil=some s from C));exact Bc (DE C C) (λw f D=>⟨s,f,(by rw[F];rfl),⟨(λs' h=>by rw[F] at h;cases h <;> rfl),L⟩,D.exm,(λb h=>.inl h),D.res,tQ⟩);refine Aa 13 [0] (y<|λ_=>?_);refine HE (α:=Nat×Nd×List lU) (λx=>x.2.1.len) (λx=>x.1+x.2.1.len=kids.len∧BS seen kids=BS x.2.2 x.2.1∧x.2.2.Nodup∧x.2.1.ok∧x.2.1.size≤kids.size) (λx=>(E4 1 (.map (some m)) 18 (.slice na kids.len nc) 19 (iV (kids.len:Int)) 20 (iV (x.1:Int)))) (λx=>⟨λb=>b=m,λb=>b=m,KD m x.2.2,w,f⟩) (λx=>[]) (λx=>[]) (λx=>[]) (λx=>[λw f=>B2 w f na x.1 x.2.1]) (0,kids,seen) ⟨Nat.zero_add _,C,hnd,hok.2,Nat.le_refl _⟩ lE (λw f D=>D.more (B':=[]) (F':=[λw f=>B2 w f na 0 kids]) nE (AM.mem ⟨Ba.at D.f0,tQ⟩) (A2.mem ⟨B2.mono,tQ⟩) |>.less (.cons _ sR) sR nE (mR [0])) ?_;rintro⟨i,r,s⟩ ⟨hi,hk,L,G,O⟩;dsimp only at hi hk L G O ⊢;refine Aa 6 [] (λ_=>Bb 21 C C (λh5=>?_) (λh5=>?_));refine Aa 6 [] (λ_=>?_);have hil:i<kids.len:=by have:=dT h5;omega
 obtain⟨Q,U,W,Y,Z,k2,r,rfl⟩:=Nd.cases1 r oM;have hi2:i+(r.len+1)=kids.len:=hi;refine Kw 0 C ?_;rintro⟨eb,eo,ka,kc⟩ rfl;refine Aa 11 [100,0,0,0] (aI oM<|y2<|λb3=>y<|y<|λ_=>mG (α:=List lU) (XX:=λ_ _=>False) C C (eC Si C C) (λw f D=>(ih w f D.vl m s D.res (D.mi m C).2.1 L Q U W Z Y k2 ka kc (by have F:(Nd.cons Q U W Y Z k2 r).size≤kids.size:=O;simp only[Nd.size] at F;omega) ⟨G.1,G.2.1⟩ D.f0).retP) (λ_=>Jz) (λ_=>trivial) (λ_ _ _ _ _ h=>h.elim) ?_);rintro s2 ⟨hs2,J⟩;refine Aa 3 [] (λ_=>Bb 27 C C (λh6=>?_) (λh6=>?_));replace h6:=FM h6;refine Aa 9 [] (λ_=>pM<|Aa 2 [] (λ_=>?_));have F:=(Xz (ln:=ln) (co:=co) (nm:=nm) (tx:=tx) (k:=kids) h1).trans (Tj hk h6);exact Bc (DE C C) (λw f D=>⟨s2,f,(by rw[F];rfl),⟨(λs' h=>by rw[F] at h;cases h <;> rfl),J⟩,D.exm,(λb h=>.inl h),D.res,tQ⟩);replace h6:=Gt h6;exact Aa 8 [] (aI ⟨oM,oM⟩<|λ_=>DW ((i+1,r,s2)) (show r.len<r.len+1 from Nat.lt_succ_self _) ⟨show i+1+r.len=_ by omega,QC hk h6 hs2,J,G.2.2,show r.size≤kids.size by have F:(Nd.cons Q U W Y Z k2 r).size≤kids.size:=O;simp only[Nd.size] at F;omega⟩ lE (λw f D=>⟨_,D.less (.cons _ sR) sR nE (mR [1])⟩));refine Aa 3 [] (λ_=>GP<|Aa 8 [] (λ_=>?_));obtain rfl:r=.nil:=Nd.len0 (by have:=dF h5;omega);have F:=(Xz (ln:=ln) (co:=co) (nm:=nm) (tx:=tx) (k:=kids) h1).trans (hk.trans (show BS s .nil=some s from C));exact Bc (DE C C) (λw f D=>⟨s,f,(by rw[F];rfl),⟨(λs' h=>by rw[F] at h;cases h <;> rfl),L⟩,D.exm,(λb h=>.inl h),D.res,tQ⟩)
theorem Ql:∀n,qA prog 105 n
 |0=>λw f D m seen F G J op ln co nm tx kids K nc h=>by omega
 |n+1=>λw f D m seen F G J op ln co nm tx kids K nc L O Q=>YP n (Ql n) w f D m seen F G J op ln co nm tx kids K nc L O Q
theorem Z2(n:Nat)(ihx:∀ (w:wO) (f:Fq) (_:Vl w f) (_:D3 w f) (t:A4) (k:Fo) (a:oA) (c:Nat),GK n t k→Eo w f k a c→BU prog 25 #[fV t a k.len c] w (Im (AO (n+1) t k) w f) (IA 40 (AO (n+1) t k) w f))(w:wO)(f:Fq)(hv:Vl w f)(hJ:D3 w f)(t:A4)(k:Fo)(ka:oA)(kc:Nat)(hp:GK n t k)(hL:Eo w f k ka kc) :
  BU prog 77 #[fV t ka k.len kc] w (Im (Fb (n+1) (AO (n+1)) t k) w f) (IA 40 (Fb (n+1) (AO (n+1)) t k) w f):=by
 refine Oe (X:=X0 w f) (H:=[]) (R:=[]) (B:=[]) (Fs:=[λw f=>Eo w f k ka kc,λw f=>D3 w f]) (f:=f) func77 C C C (CC hv ⟨hL,hJ,tQ⟩ ⟨Eo.mono,D3.mono,tQ⟩)<|Aa 7 [] (λb1=>λb2=>λ_=>?_);have L:=jE hp;rcases Fo.two k with ⟨p,pk,b,bk,rfl⟩|W
 refine QQ 0 C<|Pf 0 C ?_;rintro⟨eb0,eo0,k0a,k0c⟩ rfl;refine ZN 1 C ?_;rintro⟨k1a,k1c⟩;refine Dh [0,1] Aq (.rd 0 (.rd 1 (.br 2 (rd [3,4,5,6,7,8] (.br 9 .fin .fin)) .fin))) C kR<|A9 2 [1,1] (y<|y<|λ_=>Ah C ?_ Aj);refine D1 C C (eC Hg C C) (λw f D=>CD _ t _)<|Aa 1 [] (λ_=>Az [0,1] C<|A9 1 [] (λ_=>K4 7 C (λQ=>?_) (λQ=>?_)));refine A9 5 [1] (y<|λ_=>Ah C ?_ Aj);refine Bg C C (eC AI C C) (λY f2 he J=>⟨C,_,f2,C,(by simp[Fo.len] at he),J⟩) λO=>Aa 1 [] (λ_=>Az [0,1] C<|Bx<|Aa 7 [1,101,0] (y<|aI (by simp only[Fo.len];omega)<|y2<|λ_=>?_));refine JX C C (eC RP C C) (λw f D=>Qj n w f D.vl D.f6 p pk _ _ L.1 D.f2) (λ_=>⟨Ba.mono,tQ⟩) (λe Y f2 he J=>⟨C,e,f2,C,(by simp[Fb,SP.need,Av,he,Q,O]),J⟩) ?_;rintro⟨F,Z,cnd1⟩ G;dsimp only at G ⊢;refine Aa 5 [0] (λb3=>y<|λ_=>Dh [0,1,2] Aq (rd [0,1,2,3,4] (.br 5 (.br 6 (.br 7 .fin .fin) .fin) .fin)) C kR<|A9 5 [2,101,0,0] (y<|aI (by simp only[Fo.len];omega)<|y2<|y<|λ_=>Ah C ?_ Aj));refine mmp (K:=CJ) C C λm=>Aa 1 [] (λ_=>Az [0,1,2] C<|Ah C ?_ Aj);refine mG (α:=List lU) (val:=λ_=>.bool (BS [] F.one).isSome) (q:=λ_=>True) (MI':=λ_ b=>b=m) (I':=λs=>KD m s) (F':=λ_=>[]) (XX:=λ_ _=>False) C C (eC Si C C) (λw f D=>((Ql (F.kids.size+1) w f D.vl m [] D.res.2 (D.mi m (.inr C)).2.1 List.nodup_nil F.op F.ln F.co F.nm F.tx F.kids Z cnd1 (Nat.lt_succ_self _) (ZS n p pk F L.1 G) D.f0).mono λv Y ⟨x,f2,Q,h2,h3,h4,h5,h6⟩=>⟨x,f2,Q,tQ,h3.mono (λb hb=>.inr hb),(λb hb=>(h4 b hb).imp .inr id),h5,h6⟩).retP) (λ_=>Jz) (λ_=>trivial) (λ_ _ _ _ _ h=>h.elim) ?_;rintro s1 -;refine Aa 1 [] (λ_=>Az [0,1,2] C<|Ah C ?_ Aj);refine Bg C C (eC AI C C) (λY f2 he J=>⟨C,_,f2,C,(by simp[Fb,SP.need,Av,he,Q,O,G]),J⟩) λhn2=>Aa 1 [] (λ_=>Az [0,1,2] C<|Bx<|Aa 2 [] (λ_=>Dh [0,2] Aq (rd [0,1,2,3,4,5] (.br 6 (.br 7 (.br 8 (.br 9 .fin .fin) .fin) .fin) .fin)) C kR<|A9 6 [1,0,1,100,0] (y<|y<|y<|aI (by simp only[Fo.len];omega)<|y2<|λ_=>Ah C ?_ Aj)));refine JX C C (eC DB C C) (λw f D=>ihx w f D.vl D.f7 b bk _ _ L.2.1 D.f1) (λ_=>⟨Ba.mono,tQ⟩) (λe Y f2 he J=>⟨C,e,f2,C,(by simp[Fb,SP.need,Av,he,Q,O,hn2,G]),J⟩) ?_;rintro⟨nd2,and2,cnd2⟩ U;dsimp only at U ⊢;refine Aa 1 [] (λ_=>Az [0,2] C<|Ah C ?_ Aj);refine Aa 2 [] (λb4=>λ_=>Az [1,3] C<|Ah C ?_ Aj);refine Dg 0 C C<|DN (λw f=>Ba w f (F.cons (nd2.one)) (some ⟨b4,0,none⟩) 2) (λw f D=>Cu.toF (Cu.cons' D.f1 (Cu.cons' D.f0 (show Cu _ _ .nil [] from C))) D.b0 (Nat.le_refl _)) Ba.mono<|D1 C C (eC Bq C C) (λw f D=>AF _ t _ _ _ _ _ _)<|Aa 1 [] (λ_=>Bl [0,2] Fy C (λ_ h=>.tail _ h)<|Ah C ?_ Aj)
 exact Aa 2 [1] (y<|λ_=>Bl [0,2] Fy C (λ_ h=>.tail _ h)<|Bx<|Aa 2 [] (λ_=>Bc (λw f D=>AG C (Ae C BI D.k1 C)) (λw f D=>⟨(⟨18,t.ln,t.co,[],0,(F.cons (nd2.one))⟩,(some ⟨b4,0,none⟩),2),f,C,(by simp[Fb,SP.need,Av,Q,O,hn2,G,U]),D.exm,⟨D.f0,tQ⟩⟩)));refine A9 5 [] (λ_=>Ah C ?_ Aj);refine Bg C C (eC AI C C) (λY f2 he J=>⟨C,_,f2,C,(by simp[Fb,SP.need,Q]),J⟩) λhn3=>?_
 cases hn3
 refine Dh [0,1] Aq (.rd 0 (.rd 1 (.br 2 (rd [3,4,5,6,7,8] (.br 9 .fin .fin)) .fin))) C kR<|A9 2 [1,1] (y<|y<|λ_=>Ah C ?_ Aj);refine D1 C C (eC Hg C C) (λw f D=>CD _ t _)<|Aa 1 [] (λ_=>Az [0,1] C<|A9 1 [] (λ_=>K4 7 C (λh2=>?_) (λh2=>?_)));refine A9 5 [1] (y<|λ_=>Ah C ?_ Aj);exact Bg C C (eC AI C C) (λY f2 he J=>⟨C,_,f2,C,(by exact Xb W),J⟩) λhn4=>absurd (by simp at hn4;omega) W;refine A9 5 [] (λ_=>Ah C ?_ Aj);refine Bg C C (eC AI C C) (λY f2 he J=>⟨C,_,f2,C,(by exact Xb W),J⟩) λhn5=>?_
 cases hn5
theorem ML:∀n,∀(w:wO)(f:Fq)(_:Vl w f)(_:D3 w f)(t:A4)(k:Fo)(a:oA)(c:Nat),GK n t k→Eo w f k a c→BU prog 25 #[fV t a k.len c] w (Im (AO (n+1) t k) w f) (IA 40 (AO (n+1) t k) w f)
 |0=>SE 0 (λ_ D=>by cases D) (λ_ D=>by cases D)
 |n+1=>SE (n+1) (λn' h=>by cases h;exact ML n) (λn' h=>by cases h;exact Z2 n (ML n))
theorem Tm(n:Nat)(ih:∀n',n=n'+1→∀ (w:wO) (f:Fq) (_:Vl w f) (_:D3 w f) (t:A4) (k:Fo) (a:oA) (c:Nat),GK n' t k→Eo w f k a c→BU prog 24 #[fV t a k.len c] w (Im (Dm (n'+1) t k) w f) (IA 40 (Dm (n'+1) t k) w f))(w:wO)(f:Fq)(W:Vl w f)(Y:D3 w f)(t:A4)(k:Fo)(ka:oA)(kc:Nat)(hp:GK n t k)(hL:Eo w f k ka kc) :
  BU prog 24 #[fV t ka k.len kc] w (Im (Dm (n+1) t k) w f) (IA 40 (Dm (n+1) t k) w f):=by
 refine Oe (X:=X0 w f) (H:=[]) (R:=[]) (B:=[]) (Fs:=[λw f=>Eo w f k ka kc,λw f=>D3 w f]) (f:=f) func24 C C C (CC W ⟨hL,Y,tQ⟩ ⟨Eo.mono,D3.mono,tQ⟩)<|Aa 10 [1] (λb1=>λb2=>y<|λ_=>D1 C C (eC Hg C C) (λw f D=>CD _ t _)<|Aa 3 [] (λ_=>Bb 11 C C (λG=>?_) (λG=>?_)));replace G:=FM G;refine Aa 5 [1] (y<|λ_=>D1 C C (eC eA C C) (λw f D=>JM _ t _ hp.1.1)<|Aa 2 [] (λ_=>Bb 13 C C (λh2=>?_) (λh2=>?_)));exact Aa 7 [1,1] (y<|y<|λ_=>D1 C C (eC Bq C C) (λw f D=>AF _ t _ _ _ _ _ _)<|Aa 6 [0] (y<|λ_=>Bc (λw f D=>AG C (Ae C BI D.k0 C)) (λw f D=>⟨(⟨31,t.ln,t.co,t.tx,0,.nil⟩,none,0),f,C,(by unfold Dm;simp[SP.need,Av,G,h2]),D.exm,⟨⟨Nat.zero_le _,.inl C⟩,tQ⟩⟩)));refine Aa 4 [] (λ_=>Dh [0,1] Aq (.rd 0 (.rd 1 (.br 2 (.br 3 .fin .fin) .fin))) C kR<|A9 2 [1,1] (y<|y<|λ_=>Ah C ?_ Aj));refine D1 C C (eC WN C C) (λw f D=>Gz _ (D3.gl D.f1) t _ hp.1.1 hp.1.2)<|Aa 1 [] (λ_=>Az [0,1] C<|Ah C ?_ Aj);exact Bg C C (eC AI C C) (λU f2 he K=>⟨C,_,f2,C,(by unfold Dm;simp[SP.need,Av,he,G,h2]),K⟩) λhn1=>Aa 1 [] (λ_=>Az [0,1] C<|Bx<|Aa 7 [1,1] (y<|y<|λ_=>D1 C C (eC Bq C C) (λw f D=>AF _ t _ _ _ _ _ _)<|Aa 5 [0] (y<|λ_=>Bc (λw f D=>AG C (Ae C BI D.k0 C)) (λw f D=>⟨(⟨32,t.ln,t.co,t.tx,0,.nil⟩,none,0),f,C,(by unfold Dm;simp[SP.need,Av,G,h2,hn1]),D.exm,⟨⟨Nat.zero_le _,.inl C⟩,tQ⟩⟩))));replace G:=Gt G;refine Aa 10 [1,1] (y<|y<|λ_=>Bg C C (eC AI C C) (λU f2 he K=>⟨C,_,f2,C,(by obtain rfl:k=.nil:=Fo.len0 (by have:=dF he;omega);unfold Dm;simp[G]),K⟩) λF=>Aa 3 [] (λ_=>?_));obtain⟨h,hk,r,rfl⟩:=Fo.cases1 k (by have:=dT F;omega);have Z:=hp;obtain⟨hto,hko,hkl,hdp⟩:=hp;have hkl2:r.len+1≤100000:=hkl;obtain⟨n,rfl⟩:∃q,n=q+1:=by cases n with|zero=>exact absurd hdp (by simp[Fo.deep])|succ q=>exact⟨q,C⟩
 refine sH 0 C<|QQ 1 C<|Pf 0 C ?_;rintro⟨eb,eo,hka,hkc⟩ rfl;refine Dh [0,1] Aq (rd [0,1,2,3,4,5,6] (.br 7 (.br 8 (.rd 9 .fin) .fin) .fin)) C kR<|A9 6 [1,100,0,1] (y<|aI (by first|(simp only[Fo.len];omega)|(dsimp only;omega)|omega)<|y2<|y<|λ_=>HX C C C (λw hK=>Hm C C C LG)<|Ah C ?_ Aj);refine Aa 2 [] (λb3=>λ_=>Az [1,2] C<|Ah C ?_ Aj);refine Aa 2 [0] (y<|λ_=>Az [1,2] C<|A9 1 [] (λ_=>Bx<|Aa 13 [0] (y<|λ_=>D1 C C (eC KU C C) (λw f D=>DF _ h _ _)<|Aa 3 [] (λ_=>Bb 51 C C (λL=>?_) (λL=>?_)))));refine Aa 6 [2] (y<|λ_=>Bg C C (eC AI C C) (λU f2 he K=>⟨C,_,f2,C,(by unfold Dm;simp[SP.need,Av,he,G,F,L]),K⟩) λhn3=>Aa 5 [] (λ_=>?_));refine JX C C (eC EK C C) (λw f D=>Cg 24 KZ (Dm (n+1)) (GK n) (λw f W Y t k a c hd hT=>ih n C w f W Y t k a c hd hT) w f D.vl D.f5 r _ _ (D7 Z).2 oM D.f3) (λ_=>⟨Ba.mono,tQ⟩) (λe U f2 he K=>⟨C,e,f2,C,(by unfold Dm;simp[SP.need,Av,he,G,F,L,hn3]),K⟩) ?_;rintro⟨⟨J,xnds1⟩,ands1,cnds1⟩ O;dsimp only at O ⊢;refine Aa 4 [] (λ_=>?_);have hnl:=Ey O;have hge:2≤r.len:=by have:=dT hn3;omega
 obtain⟨q,hq⟩:=Nd.getN (r.len-1) J oM;refine Nq (α:=Nat×Nat×oA×Nat) (λx=>ands1=some ⟨x.1,x.2.1,none⟩) (λx=>[⟨x.1,x.2.1+((r.len:Int)-1).toNat*6,Nk q.op q.ln q.co q.tx q.nm x.2.2.1 q.kids.len x.2.2.2⟩]) (λx=>[λw f=>Ba w f q.kids x.2.2.1 x.2.2.2]) (λw f D=>let ⟨b,off,ka,kc,G,h2,L⟩:=Ba.elem D.f0 hq;⟨(b,off,ka,kc),G,(λe he=>by cases he with|head=>(rw[show ((r.len:Int)-1).toNat=r.len-1 by omega];exact h2)|tail _ h=>cases h),AM.mem ⟨L,tQ⟩⟩) (λx=>A2.mem ⟨Ba.mono,tQ⟩) ?_;rintro⟨eb5,eo5,qa,qc⟩ rfl;refine Aa 19 [100,0,0] (aI ⟨oM,oM⟩<|aI (by first|(simp only[Fo.len];omega)|(dsimp only;omega)|omega)<|y2<|λb4=>y<|aI ⟨oM,oM⟩<|λ_=>?_);refine HE (α:=Nat×N×oA×Nat) (λx=>x.1) (λx=>x.1+1≤J.len∧CW t (J.drop x.1)=some x.2.1) (λx=>(E5 1 (pB b1) 2 (pB b2) 6 (.slice (some (⟨eb5,eo5,none⟩:Addr)) J.len cnds1) 7 (pB b4) 8 (iV ((x.1:Int)-1)))) (λx=>X0 w f) (λx=>[⟨b4,[iV x.2.1.op,iV x.2.1.ln,iV x.2.1.co,S x.2.1.tx,iV x.2.1.nm,.slice x.2.2.1 x.2.1.kids.len x.2.2.2],56,true⟩,⟨b2,zN,56,true⟩,⟨b1,[iV t.k,iV t.ln,iV t.co,iV t.nm,S t.tx,.slice (some (⟨eb,eo,none⟩:Addr)) (Fo.cons h hk r).len kc],54,true⟩]) (λx=>[]) (λx=>[]) (λx=>[λw f=>Ba w f J (some (⟨eb5,eo5,none⟩:Addr)) cnds1,λw f=>Ba w f x.2.1.kids x.2.2.1 x.2.2.2]) (r.len-1,q,qa,qc) ⟨show r.len-1+1≤J.len by omega,SY hq oM⟩ (lu5 C C C C (Eq.trans (b:=some (Value.int .i64 ((r.len:Int)-2))) C (by dsimp only;rw[show ((r.len:Int)-2)=((r.len-1:Nat):Int)-1 by omega]))) (λw f D=>D.less (sK (sD (sK (sK sZ)))) sR nE (mR [1,0])) ?_;rintro⟨j,o,oa,oc⟩ ⟨hj,har⟩;dsimp only at hj har ⊢;refine Aa 7 [] (λ_=>Bb 68 C C (λh4=>?_) (λh4=>?_));refine Aa 5 [] (λ_=>?_);obtain⟨j,rfl⟩:∃q,j=q+1:=⟨j-1,by have:=dT h4;omega⟩;obtain⟨q2,hq2⟩:=Nd.getN j J oM;refine Nq (α:=Nat×Nat×oA×Nat) (λx=>(some (⟨eb5,eo5,none⟩:Addr))=some ⟨x.1,x.2.1,none⟩) (λx=>[⟨x.1,x.2.1+(((j+1:Nat):Int)-1).toNat*6,Nk q2.op q2.ln q2.co q2.tx q2.nm x.2.2.1 q2.kids.len x.2.2.2⟩]) (λx=>[λw f=>Ba w f q2.kids x.2.2.1 x.2.2.2]) (λw f D=>let ⟨b,off,ka,kc,G,h2,L⟩:=Ba.elem D.f0 hq2;⟨(b,off,ka,kc),G,(λe he=>by cases he with|head=>(rw[show (((j+1:Nat):Int)-1).toNat=j by omega];exact h2)|tail _ h=>cases h),AM.mem ⟨L,tQ⟩⟩) (λx=>A2.mem ⟨Ba.mono,tQ⟩) ?_;rintro⟨eb6,eo6,qa2,qc2⟩ h44;obtain⟨rfl,rfl⟩:eb5=eb6∧eo5=eo6:=by cases h44;exact⟨C,C⟩
 refine Dh [1,2] Aq (rd [0,1,2,3,4] (.br 5 (.br 6 (.br 7 (.br 8 .fin .fin) .fin) .fin) .fin)) C kR<|A9 5 [1,100,0] (y<|aI (by first|(simp only[Fo.len];omega)|(dsimp only;omega)|omega)<|y2<|λ_=>Ah C ?_ Aj);refine Aa 2 [0] (y<|λ_=>Az [1,2] C<|Ah C ?_ Aj);refine Aa 2 [] (λb5=>λ_=>Az [2,3] C<|Ah C ?_ Aj);refine Dg 0 C C<|DN (λw f=>Ba w f (q2.cons (o.one)) (some ⟨b5,0,none⟩) 2) (λw f D=>Cu.toF (Cu.cons' D.f0 (Cu.cons' D.f2 (show Cu _ _ .nil [] from C))) D.b0 (Nat.le_refl _)) Ba.mono<|D1 C C (eC Bq C C) (λw f D=>AF _ t _ _ _ _ _ _)<|Aa 1 [] (λ_=>Bl [1,2] Fy C (λ_ h=>.tail _ h)<|Ah C ?_ Aj);exact Aa 2 [0] (y<|λ_=>Bl [1,2] Fy C (λ_ h=>.tail _ h)<|Bx<|Aa 7 [] (aI ⟨oM,oM⟩<|λ_=>DW ((j,Av t 32 [45,62] (q2.cons o.one),(some ⟨b5,0,none⟩),2)) (Nat.lt_succ_self _) ⟨show j+1≤J.len by omega,Tq hq2 har⟩ (lu5 C C C C (Eq.trans (b:=some (Value.int .i64 ((((j+1:Nat):Int)-1)-1))) C (by dsimp only;rw[show ((((j+1:Nat):Int)-1)-1)=(j:Int)-1 by omega]))) (λw f D=>⟨_,D.less (sK (sK (sK sZ))) sR nE (mR [2,0])⟩)));refine Aa 3 [] (λ_=>GP<|Aa 11 [0,1] (y<|y<|λ_=>?_));obtain rfl:j=0:=by have:=dF h4;omega
 have har2:CW t J=some o:=har;exact Bc (λw f D=>AG C (Ae C BI D.k1 C)) (λw f D=>⟨(o,oa,oc),f,C,(by unfold Dm;simp[SP.need,G,F,L,hn3,O,har2]),D.exm,⟨D.f1,tQ⟩⟩);refine Aa 4 [0] (y<|λ_=>D1 C C (eC KU C C) (λw f D=>DF _ h _ _)<|Aa 3 [] (λ_=>Bb 80 C C (λQ=>?_) (λQ=>?_)));refine Aa 1 [] (λ_=>Dh [0,1,2] Aq (.rd 0 (.rd 1 (.br 2 (.br 3 .fin .fin) .fin))) C kR<|A9 2 [2] (y<|λ_=>Ah C ?_ Aj));refine D1 C C (eC IC C C) (λw f D=>Dz _ _ _ _)<|Aa 1 [] (λ_=>Az [0,1,2] C<|Ah C ?_ Aj);refine Bg C C (eC AI C C) (λU f2 he K=>⟨C,_,f2,C,(by unfold Dm;simp[SP.need,Av,he,G,F,L,Q]),K⟩) λhn4=>Aa 1 [] (λ_=>Az [0,1,2] C<|Bx<|Aa 3 [] (λ_=>Dh [0,2] Aq (rd [0,1,2,3,4] (.br 5 (.br 6 (.br 7 .fin .fin) .fin) .fin)) C kR<|A9 5 [1,0] (y<|y<|λ_=>Ah C ?_ Aj)));refine JX C C (eC EK C C) (λw f D=>Cg 24 KZ (Dm (n+1)) (GK n) (λw f W Y t k a c hd hT=>ih n C w f W Y t k a c hd hT) w f D.vl D.f5 r _ _ (D7 Z).2 oM D.f3) (λ_=>⟨Ba.mono,tQ⟩) (λe U f2 he K=>⟨C,e,f2,C,(by unfold Dm;simp[SP.need,Av,he,G,F,L,Q,hn4]),K⟩) ?_;rintro⟨⟨nds3,xnds3⟩,ands3,cnds3⟩ hnds3;dsimp only at hnds3 ⊢;refine Aa 1 [] (λ_=>Az [0,2] C<|Ah C ?_ Aj);refine D1 C C (eC Bq C C) (λw f D=>AF _ t _ _ _ _ _ _)<|Aa 1 [] (λ_=>Az [0,2] C<|Ah C ?_ Aj);exact Aa 2 [1] (y<|λ_=>Az [0,2] C<|Bx<|Aa 2 [] (λ_=>Bc (λw f D=>AG C (Ae C BI D.k1 C)) (λw f D=>⟨(⟨32,t.ln,t.co,h.tx,0,nds3⟩,ands3,cnds3),f,C,(by unfold Dm;simp[SP.need,Av,G,F,L,Q,hn4,hnds3]),D.exm,⟨D.f0,tQ⟩⟩)));refine Aa 4 [0] (y<|λ_=>D1 C C (eC KU C C) (λw f D=>DF _ h _ _)<|Aa 1 [] (λ_=>Bb 90 C C (λh6=>?_) (λh6=>?_)));refine Aa 11 [2] (y<|λ_=>Bg C C (eC AI C C) (λU f2 he K=>⟨C,_,f2,C,(by unfold Dm;simp[SP.need,Av,he,G,F,L,Q,h6]),K⟩) λhn5=>Aa 4 [] (λ_=>Dh [0,2] Aq (rd [0,1,2,3,4] (.br 5 (.br 6 (.br 7 .fin .fin) .fin) .fin)) C kR<|A9 5 [1,0] (y<|y<|λ_=>Ah C ?_ Aj)));refine JX C C (eC EK C C) (λw f D=>Cg 24 KZ (Dm (n+1)) (GK n) (λw f W Y t k a c hd hT=>ih n C w f W Y t k a c hd hT) w f D.vl D.f5 r _ _ (D7 Z).2 oM D.f3) (λ_=>⟨Ba.mono,tQ⟩) (λe U f2 he K=>⟨C,e,f2,C,(by unfold Dm;simp[SP.need,Av,he,G,F,L,Q,h6,hn5]),K⟩) ?_;rintro⟨⟨nds4,xnds4⟩,ands4,cnds4⟩ hnds4;dsimp only at hnds4 ⊢;refine Aa 1 [] (λ_=>Az [0,2] C<|Ah C ?_ Aj);refine D1 C C (eC Bq C C) (λw f D=>AF _ t _ _ _ _ _ _)<|Aa 1 [] (λ_=>Az [0,2] C<|Ah C ?_ Aj);exact Aa 2 [1] (y<|λ_=>Az [0,2] C<|Bx<|Aa 2 [] (λ_=>Bc (λw f D=>AG C (Ae C BI D.k1 C)) (λw f D=>⟨(⟨32,t.ln,t.co,h.tx,0,nds4⟩,ands4,cnds4),f,C,(by unfold Dm;simp[SP.need,Av,G,F,L,Q,h6,hn5,hnds4]),D.exm,⟨D.f0,tQ⟩⟩)));refine Aa 1 [0] (y<|λ_=>D1 C C (eC KU C C) (λw f D=>DF _ h _ _)<|Aa 4 [] (λ_=>Bb 87 C C (λh7=>?_) (λh7=>?_)))
 refine Aa 5 [2] (y<|λ_=>Bg C C (eC AI C C) (λU f2 he K=>⟨C,_,f2,C,(by unfold Dm;simp[SP.need,Av,he,G,F,L,Q,h6,h7]),K⟩) λhn6=>Aa 4 [] (λ_=>Dh [0,2] Aq (rd [0,1,2,3,4] (.br 5 (.br 6 (.br 7 .fin .fin) .fin) .fin)) C kR<|A9 5 [1,0] (y<|y<|λ_=>Ah C ?_ Aj)));refine JX C C (eC EK C C) (λw f D=>Cg 24 KZ (Dm (n+1)) (GK n) (λw f W Y t k a c hd hT=>ih n C w f W Y t k a c hd hT) w f D.vl D.f5 r _ _ (D7 Z).2 oM D.f3) (λ_=>⟨Ba.mono,tQ⟩) (λe U f2 he K=>⟨C,e,f2,C,(by unfold Dm;simp[SP.need,Av,he,G,F,L,Q,h6,h7,hn6]),K⟩) ?_;rintro⟨⟨nds5,xnds5⟩,ands5,cnds5⟩ hnds5;dsimp only at hnds5 ⊢;refine Aa 1 [] (λ_=>Az [0,2] C<|Ah C ?_ Aj);refine D1 C C (eC Bq C C) (λw f D=>AF _ t _ _ _ _ _ _)<|Aa 1 [] (λ_=>Az [0,2] C<|Ah C ?_ Aj);exact Aa 2 [1] (y<|λ_=>Az [0,2] C<|Bx<|Aa 2 [] (λ_=>Bc (λw f D=>AG C (Ae C BI D.k1 C)) (λw f D=>⟨(⟨32,t.ln,t.co,h.tx,0,nds5⟩,ands5,cnds5),f,C,(by unfold Dm;simp[SP.need,Av,G,F,L,Q,h6,h7,hn6,hnds5]),D.exm,⟨D.f0,tQ⟩⟩)));refine Aa 1 [] (λ_=>Dh [0,1,2] Aq (.rd 0 (.rd 1 (.br 2 (.rd 3 (.rd 4 (.br 5 (.rd 6 (.br 7 .fin .fin)) .fin))) .fin))) C kR<|A9 2 [2,0] (y<|y<|λ_=>Ah C ?_ Aj));refine D1 C C (eC WN C C) (λw f D=>Gz _ (D3.gl D.f5) h _ hko.1.1 hko.1.2)<|Aa 1 [] (λ_=>Az [0,1,2] C<|A9 1 [] (λ_=>K4 46 C (λh8=>?_) (λh8=>?_)));refine A9 1 [] (λ_=>Ah C ?_ Aj);refine D1 C C (eC IC C C) (λw f D=>Dz _ _ _ _)<|Aa 1 [] (λ_=>Az [0,1,2] C<|A9 1 [] (λ_=>Ah C ?_ Aj));refine Bg C C (eC AI C C) (λU f2 he K=>⟨C,_,f2,C,(by unfold Dm;simp[SP.need,Av,he,G,F,L,Q,h6,h7,h8]),K⟩) λhn7=>Aa 1 [] (λ_=>Az [0,1,2] C<|Bx<|Aa 3 [] (λ_=>Dh [0,2] Aq (rd [0,1,2,3,4] (.br 5 (.br 6 (.br 7 .fin .fin) .fin) .fin)) C kR<|A9 5 [1,0] (y<|y<|λ_=>Ah C ?_ Aj)));refine JX C C (eC EK C C) (λw f D=>Cg 24 KZ (Dm (n+1)) (GK n) (λw f W Y t k a c hd hT=>ih n C w f W Y t k a c hd hT) w f D.vl D.f5 r _ _ (D7 Z).2 oM D.f3) (λ_=>⟨Ba.mono,tQ⟩) (λe U f2 he K=>⟨C,e,f2,C,(by unfold Dm;simp[SP.need,Av,he,G,F,L,Q,h6,h7,h8,hn7]),K⟩) ?_;rintro⟨⟨nds6,xnds6⟩,ands6,cnds6⟩ hnds6;dsimp only at hnds6 ⊢;refine Aa 1 [] (λ_=>Az [0,2] C<|Ah C ?_ Aj);refine D1 C C (eC Bq C C) (λw f D=>AF _ t _ _ _ _ _ _)<|Aa 1 [] (λ_=>Az [0,2] C<|Ah C ?_ Aj);exact Aa 2 [1] (y<|λ_=>Az [0,2] C<|Bx<|Aa 2 [] (λ_=>Bc (λw f D=>AG C (Ae C BI D.k1 C)) (λw f D=>⟨(⟨32,t.ln,t.co,h.tx,0,nds6⟩,ands6,cnds6),f,C,(by unfold Dm;simp[SP.need,Av,G,F,L,Q,h6,h7,h8,hn7,hnds6]),D.exm,⟨D.f0,tQ⟩⟩)));refine A9 1 [] (λ_=>Ah C ?_ Aj);refine Aa 2 [] (λ_=>Az [0,1,2] C<|A9 1 [] (λ_=>Ah C ?_ Aj));refine Bg C C (eC AI C C) (λU f2 he K=>⟨C,_,f2,C,(by unfold Dm;simp[SP.need,Av,he,G,F,L,Q,h6,h7,h8]),K⟩) λhn8=>?_
 cases hn8
theorem MQ:∀n,∀(w:wO)(f:Fq)(_:Vl w f)(_:D3 w f)(t:A4)(k:Fo)(a:oA)(c:Nat),GK n t k→Eo w f k a c→BU prog 24 #[fV t a k.len c] w (Im (Dm (n+1) t k) w f) (IA 40 (Dm (n+1) t k) w f)
 |0=>Tm 0 (λ_ D=>by cases D)
 |n+1=>Tm (n+1) (λn' h=>by cases h;exact MQ n)
theorem VR(n:Nat)(w:wO)(f:Fq)(Z:Vl w f)(hJ:D3 w f)(t:A4)(k:Fo)(ka:oA)(kc:Nat)(hp:GK (n+1) t k)(hL:Eo w f k ka kc) :
  BU prog 22 #[fV t ka k.len kc] w (Im (FL (n+1) t k) w f) (IA 40 (FL (n+1) t k) w f):=by
 refine Oe (X:=X0 w f) (H:=[]) (R:=[]) (B:=[]) (Fs:=[λw f=>Eo w f k ka kc,λw f=>D3 w f]) (f:=f) func22 C C C (CC Z ⟨hL,hJ,tQ⟩ ⟨Eo.mono,D3.mono,tQ⟩)<|Aa 7 [] (λb1=>λb2=>λ_=>?_);rcases Fo.nc k with rfl|⟨h,hk,r,rfl⟩
 refine Dh [0,1] Aq (.rd 0 (.rd 1 (.br 2 (rd [3,4,5,6,7,8,9,10,11,12,13,14,15,16,17,18,19,20,21,22,23] (.br 24 .fin .fin)) .fin))) C kR<|A9 2 [1,1] (y<|y<|λ_=>Ah C ?_ Aj);refine D1 C C (eC Hg C C) (λw f D=>CD _ t _)<|Aa 1 [] (λ_=>Az [0,1] C<|A9 1 [] (λ_=>K4 6 C (λh1=>?_) (λh1=>?_)));refine A9 6 [1] (y<|λ_=>K4 12 C (λh2=>?_) (λh2=>?_));simp[Fo.len] at h2;refine A9 14 [] (λ_=>Ah C ?_ Aj);refine Bg C C (eC AI C C) (λQ f2 he F=>⟨C,_,f2,C,(by simp[FL]),F⟩) λhn1=>?_
 cases hn1
 refine A9 20 [] (λ_=>Ah C ?_ Aj);refine Bg C C (eC AI C C) (λQ f2 he F=>⟨C,_,f2,C,(by simp[FL]),F⟩) λhn2=>?_
 cases hn2
 have hkl:=hp.2.2.1;have hkl2:r.len+1≤100000:=hkl;refine sH 0 C<|QQ 1 C<|Pf 0 C ?_;rintro⟨eb,eo,hka,hkc⟩ rfl;refine Dh [0,1] Aq (.rd 0 (.rd 1 (.br 2 (rd [3,4,5,6,7,8,9,10,11,12,13,14,15,16,17,18,19,20,21,22,23] (.br 24 .fin .fin)) .fin))) C kR<|A9 2 [1,1] (y<|y<|λ_=>Ah C ?_ Aj);refine D1 C C (eC Hg C C) (λw f D=>CD _ t _)<|Aa 1 [] (λ_=>Az [0,1] C<|A9 1 [] (λ_=>K4 6 C (λL=>?_) (λL=>?_)));refine A9 6 [1] (y<|λ_=>K4 12 C (λO=>?_) (λO=>?_));refine A9 9 [1,100,0] (y<|aI (by first|(simp only[Fo.len];omega)|omega)<|y2<|λ_=>K4 21 C (λU=>?_) (λU=>?_));refine A9 5 [1] (y<|λ_=>Ah C ?_ Aj);refine Bg C C (eC AI C C) (λQ f2 he F=>⟨C,_,f2,C,(by simp[FL,SP.need,Av,he,L,O,U]),F⟩) λW=>Aa 1 [] (λ_=>Az [0,1] C<|Bx<|Aa 2 [] (λ_=>Dh [1] Aq (rd [0,1,2,3,4,5,6,7,8,9] (.br 10 (.br 11 (.br 12 .fin .fin) .fin) .fin)) C kR<|A9 9 [0,0,100,4,0] (y<|y<|aI (by first|(simp only[Fo.len];omega)|omega)<|y2<|y<|λ_=>HX C C C (λw hK=>Hm C C C LG)<|Ah C ?_ Aj)));refine JX C C (eC EK C C) (λw f D=>Cg 24 KZ (Dm (n+1)) (GK n) (λw f Z hJ t k a c hd hT=>MQ n w f Z hJ t k a c hd hT) w f D.vl D.f5 r _ _ (D7 hp).2 oM D.f3) (λ_=>⟨Ba.mono,tQ⟩) (λe Q f2 he F=>⟨C,e,f2,C,(by simp[FL,SP.need,Av,he,L,O,U,W]),F⟩) ?_;rintro⟨⟨Y,xnds1⟩,J,K⟩ G;dsimp only at G ⊢;refine Aa 1 [] (λ_=>Az [1] C<|Ah C ?_ Aj);refine D1 C C (eC Bq C C) (λw f D=>AF _ t _ _ _ _ _ _)<|Aa 1 [] (λ_=>Az [1] C<|Ah C ?_ Aj);exact Aa 2 [0] (y<|λ_=>Az [1] C<|Bx<|Aa 2 [] (λ_=>Bc (λw f D=>AG C (Ae C BI D.k0 C)) (λw f D=>⟨(⟨42,t.ln,t.co,h.tx,0,Y⟩,J,K),f,C,(by simp[FL,SP.need,Av,L,O,U,W,G]),D.exm,⟨D.f0,tQ⟩⟩)));refine A9 5 [] (λ_=>Ah C ?_ Aj);refine Bg C C (eC AI C C) (λQ f2 he F=>⟨C,_,f2,C,(by simp[FL,SP.need,Av,he,L,O,U]),F⟩) λhn4=>?_
 cases hn4
 have h9:=dF O;simp only[Fo.len] at h9;omega;refine A9 20 [] (λ_=>Ah C ?_ Aj);refine Bg C C (eC AI C C) (λQ f2 he F=>⟨C,_,f2,C,(by simp[FL,SP.need,Av,he,L]),F⟩) λhn5=>?_
 cases hn5
set_option maxHeartbeats 1000000 in
theorem Zr(n:Nat)(w:wO)(f:Fq)(hv:Vl w f)(hJ:D3 w f)(t:A4)(k:Fo)(ka:oA)(kc:Nat)(hp:GK (n+1) t k)(hL:Eo w f k ka kc) :
  BU prog 11 #[fV t ka k.len kc] w (Im (Cj (n+1) t k) w f) (IA 40 (Cj (n+1) t k) w f):=by
 have ihx:=ML n;refine Oe (X:=X0 w f) (H:=[]) (R:=[]) (B:=[]) (Fs:=[λw f=>Eo w f k ka kc,λw f=>D3 w f]) (f:=f) func11 C C C (CC hv ⟨hL,hJ,tQ⟩ ⟨Eo.mono,D3.mono,tQ⟩)<|Aa 7 [] (λb1=>λb2=>λ_=>?_);rcases Fo.nc k with rfl|⟨h,hk,r,rfl⟩
 refine Dh [0,1] Aq (.rd 0 (.rd 1 (.br 2 (rd [3,4,5,6,7,8,9,10,11,12,13] (.br 14 (.rd 15 (.br 16 .fin .fin)) .fin)) .fin))) C kR<|A9 2 [1,1] (y<|y<|λ_=>Ah C ?_ Aj);refine D1 C C (eC Hg C C) (λw f D=>CD _ t _)<|Aa 1 [] (λ_=>Az [0,1] C<|A9 1 [] (λ_=>K4 11 C (λh1=>?_) (λh1=>?_)));refine A9 6 [1] (y<|λ_=>K4 17 C (λh2=>?_) (λh2=>?_));simp[Fo.len] at h2;refine A9 4 [] (λ_=>Ah C ?_ Aj);refine Aa 2 [] (λ_=>Az [0,1] C<|A9 1 [] (λ_=>Ah C ?_ Aj));refine Bg C C (eC AI C C) (λO f2 he G=>⟨C,_,f2,C,(by simp[Cj]),G⟩) λhn1=>?_
 cases hn1
 refine A9 10 [] (λ_=>Ah C ?_ Aj);refine Aa 2 [] (λ_=>Az [0,1] C<|A9 1 [] (λ_=>Ah C ?_ Aj));refine Bg C C (eC AI C C) (λO f2 he G=>⟨C,_,f2,C,(by simp[Cj]),G⟩) λhn2=>?_
 cases hn2
 have hkl:=hp.2.2.1;have hkl2:r.len+1≤100000:=hkl;have F:=(D7 hp).2;refine sH 0 C<|QQ 1 C<|Pf 0 C ?_;rintro⟨eb,eo,hka,hkc⟩ rfl;refine Dh [0,1] Aq (.rd 0 (.rd 1 (.br 2 (rd [3,4,5,6,7,8,9,10,11,12,13] (.br 14 (.rd 15 (.br 16 .fin .fin)) .fin)) .fin))) C kR<|A9 2 [1,1] (y<|y<|λ_=>Ah C ?_ Aj);refine D1 C C (eC Hg C C) (λw f D=>CD _ t _)<|Aa 1 [] (λ_=>Az [0,1] C<|A9 1 [] (λ_=>K4 11 C (λU=>?_) (λU=>?_)));refine A9 6 [1] (y<|λ_=>K4 17 C (λW=>?_) (λW=>?_));refine A9 4 [1,100,0] (y<|aI (by first|(simp only[Fo.len];omega)|(dsimp only;omega)|omega)<|y2<|λ_=>Ah C ?_ Aj);refine D1 C C (eC dD C C) (λw f D=>Gh _ h _)<|Aa 1 [] (λ_=>Az [0,1] C<|A9 1 [] (λ_=>Ah C ?_ Aj));refine Bg C C (eC AI C C) (λO f2 he G=>⟨C,_,f2,C,(by simp[Cj,SP.need,Av,he,U,W]),G⟩) λJ=>Aa 1 [] (λ_=>Az [0,1] C<|Bx<|Aa 5 [1] (y<|λ_=>FJ C C (λw f D=>Hm C C C LG)<|Aa 4 [] (λ_=>?_)));generalize hla:F3 (some (⟨eb,eo,none⟩:Addr)) kc 6=la;refine Aa 24 [1,100,4] (y<|aI (by first|(simp only[Fo.len];omega)|(dsimp only;omega)|omega)<|y2<|λ_=>Bb 36 C C (λY=>?_) (λY=>?_));refine Aa 2 [] (λ_=>?_);rcases Fo.most r with ⟨a,ak,b,bk,c,ck,r2,rfl⟩|L
 refine KH (p:=(Fo.cons a ak (.cons b bk (.cons c ck r2))).len≤kc-1) (λw f D=>D.f3.1) λhcap=>?_;have hcap2:r2.len+3≤kc-1:=hcap;have hkl3:r2.len+3+1≤100000:=hkl2;have hbl:bk.len≤100000:=F.2.1.2.2.1;refine QQ 3 C<|Pf 0 C ?_;rintro⟨eb0,eo0,k0a,k0c⟩ rfl;refine ZN 1 C ?_;rintro⟨k1a,k1c⟩;refine Dh [0,1] Aq (rd [0,1,2,3,4,5,6] (.br 7 (rd [8,9,10,11,12] (.br 13 (rd [14,15,16,17,18,19,20,21,22] (.br 23 .fin .fin)) .fin)) .fin)) C kR<|A9 4 [1] (y<|λ_=>K4 41 C (λh6=>?_) (λh6=>?_));refine A9 3 [101,0] (aI (by first|(simp only[Fo.len];omega)|(dsimp only;omega)|omega)<|y2<|λ_=>Ah C ?_ Aj);refine D1 C C (eC WN C C) (λw f D=>Gz _ (D3.gl D.f10) a _ F.1.1.1 F.1.1.2)<|Aa 1 [] (λ_=>Az [0,1] C<|A9 2 [] (λ_=>K4 47 C (λh7=>?_) (λh7=>?_)));refine A9 3 [100,0] (aI (by first|(simp only[Fo.len];omega)|(dsimp only;omega)|omega)<|y2<|λ_=>Ah C ?_ Aj);refine D1 C C (eC Hg C C) (λw f D=>CD _ b _)<|Aa 1 [] (λ_=>Az [0,1] C<|A9 2 [] (λ_=>K4 53 C (λh8=>?_) (λh8=>?_)));refine A9 7 [100,5] (aI (by first|(simp only[Fo.len];omega)|(dsimp only;omega)|omega)<|y2<|λ_=>Ah C ?_ Aj);refine Bg C C (eC AI C C) (λO f2 he G=>⟨C,_,f2,C,(by simp[Cj,SP.need,Av,he,U,W,J,Y,h6,h7,h8]),G⟩) λhn4=>Aa 1 [] (λ_=>Az [0,1] C<|Bx<|Aa 18 [100,5] (aI (by first|(simp only[Fo.len];omega)|(dsimp only;omega)|omega)<|y2<|λ_=>DN (λw f=>Eo w f (.cons c ck r2) (some ⟨eb0,eo0+2*6,none⟩) (kc-1-2)) (λw f D=>FC.toF D.f1 (by show r2.len+1≤_;omega)) Eo.mono<|So 56 6 ?_));refine HE (α:=Nat×Fo×Nd×lV×oA×Nat) (λx=>x.2.1.len) (λx=>x.1+x.2.1.len=bk.len∧x.2.2.1.len=x.1∧(BO bk=match BO x.2.1 with|none=>none|some y=>some (x.2.2.1.app y))∧x.2.1.all (λt _=>t.ok)) (λx=>(E7 1 (pB b1) 2 (pB b2) 3 (.slice (some (⟨eb0,eo0,none⟩:Addr)) (Fo.cons a ak (.cons b bk (.cons c ck r2))).len (kc-1)) 5 (.slice x.2.2.2.2.1 x.1 x.2.2.2.2.2) 65 (.slice k1a bk.len k1c) 66 (iV (bk.len:Int)) 67 (iV (x.1:Int)))) (λx=>X0 w f) (λx=>[⟨b2,zN,56,true⟩,⟨b1,[iV t.k,iV t.ln,iV t.co,iV t.nm,S t.tx,.slice (some (⟨eb,eo,none⟩:Addr)) (Fo.cons h hk (Fo.cons a ak (.cons b bk (.cons c ck r2)))).len kc],54,true⟩]) (λx=>[⟨56,6,x.2.2.2.2.1,x.2.2.2.2.2,x.1,x.2.2.2.1⟩]) (λx=>[]) (λx=>[λw f=>FC w f k1a x.1 x.2.1,λw f=>Cu w f x.2.2.1 x.2.2.2.1,λw f=>FC w f (some (⟨eb0,eo0,none⟩:Addr)) 0 (Fo.cons a ak (.cons b bk (.cons c ck r2))),λw f=>Eo w f (.cons c ck r2) (some ⟨eb0,eo0+2*6,none⟩) (kc-1-2),λw f=>D3 w f]) (0,bk,.nil,[],none,0) ⟨Nat.zero_add _,C,cK,Fo.ok.all F.2.1.2.1⟩ lE (λw f D=>D.more (B':=[]) (F':=[λw f=>FC w f k1a 0 bk,λw f=>Cu w f .nil []]) nE (AM.mem ⟨Eo.at D.f1,C,tQ⟩) (A2.mem ⟨FC.mono,Cu.mono,tQ⟩) |>.less (sK (sK sZ)) sR nE (mR [0,1,7,2,13])) ?_;rintro⟨i,q,vs,xs,ra,rc⟩ ⟨hi,hvl,htv,hqo⟩;dsimp only at hi hvl htv hqo ⊢;refine Aa 6 [] (λ_=>Bb 68 C C (λZ=>?_) (λZ=>?_));refine Aa 6 [] (λ_=>?_)
 have hil:i<bk.len:=by have:=dT Z;omega
 obtain⟨v,vk,q,rfl⟩:=Fo.cases1 q oM;have hi2:i+(q.len+1)=bk.len:=hi;refine Pf 0 C ?_;rintro⟨vb,vo,vka,vkc⟩ rfl;refine Aa 8 [100,0,0] (aI (by first|(simp only[Fo.len];omega)|(dsimp only;omega)|omega)<|y2<|λb3=>y<|λ_=>Dh [0,1,2] Aq (.rd 0 (.rd 1 (.br 2 (.br 3 .fin .fin) .fin))) C kR<|A9 2 [2,0] (y<|y<|λ_=>Ah C ?_ Aj));refine D1 C C (eC eA C C) (λw f D=>JM _ v _ hqo.1.1)<|Aa 1 [] (λ_=>Az [0,1,2] C<|Ah C ?_ Aj);exact Bg C C (eC AI C C) (λO f2 he G=>⟨C,_,f2,C,(by have Z:=vD htv he;simp[Cj,SP.need,Z,U,W,J,Y,h6,h7,h8,hn4]),G⟩) λhn5=>Aa 1 [] (λ_=>Az [0,1,2] C<|Bx<|Aa 7 [0,0] (y<|y<|λ_=>D1 C C (eC Bq C C) (λw f D=>AF _ v _ _ _ _ _ _)<|Aa 1 [] (λb4=>λ_=>DI 0 0 C C MV C C C C C C C C (λ_ _=>C) oM oM λra2 rc2=>Aa 8 [] (aI ⟨oM,oM⟩<|λ_=>DW ((i+1,q,(vs.app (Av v 31 v.tx .nil).one),(xs++Nk 31 v.ln v.co v.tx 0 none 0 0),ra2,rc2)) (show q.len<q.len+1 from Nat.lt_succ_self _) ⟨show i+1+q.len=_ by omega,show (vs.app (Av v 31 v.tx .nil).one).len=i+1 by rw[Nd.app_len,hvl];rfl,mP htv hn5,hqo.2⟩ lE (λw f D=>⟨_,(D.more (B':=[]) (F':=[λw f=>Cu w f (vs.app (Av v 31 v.tx .nil).one) (xs++Nk 31 v.ln v.co v.tx 0 none 0 0)]) nE (AM.mem ⟨Cu.app (Cu.one (k:=.nil) ⟨Nat.zero_le _,.inl C⟩) D.f3,tQ⟩) (A2.mem ⟨Cu.mono,tQ⟩)).less (sD (sD (sK (sK sZ)))) sR nE (mR [2,0,5,6,7])⟩)))));refine Aa 3 [] (λ_=>GP<|Aa 3 [] (λ_=>?_));obtain rfl:q=.nil:=Fo.len0 (by have:=dF Z;omega);have htv2:=wH htv;have hie:i=bk.len:=by have Z:i+0=bk.len:=hi;omega
 subst hvl;refine ZN 2 C ?_;rintro⟨k9a,k9c⟩;refine Dh [1] Aq (rd [0,1,2,3,4,5,6,7,8] (.br 9 (.br 10 (.br 11 (.br 12 .fin .fin) .fin) .fin) .fin)) C kR<|A9 8 [0,100,4] (y<|aI (by first|(simp only[Fo.len];omega)|(dsimp only;omega)|omega)<|y2<|λ_=>HX C C C (λw hK=>iG (Fo.cons c ck r2).len C C C oM LG)<|Ah C ?_ Aj);refine YZ C C (eC EK C C) (λw f D=>Hx 22 wL (FL (n+1)) (GK (n+1)) (λw f hv hJ t k a c hd hT=>VR n w f hv hJ t k a c hd hT) w f D.vl D.f6 (.cons c ck r2) _ _ (Fo.all_imp (λ_ _ h=>Te h) F.2.2) (by show r2.len+1≤_;omega) D.f5) (λ_=>⟨Cu.mono,tQ⟩) (λe O f2 he G=>⟨C,e,f2,C,(by simp[Cj,SP.need,Av,he,U,W,J,Y,h6,h7,h8,hn4,htv2]),G⟩) ?_;rintro⟨nds1,xnds1⟩ ands1 cnds1 hnds1;dsimp only at hnds1 ⊢;have hnl:=Ey hnds1;have hnl2:nds1.len=r2.len+1:=hnl;refine KH (p:=∃rb,ands1=some ⟨rb,0,none⟩) (λw f D=>by rcases (D.row _ (.head _)).2 with ⟨_,_,Z⟩|⟨ob,_,Z,_⟩;(dsimp only at Z;omega);exact⟨ob,Z⟩) λhob=>?_;obtain⟨rb,rfl⟩:=hob;refine pW 0 C C<|Aa 1 [] (λ_=>Bl [1] Fy C (λ_ h=>.tail _ h)<|Ah C ?_ Aj);refine KH (p:=xnds1.length=nds1.len*6∧∀v∈xnds1,v.oneCell'=true) (λw f D=>⟨Cu.len D.f0,Cu.one' D.f0⟩) λ⟨hxl,hx1⟩=>Z6 0 0 C C MV C C C C C C hxl hx1 oM (λ_ _=>C) oM oM λands2 cnds2=>DN (λw f=>Cu w f (vs.app nds1) (xs++xnds1)) (λw f D=>Cu.app D.f0 D.f4) Cu.mono<|Sp (λw f=>Ba w f (vs.app nds1) ands2 cnds2) Ba.mono (λw f D=>KR D D.f0)<|Aa 1 [] (λ_=>Bl [1] Fy C (λ_ h=>.tail _ h)<|Ah C ?_ Aj);refine D1 C C (eC Bq C C) (λw f D=>AF _ t _ _ _ _ _ _)<|Aa 1 [] (λ_=>Bl [1] Fy C (λ_ h=>.tail _ h)<|Ah C ?_ Aj);exact Aa 2 [0] (y<|λ_=>Bl [1] Fy C (λ_ h=>.tail _ h)<|Bx<|Aa 4 [] (λ_=>Bc (λw f D=>AG C (Ae C BI D.k0 C)) (λw f D=>⟨(⟨41,t.ln,t.co,a.tx,0,(vs.app nds1)⟩,ands2,cnds2),f,(by simp[nV,Nd.app_len,N.one,N.cons,Nd.len,Nat.add_comm]),(by simp[Cj,SP.need,Av,U,W,J,Y,h6,h7,h8,hn4,htv2,hnds1]),D.exm,⟨D.f0,tQ⟩⟩)));refine A9 7 [] (λ_=>Ah C ?_ Aj);refine Bg C C (eC AI C C) (λO f2 he G=>⟨C,_,f2,C,(by simp[Cj,SP.need,Av,he,U,W,J,Y,h6,h7,h8]),G⟩) λhn6=>?_
 cases hn6
 refine A9 3 [] (λ_=>Ah C ?_ Aj);refine Aa 2 [] (λ_=>Az [0,1] C<|A9 9 [] (λ_=>Ah C ?_ Aj));refine Bg C C (eC AI C C) (λO f2 he G=>⟨C,_,f2,C,(by simp[Cj,SP.need,Av,he,U,W,J,Y,h6,h7]),G⟩) λhn7=>?_
 cases hn7
 have Z:=dF h6;simp only[Fo.len] at Z;omega;refine Dh [0,1] Aq (rd [0,1,2,3,4,5,6] (.br 7 (rd [8,9,10,11,12] (.br 13 (rd [14,15,16,17,18,19,20,21,22] (.br 23 .fin .fin)) .fin)) .fin)) C kR<|A9 4 [1] (y<|λ_=>K4 41 C (λh10=>?_) (λh10=>?_));have Z:=dT h10;omega;refine A9 3 [] (λ_=>Ah C ?_ Aj);refine Aa 2 [] (λ_=>Az [0,1] C<|A9 5 [] (λ_=>Ah C ?_ Aj));refine Aa 2 [] (λ_=>Az [0,1] C<|A9 9 [] (λ_=>Ah C ?_ Aj));refine Bg C C (eC AI C C) (λO f2 he G=>⟨C,_,f2,C,(by exact kG (beq_iff_eq.1 Y) L),G⟩) λhn8=>?_
 cases hn8
 refine Aa 7 [] (λ_=>Bb 96 C C (λK=>?_) (λK=>?_));refine Aa 2 [] (λ_=>?_);rcases Fo.three r with ⟨a,ak,b,bk,c,ck,rfl⟩|L
 refine QQ 3 C<|Pf 0 C ?_;rintro⟨eb0,eo0,k0a,k0c⟩ rfl;refine ZN 1 C ?_;rintro⟨k1a,k1c⟩;refine ZN 1 C ?_;rintro⟨k2a,k2c⟩;refine Dh [0,1] Aq (rd [0,1,2,3,4,5,6] (.br 7 (.rd 8 (.br 9 .fin .fin)) .fin)) C kR<|A9 4 [1] (y<|λ_=>K4 101 C (λh12=>?_) (λh12=>?_));refine A9 3 [102,0] (aI (by first|(simp only[Fo.len];omega)|(dsimp only;omega)|omega)<|y2<|λ_=>Ah C ?_ Aj);refine D1 C C (eC O9 C C) (λw f D=>ET _ (D3.gl D.f12) a _ F.1.1.1 F.1.1.2)<|Aa 1 [] (λ_=>Az [0,1] C<|A9 1 [] (λ_=>Ah C ?_ Aj));refine Bg C C (eC AI C C) (λO f2 he G=>⟨C,_,f2,C,(by simp[Cj,SP.need,Av,he,U,W,J,Y,K,h12]),G⟩) λhn9=>Aa 1 [] (λ_=>Az [0,1] C<|Bx<|Aa 2 [] (λ_=>Dh [1] Aq (rd [0,1,2,3,4,5,6,7,8,10,11,12] (.br 9 (.br 13 (.br 14 (.br 15 (.br 16 .fin .fin) .fin) .fin) .fin) .fin)) C kR<|A9 12 [0,102,4,101,0,100,0] (y<|aI (by first|(simp only[Fo.len];omega)|(dsimp only;omega)|omega)<|y2<|aI (by first|(simp only[Fo.len];omega)|(dsimp only;omega)|omega)<|y2<|aI (by first|(simp only[Fo.len];omega)|(dsimp only;omega)|omega)<|y2<|λ_=>Ah C ?_ Aj)));refine JX C C (eC KZ C C) (λw f D=>MQ n w f D.vl D.f12 b bk _ _ F.2.1 D.f2) (λ_=>⟨Ba.mono,tQ⟩) (λe O f2 he G=>⟨C,e,f2,C,(by simp[Cj,SP.need,Av,he,U,W,J,Y,K,h12,hn9]),G⟩) ?_;rintro⟨nd1,and1,cnd1⟩ hnd1;dsimp only at hnd1 ⊢;refine Aa 1 [] (λ_=>Az [1] C<|Ah C ?_ Aj);refine JX C C (eC DB C C) (λw f D=>ihx w f D.vl D.f13 c ck _ _ F.2.2.1 D.f1) (λ_=>⟨Ba.mono,tQ⟩) (λe O f2 he G=>⟨C,e,f2,C,(by simp[Cj,SP.need,Av,he,U,W,J,Y,K,h12,hn9,hnd1]),G⟩) ?_;rintro⟨nd2,and2,cnd2⟩ hnd2;dsimp only at hnd2 ⊢;refine Aa 1 [] (λ_=>Az [1] C<|Ah C ?_ Aj);refine Aa 2 [] (λb5=>λ_=>Az [2] C<|Ah C ?_ Aj);refine Dg 0 C C<|DN (λw f=>Ba w f (nd1.cons (nd2.one)) (some ⟨b5,0,none⟩) 2) (λw f D=>Cu.toF (Cu.cons' D.f1 (Cu.cons' D.f0 (show Cu _ _ .nil [] from C))) D.b0 (Nat.le_refl _)) Ba.mono<|D1 C C (eC Bq C C) (λw f D=>AF _ t _ _ _ _ _ _)<|Aa 1 [] (λ_=>Bl [1] Fy C (λ_ h=>.tail _ h)<|Ah C ?_ Aj);exact Aa 2 [0] (y<|λ_=>Bl [1] Fy C (λ_ h=>.tail _ h)<|Bx<|Aa 4 [] (λ_=>Bc (λw f D=>AG C (Ae C BI D.k0 C)) (λw f D=>⟨(⟨43,t.ln,t.co,a.tx,0,(nd1.cons (nd2.one))⟩,(some ⟨b5,0,none⟩),2),f,C,(by simp[Cj,SP.need,Av,U,W,J,Y,K,h12,hn9,hnd1,hnd2]),D.exm,⟨D.f0,tQ⟩⟩)));simp[Fo.len] at h12;refine Dh [0,1] Aq (rd [0,1,2,3,4,5,6] (.br 7 (.rd 8 (.br 9 .fin .fin)) .fin)) C kR<|A9 4 [1] (y<|λ_=>K4 101 C (λh13=>?_) (λh13=>?_));exact absurd (by have Z:=beq_iff_eq.1 h13;omega) L;refine A9 3 [] (λ_=>Ah C ?_ Aj);refine Aa 2 [] (λ_=>Az [0,1] C<|A9 1 [] (λ_=>Ah C ?_ Aj));refine Bg C C (eC AI C C) (λO f2 he G=>⟨C,_,f2,C,(by exact iY (beq_iff_eq.1 K) L),G⟩) λhn10=>?_
 cases hn10
 refine Aa 7 [] (λ_=>Bb 124 C C (λQ=>?_) (λQ=>?_));refine Aa 2 [] (λ_=>?_);rcases Fo.two r with ⟨a,ak,b,bk,rfl⟩|L
 refine QQ 3 C<|Pf 0 C ?_;rintro⟨eb0,eo0,k0a,k0c⟩ rfl;refine ZN 1 C ?_;rintro⟨k1a,k1c⟩;refine Dh [0,1] Aq (rd [0,1,2,3,4,5,6] (.br 7 (.rd 8 (.br 9 .fin .fin)) .fin)) C kR<|A9 4 [1] (y<|λ_=>K4 129 C (λh15=>?_) (λh15=>?_));refine A9 3 [101,0] (aI (by first|(simp only[Fo.len];omega)|(dsimp only;omega)|omega)<|y2<|λ_=>Ah C ?_ Aj);refine D1 C C (eC O9 C C) (λw f D=>ET _ (D3.gl D.f10) a _ F.1.1.1 F.1.1.2)<|Aa 1 [] (λ_=>Az [0,1] C<|A9 1 [] (λ_=>Ah C ?_ Aj));refine Bg C C (eC AI C C) (λO f2 he G=>⟨C,_,f2,C,(by simp[Cj,SP.need,Av,he,U,W,J,Y,K,Q,h15]),G⟩) λhn11=>Aa 1 [] (λ_=>Az [0,1] C<|Bx<|Aa 2 [] (λ_=>Dh [1] Aq (rd [0,1,2,3,4,5,6,7,8] (.br 9 (.br 10 (.br 11 (.br 12 .fin .fin) .fin) .fin) .fin)) C kR<|A9 9 [0,101,4,100,0] (y<|aI (by first|(simp only[Fo.len];omega)|(dsimp only;omega)|omega)<|y2<|aI (by first|(simp only[Fo.len];omega)|(dsimp only;omega)|omega)<|y2<|λ_=>Ah C ?_ Aj)));refine JX C C (eC DB C C) (λw f D=>ihx w f D.vl D.f10 b bk _ _ F.2.1 D.f0) (λ_=>⟨Ba.mono,tQ⟩) (λe O f2 he G=>⟨C,e,f2,C,(by simp[Cj,SP.need,Av,he,U,W,J,Y,K,Q,h15,hn11]),G⟩) ?_;rintro⟨nd3,and3,cnd3⟩ hnd3;dsimp only at hnd3 ⊢;refine Aa 1 [] (λ_=>Az [1] C<|Ah C ?_ Aj);refine Aa 2 [] (λb6=>λ_=>Az [2] C<|Ah C ?_ Aj);refine Dg 0 C C<|DN (λw f=>Ba w f (nd3.one) (some ⟨b6,0,none⟩) 1) (λw f D=>Cu.toF (Cu.cons' D.f0 (show Cu _ _ .nil [] from C)) D.b0 (Nat.le_refl _)) Ba.mono<|D1 C C (eC Bq C C) (λw f D=>AF _ t _ _ _ _ _ _)<|Aa 1 [] (λ_=>Bl [1] Fy C (λ_ h=>.tail _ h)<|Ah C ?_ Aj);exact Aa 2 [0] (y<|λ_=>Bl [1] Fy C (λ_ h=>.tail _ h)<|Bx<|Aa 4 [] (λ_=>Bc (λw f D=>AG C (Ae C BI D.k0 C)) (λw f D=>⟨(⟨44,t.ln,t.co,a.tx,0,(nd3.one)⟩,(some ⟨b6,0,none⟩),1),f,C,(by simp[Cj,SP.need,Av,U,W,J,Y,K,Q,h15,hn11,hnd3]),D.exm,⟨D.f0,tQ⟩⟩)));simp[Fo.len] at h15;refine Dh [0,1] Aq (rd [0,1,2,3,4,5,6] (.br 7 (.rd 8 (.br 9 .fin .fin)) .fin)) C kR<|A9 4 [1] (y<|λ_=>K4 129 C (λEb=>?_) (λEb=>?_));exact absurd (by have Z:=beq_iff_eq.1 Eb;omega) L;refine A9 3 [] (λ_=>Ah C ?_ Aj);refine Aa 2 [] (λ_=>Az [0,1] C<|A9 1 [] (λ_=>Ah C ?_ Aj));refine Bg C C (eC AI C C) (λO f2 he G=>⟨C,_,f2,C,(by exact uR (beq_iff_eq.1 Q) L),G⟩) λhn12=>?_
 cases hn12
 refine Aa 7 [] (λ_=>Bb 148 C C (λh17=>?_) (λh17=>?_));refine Aa 2 [] (λ_=>?_);rcases Fo.two r with ⟨a,ak,b,bk,rfl⟩|L
 refine QQ 3 C<|Pf 0 C ?_;rintro⟨eb0,eo0,k0a,k0c⟩ rfl;refine ZN 1 C ?_;rintro⟨k1a,k1c⟩;refine Dh [0,1] Aq (rd [0,1,2,3,4,5,6] (.br 7 (rd [8,9,10,11,12] (.br 13 (.rd 14 (.br 15 .fin .fin)) .fin)) .fin)) C kR<|A9 4 [1] (y<|λ_=>K4 153 C (λh18=>?_) (λh18=>?_));refine A9 3 [101,0] (aI (by first|(simp only[Fo.len];omega)|(dsimp only;omega)|omega)<|y2<|λ_=>Ah C ?_ Aj);refine D1 C C (eC O9 C C) (λw f D=>ET _ (D3.gl D.f10) a _ F.1.1.1 F.1.1.2)<|Aa 1 [] (λ_=>Az [0,1] C<|A9 2 [] (λ_=>K4 159 C (λh19=>?_) (λh19=>?_)));refine A9 3 [100,0] (aI (by first|(simp only[Fo.len];omega)|(dsimp only;omega)|omega)<|y2<|λ_=>Ah C ?_ Aj);refine BA C C (eC fW C C) (λw f D=>Pp w f D.vl b bk _ _ D.f0) (λ_=>trivial) ?_;rintro⟨⟩ -;refine Aa 1 [] (λ_=>Az [0,1] C<|A9 1 [] (λ_=>Ah C ?_ Aj));refine Bg C C (eC AI C C) (λO f2 he G=>⟨C,_,f2,C,(by simp[Cj,SP.need,Av,he,U,W,J,Y,K,Q,h17,h18,h19]),G⟩) λhn13=>Aa 1 [] (λ_=>Az [0,1] C<|Bx<|Aa 2 [] (λ_=>Dh [1] Aq (rd [0,1,2,3,4,5,6,7,8] (.br 9 (.br 10 (.br 11 (.br 12 .fin .fin) .fin) .fin) .fin)) C kR<|A9 9 [0,101,4,100,0] (y<|aI (by first|(simp only[Fo.len];omega)|(dsimp only;omega)|omega)<|y2<|aI (by first|(simp only[Fo.len];omega)|(dsimp only;omega)|omega)<|y2<|λ_=>Ah C ?_ Aj)));refine JX C C (eC DB C C) (λw f D=>ihx w f D.vl D.f10 b bk _ _ F.2.1 D.f0) (λ_=>⟨Ba.mono,tQ⟩) (λe O f2 he G=>⟨C,e,f2,C,(by simp[Cj,SP.need,Av,he,U,W,J,Y,K,Q,h17,h18,h19,hn13]),G⟩) ?_;rintro⟨nd4,and4,cnd4⟩ hnd4;dsimp only at hnd4 ⊢;refine Aa 1 [] (λ_=>Az [1] C<|Ah C ?_ Aj);refine Aa 2 [] (λb7=>λ_=>Az [2] C<|Ah C ?_ Aj);refine Dg 0 C C<|DN (λw f=>Ba w f (nd4.one) (some ⟨b7,0,none⟩) 1) (λw f D=>Cu.toF (Cu.cons' D.f0 (show Cu _ _ .nil [] from C)) D.b0 (Nat.le_refl _)) Ba.mono<|D1 C C (eC Bq C C) (λw f D=>AF _ t _ _ _ _ _ _)<|Aa 1 [] (λ_=>Bl [1] Fy C (λ_ h=>.tail _ h)<|Ah C ?_ Aj);exact Aa 2 [0] (y<|λ_=>Bl [1] Fy C (λ_ h=>.tail _ h)<|Bx<|Aa 4 [] (λ_=>Bc (λw f D=>AG C (Ae C BI D.k0 C)) (λw f D=>⟨(⟨45,t.ln,t.co,a.tx,0,(nd4.one)⟩,(some ⟨b7,0,none⟩),1),f,C,(by simp[Cj,SP.need,Av,U,W,J,Y,K,Q,h17,h18,h19,hn13,hnd4]),D.exm,⟨D.f0,tQ⟩⟩)));refine A9 3 [] (λ_=>Ah C ?_ Aj);refine Aa 2 [] (λ_=>Az [0,1] C<|A9 1 [] (λ_=>Ah C ?_ Aj));refine Bg C C (eC AI C C) (λO f2 he G=>⟨C,_,f2,C,(by simp[Cj,SP.need,Av,he,U,W,J,Y,K,Q,h17,h18,h19]),G⟩) λhn14=>?_
 cases hn14
 simp[Fo.len] at h18;refine Dh [0,1] Aq (rd [0,1,2,3,4,5,6] (.br 7 (rd [8,9,10,11,12] (.br 13 (.rd 14 (.br 15 .fin .fin)) .fin)) .fin)) C kR<|A9 4 [1] (y<|λ_=>K4 153 C (λh20=>?_) (λh20=>?_));exact absurd (by have Z:=beq_iff_eq.1 h20;omega) L;refine A9 3 [] (λ_=>Ah C ?_ Aj);refine Aa 2 [] (λ_=>Az [0,1] C<|A9 5 [] (λ_=>Ah C ?_ Aj));refine Aa 2 [] (λ_=>Az [0,1] C<|A9 1 [] (λ_=>Ah C ?_ Aj));refine Bg C C (eC AI C C) (λO f2 he G=>⟨C,_,f2,C,(by exact wF (beq_iff_eq.1 h17) L),G⟩) λhn15=>?_
 cases hn15
 refine Aa 7 [] (λ_=>Bb 178 C C (λh21=>?_) (λh21=>?_));refine Aa 2 [] (λ_=>?_);rcases Fo.single r with ⟨a,ak,rfl⟩|L
 refine QQ 3 C<|Pf 0 C ?_;rintro⟨eb0,eo0,k0a,k0c⟩ rfl;refine Aa 4 [1] (y<|λ_=>Bg C C (eC AI C C) (λO f2 he G=>⟨C,_,f2,C,(by simp[Fo.len] at he),G⟩) λhn16=>Aa 3 [] (λ_=>Dh [1] Aq (rd [0,1,2,3] (.br 4 (.br 5 (.br 6 (.br 7 .fin .fin) .fin) .fin) .fin)) C kR<|A9 4 [0,100,0] (y<|aI (by first|(simp only[Fo.len];omega)|(dsimp only;omega)|omega)<|y2<|λ_=>Ah C ?_ Aj)));refine JX C C (eC DB C C) (λw f D=>ihx w f D.vl D.f8 a ak _ _ F.1 D.f0) (λ_=>⟨Ba.mono,tQ⟩) (λe O f2 he G=>⟨C,e,f2,C,(by simp[Cj,SP.need,Av,he,U,W,J,Y,K,Q,h17,h21,hn16]),G⟩) ?_;rintro⟨nd5,and5,cnd5⟩ hnd5;dsimp only at hnd5 ⊢;refine Aa 1 [] (λ_=>Az [1] C<|Ah C ?_ Aj);refine Aa 2 [] (λb8=>λ_=>Az [2] C<|Ah C ?_ Aj);refine Dg 0 C C<|DN (λw f=>Ba w f (nd5.one) (some ⟨b8,0,none⟩) 1) (λw f D=>Cu.toF (Cu.cons' D.f0 (show Cu _ _ .nil [] from C)) D.b0 (Nat.le_refl _)) Ba.mono<|D1 C C (eC Bq C C) (λw f D=>AF _ t _ _ _ _ _ _)<|Aa 1 [] (λ_=>Bl [1] Fy C (λ_ h=>.tail _ h)<|Ah C ?_ Aj);exact Aa 2 [0] (y<|λ_=>Bl [1] Fy C (λ_ h=>.tail _ h)<|Bx<|Aa 4 [] (λ_=>Bc (λw f D=>AG C (Ae C BI D.k0 C)) (λw f D=>⟨(⟨46,t.ln,t.co,[],0,(nd5.one)⟩,(some ⟨b8,0,none⟩),1),f,C,(by simp[Cj,SP.need,Av,U,W,J,Y,K,Q,h17,h21,hn16,hnd5]),D.exm,⟨D.f0,tQ⟩⟩)));exact Aa 4 [1] (y<|λ_=>Bg C C (eC AI C C) (λO f2 he G=>⟨C,_,f2,C,(by exact yC (beq_iff_eq.1 h21) L),G⟩) λhn17=>absurd (by have Z:=beq_iff_eq.1 hn17;omega) L);exact Aa 7 [1] (y<|λ_=>sA C C (eC UX C C) (pe:=λe=>e=(t.ln,t.co)) (T:=40) (λw f D=>(IY w t _).mono (λ_ _ h=>h.elim) λ_ O ⟨h1,h2⟩=>⟨_,f,h1,C,CQ.of_ext h2 D.vl⟩) (λe O f2 he G=>by subst he;exact⟨C,_,f2,C,(by exact Vw Y K Q h17 h21),G⟩));have Z:=dF W;simp only[Fo.len] at Z;omega;refine A9 10 [] (λ_=>Ah C ?_ Aj);refine Aa 2 [] (λ_=>Az [0,1] C<|A9 1 [] (λ_=>Ah C ?_ Aj));refine Bg C C (eC AI C C) (λO f2 he G=>⟨C,_,f2,C,(by simp[Cj,SP.need,Av,he,U]),G⟩) λhn18=>?_
 cases hn18
end Go.Proofs.YtgdndhedjlmagaaGreatDoor
namespace Go.SP
open Go.SW Go.RowKit
theorem B7(n:Int):(T1.var n).bnd:=⟨⟨Nat.zero_le _,Nat.zero_le _⟩,tQ⟩
theorem Dj{tx:lU}(h:tx.length≤1000000):(c0 tx).bnd:=⟨⟨Nat.zero_le _,h⟩,tQ⟩
theorem D4{tx:lU}{k:Ty}(h:tx.length≤1000000)(D:k.len≤200000)(F:k.bnd):(T1.con tx k).bnd:=⟨⟨D,h⟩,F⟩
theorem Ty.bnd_app:∀{x y:Ty},x.bnd→y.bnd→(x.app y).bnd
 |.nil,_,_,h=>h
 |.var _ r,_,h,D=>Ty.bnd_app (x:=r) h D
 |.con _ _ r,_,h,D=>⟨h.1,h.2.1,Ty.bnd_app (x:=r) h.2.2 D⟩
theorem Ty.bnd_snoc{x:Ty}{t:T1}(h:x.bnd)(D:t.bnd):(x.snoc t).bnd:=Ty.bnd_app h (GH D)
def PatF(P:Program)(h:FuncId)(G T TS:tI)(n:Nat):Prop:=∀(w:wO)(f:Fq)(_:Vl w f)(A:Ad)(_:A.ok)(s:CS)(_:Aw T TS A s w f)(_:∀b,BD A b→f b=0)(_:DQ s)(op ln co nm:Int)(tx:lU)(kids:Nd)(D:oA)(nc:Nat)(e:AB)(F:oA),
 kids.size<n→kids.size≤200000→Ba w f kids D nc→Gi e→AN w f e F→s.fresh+200001*(kids.size+1)≤800000000000 →
 BU P h #[.pointer (some ⟨A.cb,0,none⟩),nV op ln co tx nm kids D nc,.pointer F] w (Fv (α:=(T1×oA×Nat)×(AB×oA)×CS) (λx=>.tuple #[tV x.1.1 x.1.2.1 x.1.2.2,.pointer x.2.1.2]) (λx=>BM n s e op ln co tx nm kids=.ok (x.1.1,x.2.1.1,x.2.2)∧x.1.1.bnd∧Gi x.2.1.1∧DQ x.2.2∧x.2.2.fresh≤s.fresh+200001*(kids.size+1)) (BD A) (λx=>Aw T TS A x.2.2) (λx=>[λw f=>Ai w f x.1.1.kids x.1.2.1 x.1.2.2,λw f=>AN w f x.2.1.1 x.2.1.2]) w f)
   (PanE G (BD A) (λer=>BM n s e op ln co tx nm kids=.error er) w f)
variable {e5:AB}{s s5:CS}{co ln:Int}{k r:Nd}{ar:Ty}
theorem Wh{p:Jq}{D:CS}{e:AB}{op nm:Int}{tx:lU}{t q:T1}(h:p s e op ln co tx nm k=.ok (q,e5,s5))(F:Da s5 t q ln co=.ok D):Dx p s e (t.cons ar) (.cons op ln co tx nm k r)=Dx p D e5 ar r:=by
 rw[Dx,h];simp only;rw[T1.hd_cons,F];simp only;rw[T1.tl_cons]
theorem SX{p:Jq}{e:AB}:CU p s e k=(match CU p s e k with|.error x=>.error x|.ok (l,h,D)=>.ok (Ty.nil.app l,h,D)):=by
 cases CU p s e k with
 |error x=>rfl
 |ok q=>rfl
theorem V9{p:Jq}{e:AB}{op nm:Int}{tx:lU}{d:Ty}{q:T1}(h:p s e op ln co tx nm k=.ok (q,e5,s5)) :
   (match CU p s e (.cons op ln co tx nm k r) with|.error x=>.error x|.ok (l,D,F)=>.ok (d.app l,D,F):RI (Ty×AB×CS))=(match CU p s5 e5 r with|.error x=>.error x|.ok (l,D,F)=>.ok ((d.snoc q).app l,D,F)):=by
 rw[CU,h];simp only
 cases CU p s5 e5 r with
 |error x=>rfl
 |ok z=>obtain⟨l,D,F⟩:=z;simp only[Ty.snoc_app]
end Go.SP
namespace Go.SW
open Go.RowKit
def Zx:List Oper→Bool
 | []=>true
 |o::l=>(match o.op with|.defer _=>false|_=>true)&&Zx l
abbrev GF(ro:Option Nat):Fence:={Fence.wide with round:=ro}
section
variable{P:Program}{n:Nat}{Q:Bh}{σ:Bp}{ds:List Deferred}{w:World}
variable {l vs:List Value}{i m:Nat}{ro:Option Nat}{w':World}
theorem YE{o:Oper}{a:Act}{next next':Act→World→Prop}{Q:Exit→Act→World→Prop}(hn:∀a w,next a w→next' a w):∀r:Result Next,o.upon P a next Q r→o.uponIn (GF ro) m P a next' Q r
 |.ok (.value _) _,h=>hn _ _ h
 |.ok .skip _,h=>hn _ _ h
 |.ok (.defer _) _,h=>hn _ _ h
 |.ok (.enter f args) w',h=>by
   refine⟨λe=>(by cases e),?_⟩
   have G:Calls P f args w' _:=Calls.mono (R':=λe D=>match e,D with|.returned v,D=>next' (a.put o.dst v) D | .panicked chain,D=>Q (.panic chain) a D | .outgrown,_=>LetsOut Q) h λe D F=>by
     cases e with
     |returned v=>exact hn _ _ F
     |panicked c=>exact F
     |outgrown=>exact F
   exact (callsIn_wide (n:=m-1)).2 G
 |.ok (.row row args) w',h=>⟨λe=>(by cases e),λc cs _=>let ⟨v,J,F,K⟩:=h c cs;⟨v,J,hn _ _ F,stepsIn_wide.2 K⟩⟩
 |.halt (.panic _) _,h=>h
theorem Mx{ops:Array Oper}{Q:Exit→Act→World→Prop}(D:¬LetsOut Q):∀(l:List Oper)(a:Act)(w:World),Zx l=true→wpList P ops Q l a w→wpListIn (GF ro) m P ops Q l a w
 | [],_,_,_,h=>h
 |o::l,a,w,hd,h=>by
   unfold Zx at hd;simp only[Bool.and_eq_true] at hd;have F:∀c,o.op≠.defer c:=λc e=>by rw[e] at hd;exact absurd hd.1 (by simp)
   unfold wpList at h;unfold wpListIn
   split
   · rename_i hw
     rw[if_pos hw] at h;rcases h with h|h
     · refine⟨λ_ _=>trivial,?_⟩
       rw[Oper.semAt_eq _ _ _ F];exact YE (λa w=>Mx D l a w hd.2) _ h
     · exact absurd h.2 D
   · rename_i hw
     rw[if_neg hw] at h;exact⟨λ_ _=>trivial,Mx D l _ w hd.2 h⟩
theorem pU{l:List Oper}{a:Act}(D:Zx l=true)(F:¬LetsOut (Q.up n))(G:St n σ ds a)(h:Hd P n l.toArray Q l σ ds w):(Code.region i l.toArray false).wpIn (GF ro) m P (Q.up n) a w :=
 wpIn_region_lit (Mx F l a w D (h a G))
theorem fN:¬LetsOut (Q.up n):=λh=>by
 obtain⟨a,w,h⟩:=h;exact h
def YY(P:Program)(n:Nat)(ops:Array Oper)(Q:Bh)(l:List Oper)(σ:Bp)(ds:List Deferred)(w:World):Prop :=
 ∀a,St n σ ds a→wpListIn Fence.wide 3 P ops (Q.up n) l a w
theorem dZ{l:List Oper}(h:YY P n l.toArray Q l σ ds w):HI P n (.region i l.toArray false) Q σ ds w:=λa D=>wpIn_wide.1 (wpIn_region_lit (h a D))
variable{ops:Array Oper}{op:Op}{ty:TypeId}{AX:String}{af:Array Edge}{rest:List Oper}{d:Nat}
theorem U4(h:Q.q .normal σ ds w):YY P n ops Q [] σ ds w:=λ_ D=>wpListIn_nil ⟨σ,ds,D,h⟩
theorem Gp{v:Value}(hd:Nat.blt d n=true)(F:AR P σ op ty w v w')(h:YY P n ops Q rest (AH σ d v) ds w') :
   YY P n ops Q (⟨some d,op,ty,AX,af,none⟩::rest) σ ds w:=λa D =>
 wpListIn_plain C λK G=>⟨λ_ _=>trivial,by
   show Oper.uponIn _ _ _ _ _ _ _ ((Oper.semAt none _ _).run P w);rw[Oper.semAt_none,F a.eval _ _ _ _ D.ev];exact G _ _ (h _ (D.put hd v))⟩
theorem VX{D:Nat}{g:Operand}{args:List Operand}{ts:Array TypeId}{R:Ending→World→Prop}(hd:Nat.blt d n=true)(J:ev σ g=some (.func (.yield D) #[] #[]))(L:Jd σ args=some vs)(O:YieldAt Fence.wide m P D vs.toArray w R)
   (h:∀e w',R e w'→∃v,e=.returned v∧YY P n ops Q rest (AH σ d v) ds w'):YY P n ops Q (⟨some d,.call {callee:=.value g,args:=args.toArray,argTypes:=ts},ty,AX,af,none⟩::rest) σ ds w:=λa F =>
 wpListIn_plain C λK U=>⟨λ_ _=>trivial,by
   obtain⟨fn,tmps,assign,body,W,G⟩:=O;have Y:=EZ F.ev L
   have he:(execOp a.eval ⟨some d,.call {callee:=.value g,args:=args.toArray,argTypes:=ts},ty,AX,af,none⟩).run P w=.ok (.round D fn tmps assign body) w:=by
     simp[execOp,resolve,F.ev _ _ J,Deferred.ofValue,invoke,Y,W]
   show Oper.uponIn _ _ _ _ _ _ _ ((Oper.semAt none _ _).run P w);rw[Oper.semAt_none,he];refine⟨λe=>(by cases e),G.1,λc cs _=>?_⟩;obtain⟨e,w',Z,hc⟩:=G.2 c cs (room_wide _);obtain⟨v,rfl,hv⟩:=h e w' Z;exact⟨.returned v,w',U _ _ (hv _ (F.put hd v)),hc⟩⟩
def Xs(P:Program)(fn:Func)(R:Value→World→Prop):Bh :=
 {q:=λe σ ds w=>match e with|.normal|.ret=>∃D,ds=[{target:=.collected D,args:=#[]}]∧w.heap[D]?=some (.deferred (some []))∧∃v,WW P fn σ (w.putObj D (.deferred none)) v∧R v (w.putObj D (.deferred none))|_=>False,p:=λ_ _ _ _=>False}
theorem rX{f:FuncId}{fn:Func}{c:Code}{R:Value→World→Prop}(O:P.funcs[f]?=some fn)(U:fn.body=some c)
   (W:fn.ntmps=n) (Y:Nat.ble l.length n=true) (h:HI P n c (Xs P fn R) (I8 l 0) [] w):BF P f l.toArray w R:=by
 refine (callsIn_wide (n:=3)).1 (callsIn_of_wp_marks O U tQ (wpIn_wide.2 ?_));have L:=h _ (JF Y);rw[← W] at L;intro b k cs;obtain⟨e,a',w',J,K⟩:=L b k cs;refine⟨e,a',w',?_,K⟩
 have key:∀σ ds,St fn.ntmps σ ds a'→(∃D,ds=[{target:=.collected D,args:=#[]}]∧w'.heap[D]?=some (.deferred (some []))∧∃v,WW P fn σ (w'.putObj D (.deferred none)) v∧R v (w'.putObj D (.deferred none)))→LeavesInM Fence.wide 3 P fn a'.tmps (λe w'=>∃v,e=.returned v∧R v w') a'.defers .returning w':=λσ ds F ⟨D,Z,hw,v,hv,hR⟩=>by
   rw[F.defs,Z];exact⟨by simp,.inl ⟨D,_,C,run_takeDeferred hw,v,hv a'.tmps F.val,v,C,hR⟩⟩
 cases e with
 |normal=>obtain⟨σ,ds,F,G⟩:=J;exact key σ ds F G
 |ret=>obtain⟨σ,ds,F,G⟩:=J;exact key σ ds F G
 |exit i=>obtain⟨σ,ds,F,G⟩:=J;exact G.elim
 |goto i=>obtain⟨σ,ds,F,G⟩:=J;exact G.elim
 |panic c=>obtain⟨σ,ds,F,G⟩:=J;exact G.elim
 |outgrown=>exact J.elim
end
variable {X:Cx}{f:Fq}{fid:FuncId}{Fs:List (World→Fq→Prop)}{B:List FB}{H:List HB}{l:List Value}{R0:Value→World→Prop}
theorem menM{P:Program}{n:Nat}{R:List RB}{fn:Func}{c:Code}{w:World}(D:P.funcs[fid]?=some fn)(F:fn.body=some c)(G:fn.ntmps=n)(J:Nat.ble l.length n=true)(K:AU X w f H R B Fs)
   (h:A7 P n (Xs P fn R0) [] X R B Fs (.code c) [] (I8 l 0) H):BF P fid l.toArray w R0:=rX D F G J (h w f K)
end Go.SW
namespace Go.SP
open Go.SW Go.RowKit
def Ty.list:Ty→List T1
 |.nil=>[]
 |.var n r=>.var n::r.list
 |.con tx k r=>.con tx k::r.list
theorem Ty.list_cons(t:T1)(r:Ty):(t.cons r).list=t::r.list:=by cases t <;> rfl
theorem Ty.list_len:∀k:Ty,k.list.length=k.len
 |.nil=>rfl
 |.var _ r=>congrArg (· + 1) (Ty.list_len r)
 |.con _ _ r=>congrArg (· + 1) (Ty.list_len r)
theorem Ty.list_get:∀(k:Ty)(i:Nat),k.list[i]?=k.get i
 |.nil,_=>by simp[Ty.list,Ty.get]
 |.var _ _,0=>rfl
 |.con _ _ _,0=>rfl
 |.var _ r,i+1=>by simpa[Ty.list,Ty.get] using Ty.list_get r i
 |.con _ _ r,i+1=>by simpa[Ty.list,Ty.get] using Ty.list_get r i
def pA(t:T1)(l:List T1):T1:=l.foldl (λt x=>.con D2 (x.cons t.one)) t
theorem Ut(t:T1)(l:List T1)(x:T1):pA t (l++[x])=.con D2 (x.cons (pA t l).one):=by simp[pA]
theorem OC(t u:T1)(r:Ty):Gf (t.cons (u.cons r))=.con D2 (t.cons (Gf (u.cons r)).one):=by cases t <;> cases u <;> rfl
theorem RN(t:T1):Gf t.one=t:=by cases t <;> rfl
theorem jZ:∀(n:Nat)(k:Ty)(t:T1),k.len=n+1→k.get n=some t→pA t (k.list.take n).reverse=Gf k:=by
 intro n
 induction n with
 |zero =>
   intro k t F D;obtain⟨u,r,rfl⟩:=Ty.cases1 k oM;rw[T1.len_cons] at F;obtain rfl:=Ty.len0 (k:=r) oM;have:u=t:=by cases u <;> (simp[T1.cons,Ty.get] at D;exact D)
   subst this;rw[show (List.take 0 (u.cons Ty.nil).list).reverse=[] by simp];exact (RN u).symm
 |succ n J =>
   intro k t F D;obtain⟨u,r,rfl⟩:=Ty.cases1 k oM;rw[T1.len_cons] at F;have G:r.get n=some t:=by cases u <;> exact D
   have h:=J r t oM G;obtain⟨v,r,rfl⟩:=Ty.cases1 r oM;rw[OC,Ty.list_cons,List.take_succ_cons,List.reverse_cons,Ut,h]
abbrev xT(w:wO)(f:Fq)(k:Ty):={x:Nat×T1×oA×Nat // k.get x.1=some x.2.1∧Ai w f x.2.1.kids x.2.2.1 x.2.2.2}
def xE{w:wO}{f:Fq}{k:Ty}(x:xT w f k):Array Value:=#[.int .i64 (x.1.1:Int),tV x.1.2.1 x.1.2.2.1 x.1.2.2.2]
def iR{w:wO}{f:Fq}{k:Ty}(l:List (xT w f k)):List T1:=l.map λx=>x.1.2.1
def uH(n0 b3:Nat)(W h:wO):Prop:=∀k,k<n0→k≠b3→h.heap[k]?=W.heap[k]?
def iv(i:Nat):Int:=(i:Int)-1
theorem jC(i:Nat):iv (i+1)=(i:Int):=by unfold iv;omega
def nrm(n0:Nat)(V:wO)(f:Fq):Fq:=λb=>if b<n0 then f b else if (match V.heap[b]? with|some o=>o.isCells|none=>false) then f b else 0
variable {σ:Bp}{l:lV}{b cap i n0 off:Nat}{M:Nat→Prop}{hi x:Operand}{P:Program}{T e ty:tI}
theorem Cs.nrm{V:wO}{f:Fq}(h:Cs V f b off l):Cs V (nrm n0 V f) b off l:=λj v J=>by
 obtain⟨D,F⟩:=h j v J;refine⟨?_,F⟩;obtain⟨o,G,K⟩:=cells_of_cell F;unfold SP.nrm
 split
 · exact D
 · simp only at G
   rw[G];simp only;rw[if_pos K];exact D
theorem Jf.nrm{V:wO}{f:Fq}:∀(k:Ty)(b off:Nat),Jf V f k b off→Jf V (nrm n0 V f) k b off
 |.nil,_,_,_=>trivial
 |.var _ r,b,off,⟨⟨a,c,h⟩,F⟩=>⟨⟨a,c,Cs.nrm h⟩,Jf.nrm r b _ F⟩
 |.con _ k r,b,off,⟨⟨a,c,h,J,G⟩,F⟩=>⟨⟨a,c,Cs.nrm h,J,G.imp id λ⟨b',D,e,G⟩=>⟨b',D,e,Jf.nrm k b' D G⟩⟩,Jf.nrm r b _ F⟩
theorem Ai.nrm{V:wO}{f:Fq}{k:Ty}{a:oA}{c:Nat}(h:Ai V f k a c):Ai V (nrm n0 V f) k a c:=⟨h.1,h.2.imp id λ⟨b,off,e,D⟩=>⟨b,off,e,Jf.nrm k b off D⟩⟩
theorem lD{V:wO}{f:Fq}(h:b<n0):nrm n0 V f b=f b:=if_pos h
theorem JK{V:wO}{f:Fq}(h:f b=0):nrm n0 V f b=0:=by
 unfold nrm;simp[h]
structure W7(w:wO)(f:Fq)(b2 b3:Nat)(z:lV)(TT:tI)(t:T1)(V:wO)(f2:Fq)(a:oA)(c:Nat):Prop where
 exm:CQ (λ_=>False) w f V f2
 k3:AS V b3 (tC t a c) TT
 k2:AS V b2 z TT
 ty:Ai V f2 t.kids a c
 bnd:t.bnd
 z3:f2 b3=0∧f2 b2=0
 hz:∀r o,V.heap[r]?=some o→o.isCells=false→w.heap.size≤r→f2 r=0
theorem Xd{w V:wO}{f f2:Fq}(h:CQ M w f V f2):CQ M w f V (nrm w.heap.size V f2):=⟨h.stp,λb D=>(lD D).trans (h.old b D),λb D=>JK (h.val b D)⟩
theorem fL{w V:wO}{f2:Fq}:∀r o,V.heap[r]?=some o→o.isCells=false→w.heap.size≤r→nrm w.heap.size V f2 r=0:=λr o h D F=>by
 unfold nrm;rw[if_neg (by omega),h];simp[D]
theorem CQ.trans0{w V V':wO}{f f2 f3:Fq}(h:CQ (λ_=>False) w f V f2)(D:CQ M V f2 V' f3)(J:∀b,M b→w.heap.size≤b):CQ (λ_=>False) w f V' f3 :=
 ⟨⟨D.stp.os.trans h.stp.os,D.stp.tape.trans h.stp.tape,D.stp.output.trans h.stp.output,Nat.le_trans h.stp.size D.stp.size,λk F _=>(D.stp.block k (Nat.lt_of_lt_of_le F h.stp.size) (λhm=>by have:=J k hm;omega)).trans (h.stp.block k F (λh=>h))⟩,
   λb G=>(D.old b (Nat.lt_of_lt_of_le G h.stp.size)).trans (h.old b G),D.val⟩
section
variable{w V V':wO}{f f2 f3:Fq}{b2 b3:Nat}{z:lV}{TT:tI}{t t':T1}{a a':oA}{c c':Nat}
theorem W7.step(h:W7 w f b2 b3 z TT t V f2 a c)(J:w.heap.size≤b3)(F:b2≠b3)(D:CQ (λb=>b=b3) V f2 V' f3)(K:AS V' b3 (tC t' a' c') TT)(L:Ai V' f3 t'.kids a' c')(G:t'.bnd):W7 w f b2 b3 z TT t' V' (nrm w.heap.size V' f3) a' c' where
 exm:=Xd (CQ.trans0 h.exm D λb e=>e▸J)
 k3:=K
 k2:=(D.stp.block b2 h.k2.lt F).trans h.k2
 ty:=Ai.nrm L
 bnd:=G
 z3:=⟨JK ((D.old _ h.k3.lt).trans h.z3.1),JK ((D.old _ h.k2.lt).trans h.z3.2)⟩
 hz:=fL
theorem Is(h:AS V b l T){o:Obj}(D:V.heap[b]?=some o)(F:o.isCells=false):False:=by
 have G:V.heap[b]?=some (.cells l.toArray T):=h;rw[G] at D;cases D;cases F
theorem W7.own{B:Nat}(Z:w.heap.size≤B){row:Option Nat}(h:W7 w f b2 b3 z TT t V f2 a c)(D:V.grownBy V' row)(O:∀r,row=some r→B≤r∧∃o:Obj,V.heap[r]?=some o∧o.isCells=false):W7 w f b2 b3 z TT t V' f2 a c:=by
 have J:∀{b:Nat}{l:lV}{T:tI},AS V b l T→some b≠row:=λQ e=>by
   obtain⟨_,o,G,K⟩:=O _ e.symm;exact Is Q G K
 have L:∀r,row=some r→f2 r=0:=λr e=>by
   obtain⟨h1,o,G,K⟩:=O r e;exact h.hz r o G K oM
 have Y:Ji V f2 V' f2:=λb=>⟨Nat.le_refl _,λk U=>by
   have W:b<V.heap.size:=by
     rcases Nat.lt_or_ge b V.heap.size with F|F
     · exact F
     · have:=h.exm.val b F;omega
   refine Es (D.block b W λe=>?_) k;have:=L b e.symm;omega⟩
 exact {exm:=⟨⟨D.os.trans h.exm.stp.os,D.tape.trans h.exm.stp.tape,D.output.trans h.exm.stp.output,Nat.le_trans h.exm.stp.size D.size,λk U hm=>(D.block k (Nat.lt_of_lt_of_le U h.exm.stp.size) (λe=>by have:=(O k e.symm).1;omega)).trans (h.exm.stp.block k U hm)⟩,h.exm.old,λb Q=>h.exm.val b (Nat.le_trans D.size Q)⟩,
         k3:=(D.block _ h.k3.lt (J h.k3)).trans h.k3,
         k2:=(D.block _ h.k2.lt (J h.k2)).trans h.k2,
         ty:=Ai.mono _ _ _ _ h.ty Y,
         bnd:=h.bnd,z3:=h.z3,
         hz:=λr o G K hw=>by
           rcases Nat.lt_or_ge r V.heap.size with F|F
           · by_cases e:some r=row
             · exact L r e.symm
             · rw[D.block r F e] at G;exact h.hz r o G K hw
           · exact h.exm.val r F}
end
theorem KeepsFrom.of_exm{B b3:Nat}{V V':wO}{f2 f3:Fq}(D:CQ (λb=>b=b3) V f2 V' f3)(F:AS V b3 l T):KeepsFrom B V V' :=
 ⟨D.stp.size,λk o _ h G=>(D.stp.block k (Array.getElem?_eq_some_iff.1 h).1 (λe=>by subst e;exact Is F h G)).trans h⟩
theorem uH.of_exm{b3:Nat}{V V':wO}{f2 f3:Fq}(D:CQ (λb=>b=b3) V f2 V' f3)(F:n0≤V.heap.size):uH n0 b3 V V':=λk G h=>D.stp.block k oM h
theorem gW{w:wO}{f:Fq}{x t:T1}{D F:oA}{G J:Nat}(h:Cs w f b 0 (tC x D G++tC t F J))(L:Ai w f x.kids D G)(O:Ai w f t.kids F J):Ai w f (x.cons t.one) (some ⟨b,0,none⟩) 2:=by
 have Q:Bn w f Ty.nil []:=rfl;have K:=Bn.snoc (t:=t) O (Bn.snoc (t:=x) L Q)
 have e:(Ty.nil.snoc x).snoc t=x.cons t.one:=by
   show (x.one).app t.one=_;rw[T1.one_app]
 rw[e] at K;exact Bn.toF K h (by simp[T1.len_cons,T1.one,Ty.len])
theorem W7.frz{w V:wO}{f f2:Fq}{b2 b3 b5:Nat}{z:lV}{TT:tI}{t:T1}{a:oA}{c:Nat}(h:W7 w f b2 b3 z TT t V f2 a c)(D:AS V b5 l T)(F:b5≠b2)(G:b5≠b3)(hw:w.heap.size≤b5) :
   W7 w f b2 b3 z TT t V (λb=>if b=b5 then max l.length (f2 b) else f2 b) a c∧Cs V (λb=>if b=b5 then max l.length (f2 b) else f2 b) b5 0 l:=by
 have U:Ji V f2 V (λb=>if b=b5 then max l.length (f2 b) else f2 b):=λb=>⟨by simp only;split <;> omega,λ_ _=>C⟩
 refine⟨{exm:=⟨h.exm.stp,λb J=>by rw[if_neg (by omega)];exact h.exm.old b J,λb J=>by have:=D.lt;rw[if_neg (by omega)];exact h.exm.val b J⟩,
           k3:=h.k3,k2:=h.k2,ty:=Ai.mono _ _ _ _ h.ty U,bnd:=h.bnd,z3:=by rw[if_neg (Ne.symm G),if_neg (Ne.symm F)];exact h.z3,
           hz:=λr o L O hw=>by
             rw[if_neg (λe=>by subst e;exact Is D L O)];exact h.hz r o L O hw},λj v Q=>?_⟩
 have W:j<l.length:=(List.getElem?_eq_some_iff.1 Q).1;refine⟨by simp only[if_true];omega,?_⟩;have K:V.heap[b5]?=some (.cells l.toArray T):=D;simp[World.cell?,K,Q]
theorem S5{w:wO}{k:Nat}{z:Int}{k1:IntKind}{a:oA}{len:Nat}(hz:z=(i:Int))(D:ev σ x=some (.slice a len cap))(h:ev σ hi=some (.int k1 z))(F:Kj P T=some (e,k))(hle:i≤cap):AR P σ (.slice T x none (some hi) none) ty w (.slice a i cap) w:=by
 subst hz;exact XQ D h F hle
theorem W7.fin{w V V':wO}{f f2:Fq}{b2 b3 D:Nat}{z:lV}{TT:tI}{t:T1}{a:oA}{c:Nat}(h:W7 w f b2 b3 z TT t V f2 a c)(h2:w.heap.size≤b2)(U:w.heap.size≤D)(L:V.heap[D]?=some (.deferred (some [])))(G:GW b2 V V') :
   CQ (λ_=>False) w f (V'.putObj D (.deferred none)) f2∧Ai (V'.putObj D (.deferred none)) f2 t.kids a c∧V'.heap[D]?=some (.deferred (some []))∧D≠b2:=by
 have J:D≠b2:=λe=>by subst e;exact Is h.k2 L C
 have W:f2 D=0:=h.hz D _ L C U;have F:∀j,j≠D→j≠b2→(V'.putObj D (.deferred none)).heap[j]?=V.heap[j]?:=λj Y Z=>(World.putObj_heap_other Y).trans (G.block j Z);have K:(V'.putObj D (.deferred none)).heap.size=V.heap.size:=by rw[World.putObj_size,G.size]
 refine⟨⟨⟨G.os.trans h.exm.stp.os,G.tape.trans h.exm.stp.tape,G.output.trans h.exm.stp.output,by rw[K];exact h.exm.stp.size,λj hj hm=>(F j oM oM).trans (h.exm.stp.block j hj hm)⟩,h.exm.old,λb O=>h.exm.val b (by rw[K] at O;exact O)⟩,?_,(G.block D J).trans L,J⟩;refine Ai.mono _ _ _ _ h.ty λb=>⟨Nat.le_refl _,λq Q=>Es (F b (λe=>?_) (λe=>?_)) q⟩
 · rw[e,W] at Q;omega
 · rw[e,h.z3.2] at Q;omega
end Go.SP
namespace Go.SW
open Go.RowKit
variable {X:Cx}{f:Fq}{Fs:List (wO→Fq→Prop)}{B:List FB}{H H':List HB}{w:wO}
theorem AU.perm{R:List RB}(h:AU X w f H R B Fs)(F:H'.Perm H):AU X w f H' R B Fs:=by
 have D:(CX H' R).Perm (CX H R):=(F.map _).append_right _
 exact {h with
         blk:=λe he=>h.blk e (F.mem_iff.1 he),
         nd:=D.nodup_iff.2 h.nd,
         own:=λb G=>h.own b (D.mem_iff.1 G),
         hnw:=λe he=>h.hnw e (F.mem_iff.1 he)}
end Go.SW
namespace Go.SP
open Go.SW Go.RowKit
abbrev yD(n:Nat)(s:CS)(e:AB)(op ln co:Int)(tx:lU)(nm:Int)(kids:Nd)(x:(T1×oA×Nat)×CS):Prop:=AJ n s e op ln co tx nm kids=.ok (x.1.1,x.2)∧x.1.1.bnd∧DQ x.2∧x.2.fresh+1≤s.fresh+200002*(kids.size+1)
def Ys(P:Program)(h:FuncId)(G T TS:tI)(n:Nat):Prop:=∀(w:wO)(f:Fq)(_:Vl w f)(A:Ad)(_:A.ok)(s:CS)(_:Aw T TS A s w f)(_:∀b,BD A b→f b=0)(_:DQ s)(op ln co nm:Int)(tx:lU)(kids:Nd)(D:oA)(nc:Nat)(e:AB)(F:oA),
 kids.size<n→kids.size≤200000→FK op kids→Ba w f kids D nc→Gi e→AN w f e F→s.fresh+200002*(kids.size+1)≤800000000000 →
 BU P h #[.pointer (some ⟨A.cb,0,none⟩),nV op ln co tx nm kids D nc,.pointer F] w (Fv (α:=(T1×oA×Nat)×CS) (λx=>tV x.1.1 x.1.2.1 x.1.2.2) (yD n s e op ln co tx nm kids) (BD A) (λx=>Aw T TS A x.2) (λx=>[λw f=>Ai w f x.1.1.kids x.1.2.1 x.1.2.2]) w f)
   (PanE G (BD A) (λer=>AJ n s e op ln co tx nm kids=.error er) w f)
section
variable{p:Hq}{s s1 s2 s3 s4 s5:CS}{e e5:AB}{op ln co nm bop bln bco bnm o1 l1 c1 m1:Int}{tx btx x1:lU}{k bk r pk rest:Nd}{d:Ty}{q t t0 rt pt:T1}{n:Nat}
theorem SZ:CA p e s k=(match CA p e s k with|.error x=>.error x|.ok (l,s3)=>.ok (Ty.nil.app l,s3)):=by
 cases CA p e s k with
 |error x=>rfl
 |ok q=>rfl
theorem W0(h:p s e op ln co tx nm k=.ok (q,s5)) :
   (match CA p e s (.cons op ln co tx nm k r) with|.error x=>.error x|.ok (l,s3)=>.ok (d.app l,s3):RI (Ty×CS))=(match CA p e s5 r with|.error x=>.error x|.ok (l,s3)=>.ok ((d.snoc q).app l,s3)):=by
 rw[CA,h];simp only
 cases CA p e s5 r with
 |error x=>rfl
 |ok z=>obtain⟨l,s3⟩:=z;simp only[Ty.snoc_app]
variable {ar:Ty}
theorem UM{a:T1}(h:p s e op ln co tx nm k=.ok (q,s5))(D:Da s5 a q ln co=.ok s4):Dt p e s (a.cons ar) (.cons op ln co tx nm k r)=Dt p e s4 ar r:=by
 rw[Dt,h];simp only;rw[T1.hd_cons,D];simp only;rw[T1.tl_cons]
theorem Zv(h:p s e op ln co tx nm k=.ok (q,s5))(D:Da (Au s5).2 t (.con D2 (q.cons (Au s5).1.one)) ln co=.ok s4):EU p e s t (.cons op ln co tx nm k r)=EU p e s4 (Au s5).1 r:=by
 rw[EU,h];simp only;rw[D]
theorem VD(h:BM n s e op ln co tx nm pk=.ok (q,e5,s1))(D:Da s1 pt q ln co=.ok s2)(F:p s2 e5 bop bln bco btx bnm bk=.ok (rt,s3))(G:Da s3 t0 rt bln bco=.ok s4) :
   BY n p e pt s (some t0) (.cons o1 l1 c1 x1 m1 (.cons op ln co tx nm pk (.cons bop bln bco btx bnm bk rest)) r)=BY n p e pt s4 (some t0) r:=by
 rw[BY];simp only;rw[h];simp only;rw[D];simp only;rw[F];simp only;rw[G]
theorem VM(h:BM n s e op ln co tx nm pk=.ok (q,e5,s1))(D:Da s1 pt q ln co=.ok s2)(F:p s2 e5 bop bln bco btx bnm bk=.ok (rt,s3)) :
   BY n p e pt s none (.cons o1 l1 c1 x1 m1 (.cons op ln co tx nm pk (.cons bop bln bco btx bnm bk rest)) r)=BY n p e pt s3 (some rt) r:=by
 rw[BY];simp only;rw[h];simp only;rw[D];simp only;rw[F]
end
variable {m:Nat}
theorem Bt{k:Nd}(h:k.wfm m)(hm:2≤m∧m≤8):∃op ln co tx nm k2 r,k=.cons op ln co tx nm k2 r:=by
 cases k with
 |nil=>rcases h with h|h|h <;> omega
 |cons op ln co tx nm k2 r=>exact⟨op,ln,co,tx,nm,k2,r,C⟩
variable {f:Fq}{m:Nat}{x:Operand}{a:oA}{T ty:tI}{w:wO}
theorem Ba.rest{op ln co nm:Int}{tx:lU}{k r:Nd}{c:Nat}(h:Ba w f (.cons op ln co tx nm k r) a c):Ba w f r (F3 a c 6) (c-1):=by
 obtain⟨D,F⟩:=h;have D:r.len+1≤c:=D;refine⟨oM,?_⟩;rcases F with F|⟨b,off,G,J⟩
 · cases F
 · cases r with
   |nil=>exact .inl C
   |cons K L c2 O m2 k2 U =>
     simp only[Nd.len] at D;refine .inr ⟨b,off+6,?_,J.2⟩;rw[F3,if_neg (by omega),G];rfl
theorem Om{P:Program}{σ:Bp}{e:tI}{lo:Operand}{k len c:Nat}(D:len=m+1)(F:ev σ x=some (.slice a len c))(h:ev σ lo=some (.int .i64 1))(G:Kj P T=some (e,k)):AR P σ (.slice T x (some lo) none none) ty w (.slice (F3 a c k) m (c-1)) w:=by
 subst D;exact Xy F h G
theorem Ty.last_get:∀{k:Ty}{m:Nat},k.len=m+1→k.get m=some k.last
 |.nil,m,h=>by simp[Ty.len] at h
 |.var n .nil,m,h=>by obtain rfl:m=0:=(by simpa[Ty.len] using h.symm);rfl
 |.con tx k .nil,m,h=>by obtain rfl:m=0:=(by simpa[Ty.len] using h.symm);rfl
 |.var n (.var F r),m,h=>by
   obtain⟨m,rfl⟩:∃q,m=q+1:=⟨m-1,by simp only[Ty.len] at h;omega⟩;exact Ty.last_get (k:=.var F r) (by simp only[Ty.len] at h ⊢;omega)
 |.var n (.con D k2 r),m,h=>by
   obtain⟨m,rfl⟩:∃q,m=q+1:=⟨m-1,by simp only[Ty.len] at h;omega⟩;exact Ty.last_get (k:=.con D k2 r) (by simp only[Ty.len] at h ⊢;omega)
 |.con tx k (.var F r),m,h=>by
   obtain⟨m,rfl⟩:∃q,m=q+1:=⟨m-1,by simp only[Ty.len] at h;omega⟩;exact Ty.last_get (k:=.var F r) (by simp only[Ty.len] at h ⊢;omega)
 |.con tx k (.con D k2 r),m,h=>by
   obtain⟨m,rfl⟩:∃q,m=q+1:=⟨m-1,by simp only[Ty.len] at h;omega⟩;exact Ty.last_get (k:=.con D k2 r) (by simp only[Ty.len] at h ⊢;omega)
section
variable{s:CS}{e:AB}{op ln co nm:Int}{tx:lU}{k r:Nd}{d:Ty}
theorem Pg(D:r≠.nil):(d.app (CZ s e (.cons op ln co tx nm k r)).1,(CZ s e (.cons op ln co tx nm k r)).2)=((d.snoc (Au s).1).app (CZ (Au s).2 (if op==22 then ⟨tx,(Au s).1,[]⟩::e else e) r).1,(CZ (Au s).2 (if op==22 then ⟨tx,(Au s).1,[]⟩::e else e) r).2):=by
 cases r with
 |nil=>exact absurd C D
 |cons F G c2 J m2 k2 K =>
   rw[CZ]
   · rw[Ty.snoc_app]
   · intro h;cases h
theorem Nd.last_step(h:r≠.nil):(Nd.cons op ln co tx nm k r).last=r.last:=by
 cases r with
 |nil=>exact absurd C h
 |cons=>rfl
end
theorem Nd.ne_nil{r:Nd}(h:0<r.len):r≠.nil:=λe=>by rw[e] at h;exact absurd h dC
theorem wf6{k:Nd}(h:FK 6 k):k.wfm 0:=by simpa[FK] using h
theorem wf7{k:Nd}(h:FK 7 k):k.wfm 4:=by simpa[FK] using h
theorem wf8{k:Nd}(h:FK 8 k):0<k.len∧k.wfm 0:=by simpa[FK] using h
theorem wf9{k:Nd}(h:FK 9 k):k.wfm 6:=by simpa[FK] using h
theorem wf10{k:Nd}(h:FK 10 k):k.wfm 6:=by simpa[FK] using h
theorem xL{k:Nd}(h:FK 11 k):k.wfm 7:=by simpa[FK] using h
theorem yH{k:Nd}(h:FK 12 k):0<k.len∧k.wfm 0:=by simpa[FK] using h
theorem xG{k:Nd}(h:FK 13 k):k.wfm 0:=by simpa[FK] using h
theorem zE{k:Nd}(h:FK 14 k):k.wfm 5:=by simpa[FK] using h
theorem xZ{k:Nd}(h:FK 15 k):k.wfm 5:=by simpa[FK] using h
theorem xD{k:Nd}(h:FK 16 k):k.wfm 3:=by simpa[FK] using h
theorem yU{op:Int}{k:Nd}(h:FK op k)(Z:(op==1)=false)(h2:(op==2)=false)(h3:(op==3)=false)(h4:(op==4)=false)(h5:(op==5)=false)(O:(op==6)=false)(U:(op==7)=false)(W:(op==8)=false)(Y:(op==9)=false)(D:(op==10)=false)(F:(op==11)=false)(G:(op==12)=false)(J:(op==13)=false)(K:(op==14)=false)(L:(op==15)=false)(Eb:(op==16)=false):k.wfm 3:=by
 simp only[beq_eq_false_iff_ne,ne_eq] at *;unfold FK at h;rcases h with h|h|h|h|h|h|h|h|h
 · omega
 · exact absurd h.1 O
 · exact absurd h.1 U
 · rcases h.1 with h|h
   · exact absurd h W
   · exact absurd h G
 · rcases h.1 with h|h
   · exact absurd h Y
   · exact absurd h D
 · exact absurd h.1 F
 · exact absurd h.1 J
 · rcases h.1 with h|h
   · exact absurd h K
   · exact absurd h L
 · exact h.2
theorem cR:∀(n:Nat)(k:Ty),k.len≤n→k.bnd→(Gf k).bnd:=by
 intro n
 induction n with
 |zero=>intro k G _;obtain rfl:=Ty.len0 (k:=k) oM;exact B7 0
 |succ n J =>
   intro k G K
   cases D:k.len with
   |zero=>obtain rfl:=Ty.len0 D;exact B7 0
   |succ m =>
     obtain⟨t,r,rfl⟩:=Ty.cases1 k oM;rw[T1.len_cons] at G;obtain⟨h,F⟩:=T1.bnd_cons.1 K
     cases L:r.len with
     |zero=>obtain rfl:=Ty.len0 L;exact (RN t).symm▸h
     |succ m2 =>
       have:=J r oM F;obtain⟨u,r,rfl⟩:=Ty.cases1 r oM;rw[OC];exact D4 dC (by simp[T1.len_cons,T1.one,Ty.len]) (T1.bnd_cons.2 ⟨h,GH this⟩)
end Go.SP
namespace Go.SW
open Go.RowKit Go.SP
section
variable{P:Program}{n:Nat}{Q:Bh}{ds:List Deferred}{X:Cx}{R:List RB}{B:List FB}{Fs:List (wO→Fq→Prop)}{fs:List Fr}{σ:Bp}{H:List HB}{k:Mj}{na:oA}{c:Nat}
theorem mnr{x r:Nd}{op ln co nm:Int}{tx:lU}{q:Nd}(j:Nat)(D:nth Fs j=some (λw f=>Ba w f x na c))(e:x=.cons op ln co tx nm q r)(h:A7 P n Q ds X R B ((λw f=>Ba w f r (F3 na c 6) (c-1))::Fs) k fs σ H):A7 P n Q ds X R B Fs k fs σ H:=DN _ (λ_ _ F=>Ba.rest (e▸F.fn D)) Ba.mono h
end
end Go.SW
namespace Go.SP
open Go.SW Go.RowKit
def Nd.txb:Nd→Prop
 |.nil=>True
 |.cons _ _ _ tx _ k r=>tx.length≤100000∧k.txb∧r.txb
def OE(datas:List (lU×Int))(tx:lU)(kids:Nd):Bool :=
 if DH H6 ([32]++tx++[32]) then (kids.len:Int)==0
 else if tx==D2 then (kids.len:Int)==2
 else if DH RL ([32]++tx++[32]) then true
 else match Cb datas tx with|some c=>c==(kids.len:Int)|none=>false
def Dd(datas:List (lU×Int))(vars:List (lU×T1))(op ln co:Int)(tx:lU)(kids:Nd):RI T1 :=
 if op==31 then (match Cb vars tx with
   |some t=>.ok t
   |none=>.error (ln,co,11))
 else if OE datas tx kids then (match G3 datas vars kids with|.error x=>.error x|.ok k=>.ok (.con tx k)) else .error (ln,co,11)
section
variable{datas:List (lU×Int)}{vars:List (lU×T1)}{op ln co nm:Int}{tx:lU}{k r:Nd}{d:Ty}{t:T1}{er:Er}
theorem Kv:G3 datas vars (.cons op ln co tx nm k r)=(match Dd datas vars op ln co tx k with
   |.error x=>.error x
   |.ok t=>match G3 datas vars r with
     |.error x=>.error x
     |.ok l=>.ok (t.cons l)):=rfl
theorem OG:G3 datas vars k=(match G3 datas vars k with|.error x=>.error x|.ok l=>.ok (Ty.nil.app l)):=by cases G3 datas vars k <;> rfl
theorem GZ(h:Dd datas vars op ln co tx k=.ok t):(match G3 datas vars (.cons op ln co tx nm k r) with|.error x=>.error x|.ok l=>.ok (d.app l):RI Ty)=(match G3 datas vars r with|.error x=>.error x|.ok l=>.ok ((d.snoc t).app l)):=by
 rw[Kv,h];simp only
 cases G3 datas vars r with
 |error x=>rfl
 |ok z=>simp only[Ty.snoc_app]
theorem Ju(h:Dd datas vars op ln co tx k=.error er):G3 datas vars (.cons op ln co tx nm k r)=.error er:=by rw[Kv,h]
end
theorem EN{α:Type}(g:α→Value)(n:lU):∀l:List (lU×α),FF (l.map λp=>(p.1,g p.2)) n=(Cb l n).map g
 | []=>rfl
 |(k,v)::l=>by
   simp only[List.map_cons,FF,Cb]
   by_cases h:k=n
   · subst h;simp
   · have D:(k==n)=false:=by simpa using h
     have F:(n==k)=false:=by simpa using λe:n=k=>h e.symm
     rw[D,F];simpa using EN g n l
def Pm(v:Value)(vars:List (lU×T1))(w:wO):Prop:=(v=.map none∧vars=[])∨∃m,v=.map (some m)∧Cz CJ w m (vars.map λp=>(p.1,tV p.2 none 0))∧Lj (vars.map λp=>(p.1,tV p.2 none 0))∧∀n t,Cb vars n=some t→∃q,t=.var q
variable {σ:Bp}{f f':Fq}{x:Operand}{P:Program}{T e ty:tI}{w w':wO}
theorem Pm.keep{v:Value}{vars:List (lU×T1)}(h:Pm v vars w)(F:CQ (λ_=>False) w f w' f'):Pm v vars w' :=
 h.imp id λ⟨m,G,D,J⟩=>⟨m,G,D.heap (F.stp.block m D.lt (λh=>h)),J⟩
theorem tW{k:tI}{y:Operand}{z:Value}{a:lU}(J:ev σ x=some (.map none))(K:ev σ y=some (S a))(L:G8 P T=some (k,e))(G:P.underlying k=some CJ.desc)(hz:oZ P e z):AR P σ (.lookup T x y true) ty w (.tuple #[z,.bool false]) w:=λQ _ _ _ _ h=>by
 have hu:=Kd L;obtain⟨i,O,hz⟩:=UD hz;have F:=λb=>CJ.chk P k w a b G;have D:∀b,(Instr.checkKey b 10000 k (S a)).run P w=.ok () w:=F;simp[execOp,h _ _ J,h _ _ K,Instr.lookup,run_underlying hu,D,Instr.findKey,run_underlying G,Instr.findNow,zeroValue,typeInfo,O,hz]
def yX(P:Program)(G:wO→Fq→Prop)(h:FuncId)(J T TS:tI)(n:Nat):Prop:=∀(w:wO)(f:Fq)(_:Vl w f)(A:Ad)(s:CS)(_:Aw T TS A s w f)(_:DQ s)(_:G w f)(op ln co nm:Int)(tx:lU)(kids:Nd)(D:oA)(nc:Nat)(F:Value)(vars:List (lU×T1)),
 kids.size<n→kids.size≤200000→tx.length≤100000→kids.txb→Pm F vars w→Ba w f kids D nc →
 BU P h #[.pointer (some ⟨A.cb,0,none⟩),nV op ln co tx nm kids D nc,F] w (Ce (α:=T1×oA×Nat) (λx=>tV x.1 x.2.1 x.2.2) (λx=>Dd s.datas vars op ln co tx kids=.ok x.1∧x.1.bnd) (λx=>[λw f=>Ai w f x.1.kids x.2.1 x.2.2]) w f)
   (PanE J (λ_=>False) (λer=>Dd s.datas vars op ln co tx kids=.error er) w f)
section
variable{T TS:tI}{A:Ad}{s:CS}{w w':wO}{f f':Fq}
variable {fr pr:Int}{ac b mb oc sb vc:Nat}{aa oa va:oA}
theorem BP.chg{so:Bk}(h:BP TS sb mb so fr pr w f)(D:GW b w w')(F:sb≠b)(G:mb≠b)(J:f b=0):BP TS sb mb so fr pr w' f :=
 BP.stab (MI:=λk=>k=sb∨k=mb) (.inl C) (.inr C) _ _ _ _ h (GW.fle D J) λk K=>D.block k (by rcases K with rfl|rfl;exact F;exact G)
theorem Aw.setVars(h:Aw T TS A s w f)(D:A.ok)(F:GW A.cb w w'){v:Int}(J:AS w' A.cb [.pointer (some ⟨A.sb,0,none⟩),.map (some A.km),.map (some A.dm),.map (some A.rm),.int .i64 v] T)(G:f A.cb=0):Aw T TS A {s with vars:=v} w' f where
 blk:=J
 sol:=let ⟨pr,K⟩:=h.sol;⟨pr,K.chg F (Ne.symm D.cs) (Ne.symm D.cm.1) G⟩
 cons:=let ⟨es,L,O⟩:=h.cons;⟨es,L.heap (F.block _ (Ne.symm D.cm.2.1)),Ct.mono (GW.fle F G) _ _ O⟩
 datas:=h.datas.heap (F.block _ (Ne.symm D.cm.2.2.1))
 roots:=h.roots.heap (F.block _ (Ne.symm D.cm.2.2.2))
theorem Aw.addData(h:Aw T TS A s w f)(D:A.ok)(F:GW A.dm w w'){k:lU}{n:Int}(hm:Cz CJ w' A.dm ((k,.int .i64 n)::s.datas.map λp=>(p.1,.int .i64 p.2)))(G:f A.dm=0):Aw T TS A {s with datas:=(k,n)::s.datas} w' f where
 blk:=(F.block _ D.cm.2.2.1).trans h.blk
 sol:=let ⟨pr,J⟩:=h.sol;⟨pr,J.chg F D.sm.2.2.1 D.mm.2.1 G⟩
 cons:=let ⟨es,K,L⟩:=h.cons;⟨es,K.heap (F.block _ D.mm.2.2.2.1),Ct.mono (GW.fle F G) _ _ L⟩
 datas:=hm
 roots:=h.roots.heap (F.block _ (Ne.symm D.mm.2.2.2.2.2))
theorem Aw.addRoot(h:Aw T TS A s w f)(D:A.ok)(F:GW A.rm w w'){k:lU}(hm:Cz CJ w' A.rm ((k,.bool true)::s.roots.map λk=>(k,.bool true)))(G:f A.rm=0):Aw T TS A {s with roots:=k::s.roots} w' f where
 blk:=(F.block _ D.cm.2.2.2).trans h.blk
 sol:=let ⟨pr,J⟩:=h.sol;⟨pr,J.chg F D.sm.2.2.2 D.mm.2.2.1 G⟩
 cons:=let ⟨es,K,L⟩:=h.cons;⟨es,K.heap (F.block _ D.mm.2.2.2.2.1),Ct.mono (GW.fle F G) _ _ L⟩
 datas:=h.datas.heap (F.block _ D.mm.2.2.2.2.2)
 roots:=hm
theorem Aw.addCons(h:Aw T TS A s w f)(F:A.ok){es:List (lU×Value)}(J:Ct w f s.cons es)(D:GW A.km w w'){k:lU}{m:Mk}(hm:Cz CJ w' A.km ((k,.agg (iQ m aa ac oa oc va vc).toArray)::es))(G:f A.km=0)
   (K:Ai w f m.args aa ac) (L:Ai w f m.out.kids oa oc) (O:Ci w f m.vars va vc):Aw T TS A {s with cons:=(k,m)::s.cons} w' f where
 blk:=(D.block _ F.cm.2.1).trans h.blk
 sol:=let ⟨pr,U⟩:=h.sol;⟨pr,U.chg D F.sm.2.1 F.mm.1 G⟩
 cons:=⟨_,hm,aa,ac,oa,oc,va,vc,es,C,Ai.mono _ _ _ _ K (GW.fle D G),Ai.mono _ _ _ _ L (GW.fle D G),Ci.mono _ _ _ _ O (GW.fle D G),Ct.mono (GW.fle D G) _ _ J⟩
 datas:=h.datas.heap (D.block _ (Ne.symm F.mm.2.2.2.1))
 roots:=h.roots.heap (D.block _ (Ne.symm F.mm.2.2.2.2.1))
end
abbrev vEs(vars:List (lU×T1)):List (lU×Value):=vars.map λp=>(p.1,tV p.2 none 0)
def ED(T TS:tI)(A:Ad)(s:CS)(vm:Nat)(vars:List (lU×T1))(w:wO)(f:Fq):Prop:=Aw T TS A s w f∧Cz CJ w vm (vEs vars)
section
variable{T TS:tI}{A:Ad}{s:CS}{w w':wO}{f f':Fq}{vm:Nat}{vars:List (lU×T1)}
theorem ED.stab:G4 (λb=>BD A b∨b=vm) (ED T TS A s vm vars):=λw f w' f' h F D =>
 ⟨Aw.stab w f w' f' h.1 F λb hm=>D b (.inl hm),h.2.heap (D _ (.inr C))⟩
variable {b:Nat}
theorem Ra{l:List (lU×Value)}(h:Cz CJ w vm l)(F:GW b w w')(D:vm≠b):Cz CJ w' vm l:=h.heap (F.block _ D)
end
section
variable{P:Program}{n:Nat}{Q:Bh}{ds:List Deferred}{M:Nat→Prop}{w0:wO}{f0:Fq}{T TS:tI}{A:Ad}{s:CS}{vm:Nat}{vars:List (lU×T1)}{R:List RB}{B:List FB}{Fs:List (wO→Fq→Prop)}{fs:List Fr}{σ:Bp}{H:List HB}
variable{all r:List Oper}{ty TM k e:tI}{AX:String}{af:Array Edge}{g:Option (Nat×Bool)}{x y z:Operand}
variable {ag:Bool}{ac i1 oc vc:Nat}{aa oa va:oA}{vz:Value}
theorem dSet{v:Int}(G:A.ok)(D:¬BD A vm)(J:gd all σ g=some true)(K:ev σ x=some (.pointer (some ⟨A.cb,4,none⟩)))(L:ev σ y=some (.int .i64 v))(O:Be P TM=some (ag,1))
   (h:A7 P n Q ds ⟨M,λb=>BD A b∨b=vm,ED T TS A {s with vars:=v} vm vars,w0,f0⟩ R B Fs (.ops all r) fs σ H):A7 P n Q ds ⟨M,λb=>BD A b∨b=vm,ED T TS A s vm vars,w0,f0⟩ R B Fs (.ops all (⟨none,.store TM x y,ty,AX,af,g⟩::r)) fs σ H :=
 iP (b:=A.cb) (I':=ED T TS A {s with vars:=v} vm vars) J K L C O C C C (.inl (.inl C)) (λw f h=>h.1.blk) (λw f Y h U F W=>⟨h.1.setVars G F W (U.mi _ (.inl (.inl C))).2.1,Ra h.2 F λe=>D (e▸.inl C)⟩) ED.stab h
theorem dVar{a:lU}{q:Int}(D:¬BD A vm)(F:gd all σ g=some true)(G:ev σ x=some (.map (some vm)))(J:ev σ y=some (S a))(hz:ev σ z=some (tV (.var q) none 0))(L:G8 P TM=some (k,e))(O:P.underlying k=some .string)(hd:Lj (vEs vars))(U:Cb vars a=none)
   (h:A7 P n Q ds ⟨M,λb=>BD A b∨b=vm,ED T TS A s vm ((a,.var q)::vars),w0,f0⟩ R B Fs (.ops all r) fs σ H):A7 P n Q ds ⟨M,λb=>BD A b∨b=vm,ED T TS A s vm vars,w0,f0⟩ R B Fs (.ops all (⟨none,.mapUpdate TM x y z,ty,AX,af,g⟩::r)) fs σ H :=
 iT (K:=CJ) (a:=a) (l:=vEs vars) (I':=ED T TS A s vm ((a,.var q)::vars)) F G J hz L O (.inr C) hd (by rw[vEs,EN (λt=>tV t none 0),U];rfl) (λw f h=>h.2) (λw f Z h W Y hm=>⟨h.1.chg Y D (W.mi vm (.inr C)).2.1,hm⟩) ED.stab h
theorem dData{a:lU}{q:Int}(G:A.ok)(D:¬BD A vm)(hw:DQ s)(J:gd all σ g=some true)(L:ev σ x=some (.map (some A.dm)))(O:ev σ y=some (S a))(hz:ev σ z=some (.int .i64 q))(U:G8 P TM=some (k,e))(W:P.underlying k=some .string)(Y:Cb s.datas a=none)
   (h:A7 P n Q ds ⟨M,λb=>BD A b∨b=vm,ED T TS A {s with datas:=(a,q)::s.datas} vm vars,w0,f0⟩ R B Fs (.ops all r) fs σ H):A7 P n Q ds ⟨M,λb=>BD A b∨b=vm,ED T TS A s vm vars,w0,f0⟩ R B Fs (.ops all (⟨none,.mapUpdate TM x y z,ty,AX,af,g⟩::r)) fs σ H :=
 iT (K:=CJ) (a:=a) (l:=s.datas.map λp=>(p.1,.int .i64 p.2)) (I':=ED T TS A {s with datas:=(a,q)::s.datas} vm vars) J L O hz U W (.inl (.inr (.inr (.inr (.inr (.inl C)))))) hw.dd (by rw[EN (λc=>Value.int .i64 c),Y];rfl) (λw f h=>h.1.datas) (λw f w2 h Z F hm=>⟨h.1.addData G F hm (Z.mi _ (.inl (.inr (.inr (.inr (.inr (.inl C))))))).2.1,Ra h.2 F λe=>D (e▸.inr (.inr (.inr (.inr (.inl C)))))⟩) ED.stab h
theorem xR{a:lU}{m:Mk}{i2 i3:Nat}(hA:A.ok)(G:¬BD A vm)(hw:DQ s)(hg:gd all σ g=some true)(hx:ev σ x=some (.map (some A.km)))(hy:ev σ y=some (S a))(hz:ev σ z=some vz)(J:vz=.agg (iQ m aa ac oa oc va vc).toArray)(hT:G8 P TM=some (k,e))(hk:P.underlying k=some .string)(hn:Cb s.cons a=none)
   (L:nth Fs i1=some λw f=>Ai w f m.args aa ac) (O:nth Fs i2=some λw f=>Ai w f m.out.kids oa oc) (U:nth Fs i3=some λw f=>Ci w f m.vars va vc)
   (h:A7 P n Q ds ⟨M,λb=>BD A b∨b=vm,ED T TS A {s with cons:=(a,m)::s.cons} vm vars,w0,f0⟩ R B Fs (.ops all r) fs σ H):A7 P n Q ds ⟨M,λb=>BD A b∨b=vm,ED T TS A s vm vars,w0,f0⟩ R B Fs (.ops all (⟨none,.mapUpdate TM x y z,ty,AX,af,g⟩::r)) fs σ H:=by
 subst J;exact mxi (λes w f=>ED T TS A s vm vars w f∧Cz CJ w A.km es∧Ct w f s.cons es) (λw f h=>let ⟨es,h1,h2⟩:=h.1.cons;⟨es,h,h1,h2⟩) (λes w f w' f' h Y Z=>⟨ED.stab w f w' f' h.1 Y Z,h.2.1.heap (Z _ (.inl (.inr (.inr (.inr (.inl C)))))),Ct.mono Y _ _ h.2.2⟩) λes=>KH (λw f D=>(show Lj es from Ct.dis D.res.2.2 hw.dc)) λF=>KH (λw f D=>(show FF es a=none from (Ct.look D.res.2.2).1 hn)) λW=>iT (K:=CJ) (a:=a) (l:=es) (I':=ED T TS A {s with cons:=(a,m)::s.cons} vm vars) hg hx hy hz hT hk (.inl (.inr (.inr (.inr (.inl C))))) F W (λw f h=>h.2.1) (λw f w2 h D hC hm=>⟨h.1.1.addCons hA h.2.2 hC hm (D.mi _ (.inl (.inr (.inr (.inr (.inl C)))))).2.1 (D.fact L) (D.fact O) (D.fact U),Ra h.1.2 hC λe=>G (e▸.inr (.inr (.inr (.inl C))))⟩) ED.stab h
end
theorem IP{α:Type}{a b:lU}{v:α}{l:List (lU×α)}:Cb ((a,v)::l) b=if a==b then some v else Cb l b:=rfl
theorem JI{α:Type}(g:α→Value){a:lU}{v:α}{l:List (lU×α)}(h:Lj (l.map λp=>(p.1,g p.2)))(D:Cb l a=none):Lj (((a,v)::l).map λp=>(p.1,g p.2)):=⟨by rw[EN,D];rfl,h⟩
theorem DQ.addData{s:CS}(h:DQ s){a:lU}{q:Int}(D:Cb s.datas a=none):DQ {s with datas:=(a,q)::s.datas}:={h with dd:=JI (λc=>Value.int .i64 c) h.dd D}
theorem DQ.setVars{s:CS}(h:DQ s){v:Int}:DQ {s with vars:=v}:={h with}
theorem DQ.addCons{s:CS}(h:DQ s){a:lU}{m:Mk}(F:Cb s.cons a=none)(hm:m.args.len≤200000∧m.args.bnd∧m.out.bnd∧m.vars.length≤200000):DQ {s with cons:=(a,m)::s.cons} :=
 {h with
   cons:=λk G D=>by
     rw[IP] at D
     split at D
     · cases D;exact hm
     · exact h.cons k G D,
   dc:=JI (λ_=>Value.bool true) h.dc F}
section
variable{ln co:Int}{op ln2 co2 nm:Int}{tx:lU}{k r:Nd}{v:Int}{m:List (lU×T1)}{self:Ty}{nums:List Int}
theorem Ld(h:(op==31)=true)(D:Cb m tx=none):EC ln co (.cons op ln2 co2 tx nm k r) v m self nums=EC ln co r (v-1) ((tx,.var (v-1))::m) (self.snoc (.var (v-1))) (nums++[v-1]):=by
 rw[EC,if_pos h,if_neg (by rw[D];decide)]
theorem VG(h:(op==31)=true){t:T1}(D:Cb m tx=some t):EC ln co (.cons op ln2 co2 tx nm k r) v m self nums=.error (ln,co,11):=by
 rw[EC,if_pos h,if_pos (by rw[D];rfl)]
theorem TK(h:(op==31)=false):EC ln co (.cons op ln2 co2 tx nm k r) v m self nums=EC ln co r v m self nums:=by
 rw[EC,if_neg (by rw[h];decide)]
variable{datas:List (lU×Int)}{out:T1}{c:List (lU×Mk)}
theorem V0(h:(op==42)=true)(D:Cb c tx=none){args:Ty}(F:G3 datas m k=.ok args):DV datas m out nums (.cons op ln2 co2 tx nm k r) c=DV datas m out nums r ((tx,⟨args,out,nums⟩)::c):=by
 rw[DV,if_pos h,if_neg (by rw[D];decide),F]
theorem Rs(h:(op==42)=true){mk:Mk}(D:Cb c tx=some mk):DV datas m out nums (.cons op ln2 co2 tx nm k r) c=.error (ln2,co2,11):=by
 rw[DV,if_pos h,if_pos (by rw[D];rfl)]
theorem OL(h:(op==42)=true)(D:Cb c tx=none){er:Er}(F:G3 datas m k=.error er):DV datas m out nums (.cons op ln2 co2 tx nm k r) c=.error er:=by
 rw[DV,if_pos h,if_neg (by rw[D];decide),F]
theorem SM(h:(op==42)=false):DV datas m out nums (.cons op ln2 co2 tx nm k r) c=DV datas m out nums r c:=by
 rw[DV,if_neg (by rw[h];decide)]
end
abbrev SB:=lU×Int×T1
def pC(p:SB)(a:oA)(c:Nat):lV:=S p.1::.int .i64 p.2.1::tC p.2.2 a c
def Dk(w:wO)(f:Fq):List SB→lV→Prop
 | [],xs=>xs=[]
 |p::l,xs=>∃a c xs',xs=pC p a c++xs'∧Ai w f p.2.2.kids a c∧Dk w f l xs'
theorem Dk.mono'{w w':wO}{f f':Fq}(D:Ji w f w' f'):∀(l:List SB)(xs:lV),Dk w f l xs→Dk w' f' l xs
 | [],_,h=>h
 |_::l,_,⟨a,c,xs',F,G,K⟩=>⟨a,c,xs',F,Ai.mono _ _ _ _ G D,Dk.mono' D l xs' K⟩
theorem Dk.snoc{w:wO}{f:Fq}{p:SB}{a:oA}{c:Nat}(D:Ai w f p.2.2.kids a c):∀{l:List SB}{xs:lV},Dk w f l xs→Dk w f (l++[p]) (xs++pC p a c)
 | [],xs,h=>by
   have h:xs=[]:=h;subst h;exact⟨a,c,[],by simp,D,C⟩
 |q::l,xs,⟨a',c',xs',F,G,K⟩=>⟨a',c',xs'++pC p a c,by rw[F,List.append_assoc],G,Dk.snoc D K⟩
theorem Dk.len{w:wO}{f:Fq}:∀{l:List SB}{xs:lV},Dk w f l xs→xs.length=l.length*6
 | [],xs,h=>by have h:xs=[]:=h;subst h;rfl
 |p::l,xs,⟨a,c,xs',D,G,F⟩=>by
   have:=Dk.len F;subst D;simp only[List.length_append,List.length_cons,pC,tC,List.length_nil];omega
theorem Dk.mono{l:List SB}{xs:lV}:G0 (λw f=>Dk w f l xs):=λ_ _ _ _ h D=>Dk.mono' D l xs h
def O4(ob:Nat)(a:oA)(b:Nat):Prop:=b=ob∨rb a=some b
structure Eh(T E:tI)(ob:Nat)(sl:Value)(a:oA)(c n:Nat)(xs:lV)(w:wO)(_:Fq):Prop where
 blk:AS w ob [sl] T
 row:C0 w E 6 a c n xs
 ne:rb a≠some ob
section
variable{T E:tI}{ob:Nat}{sl sl':Value}{a a':oA}{c c' n n':Nat}{xs xs':lV}{w w':wO}{f f':Fq}
theorem Eh.stab:G4 (O4 ob a) (Eh T E ob sl a c n xs):=λw f w' f' h L D=>⟨(D _ (.inl C)).trans h.blk,⟨h.row.1,h.row.2.imp id λ⟨b,l,F,G,K⟩=>⟨b,l,F,(D b (.inr (by rw[F];rfl))).trans G,K⟩⟩,h.ne⟩
variable {b:Nat}
theorem Eh.lt(h:Eh T E ob sl a c n xs w f)(D:O4 ob a b):b<w.heap.size:=by
 rcases D with rfl|D
 · exact h.blk.lt
 · exact h.row.lt D
theorem Eh.app(h:Eh T E ob sl a c n xs w f)(F:C0 w' E 6 a' c' n' xs')(D:G1 a w a' w'):Eh T E ob sl a' c' n' xs' w' f' :=
 ⟨h.blk.grow D (λe=>h.ne e.symm),F,λe=>D.own.elim (λo=>h.ne (o.symm.trans e)) (λo=>absurd h.blk.lt (by rw[← Option.some.inj (o.symm.trans e)];exact Nat.lt_irrefl _))⟩
theorem Eh.store(h:Eh T E ob sl a c n xs w f)(D:GW ob w w')(F:AS w' ob [sl'] T):Eh T E ob sl' a c n xs w' f':=⟨F,C0.chgB h.row D h.ne,h.ne⟩
theorem O4.or(h:O4 ob a' b):O4 ob a b∨rb a'=some b:=h.elim (λh=>.inl (.inl h)) .inr
end
def UI:List (T1×oA×Nat)→Ty
 | []=>.nil
 |t::l=>t.1.cons (UI l)
def wW:List (T1×oA×Nat)→lV
 | []=>[]
 |t::l=>tC t.1 t.2.1 t.2.2++wW l
def hoL(w:wO)(f:Fq):List (T1×oA×Nat)→Prop
 | []=>True
 |t::l=>Ai w f t.1.kids t.2.1 t.2.2∧hoL w f l
theorem gS{w:wO}{f:Fq}:∀{l:List (T1×oA×Nat)},hoL w f l→Bn w f (UI l) (wW l)
 | [],_=>rfl
 |(.var n,a,c)::l,h=>⟨a,c,wW l,C,gS h.2⟩
 |(.con tx k,a,c)::l,h=>⟨a,c,wW l,C,h.1,gS h.2⟩
theorem Re:∀l:List (T1×oA×Nat),(UI l).len=l.length
 | []=>rfl
 |t::l=>by rw[UI,T1.len_cons,Re l];rfl
variable {b:Nat}{M:Nat→Prop}{w0:wO}
theorem Dy{w:wO}{f:Fq}{l:List (T1×oA×Nat)}(h:hoL w f l)(D:Cs w f b 0 (wW l)):Ai w f (UI l) (some ⟨b,0,none⟩) l.length:=Bn.toF (gS h) D (by rw[Re];exact Nat.le_refl _)
def VP(w:wO)(f:Fq)(l:List SB)(a:oA)(c:Nat):Prop:=l.length≤c∧∃b xs,a=some ⟨b,0,none⟩∧Cs w f b 0 xs∧Dk w f l xs
theorem VP.mono{l:List SB}{a:oA}{c:Nat}:G0 (λw f=>VP w f l a c):=λ_ _ _ _ h D=>⟨h.1,let ⟨b,xs,F,G,K⟩:=h.2;⟨b,xs,F,G.mono D,Dk.mono' D l xs K⟩⟩
theorem Eh.fin{T E:tI}{ob:Nat}{sl:Value}{a:oA}{c n:Nat}{xs:lV}{w:wO}{f0 f:Fq}{l:List SB}(h:Eh T E ob sl a c n xs w f)(F:CQ M w0 f0 w f)(W:∀b,rb a=some b→w0.heap.size≤b)(Y:Dk w f l xs)(hl:l.length=n)(h0:0<n):∃f',CQ M w0 f0 w f'∧VP w f' l a c:=by
 rcases h.row.2 with ⟨_,_,hz⟩|⟨b,q,O,U,Z,hq1,hq,ht⟩
 · omega
 · have hlt:=U.lt
   refine⟨λk=>if k=b then max xs.length (f k) else f k,?_,oM,b,xs,O,?_,?_⟩
   · refine⟨F.stp,λk G=>?_,λk G=>?_⟩
     · have:=W b (by rw[O];rfl)
       rw[if_neg (by omega)];exact F.old k G
     · rw[if_neg (by omega)];exact F.val k G
   · intro j v D
     have hjl:j<xs.length:=(List.getElem?_eq_some_iff.1 D).1;refine⟨by simp only[if_true];omega,?_⟩;have K:w.heap[b]?=some (.cells q.toArray _):=U
     have L:q[j]?=some v:=by
       rw[← ht] at D;rw[List.getElem?_take] at D
       split at D
       · exact D
       · cases D
     simp[World.cell?,K,L]
   · exact Dk.mono' (λk=>⟨by split <;> omega,λ_ _=>C⟩) l xs Y
end Go.SP
namespace Go.SW
open Go.RowKit
variable {top:Bool}{fs:List Fr}
theorem mmi{P:Program}{n:Nat}{Q:Bh}{ds:List Deferred}{X:Cx}{R:List RB}{B:List FB}{Fs:List (wO→Fq→Prop)}{σ:Bp}{H:List HB}{k:Mj}(MI':Nat→Prop)(I':wO→Fq→Prop)(hm:∀b,MI' b→X.MI b)(K:∀w f,X.I w f→I' w f)(G:G4 MI' I')
   (h:A7 P n Q ds {X with MI:=MI',I:=I' } R B Fs k fs σ H):A7 P n Q ds X R B Fs k fs σ H:=λw f D =>
 h w f {D with
         res:=K w f D.res,
         stab:=G,
         mi:=λb F=>D.mi b (hm b F),
         own:=λb F=>⟨(D.own b F).1,(D.own b F).2.1,λh=>(D.own b F).2.2 (hm b h)⟩}
section
variable{P:Program}{n:Nat}{Q:Bh}{ds:List Deferred}{X:Cx}{R:List RB}{B:List FB}{Fs:List (wO→Fq→Prop)}{l:List Oper}{Hk:List HB}{B0:List FB}{J:wO→Prop}{σ:Bp}{H:List HB}
theorem Ml{α:Type}{t:OT}(t':OT)(s':α→Bp)(H':α→List HB)(B':α→List FB)(F':α→List (wO→Fq→Prop))(h:∀x,Du P n Q ds X R (B' x) (F' x) l Hk B0 J true t' (s' x) (H' x))
   (D:(∀x,Du P n Q ds X R (B' x) (F' x) l Hk B0 J true t' (s' x) (H' x))→Du P n Q ds X R B Fs l Hk B0 J top t σ H):Du P n Q ds X R B Fs l Hk B0 J top t σ H:=D h
theorem Fx{α:Type}{t:OT}{s':α→Bp}{H':α→List HB}{B':α→List FB}{F':α→List (wO→Fq→Prop)}(h:∀x,Du P n Q ds X R (B' x) (F' x) l Hk B0 J true t (s' x) (H' x))(x:α)(D:Le (s' x) σ)(F:∀w f,AU X w f H R B Fs→AU X w f (H' x) R (B' x) (F' x)):Du P n Q ds X R B Fs l Hk B0 J true t σ H :=
 λw f hm a G=>h x w f (F w f hm) a (G.le D)
end
end Go.SW
namespace Go.SP
open Go.SW Go.RowKit
section
variable{P:Program}{n:Nat}{Q:Bh}{ds:List Deferred}{M:Nat→Prop}{w0:wO}{f0:Fq}{T TS:tI}{A:Ad}{s:CS}{R:List RB}{B:List FB}{Fs:List (wO→Fq→Prop)}{fs:List Fr}{σ:Bp}{H:List HB}
variable{all r:List Oper}{ty TM k e:tI}{AX:String}{af:Array Edge}{g:Option (Nat×Bool)}{x y z:Operand}
variable {ag:Bool}{ac i1 oc vc:Nat}{aa oa va:oA}{vz:Value}
theorem cSet{v:Int}(D:A.ok)(F:gd all σ g=some true)(G:ev σ x=some (.pointer (some ⟨A.cb,4,none⟩)))(J:ev σ y=some (.int .i64 v))(K:Be P TM=some (ag,1))
   (h:A7 P n Q ds ⟨M,BD A,Aw T TS A {s with vars:=v},w0,f0⟩ R B Fs (.ops all r) fs σ H):A7 P n Q ds ⟨M,BD A,Aw T TS A s,w0,f0⟩ R B Fs (.ops all (⟨none,.store TM x y,ty,AX,af,g⟩::r)) fs σ H :=
 iP (b:=A.cb) (I':=Aw T TS A {s with vars:=v}) F G J C K C C C (.inl C) (λw f h=>h.blk) (λw f W h L O U=>h.setVars D O U (L.mi _ (.inl C)).2.1) Aw.stab h
theorem yS{a:lU}(F:A.ok)(hw:DQ s)(G:gd all σ g=some true)(J:ev σ x=some (.map (some A.rm)))(L:ev σ y=some (S a))(hz:ev σ z=some (.bool true))(O:G8 P TM=some (k,e))(U:P.underlying k=some .string)(W:s.roots.contains a=false)
   (h:A7 P n Q ds ⟨M,BD A,Aw T TS A {s with roots:=a::s.roots},w0,f0⟩ R B Fs (.ops all r) fs σ H):A7 P n Q ds ⟨M,BD A,Aw T TS A s,w0,f0⟩ R B Fs (.ops all (⟨none,.mapUpdate TM x y z,ty,AX,af,g⟩::r)) fs σ H :=
 iT (K:=CJ) (a:=a) (l:=s.roots.map λk=>(k,.bool true)) (I':=Aw T TS A {s with roots:=a::s.roots}) G J L hz O U (.inr (.inr (.inr (.inr (.inr C))))) hw.dr (by
   have:∀l:List lU,l.contains a=false→FF (l.map λk=>(k,Value.bool true)) a=none:=by
     intro l
     induction l with
     |nil=>intro _;rfl
     |cons b l Y =>
       intro D;rw[List.contains_cons,Bool.or_eq_false_iff] at D;simp only[List.map_cons,FF];rw[D.1];simpa using Y D.2
   exact this _ W) (λw f h=>h.roots) (λw f w2 h Z hC hm=>h.addRoot F hC hm (Z.mi _ (.inr (.inr (.inr (.inr (.inr C)))))).2.1) Aw.stab h
theorem Aa0{a:lU}{m:Mk}(W:A.ok)(hw:DQ s)(Y:gd all σ g=some true)(Z:ev σ x=some (.map (some A.km)))(hy:ev σ y=some (S a))(hz:ev σ z=some vz)(G:vz=.agg (iQ m aa ac oa oc va vc).toArray)(hT:G8 P TM=some (k,e))(hk:P.underlying k=some .string)(hn:Cb s.cons a=none)
   (J:nth Fs i1=some λw f=>Ai w f m.args aa ac) (L:m.out.kids=.nil) (O:m.vars=[])
   (h:A7 P n Q ds ⟨M,BD A,Aw T TS A {s with cons:=(a,m)::s.cons},w0,f0⟩ R B Fs (.ops all r) fs σ H):A7 P n Q ds ⟨M,BD A,Aw T TS A s,w0,f0⟩ R B Fs (.ops all (⟨none,.mapUpdate TM x y z,ty,AX,af,g⟩::r)) fs σ H:=by
 subst G;exact mxk λes=>KH (λw f D=>(show Lj es from Ct.dis D.res.2.2 hw.dc)) λF=>KH (λw f D=>(show FF es a=none from (Ct.look D.res.2.2).1 hn)) λU=>iT (K:=CJ) (a:=a) (l:=es) (I':=Aw T TS A {s with cons:=(a,m)::s.cons}) Y Z hy hz hT hk (.inr (.inr (.inr (.inl C)))) F U (λw f h=>h.2.1) (λw f w2 h D hC hm=>h.1.addCons W h.2.2 hC hm (D.mi _ (.inr (.inr (.inr (.inl C))))).2.1 (D.fact J) (by rw[L];exact Ai.nil _ _ _ _) (by rw[O];exact⟨Nat.zero_le _,.inl C⟩)) Aw.stab h
end
def Pl:Nat→Ty
 |0=>.nil
 |n+1=>(Pl n).snoc (c0 bS)
theorem Lr:∀n,(Pl n).len=n
 |0=>rfl
 |n+1=>by rw[Pl,Ty.len_snoc,Lr n]
theorem NP:∀n,(Pl n).bnd
 |0=>trivial
 |n+1=>Ty.bnd_snoc (NP n) (Dj dC)
def Iz:List (lU×lU×Int×Nat):=[([70,97,108,115,101],bB,0,0),([84,114,117,101],bB,1,0),([68,105,118],bX,0,0),([77,97,116,99,104],bX,1,0),([65,98,111,114,116],bX,2,0),([75,101,101,112],bX,3,0),([79,117,116],bX,4,0),([70,97,105,108],bX,5,1)]
def mkL(p:lU×lU×Int×Nat):lU×Mk:=(p.1,⟨Pl p.2.2.2,c0 p.2.1,[]⟩)
def ZG(i:Nat):List (lU×Mk):=((Iz.take i).map mkL).reverse
variable {f:Fq}{b i:Nat}{w:wO}
theorem Od{p:lU×lU×Int×Nat}(h:Iz[i]?=some p):ZG (i+1)=mkL p::ZG i:=by
 unfold ZG;rw[D6 h,List.map_append,List.reverse_append];rfl
theorem O5:∀i,i<8→∀p,Iz[i]?=some p→Cb (ZG i) p.1=none:=by
 intro i D p h;have:i=0∨i=1∨i=2∨i=3∨i=4∨i=5∨i=6∨i=7:=oM;rcases this with rfl|rfl|rfl|rfl|rfl|rfl|rfl|rfl <;> (cases h;decide)
def cC(p:lU×lU×Int×Nat):lV:=[S p.1,S p.2.1,.int .i64 p.2.2.1,.int .i64 (p.2.2.2:Int)]
theorem Cs.flat{α:Type}(g:α→lV)(q:Nat)(F:∀x,(g x).length=q):∀(l:List α)(off i:Nat)(x:α),Cs w f b off (l.flatMap g)→l[i]?=some x→Cs w f b (off+i*q) (g x)
 | [],_,_,_,_,h=>by simp at h
 |y::l,off,0,x,D,h=>by
   cases h
   rw[List.flatMap_cons] at D;simpa using Cs.le D
 |y::l,off,i+1,x,D,h=>by
   rw[List.flatMap_cons] at D;have G:=Cs.drop D;rw[F] at G;have:=Cs.flat g q F l (off+q) i x G (by simpa using h);rwa[show off+q+i*q=off+(i+1)*q by rw[Nat.add_mul];omega] at this
theorem Dk.get:∀{l:List SB}{xs:lV}{off i:Nat}{p:SB},Dk w f l xs→Cs w f b off xs→l[i]?=some p→∃a c,Cs w f b (off+i*6) (pC p a c)∧Ai w f p.2.2.kids a c
 | [],_,_,_,_,_,_,h=>by simp at h
 |q::l,xs,off,0,p,⟨a,c,xs',D,G,J⟩,F,h=>by
   cases h
   subst D;exact⟨a,c,by simpa using Cs.le F,G⟩
 |q::l,xs,off,i+1,p,⟨a,c,xs',D,G,J⟩,F,h=>by
   subst D;have K:=Cs.drop F;obtain⟨a',c',L,O⟩:=Dk.get J K (by simpa using h);exact⟨a',c',by rwa[show off+(pC q a c).length+i*6=off+(i+1)*6 by simp only[pC,tC,List.length_cons,List.length_nil];omega] at L,O⟩
end Go.SP
namespace Go.SW
open Go.RowKit
def wS(K:List Nat)(Q:Bh):Prop:=∀c σ h ds w,(∀k,k∈K→h k=σ k)→Q.p c σ ds w→Q.p c h ds w
def wN(K:List Nat):List Oper→Bool
 | []=>true
 |o::l=>(match o.dst with|some d=>!K.contains d|none=>true)&&wN K l
theorem Xm{K:List Nat}:∀{l:List Oper}{i:Nat}{o:Oper}{d:Nat},wN K l=true→l[i]?=some o→o.dst=some d→d∉K
 | [],_,_,_,_,h,_=>by simp at h
 |x::l,0,o,d,D,h,hd=>by
   cases h
   simp only[wN,hd,Bool.and_eq_true] at D;simpa using D.1
 |x::l,i+1,o,d,D,h,hd=>by
   simp only[wN,Bool.and_eq_true] at D;exact Xm D.2 (by simpa using h) hd
section
variable{P:Program}{n:Nat}{Q:Bh}{S:wO→Prop}{l:List Oper}{K:List Nat}
variable {id:Nat}{w:wO}
theorem lO(D:wS K Q){c:List PanicEntry}{a:Act}{d:Nat}{v:Value}(hd:d∉K)(h:Q.up n (.panic c) (a.put (some d) v) w):Q.up n (.panic c) a w:=by
 obtain⟨σ,ds,F,L⟩:=h;refine⟨λt=>if t=d then none else σ t,ds,⟨by have:=F.size;simpa[Act.put] using this,F.defs,λt O G=>?_⟩,D _ _ _ _ _ (λk U=>if_neg (c:=k=d) λe=>hd (e▸U)) L⟩
 by_cases e:t=d
 · simp[e] at G
 · simp only[e,if_false] at G
   have J:=F.val t O G;simp only[Act.put,Array.getD_eq_getD_getElem?] at J ⊢;rwa[Array.getElem?_setIfInBounds_ne (λh=>e h.symm)] at J
theorem Lf(Y:Region.noSelect l.toArray=true)(G:wS K Q)(J:wN K l=true):∀(m:Nat)(t:OT)(listed:Array Bool)(a:Act)(w:wO),t.even true m=true→t.ok l.toArray true listed=true→S w→gM P l (Q.up n) S true t a w→wpAnyH P .any l.toArray (Q.up n) S m listed a w
 |m,.fin,listed,a,w,D,F,U,h=>by
   simp[OT.even] at D;subst D;exact wpAnyH_done (by simpa[OT.ok] using F) (h C) 0
 |0,.rd _ _,_,_,_,D,_,_,_=>by simp[OT.even] at D
 |0,.br _ _ _,_,_,_,D,_,_,_=>by simp[OT.even] at D
 |m+1,.rd i k,listed,a,w,D,F,U,h=>by
   simp only[OT.ok,Bool.and_eq_true,Bool.true_and] at F;obtain⟨o,v,hi,hy,h'⟩:=h
   exact wpAnyH_take (by simpa using hi) Y F.1.1 F.1.2 (λc a w W=>by
     cases hd:o.dst with
     |none=>rw[hd] at W;exact W
     |some d=>rw[hd] at W;exact lO G (Xm J hi hd) W) hy U (Lf Y G J m k _ _ w D F.2 U h')
 |m+1,.br i k o,listed,a,w,D,F,U,h=>by
   have L:(OT.br i k o).ok l.toArray false listed=true:=by
     simp only[OT.ok,Bool.and_eq_true] at F ⊢;exact⟨⟨C,F.1.2⟩,F.2⟩
   have O:(OT.br i k o).even false (m+1)=true:=D
   have Z:Region.ready .any l.toArray listed=(OT.br i k o).alts:=by
     simp only[OT.ok,Bool.and_eq_true,Bool.not_true,Bool.false_or,beq_iff_eq] at F;exact F.1.1
   have hw':gM P l (Q.up n) S false (.br i k o) a w:=h;refine wpAnyH_all Z (by simp[OT.alts]) λj hj=>?_;obtain⟨k',h1,⟨m',hm,h2⟩,h3⟩:=OT.alts_mem (.br i k o) l.toArray listed (m+1) j L O hj;obtain rfl:m=m':=oM;obtain⟨op,hop,hwl⟩:=h3 P l (Q.up n) S a w hw';exact wpOp_mono (λa' w' hk=>⟨hk.1,Lf Y G J m k' _ a' w' h2 h1 hk.1 hk.2⟩) (IF (by simpa using hop) (λ_ _ h=>h) hwl)
variable{σ:Bp}{ds:List Deferred}{X:Cx}{R:List RB}{B:List FB}{Fs:List (wO→Fq→Prop)}{fs:List Fr}{H Hk:List HB}
theorem Rw(h:wS K Q):∀fs:List Fr,wS K (MU P n Q fs)
 | []=>h
 |.sq _::fs=>Rw h fs
 |.bk _::fs=>Rw h fs
theorem Z0(K:List Nat)(J:wO→Prop)(Y:∀w f,X.I w f→CQ X.M X.w0 X.f0 w f→J w)(Z:List Nat)(hm:P.follows .mixedOrders=true)(t:OT)(hk:Nh H Z=some Hk)(G:t.ok l.toArray true (Array.replicate l.length false)=true)(L:t.even true l.length=true)(D:Region.noSelect l.toArray=true)(O:wN K l=true)(U:wS K Q)
   (h:Du P n (MU P n Q fs) ds X R B Fs l Hk B J true t σ H):A7 P n Q ds X R B Fs (.code (.region id l.toArray true)) fs σ H:=λw f W a ha=>by
 refine wp_region_held (S:=Kp Hk B J) hm ?_;have F:AU X w.drew f H R B Fs:=W.call0 (CQ.of_ext AY.drew W.val);have:=Lf (P:=P) (n:=n) (Q:=MU P n Q fs) D (Rw U fs) O l.length t (Array.replicate l.length false) a w.drew L G (F.kp (Kc hk) Y) (h w.drew f F a ha);simpa using this
end
variable {args:Array Value}{f:Fq}{fid:FuncId}{cv:lV}{M:Nat→Prop}{x:Operand}{w:wO}
theorem oW{b1 b2 b3:Nat}{J L O:lV}{T1 U W:tI}(Y:Vl w f)(Z:AS w b1 J T1)(h2:AS w b2 L U)(h3:AS w b3 O W)(D:f b1=0∧f b2=0∧f b3=0)(F:b1≠b2∧b1≠b3∧b2≠b3) :
   AU ⟨λb=>b=b1∨b=b2∨b=b3,λ_=>False,λ_ _=>True,w,f⟩ w f [⟨b1,J,T1,false⟩,⟨b2,L,U,false⟩,⟨b3,O,W,false⟩] [] [] [] where
 stp:=Ni.refl _ _
 old _ _:=rfl
 val:=Y
 ent:=Ji.refl _ _
 res:=trivial
 stab _ _ _ _ _ _ _:=trivial
 mi _ h:=h.elim
 blk e h:=by
   rcases List.mem_cons.1 h with rfl|h
   · exact Z
   rcases List.mem_cons.1 h with rfl|h
   · exact h2
   rcases List.mem_cons.1 h with rfl|h
   · exact h3
   cases h
 row _ h:=by cases h
 nd:=by simp[CX,F.1,F.2.1,F.2.2]
 own b h:=by
   simp[CX] at h;rcases h with rfl|rfl|rfl
   · exact⟨D.1,.inr (.inl C),λh=>h⟩
   · exact⟨D.2.1,.inr (.inr (.inl C)),λh=>h⟩
   · exact⟨D.2.2,.inr (.inr (.inr C)),λh=>h⟩
 hnw e h G:=by
   rcases List.mem_cons.1 h with rfl|h
   · cases G
   rcases List.mem_cons.1 h with rfl|h
   · cases G
   rcases List.mem_cons.1 h with rfl|h
   · cases G
   cases h
 rnw _ h:=by cases h
 fro _ h:=by cases h
 fac _ h:=by cases h
 mono _ h:=by cases h
def Yc(P:Program)(fn:Func)(K:List Nat)(R:Ending→wO→Prop):Bh :=
 {q:=(Xc P fn R).q,
   p:=λc σ ds w=>∀tmps:Array Value,(∀t,t∈K→∀v,σ t=some v→tmps.getD t undef=v)→Leaves P fn tmps R ds (.panicking c) w}
theorem Fh{P:Program}{fn:Func}{K:List Nat}{R:Ending→wO→Prop}:wS K (Yc P fn K R):=λ_ _ _ _ _ D h tmps F=>h tmps λt hm v G=>F t hm v ((D t hm).trans G)
theorem qO{P:Program}{n:Nat}{X:Cx}{H:List HB}{R:List RB}{B:List FB}{Fs:List (wO→Fq→Prop)}{fn:Func}{c:Code}{l:lV}{G:Ending→wO→Prop}{K:List Nat}(J:P.funcs[fid]?=some fn)(L:fn.body=some c)(O:fn.ntmps=n)(U:Nat.ble l.length n=true)(W:AU X w f H R B Fs)
   (h:A7 P n (Yc P fn K G) [] X R B Fs (.code c) [] (I8 l 0) H):Calls P fid l.toArray w G:=by
 refine calls_of_wp_defers J L ?_;rw[O];refine wp_mono (h w f W _ (JF U)) λe a w' he=>?_
 cases e with
 |normal=>obtain⟨σ,ds,D,F⟩:=he;show Leaves _ _ _ _ a.defers _ _;rw[D.defs];exact F _ D.val
 |ret=>obtain⟨σ,ds,D,F⟩:=he;show Leaves _ _ _ _ a.defers _ _;rw[D.defs];exact F _ D.val
 |panic c=>obtain⟨σ,ds,D,F⟩:=he;show Leaves _ _ _ _ a.defers _ _;rw[D.defs];exact F _ λt _ v Y=>D.val t v Y
 |outgrown=>exact he.elim
 |exit i=>obtain⟨σ,ds,D,F⟩:=he;exact F.elim
 |goto i=>obtain⟨σ,ds,D,F⟩:=he;exact F.elim
section
variable{P:Program}{n:Nat}{Q:Bh}{ds:List Deferred}{X:Cx}{R:List RB}{B:List FB}{Fs:List (wO→Fq→Prop)}{fs:List Fr}{σ:Bp}{H:List HB}
variable{all r:List Oper}{ty T:tI}{AX:String}{af:Array Edge}{g:Option (Nat×Bool)}{d:Nat}
theorem mdf{f:FuncId}{ts:Array tI}(D:gd all σ g=some true)(F:ev σ x=some (.func (.func f) #[] cv.toArray))
   (h:A7 P n Q ({target:=.fn (.func f) cv.toArray,args:=#[]}::ds) X R B Fs (.ops all r) fs σ H):A7 P n Q ds X R B Fs (.ops all (⟨none,.defer {callee:=.value x,args:=#[],argTypes:=ts},ty,AX,af,g⟩::r)) fs σ H:=λw f G =>
 BE D (Qq F (h w f G))
theorem ZK{op:Op}{α:Type}{val:α→Value}{q:α→Prop}{I':α→wO→Fq→Prop}{F':α→List (wO→Fq→Prop)}{pe:SP.Er→Prop}
   (U:gd all σ g=some true) (hd:Nat.blt d n=true) (he:∀w,Enters P σ op ty w fid args) (W:∀b,M b→X.MI b)
   (Y:∀w f,AU X w f H R B Fs→BU P fid args w (Fv val q X.MI I' F' w f) (SP.PanE T M pe w f)) (F:∀x,G4 X.MI (I' x)) (hm:∀x,A2 (F' x))
   (Z:∀er w' f',pe er→CQ X.M X.w0 X.f0 w' f'→(∀e,e∈H→AS w' e.b e.l e.T∧f' e.b=0∧(e.nw=true→X.w0.heap.size≤e.b))→Q.p (SP.trI T er) σ ds w')
   (h:∀x,q x→A7 P n Q ds {X with I:=I' x} R B (F' x++Fs) (.ops all r) fs (AH σ d (val x)) H):A7 P n Q ds X R B Fs (.ops all (⟨some d,op,ty,AX,af,g⟩::r)) fs σ H :=
 P9 (XX:=λc w'=>∃er f',c=SP.trI T er∧pe er∧CQ X.M X.w0 X.f0 w' f'∧∀e,e∈H→AS w' e.b e.l e.T∧f' e.b=0∧(e.nw=true→X.w0.heap.size≤e.b)) U hd he (λw f O=>(Y w f O).mono (λ_ _ h=>h) λ_ w' ⟨er,f',G,J,L⟩=>by
   have D:=O.callI (I':=λ_ _=>True) (L.mono W) tQ (λ_ _ _ _ _ _ _=>trivial);exact⟨er,f',G,J,D.exm,λe he=>⟨D.blk e he,(D.own e.b (List.mem_append.2 (.inl (List.mem_map.2 ⟨e,he,C⟩)))).1,D.hnw e he⟩⟩) F hm (λ_ _ _ _ _ ⟨er,f',G,J,L,h4⟩=>G▸Z er _ f' J L h4) h
end
open Go.SP (Sn)
section
variable{P:Program}{n:Nat}{Q:Bh}{ds:List Deferred}{X:Cx}{R:List RB}{B:List FB}{Fs:List (wO→Fq→Prop)}{fs:List Fr}{σ:Bp}{H:List HB}
variable{all r:List Oper}{ty T:tI}{AX:String}{af:Array Edge}{g:Option (Nat×Bool)}{d:Nat}{op:Op}{fid:FuncId}{args:Array Value}{α:Type}
variable {pe:Int×Int→Prop}{xs:lV}{e:tI}
theorem xJ{val:α→Value}{q:α→Prop}{F':α→List (wO→Fq→Prop)}
   (K:gd all σ g=some true) (hd:Nat.blt d n=true) (he:∀w,Enters P σ op ty w fid args)
   (L:∀w f,AU X w f H R B Fs→BU P fid args w (Ce val q F' w f) (SD T pe w f)) (hm:∀x,A2 (F' x))
   (O:∀e w' f',pe e→CQ X.M X.w0 X.f0 w' f'→(∀e,e∈H→AS w' e.b e.l e.T∧f' e.b=0∧(e.nw=true→X.w0.heap.size≤e.b))→Q.p (Sn T e) σ ds w')
   (h:∀x,q x→A7 P n Q ds X R B (F' x++Fs) (.ops all r) fs (AH σ d (val x)) H):A7 P n Q ds X R B Fs (.ops all (⟨some d,op,ty,AX,af,g⟩::r)) fs σ H:=λw f F=>by
 refine BE K (Cw hd (he w) (L w f F) ?_ ?_)
 · rintro v w' ⟨x,f',rfl,G,J,U⟩
   exact h x G w' f' ((F.call0 J).more (B':=[]) (λ_ h=>by cases h) U.mem (hm x).mem)
 · rintro c w' ⟨e,f',rfl,G,J⟩
   rw[Na];have D:=F.call0 J;exact O e w' f' G D.exm λe he=>⟨D.blk e he,(D.own e.b (List.mem_append.2 (.inl (List.mem_map.2 ⟨e,he,C⟩)))).1,D.hnw e he⟩
theorem mct{size k:Nat}{val:oA→Nat→Value}(J:gd all σ g=some true)(hd:Nat.blt d n=true)(he:∀w,Enters P σ op ty w fid args)
   (K:∀w f,AU X w f H R B Fs→BF P fid args w λv w'=>∃a c,v=val a c∧(C0 w' e size a c k xs∧∀b,rb a=some b→w.heap.size≤b)∧AY w w')
   (h:∀a c,A7 P n Q ds X (⟨e,size,a,c,k,xs⟩::R) B Fs (.ops all r) fs (AH σ d (val a c)) H):A7 P n Q ds X R B Fs (.ops all (⟨some d,op,ty,AX,af,g⟩::r)) fs σ H:=λw f F=>by
 refine BE J (Cw hd (he w) (BF.retP (X:=λ_ _=>False) (K w f F)) ?_ (λ_ _ h=>False.elim h));rintro v w' ⟨a,c,rfl,⟨L,G⟩,O⟩;exact h a c w' f (F.addRow (CQ.of_ext O F.val) L λb D=>⟨G b D,F.val b (G b D)⟩)
end
end Go.SW
namespace Go.SP
open Go.SW Go.RowKit
def pI(w w':wO)(f:Fq):Fq:=λb=>if b<w.heap.size then f b else match w'.heap[b]? with|some (.cells l _)=>l.size|_=>0
variable {f:Fq}{l:lV}{b off:Nat}{a:oA}{w w':wO}
theorem lW(D:AY w w'):CQ (λ_=>False) w f w' (pI w w' f) where
 stp:=Ni.of_ext D
 old b h:=by unfold pI;rw[if_pos h]
 val b h:=by
   unfold pI;rw[if_neg (by have:=D.size;omega),Array.getElem?_eq_none h]
theorem tP{L r:lV}{T:tI}(F:AS w' b L T)(O:w.heap.size≤b)(hd:L.drop off=l++r):Cs w' (pI w w' f) b off l:=λj v G=>by
 have J:L[off+j]?=some v:=by
   rw[← List.getElem?_drop,hd];obtain⟨h,_⟩:=List.getElem?_eq_some_iff.1 G;rw[List.getElem?_append_left h];exact G
 obtain⟨K,_⟩:=List.getElem?_eq_some_iff.1 J;have D:w'.heap[b]?=some (.cells L.toArray T):=F;refine⟨?_,?_⟩
 · unfold pI
   rw[if_neg (by omega),D];simpa using K
 · rw[F.cell,J]
theorem HF.frz:∀(k:Fo)(b off:Nat)(L l:lV)(T:tI),AS w' b L T→w.heap.size≤b→L.drop off=l→HF (λb=>w.heap.size≤b) w' k l→ZM w' (pI w w' f) k b off
 |.nil,_,_,_,_,_,_,_,_,_=>trivial
 |.cons t k r,b,off,L,l,T,J,K,hd,⟨a,n,c,l',O,⟨D,h3,F⟩,U⟩=>by
   subst O;refine⟨⟨a,c,tP (r:=l') J K (by rw[hd,D];rfl),oM,?_⟩,HF.frz r b (off+6) L l' T J K (by rw[← List.drop_drop,hd];rfl) U⟩;rcases F with F|⟨b',h,W,Y,hu,Z,G,hc⟩
   · left
     cases k with
     |nil=>rfl
     |cons _ _ _=>rw[F] at D;cases D
   · exact .inr ⟨b',h,Z,HF.frz k b' h W _ Y G hu C hc⟩
theorem EL.frz{c:Nat}{k:Fo}(h:EL (λb=>w.heap.size≤b) w' a k.len c k):Eo w' (pI w w' f) k a c:=by
 obtain⟨L,F,D⟩:=h;refine⟨F,?_⟩;rcases D with D|⟨b,off,l,T,hu,G,J,K⟩
 · left
   cases k with
   |nil=>rfl
   |cons _ _ _=>cases D
 · exact .inr ⟨b,off,G,HF.frz k b off l _ T J hu C K⟩
def S6(p:Nd×Int×Int×Int)(w:wO)(f:Fq)(v:Value)(w':wO):Prop :=
 ∃f' a c,CQ (λ_=>False) w f w' f'∧v=.tuple #[.slice a p.1.len c,.agg #[.int .i64 p.2.1,.int .i64 p.2.2.1],.int .i64 p.2.2.2]∧Ba w' f' p.1 a c
end Go.SP
namespace Go.Proofs.YtgdndhedjlmagaaGreatDoor
open Go.SW Go.SP Go.RowKit Go.Proofs.Tryz
theorem UY(w:wO)(ta:oA)(tn tc:Nat)(K:List A4)(hT:C0 w 52 5 ta tc K.length (F6 K))(htn:tn=K.length)(hlen:K.length≤100000) :
  BU prog 10 #[.slice ta tn tc] w (λv w'=>∃fo a c,Ar K [] .nil=.ok fo∧v=.slice a fo.len c∧EL (λb=>w.heap.size≤b) w' a fo.len c fo∧AY w w') (λc w'=>∃e,Ar K [] .nil=.error e∧c=Sn 40 e∧AY w w'):=by
 subst htn;have G:=AY.refl w;refine ID func10 C C C<|AW [] 7 [] (As _) (λ_=>Cv C C KK yV C C C C C λb1 w1 hb1 hE1 hs1 hz1=>?_);replace G:=G.trans hE1;refine AP [.sq _] 17 [] (As _) (λ_=>?_);refine Em (λk σ ds w'=>∃(i:Nat)(pre rest:List A4)(st:List (A4×Fo))(cur:Fo)(u:Nat→Nat)(oa:oA)(oc sb sc:Nat)(a:oA)(c:Nat)(vs:lV),k=rest.length∧ds=[]∧σ=(E5 3 (.slice (some ⟨sb,0,none⟩) (st.length+1) sc) 4 (.slice oa st.length oc) 10 (.slice ta K.length tc) 11 (iV (K.length:Int)) 12 (iV (i:Int)))∧K=pre++rest∧pre.length=i∧Ar K [] .nil=Ar rest st cur∧st.length≤200∧cur.len≤i∧(∀z∈st,z.2.len≤i)∧SV 54 52 42 u w w' st st oa oc (some ⟨sb,0,none⟩) sc (.slice a cur.len c) a c cur vs none 0 0 .nil∧AY w w') K.length (E5 3 (.slice (some ⟨b1,0,none⟩) 1 1) 4 (.slice none 0 0) 10 (.slice ta K.length tc) 11 (iV (K.length:Int)) 12 (iV ((0:Nat):Int))) lE ⟨0,[],K,[],.nil,λ_=>2,none,0,b1,1,none,0,[],C,C,C,C,C,C,by simp,by simp[Fo.len],(λz hz=>by cases hz),SV.start hb1 oM,G⟩ ?_;rintro _ _ _ wl ⟨i,pre,rest,st,cur,u,oa,oc,sb,sc,a,c,vs,rfl,rfl,rfl,htk,hpi,hm,h200,hcl,hsl,U,G⟩;have szl:=G.size;have hil:i+rest.length=K.length:=by rw[htk,List.length_append,hpi]
 have hslt:sb<wl.heap.size:=U.slt sb C;have hsge:w.heap.size≤sb:=(U.sla sb C).1;have htlt:=U.tlt;have holt:=U.olt;have hson:=U.o.n_le;have hssn:=U.s.n_le;have J:=AY.refl wl;refine AW [] 6 [] (As _) (λ_=>sP 13 C (λh1=>?_) (λh1=>?_));refine AW [.sq _] 7 [] (As _) (λ_=>?_);have hi2:i<K.length:=by simpa using h1
 rcases rest with _|⟨tk,rest⟩
 · simp at hil;omega
 simp only[List.length_cons] at hil;obtain⟨bt,lt,lt2,hta,hbt,hdt⟩:=tK (htk▸hT) hpi
 cases hta
 have hbtl:=hbt.lt;refine Ab C (Lh (i:=i) C C H4 hi2)<|Ab C (MG 0 C Ha (hbt.ext G) hdt oM C)<|CP C Gm λb2 w2 hb2 hE2 hs2 hz2=>?_;replace G:=G.trans hE2;replace J:=J.trans hE2;refine A3 C C C Ha C hb2 C C λw3 L hC1=>?_;replace G:=G.chg hC1 oM;replace J:=J.chg hC1 oM;have sz1:=hC1.size;refine AP [.sq _,.bk _,.sq _] 23 [0,0] (kB L (As _)) (aI ⟨oM,oM⟩<|y2<|λ_=>sP 32 C (λh2=>?_) (λh2=>?_));refine AW [.bk _,.bk _,.sq _] 9 [] (As _) (λ_=>sP 36 C (λh3=>?_) (λh3=>?_));exact AW [.sq _,.bk _,.bk _,.sq _] 5 [0,1] (kB L (As _)) (y2<|λ_=>Ab C (Ck C lQ)<|C6 (BR C) (aI C<|⟨(tk.ln,tk.co),hm.trans (Um h2 (by have:=h3;simp at this;omega)),C,G⟩));refine AW [.sq _,.bk _,.bk _,.sq _] 7 [0,0] (kB L (As _)) (y2<|λ_=>Cv C C H4 Gm C C C C C λb3 w4 hb4 hE3 hs3 hz3=>?_);replace L:=L.ext hE3;replace G:=G.trans hE3;replace J:=J.trans hE3;have F:=(U.ext J);refine Bi C Jg C C C C F.o hb4 C C oM oM λoa2 oc2 w5 hr1 hG1=>?_;obtain⟨u2,hS1⟩:=F.pushTok tk cur hr1 hG1 oM;replace G:=G.grow hG1 (λb hb=>(F.ol b hb).1);have sz2:=hG1.size;have hA2:=AY.refl w5;refine AP [.sq _,.bk _,.bk _,.sq _] 5 [] (As _) (λ_=>Cv C C KK yV C C C C C λb4 w6 hb5 hE4 hs4 hz4=>?_);replace G:=G.trans hE4;replace hA2:=hA2.trans hE4;have F:=(hS1.ext hA2);refine Bi C ap57 C C C C F.s hb5 C C oM oM λsa2 sc2 w7 hr2 hG2=>?_;obtain⟨u3,hS2⟩:=F.pushLev C tk hr2 hG2 oM;replace G:=G.grow hG2 (λb hb=>(F.sla b hb).1);have sz3:=hG2.size;have hA3:=AY.refl w7;refine AP [.bk _,.bk _,.sq _] 9 [] (As _) (aI ⟨oM,oM⟩<|λ_=>?_);obtain⟨sb2,_,hes2,-⟩:=(hS2.ext hA3).sblk
 cases hes2
 have hne2:st.length≠200:=by have:=h3;simp at this;omega
 refine HH rest.length (E5 3 (.slice (some ⟨sb2,0,none⟩) (st.length+1+1) sc2) 4 (.slice oa2 (st.length+1) oc2) 10 (.slice (some ⟨bt,0,none⟩) K.length tc) 11 (iV (K.length:Int)) 12 (iV ((i+1:Nat):Int))) (by simp) lE ⟨i+1,pre++[tk],rest,(tk,cur)::st,.nil,_,oa2,oc2,sb2,sc2,none,0,_,C,C,C,by rw[htk];simp,by simp[hpi],hm.trans (U0 h2 hne2),by simp only[List.length_cons];omega,by simp[Fo.len],Yt tk hsl hcl,(hS2.ext hA3),G⟩;refine AW [.bk _,.bk _,.sq _] 7 [] (As _) (λ_=>sP 48 C (λh4=>?_) (λh4=>?_));refine AW [.bk _,.bk _,.sq _] 8 [] (As _) (λ_=>sP 51 C (λh5=>?_) (λh5=>?_));refine AW [.sq _,.bk _,.bk _,.sq _] 5 [0,1] (kB L (As _)) (y2<|λ_=>Ab C (Ck C lQ)<|C6 (BR C) (aI C ?_));rcases st with _|⟨o,s⟩
 · exact⟨(tk.ln,tk.co),hm.trans (V8 h2 h4),C,G⟩
 · have h2:=h5;simp at h2 <;> omega
 refine AW [.sq _,.bk _,.bk _,.sq _] 4 [] (As _) (λ_=>?_);rcases st with _|⟨⟨o,q⟩,s⟩
 · simp at h5
 rcases vs with _|⟨y,vs⟩
 · exact U.lv.elim
 obtain⟨_,ls,Y,Q,O,hsl2,hsw,hsu⟩:=(U.ext J).sblk
 cases Y
 obtain⟨ob,lo,lo2,hoa,hob,hod⟩:=(U.ext J).oblk
 cases hoa
 have hobl:ob<wl.heap.size:=holt ob C;have hr3:=Q;have hr4:=(hbt.ext G);have hr5:=L;have hr6:=hob;refine Eg mixed (A6 w3 [sb,bt,b2,ob]) [(true,0),(true,1),(true,2),(true,3),(true,4),(true,5),(true,6),(true,7),(true,8),(true,9),(false,10),(false,11)] kR kR C C λw8 hE5 hz5=>?_;have D:A6 w3 [sb,bt,b2,ob] w8:=A6.cons hr3 hE5 (A6.cons hr4 hE5 (A6.cons hr5 hE5 (A6.cons hr6 hE5 (A6.nil _ _))));refine⟨D,?_⟩;replace L:=L.ext hE5;replace hob:=hob.ext hE5;replace Q:=Q.ext hE5;replace G:=G.trans hE5;replace J:=J.trans hE5;refine A1 C (λ_ U=>A0 C)<|A1 C (λ_ U=>A0 C)<|A1 C (λ_ U=>H9 C C ⟨oM,oM⟩)<|A1 C (λ_ U=>Fa s.length C C (by simp <;> omega) H4 (by simp))<|A1 C (λ_ U=>MG 0 C Ha (hr6.keep U (.tail _ (.tail _ (.tail _ (.head _))))) hod oM C)<|A1 C (λ_ U=>A0 C)<|A1 C (λ_ U=>A0 C)<|A1 C (λ_ U=>Fa (s.length+1) C C (by simp) KK (by simp))<|A1 C (λ_ U=>Am C K3 (hr3.keep U (.head _)) (by simpa using O))<|A1 C (λ_ U=>DO C zB Sj C) ?_;refine EV<|CP C Sj λb5 w9 hb6 hE6 hs5 hz6=>?_;replace L:=L.ext hE6;replace hob:=hob.ext hE6;replace Q:=Q.ext hE6;replace G:=G.trans hE6;replace J:=J.trans hE6;replace D:=D.ext hE6;refine Ac (H5 D<|EV<|A3 C C C Rn C hb6 C C λw10 Z hC2=>?_);replace L:=L.chg hC2 oM;replace hob:=hob.chg hC2 oM;replace Q:=Q.chg hC2 oM;replace G:=G.chg hC2 oM;replace J:=J.chg hC2 oM;replace D:=D.chg hC2 nM;have sz4:=hC2.size;refine Ac (H5 D<|Ex<|KG [.sq _,.bk _,.bk _,.sq _] 2 [] (As _) (λ_=>?_));have hr7:=(hbt.ext G);have hr8:=L;have hr9:=Z;refine Eg mixed (A6 w10 [bt,b2,b5]) [(true,0),(true,1),(true,2),(true,3),(true,4),(true,5),(true,6),(true,7),(true,8)] kR kR C C λw11 hE7 hz7=>?_;have D:A6 w10 [bt,b2,b5] w11:=A6.cons hr7 hE7 (A6.cons hr8 hE7 (A6.cons hr9 hE7 (A6.nil _ _)));refine⟨D,?_⟩;replace L:=L.ext hE7;replace Z:=Z.ext hE7;replace G:=G.trans hE7;replace J:=J.trans hE7;refine A1 C (λ_ U=>A0 C)<|A1 C (λ_ U=>A0 C)<|A1 C (λ_ U=>H9 C C ⟨oM,oM⟩)<|A1 C (λ_ U=>WX s.length C C (by simp <;> omega) H4 (by simp only[List.length_cons] at hson;omega))<|A1 C (λ_ U=>A0 C)<|A1 C (λ_ U=>A0 C)<|A1 C (λ_ U=>WX (s.length+1) C C (by simp) KK (by simp only[List.length_cons] at hssn;omega))<|A1 C (λ_ U=>Dp C)<|A1 C (λ_ U=>Dp C)<|Ex ?_;refine KG [.sq _,.bk _,.bk _,.sq _] 2 [] (As _) (λ_=>?_);obtain⟨u2,a2,c2,hy,hP⟩:=(U.ext J).pop
 cases hy
 obtain⟨a9,c9,hy9,xs9,hrow9,-⟩:=U.lv.1
 cases hy9
 have htlt9:∀b,rb a2=some b→b<wl.heap.size:=λb hb=>hrow9.lt hb;have W:=AY.refl w11;have hr10:=(hbt.ext G);have hr11:=L;have hr12:=Z;refine Eu mixed (A6 w11 [bt,b2,b5]) (.br 0 (.br 1 (.br 2 (.br 3 .fin .fin) .fin) (.br 2 (.br 1 (.br 3 .fin .fin) .fin) .fin)) .fin) kR kR kR λw12 hE8 hz8=>?_;have D:A6 w11 [bt,b2,b5] w12:=A6.cons hr10 hE8 (A6.cons hr11 hE8 (A6.cons hr12 hE8 (A6.nil _ _)));refine⟨D,?_⟩;replace L:=L.ext hE8;replace Z:=Z.ext hE8;replace G:=G.trans hE8;replace J:=J.trans hE8;replace W:=W.trans hE8;refine An C ?_ Ag;refine CP C zr4 λb6 w13 hb8 hE9 hs6 hz9=>?_;replace L:=L.ext hE9;replace Z:=Z.ext hE9;replace G:=G.trans hE9;replace J:=J.trans hE9;replace W:=W.trans hE9;replace D:=D.ext hE9;refine Ac (Ap D<|An C ?_ ?_);refine A3 C C C pJ C hb8 C C λw14 hb9 hC3=>?_;replace L:=L.chg hC3 oM;replace Z:=Z.chg hC3 oM;replace G:=G.chg hC3 oM;replace J:=J.chg hC3 oM;replace W:=W.chg hC3 oM;replace D:=D.chg hC3 nM;have sz5:=hC3.size;refine Ac (Ap D<|An C ?_ Ag);refine A3 C C C pJ C hb9 C C λw15 hb10 hC4=>?_;replace L:=L.chg hC4 oM;replace Z:=Z.chg hC4 oM;replace G:=G.chg hC4 oM;replace J:=J.chg hC4 oM;replace W:=W.chg hC4 oM;replace D:=D.chg hC4 nM;have sz6:=hC4.size;refine Ac (Ap D<|An C ?_ Ag);refine Ab C (Am C pJ hb10 C)<|Ac (Ap D<|BC<|KG [.sq _,.bk _,.bk _,.sq _] 2 [] (As _) (λ_=>?_));have hr13:=(hbt.ext G);have hr14:=L;have hr15:=Z;have hr16:=hb10;refine Eu mixed (A6 w15 [bt,b2,b5,b6]) (rd [0,1,2,3,4,5,6,8] (.br 7 (.br 9 (.br 10 (.rd 11 (.br 12 .fin .fin)) .fin) .fin) (.br 9 (.br 7 (.br 10 (.rd 11 (.br 12 .fin .fin)) .fin) .fin) .fin))) kR kR kR λw16 hE10 hz10=>?_;have D:A6 w15 [bt,b2,b5,b6] w16:=A6.cons hr13 hE10 (A6.cons hr14 hE10 (A6.cons hr15 hE10 (A6.cons hr16 hE10 (A6.nil _ _))));refine⟨D,?_⟩;replace L:=L.ext hE10;replace Z:=Z.ext hE10;replace hb10:=hb10.ext hE10;replace G:=G.trans hE10;replace J:=J.trans hE10;replace W:=W.trans hE10;refine Ax C C (λ_ U=>A0 C)<|Ax C C (λ_ U=>A0 C)<|Ax C C (λ_ U=>H9 C C ⟨oM,oM⟩)<|Ax C C (λ_ U=>A0 C)<|Ax C C (λ_ U=>A0 C)<|Ax C C (λ_ U=>H9 C C ⟨oM,oM⟩)<|Ax C C (λ_ U=>Fa s.length C C (by simp <;> omega) KK oM)<|Ax C C (λ_ U=>Dr C Rn (hr15.keep U (.tail _ (.tail _ (.head _)))) C)<|An C ?_ ?_;obtain⟨_,ls,Y,Q,O,hsl2,hsw,hsu⟩:=(hP.ext W).sblk
 cases Y
 refine Ab C (Am C K3 Q (by simpa using O))<|Ac (Ap D<|An C ?_ Ag);refine Cv C C Lu Sj C C C C C λb7 w17 hb11 hE11 hs7 hz11=>?_;replace L:=L.ext hE11;replace Z:=Z.ext hE11;replace hb10:=hb10.ext hE11;replace G:=G.trans hE11;replace J:=J.trans hE11;replace W:=W.trans hE11;replace D:=D.ext hE11;refine Ac (Ap D<|An C ?_ Ag);have F:=(hP.ext W);obtain⟨xs,hrow,hfc,hla⟩:=F.top;have hql:=hsl (o,q) (.head _);simp only at hql;refine Bi C Y3 C C C C hrow hb11 C C oM oM λa3 c3 w18 hr17 hG3=>?_;obtain⟨u3,hS3⟩:=F.app hrow hfc hla o F.kid hr17 hG3 oM;obtain⟨lb,_,he3,-⟩:=hS3.tblk
 cases he3
 have hlo:lb<wl.heap.size∨lb=w17.heap.size:=by
  rcases hG3.own with h|h
  · exact .inl (htlt9 lb h.symm)
  · exact .inr (Option.some.inj h)
 have hlge:w17.heap.size≤w18.heap.size:=hG3.size;replace G:=G.grow hG3 (λb hb=>(hla b hb).1);have sz7:=hG3.size;replace D:=D.grow hG3 (by simp only[List.mem_cons,List.not_mem_nil,or_false];intro c hc e;have h1:=(hla c e.symm).1;have h2:=htlt9 c e.symm;omega);have hA5:=AY.refl w18;refine Ac (Ap D<|Ax C C (λ_ U=>Fa s.length C C (by simp <;> omega) KK oM)<|An C ?_ Ag);have F:=(hS3.ext hA5);obtain⟨_,ls,Y,Q,O,hsl2,hsw,hsu⟩:=F.sblk
 cases Y
 refine Cy C C C K3 C Q C (by simp <;> omega) λw19 hb12 hC5=>?_;have hS4:=F.cell' C Q hb12 hC5;replace G:=G.chg hC5 hsw;have sz8:=hC5.size;replace D:=D.chg hC5 nM;have hA6:=AY.refl w19;refine Ac (Ap D<|BC<|KG [.bk _,.bk _,.sq _] 7 [] (As _) (aI ⟨oM,oM⟩<|λ_=>HH rest.length (E5 3 (.slice (some ⟨sb,0,none⟩) (s.length+1) sc) 4 (.slice (some ⟨ob,0,none⟩) s.length oc) 10 (.slice (some ⟨bt,0,none⟩) K.length tc) 11 (iV (K.length:Int)) 12 (iV ((i+1:Nat):Int))) (by simp) lE ⟨i+1,pre++[tk],rest,s,q.snoc o cur,_,_,oc,sb,sc,_,_,_,C,C,C,by rw[htk];simp,by simp[hpi],hm.trans (GA h2 h4),by simp only[List.length_cons] at h200;omega,by rw[Fo.len_snoc];have:=hsl (o,q) (.head _);simp only at this;omega,Mi hsl,(by rw[Fo.len_snoc];exact (hS4.ext hA6).knil),G⟩));refine An C ?_ ?_;refine Cv C C Lu Sj C C C C C λb8 w20 hb13 hE12 hs8 hz12=>?_;replace L:=L.ext hE12;replace Z:=Z.ext hE12;replace hb10:=hb10.ext hE12;replace G:=G.trans hE12;replace J:=J.trans hE12;replace W:=W.trans hE12;replace D:=D.ext hE12;refine Ac (Ap D<|An C ?_ Ag);obtain⟨_,ls,Y,Q,O,hsl2,hsw,hsu⟩:=(hP.ext W).sblk
 cases Y
 refine Ab C (Am C K3 Q (by simpa using O))<|Ac (Ap D<|An C ?_ Ag);have F:=(hP.ext W);obtain⟨xs,hrow,hfc,hla⟩:=F.top;have hql:=hsl (o,q) (.head _);simp only at hql;refine Bi C Y3 C C C C hrow hb13 C C oM oM λa3 c3 w21 hr18 hG4=>?_;obtain⟨u3,hS5⟩:=F.app hrow hfc hla o F.kid hr18 hG4 oM;obtain⟨lb,_,he3,-⟩:=hS5.tblk
 cases he3
 have hlo:lb<wl.heap.size∨lb=w20.heap.size:=by
  rcases hG4.own with h|h
  · exact .inl (htlt9 lb h.symm)
  · exact .inr (Option.some.inj h)
 have hlge:w20.heap.size≤w21.heap.size:=hG4.size;replace G:=G.grow hG4 (λb hb=>(hla b hb).1);have sz9:=hG4.size;replace D:=D.grow hG4 (by simp only[List.mem_cons,List.not_mem_nil,or_false];intro c hc e;have h1:=(hla c e.symm).1;have h2:=htlt9 c e.symm;omega);have hA7:=AY.refl w21;refine Ac (Ap D<|Ax C C (λ_ U=>Fa s.length C C (by simp <;> omega) KK oM)<|An C ?_ Ag);have F:=(hS5.ext hA7);obtain⟨_,ls,Y,Q,O,hsl2,hsw,hsu⟩:=F.sblk
 cases Y
 refine Cy C C C K3 C Q C (by simp <;> omega) λw22 hb14 hC6=>?_;have hS6:=F.cell' C Q hb14 hC6;replace G:=G.chg hC6 hsw;have sz10:=hC6.size;replace D:=D.chg hC6 nM;have hA8:=AY.refl w22;refine Ac (Ap D<|BC<|KG [.bk _,.bk _,.sq _] 7 [] (As _) (aI ⟨oM,oM⟩<|λ_=>HH rest.length (E5 3 (.slice (some ⟨sb,0,none⟩) (s.length+1) sc) 4 (.slice (some ⟨ob,0,none⟩) s.length oc) 10 (.slice (some ⟨bt,0,none⟩) K.length tc) 11 (iV (K.length:Int)) 12 (iV ((i+1:Nat):Int))) (by simp) lE ⟨i+1,pre++[tk],rest,s,q.snoc o cur,_,_,oc,sb,sc,_,_,_,C,C,C,by rw[htk];simp,by simp[hpi],hm.trans (GA h2 h4),by simp only[List.length_cons] at h200;omega,by rw[Fo.len_snoc];have:=hsl (o,q) (.head _);simp only at this;omega,Mi hsl,(by rw[Fo.len_snoc];exact (hS6.ext hA8).knil),G⟩));exact Ag;refine An C ?_ ?_;refine A3 C C C pJ C hb8 C C λw23 hb15 hC7=>?_;replace L:=L.chg hC7 oM;replace Z:=Z.chg hC7 oM;replace G:=G.chg hC7 oM;replace J:=J.chg hC7 oM;replace W:=W.chg hC7 oM;replace D:=D.chg hC7 nM;have sz11:=hC7.size;refine Ac (Ap D<|An C ?_ Ag);refine A3 C C C pJ C hb15 C C λw24 hb16 hC8=>?_;replace L:=L.chg hC8 oM;replace Z:=Z.chg hC8 oM;replace G:=G.chg hC8 oM;replace J:=J.chg hC8 oM;replace W:=W.chg hC8 oM;replace D:=D.chg hC8 nM;have sz12:=hC8.size;refine Ac (Ap D<|An C ?_ Ag);refine Ab C (Am C pJ hb16 C)<|Ac (Ap D<|BC<|KG [.sq _,.bk _,.bk _,.sq _] 3 [] (As _) (λ_=>?_));have hr19:=(hbt.ext G);have hr20:=L;have hr21:=Z;have hr22:=hb16;refine Eu mixed (A6 w24 [bt,b2,b5,b6]) (rd [0,1,2,3,4,5,6,8] (.br 7 (.rd 9 (.br 10 (.br 11 (.rd 12 (.br 13 .fin .fin)) .fin) .fin)) (.br 10 (.br 7 (.rd 9 (.br 11 (.rd 12 (.br 13 .fin .fin)) .fin)) .fin) .fin))) kR kR kR λw25 hE13 hz13=>?_;have D:A6 w24 [bt,b2,b5,b6] w25:=A6.cons hr19 hE13 (A6.cons hr20 hE13 (A6.cons hr21 hE13 (A6.cons hr22 hE13 (A6.nil _ _))));refine⟨D,?_⟩;replace L:=L.ext hE13;replace Z:=Z.ext hE13;replace hb16:=hb16.ext hE13;replace G:=G.trans hE13;replace J:=J.trans hE13;replace W:=W.trans hE13;refine Ax C C (λ_ U=>A0 C)<|Ax C C (λ_ U=>A0 C)<|Ax C C (λ_ U=>H9 C C ⟨oM,oM⟩)<|Ax C C (λ_ U=>A0 C)<|Ax C C (λ_ U=>A0 C)<|Ax C C (λ_ U=>H9 C C ⟨oM,oM⟩)<|Ax C C (λ_ U=>Fa s.length C C (by simp <;> omega) KK oM)<|Ax C C (λ_ U=>Dr C Rn (hr21.keep U (.tail _ (.tail _ (.head _)))) C)<|An C ?_ ?_;obtain⟨_,ls,Y,Q,O,hsl2,hsw,hsu⟩:=(hP.ext W).sblk
 cases Y
 refine Ab C (Am C K3 Q (by simpa using O))<|Ac (Ap D<|Ax C C (λ_ U=>MC C Lu)<|An C ?_ Ag);refine Cv C C Lu Sj C C C C C λb9 w26 hb17 hE14 hs9 hz14=>?_;replace L:=L.ext hE14;replace Z:=Z.ext hE14;replace hb16:=hb16.ext hE14;replace G:=G.trans hE14;replace J:=J.trans hE14;replace W:=W.trans hE14;replace D:=D.ext hE14;refine Ac (Ap D<|An C ?_ Ag);have F:=(hP.ext W);obtain⟨xs,hrow,hfc,hla⟩:=F.top;have hql:=hsl (o,q) (.head _);simp only at hql;refine Bi C Y3 C C C C hrow hb17 C C oM oM λa3 c3 w27 hr23 hG5=>?_;obtain⟨u3,hS7⟩:=F.app hrow hfc hla ⟨0,0,0,0,[]⟩ (EL.nil _ _ none 0) hr23 hG5 oM;obtain⟨lb,_,he3,-⟩:=hS7.tblk
 cases he3
 have hlo:lb<wl.heap.size∨lb=w26.heap.size:=by
  rcases hG5.own with h|h
  · exact .inl (htlt9 lb h.symm)
  · exact .inr (Option.some.inj h)
 have hlge:w26.heap.size≤w27.heap.size:=hG5.size;replace G:=G.grow hG5 (λb hb=>(hla b hb).1);have sz13:=hG5.size;replace D:=D.grow hG5 (by simp only[List.mem_cons,List.not_mem_nil,or_false];intro c hc e;have h1:=(hla c e.symm).1;have h2:=htlt9 c e.symm;omega);have hA9:=AY.refl w27;refine Ac (Ap D<|Ax C C (λ_ U=>Fa s.length C C (by simp <;> omega) KK oM)<|An C ?_ Ag);have F:=(hS7.ext hA9);obtain⟨_,ls,Y,Q,O,hsl2,hsw,hsu⟩:=F.sblk
 cases Y
 refine Cy C C C K3 C Q C (by simp <;> omega) λw28 hb18 hC9=>?_;have hS8:=F.cell' C Q hb18 hC9;replace G:=G.chg hC9 hsw;have sz14:=hC9.size;replace D:=D.chg hC9 nM;have hA10:=AY.refl w28;refine Ac (Ap D<|BC<|KG [.sq _,.bk _,.bk _,.sq _] 2 [] (As _) (λ_=>Ab C (Fa q.len C C oM Lu oM) ?_));have F:=(hS8.ext hA10);obtain⟨_,ll,hel,hlb,hll,hlw,hlu⟩:=F.tblk
 cases hel
 refine Cy C C C Rn C hlb C (by simp <;> omega) λw29 hb19 hC10=>?_;have hS9:=F.last' C hlb o F.kid hb19 hC10;replace G:=G.chg hC10 hlw;have sz15:=hC10.size;have hA11:=AY.refl w29;refine AP [.bk _,.bk _,.sq _] 8 [] (As _) (aI ⟨oM,oM⟩<|λ_=>HH rest.length (E5 3 (.slice (some ⟨sb,0,none⟩) (s.length+1) sc) 4 (.slice (some ⟨ob,0,none⟩) s.length oc) 10 (.slice (some ⟨bt,0,none⟩) K.length tc) 11 (iV (K.length:Int)) 12 (iV ((i+1:Nat):Int))) (by simp) lE ⟨i+1,pre++[tk],rest,s,q.snoc o cur,_,_,oc,sb,sc,_,_,_,C,C,C,by rw[htk];simp,by simp[hpi],hm.trans (GA h2 h4),by simp only[List.length_cons] at h200;omega,by rw[Fo.len_snoc];have:=hsl (o,q) (.head _);simp only at this;omega,Mi hsl,(by rw[Fo.len_snoc];exact (hS9.ext hA11).knil),G⟩);refine An C ?_ ?_;refine Cv C C Lu Sj C C C C C λb10 w30 hb20 hE15 hs10 hz15=>?_;replace L:=L.ext hE15;replace Z:=Z.ext hE15;replace hb16:=hb16.ext hE15;replace G:=G.trans hE15;replace J:=J.trans hE15;replace W:=W.trans hE15;replace D:=D.ext hE15;refine Ac (Ap D<|An C ?_ Ag);obtain⟨_,ls,Y,Q,O,hsl2,hsw,hsu⟩:=(hP.ext W).sblk
 cases Y
 refine Ab C (Am C K3 Q (by simpa using O))<|Ac (Ap D<|Ax C C (λ_ U=>MC C Lu)<|An C ?_ Ag);have F:=(hP.ext W);obtain⟨xs,hrow,hfc,hla⟩:=F.top;have hql:=hsl (o,q) (.head _);simp only at hql;refine Bi C Y3 C C C C hrow hb20 C C oM oM λa3 c3 w31 hr24 hG6=>?_;obtain⟨u3,hS10⟩:=F.app hrow hfc hla ⟨0,0,0,0,[]⟩ (EL.nil _ _ none 0) hr24 hG6 oM;obtain⟨lb,_,he3,-⟩:=hS10.tblk
 cases he3
 have hlo:lb<wl.heap.size∨lb=w30.heap.size:=by
  rcases hG6.own with h|h
  · exact .inl (htlt9 lb h.symm)
  · exact .inr (Option.some.inj h)
 have hlge:w30.heap.size≤w31.heap.size:=hG6.size;replace G:=G.grow hG6 (λb hb=>(hla b hb).1);have sz16:=hG6.size;replace D:=D.grow hG6 (by simp only[List.mem_cons,List.not_mem_nil,or_false];intro c hc e;have h1:=(hla c e.symm).1;have h2:=htlt9 c e.symm;omega);have hA12:=AY.refl w31;refine Ac (Ap D<|Ax C C (λ_ U=>Fa s.length C C (by simp <;> omega) KK oM)<|An C ?_ Ag);have F:=(hS10.ext hA12);obtain⟨_,ls,Y,Q,O,hsl2,hsw,hsu⟩:=F.sblk
 cases Y
 refine Cy C C C K3 C Q C (by simp <;> omega) λw32 hb21 hC11=>?_;have hS11:=F.cell' C Q hb21 hC11;replace G:=G.chg hC11 hsw;have sz17:=hC11.size;replace D:=D.chg hC11 nM;have hA13:=AY.refl w32;refine Ac (Ap D<|BC<|KG [.sq _,.bk _,.bk _,.sq _] 2 [] (As _) (λ_=>Ab C (Fa q.len C C oM Lu oM) ?_));have F:=(hS11.ext hA13);obtain⟨_,ll,hel,hlb,hll,hlw,hlu⟩:=F.tblk
 cases hel
 refine Cy C C C Rn C hlb C (by simp <;> omega) λw33 hb22 hC12=>?_;have hS12:=F.last' C hlb o F.kid hb22 hC12;replace G:=G.chg hC12 hlw;have sz18:=hC12.size;have hA14:=AY.refl w33;refine AP [.bk _,.bk _,.sq _] 8 [] (As _) (aI ⟨oM,oM⟩<|λ_=>HH rest.length (E5 3 (.slice (some ⟨sb,0,none⟩) (s.length+1) sc) 4 (.slice (some ⟨ob,0,none⟩) s.length oc) 10 (.slice (some ⟨bt,0,none⟩) K.length tc) 11 (iV (K.length:Int)) 12 (iV ((i+1:Nat):Int))) (by simp) lE ⟨i+1,pre++[tk],rest,s,q.snoc o cur,_,_,oc,sb,sc,_,_,_,C,C,C,by rw[htk];simp,by simp[hpi],hm.trans (GA h2 h4),by simp only[List.length_cons] at h200;omega,by rw[Fo.len_snoc];have:=hsl (o,q) (.head _);simp only at this;omega,Mi hsl,(by rw[Fo.len_snoc];exact (hS12.ext hA14).knil),G⟩);exact Ag;exact Ag;refine Ko C C ?_;have hr25:=(hbt.ext G);have hr26:=L;refine Eu mixed (A6 w3 [bt,b2]) (rd [0,1,2,4,5] (.br 3 (.rd 6 (.br 7 (.br 8 (.rd 9 (.rd 11 (.br 10 (.br 12 .fin .fin) (.br 12 (.br 10 .fin .fin) .fin)))) .fin) .fin)) (.br 7 (.br 3 (.rd 6 (.br 8 (.rd 9 (.rd 11 (.br 10 (.br 12 .fin .fin) (.br 12 (.br 10 .fin .fin) .fin)))) .fin)) .fin) .fin))) kR kR kR λw34 hE16 hz16=>?_;have D:A6 w3 [bt,b2] w34:=A6.cons hr25 hE16 (A6.cons hr26 hE16 (A6.nil _ _));refine⟨D,?_⟩;replace L:=L.ext hE16;replace G:=G.trans hE16;replace J:=J.trans hE16;refine Ax C C (λ_ U=>A0 C)<|Ax C C (λ_ U=>A0 C)<|Ax C C (λ_ U=>Fa st.length C C oM KK oM)<|Ax C C (λ_ U=>Dr C Ha (hr26.keep U (.tail _ (.head _))) C)<|Ax C C (λ_ U=>DO C zB Sj C)<|An C ?_ ?_;obtain⟨_,ls,Y,Q,O,hsl2,hsw,hsu⟩:=(U.ext J).sblk
 cases Y
 refine Ab C (Am C K3 Q (by simpa using O))<|Ac (Ap D<|Ax C C (λ_ U=>MC C Lu)<|An C ?_ Ag);refine Cv C C Lu Sj C C C C C λb11 w35 hb23 hE17 hs11 hz17=>?_;replace L:=L.ext hE17;replace G:=G.trans hE17;replace J:=J.trans hE17;replace D:=D.ext hE17;refine Ac (Ap D<|An C ?_ Ag);have F:=(U.ext J);obtain⟨xs,hrow,hfc,hla⟩:=F.top;refine Bi C Y3 C C C C hrow hb23 C C oM oM λa3 c3 w36 hr27 hG7=>?_;obtain⟨u3,hS13⟩:=F.app hrow hfc hla ⟨0,0,0,0,[]⟩ (EL.nil _ _ none 0) hr27 hG7 oM;obtain⟨lb,_,he3,-⟩:=hS13.tblk
 cases he3
 have hlo:lb<wl.heap.size∨lb=w35.heap.size:=by
  rcases hG7.own with h|h
  · exact .inl (htlt lb h.symm)
  · exact .inr (Option.some.inj h)
 have hlge:w35.heap.size≤w36.heap.size:=hG7.size;replace G:=G.grow hG7 (λb hb=>(hla b hb).1);have sz19:=hG7.size;replace D:=D.grow hG7 (by simp only[List.mem_cons,List.not_mem_nil,or_false];intro c hc e;have h1:=(hla c e.symm).1;have h2:=htlt c e.symm;omega);have hA15:=AY.refl w36;refine Ac (Ap D<|Ax C C (λ_ U=>Fa cur.len C C oM Lu oM)<|Ax C C (λ_ U=>Fa st.length C C oM KK oM)<|An C ?_ ?_);have F:=(hS13.ext hA15);obtain⟨_,ll,hel,hlb,hll,hlw,hlu⟩:=F.tblk
 cases hel
 refine Cy C C C Rn C hlb C (by simp <;> omega) λw37 hb24 hC13=>?_;have hS14:=F.last' C hlb tk (EL.nil _ _ none 0) hb24 hC13;replace G:=G.chg hC13 hlw;have sz20:=hC13.size;replace D:=D.chg hC13 nM;have hA16:=AY.refl w37;refine Ac (Ap D<|An C ?_ Ag);have F:=(hS14.ext hA16);obtain⟨_,ls,Y,Q,O,hsl2,hsw,hsu⟩:=F.sblk
 cases Y
 refine Cy C C C K3 C Q C (by simp <;> omega) λw38 hb25 hC14=>?_;have hS15:=F.cell' C Q hb25 hC14;replace G:=G.chg hC14 hsw;have sz21:=hC14.size;replace D:=D.chg hC14 nM;have hA17:=AY.refl w38;refine Ac (Ap D<|BC<|KG [.bk _,.bk _,.sq _] 7 [] (As _) (aI ⟨oM,oM⟩<|λ_=>HH rest.length (E5 3 (.slice (some ⟨sb,0,none⟩) (st.length+1) sc) 4 (.slice oa st.length oc) 10 (.slice (some ⟨bt,0,none⟩) K.length tc) 11 (iV (K.length:Int)) 12 (iV ((i+1:Nat):Int))) (by simp) lE ⟨i+1,pre++[tk],rest,st,cur.snoc tk .nil,_,oa,oc,sb,sc,_,_,_,C,C,C,by rw[htk];simp,by simp[hpi],hm.trans (GL h2 h4),h200,by rw[Fo.len_snoc];omega,JW hsl,(by rw[Fo.len_snoc];exact (hS15.ext hA17)),G⟩));refine An C ?_ ?_;have F:=(hS13.ext hA15);obtain⟨_,ls,Y,Q,O,hsl2,hsw,hsu⟩:=F.sblk
 cases Y
 refine Cy C C C K3 C Q C (by simp <;> omega) λw39 hb26 hC15=>?_;have hS16:=F.cell' C Q hb26 hC15;replace G:=G.chg hC15 hsw;have sz22:=hC15.size;replace D:=D.chg hC15 nM;have hA18:=AY.refl w39;refine Ac (Ap D<|An C ?_ Ag);have F:=(hS16.ext hA18);obtain⟨_,ll,hel,hlb,hll,hlw,hlu⟩:=F.tblk
 cases hel
 refine Cy C C C Rn C hlb C (by simp <;> omega) λw40 hb27 hC16=>?_;have hS17:=F.last' C hlb tk (EL.nil _ _ none 0) hb27 hC16;replace G:=G.chg hC16 hlw;have sz23:=hC16.size;replace D:=D.chg hC16 nM;have hA19:=AY.refl w40;refine Ac (Ap D<|BC<|KG [.bk _,.bk _,.sq _] 7 [] (As _) (aI ⟨oM,oM⟩<|λ_=>HH rest.length (E5 3 (.slice (some ⟨sb,0,none⟩) (st.length+1) sc) 4 (.slice oa st.length oc) 10 (.slice (some ⟨bt,0,none⟩) K.length tc) 11 (iV (K.length:Int)) 12 (iV ((i+1:Nat):Int))) (by simp) lE ⟨i+1,pre++[tk],rest,st,cur.snoc tk .nil,_,oa,oc,sb,sc,_,_,_,C,C,C,by rw[htk];simp,by simp[hpi],hm.trans (GL h2 h4),h200,by rw[Fo.len_snoc];omega,JW hsl,(by rw[Fo.len_snoc];exact (hS17.ext hA19)),G⟩));exact Ag;refine An C ?_ ?_;refine Cv C C Lu Sj C C C C C λb12 w41 hb28 hE18 hs12 hz18=>?_;replace L:=L.ext hE18;replace G:=G.trans hE18;replace J:=J.trans hE18;replace D:=D.ext hE18;refine Ac (Ap D<|An C ?_ Ag);obtain⟨_,ls,Y,Q,O,hsl2,hsw,hsu⟩:=(U.ext J).sblk
 cases Y
 refine Ab C (Am C K3 Q (by simpa using O))<|Ac (Ap D<|Ax C C (λ_ U=>MC C Lu)<|An C ?_ Ag);have F:=(U.ext J);obtain⟨xs,hrow,hfc,hla⟩:=F.top;refine Bi C Y3 C C C C hrow hb28 C C oM oM λa3 c3 w42 hr28 hG8=>?_;obtain⟨u3,hS18⟩:=F.app hrow hfc hla ⟨0,0,0,0,[]⟩ (EL.nil _ _ none 0) hr28 hG8 oM;obtain⟨lb,_,he3,-⟩:=hS18.tblk
 cases he3
 have hlo:lb<wl.heap.size∨lb=w41.heap.size:=by
  rcases hG8.own with h|h
  · exact .inl (htlt lb h.symm)
  · exact .inr (Option.some.inj h)
 have hlge:w41.heap.size≤w42.heap.size:=hG8.size;replace G:=G.grow hG8 (λb hb=>(hla b hb).1);have sz24:=hG8.size;replace D:=D.grow hG8 (by simp only[List.mem_cons,List.not_mem_nil,or_false];intro c hc e;have h1:=(hla c e.symm).1;have h2:=htlt c e.symm;omega);have hA20:=AY.refl w42;refine Ac (Ap D<|Ax C C (λ_ U=>Fa cur.len C C oM Lu oM)<|Ax C C (λ_ U=>Fa st.length C C oM KK oM)<|An C ?_ ?_);have F:=(hS18.ext hA20);obtain⟨_,ll,hel,hlb,hll,hlw,hlu⟩:=F.tblk
 cases hel
 refine Cy C C C Rn C hlb C (by simp <;> omega) λw43 hb29 hC17=>?_;have hS19:=F.last' C hlb tk (EL.nil _ _ none 0) hb29 hC17;replace G:=G.chg hC17 hlw;have sz25:=hC17.size;replace D:=D.chg hC17 nM;have hA21:=AY.refl w43;refine Ac (Ap D<|An C ?_ Ag);have F:=(hS19.ext hA21);obtain⟨_,ls,Y,Q,O,hsl2,hsw,hsu⟩:=F.sblk
 cases Y
 refine Cy C C C K3 C Q C (by simp <;> omega) λw44 hb30 hC18=>?_;have hS20:=F.cell' C Q hb30 hC18;replace G:=G.chg hC18 hsw;have sz26:=hC18.size;replace D:=D.chg hC18 nM;have hA22:=AY.refl w44;refine Ac (Ap D<|BC<|KG [.bk _,.bk _,.sq _] 7 [] (As _) (aI ⟨oM,oM⟩<|λ_=>HH rest.length (E5 3 (.slice (some ⟨sb,0,none⟩) (st.length+1) sc) 4 (.slice oa st.length oc) 10 (.slice (some ⟨bt,0,none⟩) K.length tc) 11 (iV (K.length:Int)) 12 (iV ((i+1:Nat):Int))) (by simp) lE ⟨i+1,pre++[tk],rest,st,cur.snoc tk .nil,_,oa,oc,sb,sc,_,_,_,C,C,C,by rw[htk];simp,by simp[hpi],hm.trans (GL h2 h4),h200,by rw[Fo.len_snoc];omega,JW hsl,(by rw[Fo.len_snoc];exact (hS20.ext hA22)),G⟩));refine An C ?_ ?_;have F:=(hS18.ext hA20);obtain⟨_,ls,Y,Q,O,hsl2,hsw,hsu⟩:=F.sblk
 cases Y
 refine Cy C C C K3 C Q C (by simp <;> omega) λw45 hb31 hC19=>?_;have hS21:=F.cell' C Q hb31 hC19;replace G:=G.chg hC19 hsw;have sz27:=hC19.size;replace D:=D.chg hC19 nM;have hA23:=AY.refl w45;refine Ac (Ap D<|An C ?_ Ag);have F:=(hS21.ext hA23);obtain⟨_,ll,hel,hlb,hll,hlw,hlu⟩:=F.tblk
 cases hel
 refine Cy C C C Rn C hlb C (by simp <;> omega) λw46 hb32 hC20=>?_;have hS22:=F.last' C hlb tk (EL.nil _ _ none 0) hb32 hC20;replace G:=G.chg hC20 hlw;have sz28:=hC20.size;replace D:=D.chg hC20 nM;have hA24:=AY.refl w46;refine Ac (Ap D<|BC<|KG [.bk _,.bk _,.sq _] 7 [] (As _) (aI ⟨oM,oM⟩<|λ_=>HH rest.length (E5 3 (.slice (some ⟨sb,0,none⟩) (st.length+1) sc) 4 (.slice oa st.length oc) 10 (.slice (some ⟨bt,0,none⟩) K.length tc) 11 (iV (K.length:Int)) 12 (iV ((i+1:Nat):Int))) (by simp) lE ⟨i+1,pre++[tk],rest,st,cur.snoc tk .nil,_,oa,oc,sb,sc,_,_,_,C,C,C,by rw[htk];simp,by simp[hpi],hm.trans (GL h2 h4),h200,by rw[Fo.len_snoc];omega,JW hsl,(by rw[Fo.len_snoc];exact (hS22.ext hA24)),G⟩));exact Ag;exact Ag;refine AW [.sq _] 3 [] (As _) (λ_=>O0<|KG [.bk _,.sq _] 4 [] (As _) (λ_=>?_))
 have hrz:rest=[]:=by
  rcases rest with _|⟨t9,rest⟩
  · rfl
  · simp at hil;have:=h1;simp at this;omega
 subst hrz;refine AW [.sq _,.sq _] 6 [] (As _) (λ_=>sP 104 C (λh6=>?_) (λh6=>?_));refine Gb C C ?_;rcases st with _|⟨o,s⟩
 · simp at h6
 obtain⟨ob,lo,lo2,tz,fz,hoa,hob,hoz,hod⟩:=(U.ext J).oblk0
 cases hoa
 exact AW [.sq _] 2 [] (As _) (λ_=>Ab C (Lh (i:=0) C C H4 (by simp))<|Ab C (BQ C tJ)<|Ab C (MG 1 C Jh hob hod oM C)<|Ab C (DO C pl40 zr40 C)<|Ab C (Ck C lQ)<|C6 (BR C) (aI C<|⟨(tz.ln,tz.co),hm.trans (WC hoz),C,G⟩));refine AW [.sq _] 4 [] (As _) (λ_=>?_);rcases st with _|⟨o,s⟩
 rotate_left
 · simp at h6
 refine AW [.sq _] 2 [] (As _) (λ_=>Ab C (Lh (i:=0) C C KK oM) ?_);obtain⟨_,ls,Y,Q,O,hsl2,hsw,hsu⟩:=(U.ext J).sblk
 cases Y
 exact Ab C (Am C K3 Q (by simpa using O))<|AP [.sq _] 4 [] (As _) (λ_=>Bv (AG C (Al C))<|⟨cur,a,c,hm.trans Ud,C,(U.ext J).out,G⟩)
theorem Ry(w:wO)(c2 c3 c4:Nat) :
  CallsD prog 8 [pB c2,pB c3,pB c4].toArray .returning w λr m w'=>∃x,r=.returned x∧m=.returning∧AY w w':=by
 refine D9 (R:=λw'=>AY w w') func8 C C C C OS<|(?_:A7 prog _ (FX prog _ (λ_ w'=>AY w w') λ_ _=>False) [] (X0 w (λ_=>0)) [] [] [] (.code _) [] _ []) w (λ_=>0) (CC (λ_ _=>C) tQ tQ);exact Aa 3 [] (λ_=>FJ C C (λw f h=>QI R9 C)<|Aa 7 [] (λ_=>kQ (λw f h=>DZ C) (λw f h=>h.exm.stp.ext)))
theorem U3(w:wO)(f:Fq)(J:Vl w f)(c2 c3 c4:Nat)(v2 x3 y3 v4:Value)(D:AS w c2 [v2] 23)(F:AS w c3 [x3,y3] 25)(G:AS w c4 [v4] 26)(K:f c2=0∧f c3=0∧f c4=0)(L:c2≠c3∧c2≠c4∧c3≠c4)(er:Int×Int) :
  CallsD prog 8 [pB c2,pB c3,pB c4].toArray (.panicking (Sn 40 er)) w λr m w'=>∃x,r=.returned x∧m=.panicking [{v:=.iface 40 (.agg #[iV er.1,iV er.2]),recovered:=true}]∧(∃f',CQ (λb=>b=c2∨b=c3∨b=c4) w f w' f'∧AS w' c2 [.slice none 0 0] 23∧AS w' c3 [iV er.1,iV er.2] 25∧AS w' c4 [iV 10] 26):=by
 refine D9 (R:=λw'=>∃f',CQ (λb=>b=c2∨b=c3∨b=c4) w f w' f'∧AS w' c2 [.slice none 0 0] 23∧AS w' c3 [iV er.1,iV er.2] 25∧AS w' c4 [iV 10] 26) func8 C C C C QV<|(?_:A7 prog _ (FX prog _ (λ_ w'=>∃f',CQ (λb=>b=c2∨b=c3∨b=c4) w f w' f'∧AS w' c2 [.slice none 0 0] 23∧AS w' c3 [iV er.1,iV er.2] 25∧AS w' c4 [iV 10] 26) λ_ _=>False) [] ⟨λb=>b=c2∨b=c3∨b=c4,λ_=>False,λ_ _=>True,w,f⟩ [] [] [] (.code _) [] _ [⟨c2,[v2],23,false⟩,⟨c3,[x3,y3],25,false⟩,⟨c4,[v4],26,false⟩]) w f (oW J D F G K L);refine Aa 3 [] (λ_=>FJ C C (λw f h=>Ro R9 C)<|Aa 5 [] (λ_=>FJ C C (λw f h=>UJ C uX)<|Aa 11 [0] (λb1=>y<|λ_=>Dh [0] Aq (.rd 0 (.rd 1 (.br 2 (.br 3 (.br 4 .fin .fin) .fin) .fin))) C kR<|A9 2 [0] (y<|λ_=>Ah C ?_ Aj))));refine Aa 2 [1] (y<|λ_=>Az [0] C<|Ah C ?_ Aj);refine Aa 2 [2] (y<|λ_=>Az [0] C<|Ah C ?_ Aj);exact Aa 2 [3] (y<|λ_=>Az [0] C<|Bx<|Aa 1 [] (λ_=>kQ (λw f h=>DZ C) (λw f h=>⟨f,h.exm,h.blk _ sT,h.blk _ Yp,h.blk _ WU⟩)))
variable {σ:Bp}{f f':Fq}{a:oA}{v2 v4 x3 y3:Value}{w w':wO}
theorem xP{p:Nd×Int×Int×Int}{b2 b3 b4:Nat}(L:b2≠b3∧b2≠b4∧b3≠b4){fn:Func}(O:fn.results=#[.cell 2 23,.cell 3 25,.cell 4 26])(Q:σ 2=some (pB b2))(U:σ 3=some (pB b3))(W:σ 4=some (pB b4)){er:Int×Int}(hm:p=(.nil,er.1,er.2,10))(G:CQ (λ_=>False) w f w' f')
  (k2:AS w' b2 [v2] 23∧f' b2=0∧(true=true→w.heap.size≤b2)) (k3:AS w' b3 [x3,y3] 25∧f' b3=0∧(true=true→w.heap.size≤b3)) (k4:AS w' b4 [v4] 26∧f' b4=0∧(true=true→w.heap.size≤b4))
  (tmps:Array Value) (F:∀t,t∈[2,3,4]→∀v,σ t=some v→tmps.getD t undef=v):Leaves prog fn tmps (λe w'=>∃v,e=.returned v∧S6 p w f v w') [{target:=.fn (.func 8) ([pB b2,pB b3,pB b4]:lV).toArray,args:=#[]}] (.panicking (Sn 40 er)) w':=by
 refine FR (by simp) qE (U3 w' f' G.val b2 b3 b4 v2 x3 y3 v4 k2.1 k3.1 k4.1 ⟨k2.2.1,k3.2.1,k4.2.1⟩ L er) λwz hz=>?_;rw[KX];obtain⟨f3,Y,z2,z3,z4⟩:=hz;refine Ch (σ:=AH (E2 2 (pB b2) 3 (pB b3)) 4 (pB b4)) (λt v D=>?_) (EB O (B1 C JS z2 C) (Ae C Ho z3 C) (B1 C Ix z4 C)) ⟨_,C,f3,none,0,CQ.trans0 G Y (λb Z=>?_),by rw[hm];rfl,by rw[hm];exact⟨Nat.zero_le _,.inl C⟩⟩
 ·
  by_cases e4:t=4
  · subst e4;exact F 4 (by simp) v (W.trans D)
  by_cases J:t=3
  · subst J;exact F 3 (by simp) v (U.trans D)
  by_cases K:t=2
  · subst K;exact F 2 (by simp) v (Q.trans D)
  have n4:Nat.beq t 4=false:=by cases h:Nat.beq t 4 with|false=>rfl|true=>exact absurd (Nat.eq_of_beq_eq_true h) e4
  have n3:Nat.beq t 3=false:=by cases h:Nat.beq t 3 with|false=>rfl|true=>exact absurd (Nat.eq_of_beq_eq_true h) J
  have n2:Nat.beq t 2=false:=by cases h:Nat.beq t 2 with|false=>rfl|true=>exact absurd (Nat.eq_of_beq_eq_true h) K
  simp[AH,Go.SW.e0,n2,n3,n4] at D
 ·
  rcases Z with rfl|rfl|rfl
  · exact k2.2.2 C
  · exact k3.2.2 C
  · exact k4.2.2 C
theorem yJ{p:Nd×Int×Int×Int}{b2 b3 b4:Nat}{fn:Func}(G:fn.results=#[.cell 2 23,.cell 3 25,.cell 4 26])(J:σ 2=some (pB b2))(K:σ 3=some (pB b3))(L:σ 4=some (pB b4)){nds:Nd}(hm:p=(nds,0,0,0))(D:CQ (λ_=>False) w f w' f'){c:Nat}(O:Ba w' f' nds a c)
  (k2:AS w' b2 [.slice a nds.len c] 23) (k3:AS w' b3 [iV 0,iV 0] 25) (k4:AS w' b4 [iV 0] 26)
  (tmps:Array Value) (Q:∀t v,σ t=some v→tmps.getD t undef=v):Leaves prog fn tmps (λe w'=>∃v,e=.returned v∧S6 p w f v w') [{target:=.fn (.func 8) ([pB b2,pB b3,pB b4]:lV).toArray,args:=#[]}] .returning w':=by
 refine FR (by simp) qE (Ry w' b2 b3 b4) λW hz=>?_;have F:=CQ.of_ext hz D.val;subst hm;exact Ch Q (EB G (B1 J JS (k2.ext hz) C) (Ae K Ho (k3.ext hz) C) (B1 L Ix (k4.ext hz) C)) ⟨_,C,f',a,c,CQ.trans0 D F (λb U=>U.elim),C,Ba.mono _ _ _ _ O (F.fle D.val (λ_ h=>h.elim))⟩
theorem Ss(w:wO)(f:Fq)(L:Vl w f)(D:oA)(F:Nat)(h:List A4)(O:C0 w 52 5 D F h.length (F6 h))(hlen:h.length≤100000) :
  BU prog 10 #[.slice D h.length F] w (Ce (α:=Fo×oA×Nat) (λx=>.slice x.2.1 x.1.len x.2.2) (λx=>Ar h [] .nil=.ok x.1) (λx=>[λw f=>Eo w f x.1 x.2.1 x.2.2]) w f) (SD 40 (λe=>Ar h [] .nil=.error e) w f) :=
 (UY w D _ F h O C hlen).mono (λ_ w' ⟨fo,a,c,G,J,K,Q⟩=>⟨(fo,a,c),pI w w' f,J,G,lW Q,EL.frz K,tQ⟩) λ_ w' ⟨e,G,J,K⟩=>⟨e,f,J,G,CQ.of_ext K L⟩
set_option maxHeartbeats 1000000 in
theorem Zb(w:wO)(f:Fq)(Q:Vl w f)(U:D3 w f)(n:Nat)(src:lU)(e:Int×Int×Int)(J:(e.2.2 != 0)=true)(W:∀L,Gl L→BF prog 7 #[S src] L λv w'=>v=.tuple #[.slice none 0 0,.agg #[iV e.1,iV e.2.1],iV e.2.2]∧AY L w') :
  BF prog 5 #[S src] w (S6 (Hp (n+1) (.error e)) w f):=by
 refine qO (K:=[2,3,4]) (X:=X0 w f) (H:=[]) (R:=[]) (B:=[]) (Fs:=[λw f=>D3 w f]) (f:=f) func5 C C C (CC Q ⟨U,tQ⟩ ⟨D3.mono,tQ⟩)<|Aa 8 [] (λb1=>λb2=>λb3=>λ_=>KH (p:=b1≠b2∧b1≠b3∧b2≠b3) (λw f h=>by have G:=h.nd;simp[CX] at G;exact⟨λe=>G.2 e.symm,λe=>G.1.2 e.symm,λe=>G.1.1 e.symm⟩) λY=>Aa 2 [] (λ_=>D1 C C (eC oS C C) (λw f h=>W _ (D3.gl h.f0))<|Aa 16 [1,0,0] (y<|y<|y<|λ_=>Bb 13 C C (λO=>?_) (λO=>?_))));refine Aa 2 [] (λ_=>Z0 [2,3,4] (λ_=>True) Fy [] Aq (.br 0 (.br 1 (.br 2 (.br 3 (.br 4 .fin .fin) .fin) .fin) (.br 2 (.br 1 (.br 3 (.br 4 .fin .fin) .fin) (.br 3 (.br 1 (.br 4 .fin .fin) .fin) .fin)) .fin)) (.br 1 (.br 0 (.br 2 (.br 3 (.br 4 .fin .fin) .fin) .fin) (.br 2 (.br 0 (.br 3 (.br 4 .fin .fin) .fin) .fin) .fin)) (.br 2 (.br 0 (.br 1 (.br 3 (.br 4 .fin .fin) .fin) (.br 3 (.br 1 (.br 4 .fin .fin) .fin) .fin)) (.br 1 (.br 0 (.br 3 (.br 4 .fin .fin) .fin) .fin) .fin)) .fin))) C kR kR kR C Fh<|Ah C ?_ ?_);refine Aa 2 [1] (y<|λ_=>Az [] C<|Ah C ?_ ?_);refine Aa 2 [0] (y<|λ_=>Az [] C<|Ah C ?_ Aj);refine Aa 2 [2] (y<|λ_=>Az [] C<|Ah C ?_ Aj);refine Aa 2 [1] (y<|λ_=>Az [] C<|Ah C ?_ Aj);exact Aa 2 [0] (y<|λ_=>Az [] C<|Bx<|Aa 3 [] (λ_=>λF f9 h=>λtmps D=>Ch D (EB C (B1 C JS h.k2 C) (Ae C Ho h.k1 C) (B1 C Ix h.k0 C)) ⟨_,C,f9,none,0,h.exm,C,⟨Nat.zero_le _,.inl C⟩⟩));refine Ah C ?_ Aj;refine Aa 2 [2] (y<|λ_=>Az [] C<|Ah C ?_ ?_);refine Aa 2 [0] (y<|λ_=>Az [] C<|Ah C ?_ Aj);refine Aa 2 [1] (y<|λ_=>Az [] C<|Ah C ?_ Aj);exact Aa 2 [0] (y<|λ_=>Az [] C<|Bx<|Aa 3 [] (λ_=>λF f9 h=>λtmps D=>Ch D (EB C (B1 C JS h.k2 C) (Ae C Ho h.k1 C) (B1 C Ix h.k0 C)) ⟨_,C,f9,none,0,h.exm,C,⟨Nat.zero_le _,.inl C⟩⟩));refine Ah C ?_ Aj;refine Aa 2 [1] (y<|λ_=>Az [] C<|Ah C ?_ Aj);refine Aa 2 [0] (y<|λ_=>Az [] C<|Ah C ?_ Aj);exact Aa 2 [0] (y<|λ_=>Az [] C<|Bx<|Aa 3 [] (λ_=>λF f9 h=>λtmps D=>Ch D (EB C (B1 C JS h.k2 C) (Ae C Ho h.k1 C) (B1 C Ix h.k0 C)) ⟨_,C,f9,none,0,h.exm,C,⟨Nat.zero_le _,.inl C⟩⟩));refine Ah C ?_ ?_;refine Aa 2 [0] (y<|λ_=>Az [] C<|Ah C ?_ ?_);refine Aa 2 [1] (y<|λ_=>Az [] C<|Ah C ?_ Aj);refine Aa 2 [2] (y<|λ_=>Az [] C<|Ah C ?_ Aj);refine Aa 2 [1] (y<|λ_=>Az [] C<|Ah C ?_ Aj);exact Aa 2 [0] (y<|λ_=>Az [] C<|Bx<|Aa 3 [] (λ_=>λF f9 h=>λtmps D=>Ch D (EB C (B1 C JS h.k2 C) (Ae C Ho h.k1 C) (B1 C Ix h.k0 C)) ⟨_,C,f9,none,0,h.exm,C,⟨Nat.zero_le _,.inl C⟩⟩));refine Ah C ?_ Aj;refine Aa 2 [2] (y<|λ_=>Az [] C<|Ah C ?_ Aj);refine Aa 2 [1] (y<|λ_=>Az [] C<|Ah C ?_ Aj);refine Aa 2 [1] (y<|λ_=>Az [] C<|Ah C ?_ Aj);exact Aa 2 [0] (y<|λ_=>Az [] C<|Bx<|Aa 3 [] (λ_=>λF f9 h=>λtmps D=>Ch D (EB C (B1 C JS h.k2 C) (Ae C Ho h.k1 C) (B1 C Ix h.k0 C)) ⟨_,C,f9,none,0,h.exm,C,⟨Nat.zero_le _,.inl C⟩⟩));refine Ah C ?_ Aj
 refine Aa 2 [2] (y<|λ_=>Az [] C<|Ah C ?_ ?_);refine Aa 2 [1] (y<|λ_=>Az [] C<|Ah C ?_ ?_);refine Aa 2 [0] (y<|λ_=>Az [] C<|Ah C ?_ Aj);refine Aa 2 [1] (y<|λ_=>Az [] C<|Ah C ?_ Aj);exact Aa 2 [0] (y<|λ_=>Az [] C<|Bx<|Aa 3 [] (λ_=>λF f9 h=>λtmps D=>Ch D (EB C (B1 C JS h.k2 C) (Ae C Ho h.k1 C) (B1 C Ix h.k0 C)) ⟨_,C,f9,none,0,h.exm,C,⟨Nat.zero_le _,.inl C⟩⟩));refine Ah C ?_ Aj;refine Aa 2 [1] (y<|λ_=>Az [] C<|Ah C ?_ Aj);refine Aa 2 [0] (y<|λ_=>Az [] C<|Ah C ?_ Aj);exact Aa 2 [0] (y<|λ_=>Az [] C<|Bx<|Aa 3 [] (λ_=>λF f9 h=>λtmps D=>Ch D (EB C (B1 C JS h.k2 C) (Ae C Ho h.k1 C) (B1 C Ix h.k0 C)) ⟨_,C,f9,none,0,h.exm,C,⟨Nat.zero_le _,.inl C⟩⟩));refine Ah C ?_ Aj;refine Aa 2 [0] (y<|λ_=>Az [] C<|Ah C ?_ Aj);refine Aa 2 [1] (y<|λ_=>Az [] C<|Ah C ?_ Aj);refine Aa 2 [1] (y<|λ_=>Az [] C<|Ah C ?_ Aj);exact Aa 2 [0] (y<|λ_=>Az [] C<|Bx<|Aa 3 [] (λ_=>λF f9 h=>λtmps D=>Ch D (EB C (B1 C JS h.k2 C) (Ae C Ho h.k1 C) (B1 C Ix h.k0 C)) ⟨_,C,f9,none,0,h.exm,C,⟨Nat.zero_le _,.inl C⟩⟩));exact absurd (J.symm.trans O) dC
set_option maxHeartbeats 1000000 in
theorem fJ(w:wO)(f:Fq)(Y:Vl w f)(Z:D3 w f)(n:Nat)(src:lU)(h:List A4)(hlen:h.length≤100000)(hok:∀fo,Ar h [] .nil=.ok fo→fo.all (GK (n+1))∧fo.len≤100000)(hs:∀Q,Gl Q→BF prog 7 #[S src] Q λv w'=>∃L U,v=.tuple #[.slice L h.length U,.agg #[iV 0,iV 0],iV 0]∧(C0 w' 52 5 L U h.length (F6 h)∧∀b,rb L=some b→Q.heap.size≤b)∧AY Q w') :
  BF prog 5 #[S src] w (S6 (Hp (n+1) (.ok h)) w f):=by
 refine qO (K:=[2,3,4]) (X:=X0 w f) (H:=[]) (R:=[]) (B:=[]) (Fs:=[λw f=>D3 w f]) (f:=f) func5 C C C (CC Y ⟨Z,tQ⟩ ⟨D3.mono,tQ⟩)<|Aa 8 [] (λb1=>λb2=>λb3=>λ_=>KH (p:=b1≠b2∧b1≠b3∧b2≠b3) (λw f D=>by have W:=D.nd;simp[CX] at W;exact⟨λe=>W.2 e.symm,λe=>W.1.2 e.symm,λe=>W.1.1 e.symm⟩) λhn=>Aa 2 [] (λ_=>mct (val:=λa c=>.tuple #[.slice a h.length c,.agg #[iV 0,iV 0],iV 0]) C C (eC oS C C) (λw f D=>hs w (D3.gl D.f0)) λL U=>Aa 21 [1,0,0] (y<|y<|y<|λ_=>FJ C C (λw f D=>Vn C)<|mdf C C<|Aa 5 [] (λ_=>xJ (pe:=λe=>Ar h [] .nil=.error e) C C (eC vB C C) (λw f D=>Ss w f D.vl L U h (D.row _ (.head _)) hlen) (λ_=>⟨Eo.mono,tQ⟩) (λer w2 f2 he hE J=>xP hn C C C C (by rw[Hp,he]) hE (J _ Yp) (J _ sT) (J _ om0)) ?_))));rintro⟨fo,fa,fc⟩ F;dsimp only at F ⊢;obtain⟨O,hfl⟩:=hok fo F;refine xJ (pe:=λe=>AA (Cj (n+1)) fo=.error e) C C (eC EK C C) (λw f D=>Cg 11 sO (Cj (n+1)) (GK (n+1)) (λw f Y Z t k a c hd hT=>Zr n w f Y Z t k a c hd hT) w f D.vl D.f1 fo _ _ O hfl D.f0) (λ_=>⟨Ba.mono,tQ⟩) (λer w2 f2 he hE J=>xP hn C C C C (by rw[Hp,F];simp only[he]) hE (J _ Yp) (J _ sT) (J _ om0)) ?_;rintro⟨⟨nds,xnds⟩,na,nc⟩ G;dsimp only at G ⊢;exact Aa 7 [2,1,0] (y<|y<|y<|λ_=>λw9 f9 D=>λtmps ht=>yJ C C C C (show Hp (n+1) (.ok h)=(nds,0,0,0) by rw[Hp,F];simp only[G]) D.exm D.f0 D.k2 D.k1 D.k0 tmps ht)
theorem I6(w:wO)(b:Nat)(src:lU)(i:Nat)(p:Ps)(sl:Value)(D:AS w b [S src,iV (i:Int),iV p.1,iV p.2,sl] 50) :
  BF prog 14 #[pB b] w λv w'=>v=.bool (decide ((i:Int)<(src.length:Int)))∧AY w w':=by
 have L:=D.lt;have J:=AY.refl w;refine enter func14 C C C<|AW [] 6 [] (As _) (λ_=>?_);have F:=D;refine Eg mixed (A6 w [b]) [(true,0),(true,1),(true,2),(true,3),(true,4),(true,5),(true,6),(true,7),(true,8),(true,9),(true,10)] kR kR C C λO G Q=>?_;have K:A6 w [b] O:=A6.cons F G (A6.nil _ _);refine⟨K,?_⟩;replace D:=D.ext G;replace J:=J.trans G;refine A1 C (λ_ h=>A0 C)<|A1 C (λ_ h=>B8 C)<|A1 C (λ_ h=>BQ C Hf)<|A1 C (λ_ h=>Am C Va (F.keep h (.head _)) C)<|A1 C (λ_ h=>A0 C)<|A1 C (λ_ h=>B8 C)<|A1 C (λ_ h=>BQ C JB)<|A1 C (λ_ h=>Am C ZF (F.keep h (.head _)) C)<|A1 C (λ_ h=>N1 C Jv)<|A1 C (λ_ h=>Wa C C) ?_;exact A1 C (λ_ h=>Dp C)<|Ex<|KG [.sq _] 2 [] (As _) (λ_=>Bv (AG C (Al C))<|⟨C,J⟩)
theorem FQ(w:wO)(b:Nat)(src:lU)(i:Nat)(p:Ps)(sl:Value)(h:AS w b [S src,iV (i:Int),iV p.1,iV p.2,sl] 50)(c:UInt8)(hc:src[i]?=some c)(hi:i<1000000)(hp:Pk i p) :
  BF prog 41 #[pB b] w λv w'=>v=.int .u8 c.toNat∧AS w' b [S src,iV ((i+1:Nat):Int),iV (adv c p).1,iV (adv c p).2,sl] 50∧Lk b w w':=by
 have hbl:=h.lt;obtain⟨hp1,hp2,hp3,hp4⟩:=hp;have F:=Lk.refl b w;refine enter func41 C C C<|AW [] 6 [] (As _) (λ_=>?_);have G:=h;refine Eg mixed (A6 w [b]) [(true,0),(true,1),(true,2),(true,3),(true,4),(true,5),(true,6),(true,7),(true,8),(true,9)] kR kR C C λw1 J hz1=>?_;have W:A6 w [b] w1:=A6.cons G J (A6.nil _ _);refine⟨W,?_⟩;replace h:=h.ext J;replace F:=F.trans J;refine A1 C (λ_ D=>A0 C)<|A1 C (λ_ D=>B8 C)<|A1 C (λ_ D=>BQ C JB)<|A1 C (λ_ D=>Am C ZF (G.keep D (.head _)) C)<|A1 C (λ_ D=>A0 C)<|A1 C (λ_ D=>B8 C)<|A1 C (λ_ D=>BQ C Hf)<|A1 C (λ_ D=>Am C Va (G.keep D (.head _)) C)<|A1 C (λ_ D=>DC C C Jv oM (by simpa using hc))<|A1 C (λ_ D=>Dp C) ?_;refine Ex<|KG [.sq _] 4 [] (As _) (λ_=>Ab C (B8 C)<|AP [.sq _] 3 [0,1] (kB h (As _)) (y2<|aI ⟨oM,oM⟩<|λ_=>Ab C (B8 C)<|Ab C (BQ C Hf)<|A3 C C C Va C h C C λw2 L O=>?_));replace F:=F.chg O oM;have sz1:=O.size;refine AP [.sq _] 5 [] (As _) (λ_=>Ab C (B8 C)<|AP [.sq _] 4 [0,3] (kB L (As _)) (y2<|aI ⟨oM,oM⟩<|λ_=>Ab C (B8 C)<|AP [.sq _] 2 [] (As _) (λ_=>A3 C C C Va C L C C λw3 K Q=>?_)));replace F:=F.chg Q oM;have sz2:=Q.size;refine AP [.sq _] 9 [] (As _) (λ_=>sP 30 C (λY=>?_) (λY=>?_));refine AW [.sq _] 4 [] (As _) (λ_=>Ab C (B8 C)<|AP [.sq _] 5 [0,2] (kB K (As _)) (y2<|aI ⟨oM,oM⟩<|λ_=>Ab C (B8 C)<|Ab C (BQ C V5)<|A3 C C C Jh C K C C λw4 Z U=>?_));replace F:=F.chg U oM;have sz3:=U.size;exact AP [.sq _] 9 [] (As _) (λ_=>Bv (AG C (Al C))<|⟨C,by simp only[adv,Y];exact Z,F⟩);exact AW [.sq _] 10 [] (As _) (λ_=>Bv (AG C (Al C))<|⟨C,by simp only[adv,Y];exact K,F⟩)
theorem Sy(w:wO)(b:Nat)(src:lU)(i:Nat)(p:Ps)(sl:Value)(K:AS w b [S src,iV (i:Int),iV p.1,iV p.2,sl] 50)(c:UInt8)(L:src[i]?=some c)(hi:i<100000)(hp:Pk i p) :
  BU prog 67 #[pB b] w (λv w'=>∃(c1:UInt8)(i1:Nat)(p1:Ps),Fw p (src.drop i)=.ok (c1,src.drop i1,p1)∧v=.int .u8 c1.toNat∧AS w' b [S src,iV ((i1:Nat):Int),iV p1.1,iV p1.2,sl] 50∧Lk b w w'∧i<i1∧i1≤src.length∧Pk i1 p1) (λcc w'=>∃e,Fw p (src.drop i)=.error e∧cc=Sn 47 e∧Lk b w w'):=by
 have hbl:=K.lt;have G:=Lk.refl b w;refine ID func67 C C C<|AW [] 8 [] (As _) (λ_=>Ab C (B8 C)<|AP [.sq _] 2 [0,2] (kB K (As _)) (y2<|λ_=>CP C Wi λb1 w1 hb1 hE1 hs1 hz1=>?_));replace K:=K.ext hE1;replace G:=G.trans hE1;refine A3 C C C Jh C hb1 C C λw2 h hC1=>?_;replace K:=K.chg hC1 oM;replace G:=G.chg hC1 oM;have sz1:=hC1.size;refine AP [.sq _] 6 [] (As _) (λ_=>A5 C (Ay NY C C) (FQ _ b src i p sl K c L oM hp) ?_);rintro _ w3 ⟨rfl,F,hE2⟩;replace h:=h.exb hE2 oM;replace G:=G.trans2 hE2;have sz2:=hE2.size;have O:=Pk.adv (c:=c) hp;refine AP [.sq _,.sq _] 16 [] (As _) (λ_=>sP 14 C (λh1=>?_) (λh1=>?_));exact AW [.sq _,.bk _,.sq _] 13 [] (As _) (λ_=>Bv (AG C (Al C))<|⟨c,i+1,adv c p,by rw[Bj L];simp[Fw,h1],C,F,G,oM,by have:=C3 L;omega,O⟩);refine AW [.sq _,.bk _,.sq _] 6 [] (As _) (λ_=>sP 14 C (λh2=>?_) (λh2=>?_));exact AW [.bk _,.sq _] 10 [] (As _) (λ_=>Bv (AG C (Al C))<|⟨c,i+1,adv c p,by rw[Bj L];simp[Fw,h1,h2],C,F,G,oM,by have:=C3 L;omega,O⟩);refine AW [.bk _,.sq _] 7 [] (As _) (λ_=>sP 18 C (λh3=>?_) (λh3=>?_));exact AW [.bk _,.sq _] 9 [] (As _) (λ_=>Bv (AG C (Al C))<|⟨10,i+1,adv c p,by rw[Bj L];simp[Fw,h1,h2,h3],C,F,G,oM,by have:=C3 L;omega,O⟩);refine AW [.bk _,.sq _] 7 [] (As _) (λ_=>sP 20 C (λh4=>?_) (λh4=>?_));refine AW [.bk _,.sq _] 2 [] (As _) (λ_=>?_);have hr1:=F;have hr2:=h;refine Eg mixed (A6 w3 [b,b1]) [(true,0),(true,1),(true,2),(true,3),(true,4),(true,5),(true,6),(true,7),(true,8),(true,9),(true,10)] kR kR C C λw4 Q hz2=>?_;have J:A6 w3 [b,b1] w4:=A6.cons hr1 Q (A6.cons hr2 Q (A6.nil _ _));refine⟨J,?_⟩;replace h:=h.ext Q;replace F:=F.ext Q;replace G:=G.trans Q;refine A1 C (λ_ D=>A0 C)<|A1 C (λ_ D=>B8 C)<|A1 C (λ_ D=>BQ C Hf)<|A1 C (λ_ D=>Am C Va (hr1.keep D (.head _)) C)<|A1 C (λ_ D=>Oi C C ⟨oM,oM⟩)<|A1 C (λ_ D=>A0 C)<|A1 C (λ_ D=>B8 C)<|A1 C (λ_ D=>BQ C JB)<|A1 C (λ_ D=>Am C ZF (hr1.keep D (.head _)) C)<|A1 C (λ_ D=>N1 C Jv) ?_;refine A1 C (λ_ D=>dV C C)<|Ex<|DD<|sP 32 C (λh5=>?_) (λh5=>?_);refine AW [.bk _,.sq _] 2 [] (As _) (λ_=>?_);have hlt2:i+3≤src.length:=by have:=h5;simp at this;omega
 obtain⟨a1,U⟩:=K9 (show i+1<src.length by omega);obtain⟨a2,W⟩:=K9 (show i+2<src.length by omega);have Y:=F;have hr4:=h;refine Eg mixed (A6 w4 [b,b1]) [(true,0),(true,1),(true,2),(true,3),(true,4),(true,5),(true,6),(true,7),(true,8),(true,10),(true,11),(true,12),(true,13),(true,14),(true,15),(true,16),(true,17),(true,18),(true,19),(false,9),(false,20),(true,21),(true,22)] kR kR C C λw5 Z hz3=>?_;have J:A6 w4 [b,b1] w5:=A6.cons Y Z (A6.cons hr4 Z (A6.nil _ _));refine⟨J,?_⟩;replace h:=h.ext Z;replace F:=F.ext Z;replace G:=G.trans Z;refine A1 C (λ_ D=>A0 C)<|A1 C (λ_ D=>B8 C)<|A1 C (λ_ D=>BQ C JB)<|A1 C (λ_ D=>Am C ZF (Y.keep D (.head _)) C)<|A1 C (λ_ D=>A0 C)<|A1 C (λ_ D=>B8 C)<|A1 C (λ_ D=>BQ C Hf)<|A1 C (λ_ D=>Am C Va (Y.keep D (.head _)) C)<|A1 C (λ_ D=>DC C C Jv oM (show src[(((i+1:Nat):Int)).toNat]?=some a1 by rw[Int.toNat_natCast];exact U))<|A1 C (λ_ D=>A0 C) ?_;refine A1 C (λ_ D=>B8 C)<|A1 C (λ_ D=>BQ C JB)<|A1 C (λ_ D=>Am C ZF (Y.keep D (.head _)) C)<|A1 C (λ_ D=>A0 C)<|A1 C (λ_ D=>B8 C)<|A1 C (λ_ D=>BQ C Hf)<|A1 C (λ_ D=>Am C Va (Y.keep D (.head _)) C)<|A1 C (λ_ D=>Oi C C ⟨oM,oM⟩)<|A1 C (λ_ D=>DC C C Jv oM (show src[(((i+1:Nat):Int)+1).toNat]?=some a2 by rw[show (((i+1:Nat):Int)+1).toNat=i+2 by omega];exact W))<|EV ?_;refine A5 C (Ay XG C C) (F9 _ Ff _) ?_;rintro _ w6 ⟨rfl,hE5⟩;replace h:=h.ext hE5;replace F:=F.ext hE5;replace G:=G.trans hE5;replace J:=J.ext hE5;have sz3:=hE5.size;refine Ac (H5 J<|EV<|A5 C (Ay XG C C) (F9 _ Ff _) ?_);rintro _ w7 ⟨rfl,hE6⟩;replace h:=h.ext hE6;replace F:=F.ext hE6;replace G:=G.trans hE6;replace J:=J.ext hE6;have sz4:=hE6.size;refine Ac (H5 J<|A1 C (λ_ D=>Dp C)<|A1 C (λ_ D=>Dp C)<|Ex<|KG [.sq _,.bk _,.sq _] 6 [] (As _) (λ_=>sL 56 C (λh6=>?_) (λh6=>?_)));refine AP [.sq _,.bk _,.sq _] 5 [] (As _) (λ_=>sP 59 C (λh7=>?_) (λh7=>?_));refine AW [.bk _,.sq _] 4 [] (As _) (λ_=>A5 C (Ay NY C C) (FQ _ b src (i+1) (adv c p) sl F a1 U oM O) ?_);rintro _ w8 ⟨rfl,hb4,hE7⟩;replace h:=h.exb hE7 oM;replace G:=G.trans2 hE7;have sz5:=hE7.size;have hp2:=Pk.adv (c:=a1) O;refine AP [.sq _,.bk _,.sq _] 5 [] (As _) (λ_=>A5 C (Ay NY C C) (FQ _ b src ((i+1)+1) (adv a1 (adv c p)) sl hb4 a2 W oM hp2) ?_);rintro _ w9 ⟨rfl,hb5,hE8⟩;replace h:=h.exb hE8 oM;replace G:=G.trans2 hE8;have sz6:=hE8.size;have hp3:=Pk.adv (c:=a2) hp2;refine AP [.sq _,.bk _,.sq _] 3 [] (As _) (λ_=>?_);have hx1:0≤Lib.indexByte Ff a1:=by have:=h6;simpa using this
 have hx2:0≤Lib.indexByte Ff a2:=by have:=h7;simpa using this
 have hy1:=bQ a1;have hy2:=bQ a2;exact AW [.sq _,.bk _,.sq _] 2 [] (As _) (λ_=>Ab C (jY C C ⟨hx1,hy1⟩)<|Ab C (A0 C)<|Ab C (jD C C ⟨hx1,hy1⟩ ⟨hx2,hy2⟩)<|Ab C (DL C oN (Xq ⟨oM,oM⟩))<|AP [.sq _,.bk _,.sq _] 6 [] (As _) (λ_=>Bv (AG C (Al C))<|⟨UInt8.ofNat ((Lib.indexByte Ff a1).toNat*16+(Lib.indexByte Ff a2).toNat),i+3,adv a2 (adv a1 (adv c p)),by rw[Bj L,iL U W];simp[Fw,h1,h2,h3,h4,hx1,hx2],by rw[hexv ⟨hx1,hy1⟩ ⟨hx2,hy2⟩],hb5,G,oM,oM,hp3⟩));exact AW [.bk _,.sq _] 7 [0,0] (kB h (As _)) (y2<|λ_=>Ab C (Ck C JO)<|C6 (BR C) (aI C<|⟨p,by rw[Bj L,iL U W];exact S7 h1 h2 h3 h4 (.inr (by have:=h7;simpa using this)),C,G⟩));exact AP [.sq _,.bk _,.sq _] 12 [0,0] (kB h (As _)) (y2<|λ_=>Ab C (Ck C JO)<|C6 (BR C) (aI C<|⟨p,by rw[Bj L,iL U W];exact S7 h1 h2 h3 h4 (.inl (by have:=h6;simpa using this)),C,G⟩));exact AW [.bk _,.sq _] 7 [0,0] (kB h (As _)) (y2<|λ_=>Ab C (Ck C JO)<|C6 (BR C) (aI C<|⟨p,by rw[Bj L];exact cE h1 h2 h3 (by have:=h5;simp at this;simp;omega),C,G⟩));exact AW [.bk _,.sq _] 7 [0,0] (kB h (As _)) (y2<|λ_=>Ab C (Ck C JO)<|C6 (BR C) (aI C<|⟨p,by rw[Bj L];simp[Fw,h1,h2,h3,h4],C,G⟩))
theorem Ui(w:wO)(b:Nat)(src:lU)(i:Nat)(p:Ps)(sl:Value)(hsc:AS w b [S src,iV (i:Int),iV p.1,iV p.2,sl] 50)(start:Ps)(hile:i≤src.length)(hi:src.length<100000)(hp:Pk i p) :
  BU prog 43 #[pB b,.agg #[iV start.1,iV start.2]] w (λv w'=>∃(tx:lU)(i1:Nat)(p1:Ps),DU start (src.length+1) p [] (src.drop i)=.ok (tx,src.drop i1,p1)∧v=.agg #[iV 4,iV start.1,iV start.2,iV 0,S tx]∧AS w' b [S src,iV ((i1:Nat):Int),iV p1.1,iV p1.2,sl] 50∧Lk b w w'∧i<i1∧i1≤src.length∧Pk i1 p1) (λcc w'=>∃e,DU start (src.length+1) p [] (src.drop i)=.error e∧cc=Sn 47 e∧Lk b w w'):=by
 have hbl:=hsc.lt;have K:=Lk.refl b w;refine ID func43 C C C<|AW [] 2 [] (As _) (λ_=>Ev C C C λb1 w1 hb1 hE1 hs1 hz1=>?_);replace hsc:=hsc.ext hE1;replace K:=K.trans hE1;refine CP C Gm λb2 w2 hb2 hE2 hs2 hz2=>?_;replace hsc:=hsc.ext hE2;replace hb1:=hb1.ext hE2;replace K:=K.trans hE2;refine AP [.sq _] 9 [] (As _) (λ_=>?_);refine Em (λk σ ds w'=>∃(j:Nat)(q:Ps)(acc:lU)(ra:oA)(rc F:Nat),k=src.length-j∧ds=[]∧σ=(E4 0 (pB b) 3 (pB b1) 4 (pB b2) 5 (.slice ra acc.length rc))∧i≤j∧j≤src.length∧Pk j q∧src.length+1≤F+j∧DU start (src.length+1) p [] (src.drop i)=DU start F q acc (src.drop j)∧acc.length≤j∧AS w' b [S src,iV ((j:Nat):Int),iV q.1,iV q.2,sl] 50∧AS w' b1 [iV start.1,iV start.2] 25 ∧ AS w' b2 [iV 0,iV 0,iV 0,iV 0,.string ⟨#[]⟩] 52∧C0 w' 5 1 ra rc acc.length (bC acc)∧(∀x,rb ra=some x→w.heap.size≤x∧x≠b1∧x≠b2)∧Lk b w w') (src.length-i) (E4 0 (pB b) 3 (pB b1) 4 (pB b2) 5 (.slice none 0 0)) lE ⟨i,p,[],none,0,src.length+1,C,C,C,Nat.le_refl _,hile,hp,oM,C,by simp,hsc,hb1,hb2,GC _ _ _,(λx hx=>by cases hx),K⟩ ?_;rintro _ _ _ wl ⟨j,q,acc,ra,rc,F,rfl,rfl,rfl,hij,hjl,hq,hF,hm,hal,O,D,G,h,J,K⟩;have szl:=K.size;have lt3:=D.lt;have lt4:=G.lt;have lts:=O.lt;have L:∀x,rb ra=some x→x<wl.heap.size:=λx hx=>h.lt hx;refine AW [] 4 [] (As _) (λ_=>A5 C (Ay Uy C C) (I6 _ b src j q sl O) ?_);rintro _ w3 ⟨rfl,hE3⟩;replace O:=O.ext hE3;replace D:=D.ext hE3;replace G:=G.ext hE3;replace h:=h.ext hE3;replace K:=K.trans hE3;have sz1:=hE3.size;refine AP [.sq _,.sq _] 2 [] (As _) (λ_=>sP 9 C (λh1=>?_) (λh1=>?_));refine AW [.sq _] 5 [] (As _) (λ_=>?_);have hjlt:j<src.length:=by have:=h1;simpa using this
 obtain⟨c,W⟩:=K9 hjlt;obtain⟨F,rfl⟩:∃F1,F=F1+1:=⟨F-1,oM⟩;refine AW [.sq _,.bk _] 2 [] (As _) (λ_=>Ab C (B8 C)<|AP [.sq _,.bk _] 2 [0,2] (kB O (As _)) (y2<|λ_=>CP C Wi λb3 w4 hb3 hE4 hs3 hz3=>?_));replace O:=O.ext hE4;replace D:=D.ext hE4;replace G:=G.ext hE4;replace h:=h.ext hE4;replace K:=K.trans hE4;refine A3 C C C Jh C hb3 C C λw5 Q hC1=>?_;replace O:=O.chg hC1 oM;replace D:=D.chg hC1 oM;replace G:=G.chg hC1 oM;replace h:=C0.chg h hC1 (λe=>by have:=J _ e;have:=L _ e;omega);replace K:=K.chg hC1 oM;have sz2:=hC1.size;refine AP [.sq _,.bk _] 5 [] (As _) (λ_=>A5 C (Ay NY C C) (FQ _ b src j q sl O c W oM hq) ?_);rintro _ w6 ⟨rfl,U,hE5⟩;replace D:=D.exb hE5 oM;replace G:=G.exb hE5 oM;replace h:=C0.exb h hE5 (λe=>by have:=J _ e;omega);replace Q:=Q.exb hE5 oM;replace K:=K.trans2 hE5;have sz3:=hE5.size;have hp1:=Pk.adv (c:=c) hq;refine AP [.sq _,.bk _] 11 [] (As _) (λ_=>sP 16 C (λh2=>?_) (λh2=>?_));refine AW [.bk _,.bk _] 9 [] (As _) (λ_=>sP 21 C (λh3=>?_) (λh3=>?_));exact AW [.sq _,.bk _,.bk _] 4 [0,0] (kB D (As _)) (y2<|λ_=>Ab C (Ck C JO)<|C6 (BR C) (aI C<|⟨start,hm.trans (iK W h2 h3),C,K⟩));refine AW [.sq _,.bk _,.bk _] 7 [0,0] (kB D (As _)) (y2<|λ_=>Ab C (fG C Uu h)<|Ab C (DO C aD Gm C)<|A3 C C C Ha C G C C λw7 hb6 hC2=>?_);replace D:=D.chg hC2 oM;replace h:=C0.chg h hC2 (λe=>by have:=J _ e;have:=L _ e;omega);replace Q:=Q.chg hC2 oM;replace U:=U.chg hC2 oM;replace K:=K.chg hC2 oM;have sz4:=hC2.size;exact AP [.sq _,.bk _,.bk _] 5 [] (As _) (λ_=>Z9<|KG [.bk _,.sq _] 2 [] (As _) (λ_=>Bv (AG C (Ae C Ha hb6 C))<|⟨acc,j+1,adv c q,hm.trans (gV W h2 h3),C,U,K,oM,oM,hp1⟩));refine AW [.bk _,.bk _] 8 [] (As _) (λ_=>sP 29 C (λh4=>?_) (λh4=>?_));exact AW [.bk _,.bk _] 4 [0,0] (kB Q (As _)) (y2<|λ_=>Ab C (Ck C JO)<|C6 (BR C) (aI C<|⟨q,hm.trans (fD W h2 h4),C,K⟩));refine AW [.bk _,.bk _] 8 [] (As _) (λ_=>sP 35 C (λh5=>?_) (λh5=>?_));refine AW [.bk _,.bk _] 4 [] (As _) (λ_=>Cv C C UE zr5 C C C C C λb4 w8 hb7 hE6 hs4 hz4=>?_);replace D:=D.ext hE6;replace G:=G.ext hE6;replace h:=h.ext hE6;replace Q:=Q.ext hE6;replace U:=U.ext hE6;replace K:=K.trans hE6;refine Bi C aK C C C C h hb7 C C oM oM λY rc2 w9 hr2 hG=>?_;have Z:∀x,rb Y=some x→w.heap.size≤x∧x≠b1∧x≠b2:=Co hG J oM;replace D:=D.grow hG (λe=>by have:=J _ e.symm;have:=L _ e.symm;omega);replace G:=G.grow hG (λe=>by have:=J _ e.symm;have:=L _ e.symm;omega);replace U:=U.grow hG (λe=>by have:=J _ e.symm;have:=L _ e.symm;omega);replace K:=K.grow hG (λx hx=>(J x hx).1);have sz5:=hG.size;refine AP [.bk _,.bk _] 4 [] (As _) (λ_=>?_);have hl2:acc.length+1=(acc++[c]).length:=by simp
 refine HH (src.length-(j+1)) (E4 0 (pB b) 3 (pB b1) 4 (pB b2) 5 (.slice Y (acc++[c]).length rc2)) (by have:=C3 W;omega) (lu4 C C C (hl2▸rfl)) ⟨j+1,adv c q,acc++[c],Y,rc2,F,C,C,C,oM,by have:=C3 W;omega,hp1,oM,hm.trans (Yx W h2 h4 h5),by rw[← hl2];omega,U,D,G,by rw[← hl2,bC_app];exact hr2,Z,K⟩;refine AW [.bk _,.bk _] 4 [] (As _) (λ_=>A5 C (Ay Uy C C) (I6 _ b src (j+1) (adv c q) sl U) ?_);rintro _ w10 ⟨rfl,hE7⟩;replace D:=D.ext hE7;replace G:=G.ext hE7;replace h:=h.ext hE7;replace Q:=Q.ext hE7;replace U:=U.ext hE7;replace K:=K.trans hE7;have sz6:=hE7.size;refine AP [.sq _,.bk _,.bk _] 3 [] (As _) (λ_=>sP 42 C (λh6=>?_) (λh6=>?_));refine Gb C C ?_;obtain⟨c2,hc2⟩:=K9 (show j+1<src.length by have:=dT h6;omega);refine AW [.bk _,.bk _] 3 [] (As _) (λ_=>Cw C (Ay xY C C) (Sy _ b src (j+1) (adv c q) sl U c2 hc2 oM hp1) ?_ (λcc wp hc1=>aI C (let ⟨e,he,hcc,hE⟩:=hc1;⟨e,hm.trans (Zg W h2 h4 h5 (by have:=dT h6;omega) he),hcc,K.trans2 hE⟩)));rintro _ w11 ⟨c1,i1,p1,hesc,rfl,hb8,hE8,hi1,hi2,hp1⟩;replace D:=D.exb hE8 oM;replace G:=G.exb hE8 oM;replace h:=C0.exb h hE8 (λe=>by have:=J _ e;omega);replace Q:=Q.exb hE8 oM;replace K:=K.trans2 hE8;have sz7:=hE8.size;refine Cv C C UE zr5 C C C C C λb5 w12 hb9 hE9 hs5 hz5=>?_;replace D:=D.ext hE9;replace G:=G.ext hE9;replace h:=h.ext hE9;replace Q:=Q.ext hE9;replace hb8:=hb8.ext hE9;replace K:=K.trans hE9;refine Bi C aK C C C C h hb9 C C oM oM λY rc2 w13 hr2 hG=>?_;have Z:∀x,rb Y=some x→w.heap.size≤x∧x≠b1∧x≠b2:=Co hG J oM;replace D:=D.grow hG (λe=>by have:=J _ e.symm;have:=L _ e.symm;omega);replace G:=G.grow hG (λe=>by have:=J _ e.symm;have:=L _ e.symm;omega);replace hb8:=hb8.grow hG (λe=>by have:=J _ e.symm;have:=L _ e.symm;omega);replace K:=K.grow hG (λx hx=>(J x hx).1);have sz8:=hG.size;refine AP [.bk _,.bk _] 4 [] (As _) (λ_=>?_);have hl2:acc.length+1=(acc++[c1]).length:=by simp
 refine HH (src.length-(i1)) (E4 0 (pB b) 3 (pB b1) 4 (pB b2) 5 (.slice Y (acc++[c1]).length rc2)) (by have:=C3 W;omega) (lu4 C C C (hl2▸rfl)) ⟨i1,p1,acc++[c1],Y,rc2,F,C,C,C,oM,by have:=C3 W;omega,hp1,oM,hm.trans (Yv W h2 h4 h5 (by have:=dT h6;omega) hesc),by rw[← hl2];omega,hb8,D,G,by rw[← hl2,bC_app];exact hr2,Z,K⟩;refine AW [.bk _,.bk _] 4 [] (As _) (λ_=>HH (src.length-(j+1)) (E4 0 (pB b) 3 (pB b1) 4 (pB b2) 5 (.slice ra acc.length rc)) (by have:=C3 W;omega) lE ⟨j+1,adv c q,acc,ra,rc,F,C,C,C,oM,by have:=C3 W;omega,hp1,oM,hm.trans ?_,oM,U,D,G,h,J,K⟩);have hno:¬j+1<src.length:=by have:=h6;simp at this;omega
 rw[Z1 W h2 h4 h5 hno,Tv (by have:=C3 W;omega) hno];exact AW [.sq _] 3 [] (As _) (λ_=>O0<|KG [.bk _,.sq _] 5 [0,0] (kB D (As _)) (y2<|λ_=>Ab C (Ck C JO)<|C6 (BR C) (aI C<|⟨start,hm.trans (Tv oM (by have:=h1;simp at this;omega)),C,K⟩)))
theorem CR(w:wO)(s:lU)(hlen:s.length≤100000)(l:lU)(G:l.length<4294967281)(h:l.all (λc=>decide (c.toNat<128))=true) :
  BF prog 72 #[S s,S l] w λv w'=>v=.bool (HO s l)∧AY w w':=by
 have F:=AY.refl w;refine enter func72 C C C<|AW [] 9 [] (As _) (λ_=>A5 C (Ay dX C C) (PD _ s l oM G h) ?_);rintro _ K ⟨rfl,D⟩;replace F:=F.trans D;have J:=D.size;exact AP [.sq _] 5 [] (As _) (λ_=>Bv (AG C (Al C))<|⟨C,F⟩)
theorem J0(w:wO)(s:lU)(hlen:s.length≤100000) :
  BF prog 96 #[S s] w λv w'=>v=.bool (EP s)∧AY w w':=by
 have D:=AY.refl w;refine enter func96 C C C<|AW [] 10 [] (As _) (λ_=>sL 5 C (λF=>?_) (λF=>?_));refine AP [.sq _] 1 [] (As _) (λ_=>BN C C C<|A5 C (Ay dX C C) (PD _ s Gq oM dC dC) ?_);rintro _ J ⟨rfl,h⟩;replace D:=D.trans h;have G:=h.size;exact AP [.sq _] 6 [] (As _) (λ_=>Bv (AG C (Al C))<|⟨by rw[EP,F];rfl,D⟩);exact AP [.sq _] 8 [] (As _) (λ_=>Bv (AG C (Al C))<|⟨by rw[EP,F];rfl,D⟩)
theorem JY(n:Nat)(c:UInt8)(l:lU):CT n (c::l)=CT (n*10+(c.toNat-48)) l:=by conv=>lhs;unfold CT
theorem N4:∀(l:lU)(n:Nat),n≤CT n l
 | [],n=>Nat.le_refl _
 |c::l,n=>by
  have:=N4 l (n*10+(c.toNat-48));rw[JY];omega
theorem gG:sY prog 9 127=some 5:=kR
theorem JL(w:wO)(s:lU)(hlen:s.length≤100000)(hne:(s==[])=false)(hd:∀c∈s,48≤c.toNat∧c.toNat≤57) :
  BF prog 142 #[S s,iV 10,iV 63] w λv w'=>((CT 0 s≤9223372036854775807∧v=.tuple #[.int .u64 (CT 0 s:Int),.nilIface])∨(9223372036854775807<CT 0 s∧v=.tuple #[.int .u64 9223372036854775807,.iface 206 (iV 1)]))∧AY w w':=by
 have h:=AY.refl w;refine enter func142 C C C<|AW [] 13 [] (As _) (λ_=>sP 19 C (λU=>?_) (λU=>?_))
 ·
  exfalso;rw[hne] at U;contradiction
 refine AW [.sq _] 81 [] (As _) (λ_=>Ab C (DL (m:=63) C Ly dC)<|Ab C (JZ (9223372036854775808) C C dC dC)<|Ab C (FZ (9223372036854775807) C C dC)<|AP [.sq _] 17 [] (As _) (λ_=>kN C C gG λW bc w1 D L=>?_));replace h:=h.trans L;have sz1:=L.size;refine AP [.sq _,.sq _] 5 [] (As _) (λ_=>?_);refine Em (λk σ ds w'=>∃(i n:Nat),k=s.length-i∧ds=[]∧σ=(E11 0 (S s) 1 (iV 10) 8 (.bool (10==0)) 9 (S s) 10 (.int .u64 1844674407370955162) 11 (.int .u64 9223372036854775807) 12 (.bool false) 13 (.int .u64 (n:Int)) 99 (.slice (some ⟨W,0,none⟩) s.length bc) 100 (iV (s.length:Int)) 101 (iV (i:Int)))∧i≤s.length∧n≤9223372036854775807∧CT 0 s=CT n (s.drop i)∧wT w' W (bC s)∧AY w w') s.length (E11 0 (S s) 1 (iV 10) 8 (.bool (10==0)) 9 (S s) 10 (.int .u64 1844674407370955162) 11 (.int .u64 9223372036854775807) 12 (.bool false) 13 (.int .u64 ((0:Nat):Int)) 99 (.slice (some ⟨W,0,none⟩) s.length bc) 100 (iV (s.length:Int)) 101 (iV ((0:Nat):Int))) lE ⟨0,0,C,C,C,Nat.zero_le _,Nat.zero_le _,C,D,h⟩ ?_;rintro _ _ _ wl ⟨i,n,rfl,rfl,rfl,hi,hn,hm,D,h⟩;refine AW [] 6 [] (As _) (λ_=>sP 102 C (λJ=>?_) (λJ=>?_));refine AW [.sq _] 7 [] (As _) (λ_=>?_);have O:i<s.length:=by have:=dT J;omega
 obtain⟨c,K⟩:=K9 O;obtain⟨hc1,hc2⟩:=hd c (List.mem_of_getElem? K);have F:(bC s)[0+i*1]?=some (.int .u8 c.toNat):=by simp[bC,K]
 refine Ab C (Lh (i:=i) C C UE O)<|Ab C (fZ C ti5 D F)<|AP [.sq _,.bk _,.sq _] 15 [] (As _) (λ_=>sL 109 C (λY=>?_) (λY=>?_))
 ·
  exfalso;have:=(beq_iff_eq).1 Y;omega
 refine AP [.sq _,.bk _,.sq _,.bk _,.sq _] 11 [] (As _) (λ_=>sL 115 C (λh4=>?_) (λh4=>?_));refine AP [.sq _,.bk _,.sq _,.bk _,.sq _] 6 [] (As _) (λ_=>sP 112 C (λh5=>?_) (λh5=>?_));refine AW [.bk _,.sq _,.bk _,.sq _] 3 [] (As _) (λ_=>Ab C (FZ ((c.toNat:Int)-48) C C (Xq ⟨oM,oM⟩))<|AP [.bk _,.sq _,.bk _,.sq _] 9 [] (As _) (λ_=>Ab C (DL (m:=10) C oN dC)<|AP [.sq _,.sq _,.bk _,.sq _] 3 [] (As _) (λ_=>sP 137 C (λZ=>?_) (λZ=>?_))))
 ·
  exfalso;have:=dT Z;omega
 refine AW [.sq _,.bk _,.sq _] 11 [] (As _) (λ_=>sP 141 C (λG=>?_) (λG=>?_));exact AW [.sq _,.bk _,.sq _] 4 [] (As _) (λ_=>Ab C (Ck C L9)<|AP [.sq _,.sq _,.bk _,.sq _] 8 [] (As _) (λ_=>Z9<|KG [.bk _,.sq _] 2 [] (As _) (λ_=>Bv (C7 C (Al C) (Al C))<|⟨.inr ⟨by rw[hm,Bj K,JY];have:=N4 (s.drop (i+1)) (n*10+(c.toNat-48));have q4:=dT h5;have q5:=dF Z;have q6:=dT G;omega,C⟩,h⟩)));refine AW [.sq _,.bk _,.sq _] 7 [] (As _) (λ_=>Ab C (DL (m:=10) C jG dC)<|Ab C (QU ((n:Int)*10) C C (HR ⟨oM,by have:=dF G;omega⟩))<|AP [.sq _,.bk _,.sq _] 7 [] (As _) (λ_=>Ab C (DL (m:=(c.toNat:Int)-48) C Rx (HR ⟨oM,oM⟩))<|Ab C (Nx (((n:Int)*10+((c.toNat:Int)-48)) % 18446744073709551616) C C (IntKind.wrap_u64 _))<|AP [.sq _,.bk _,.sq _] 10 [] (As _) (λ_=>sL 155 C (λQ=>?_) (λQ=>?_))));exact AP [.sq _,.sq _,.bk _,.sq _] 10 [] (As _) (λ_=>Ab C (Ck C L9)<|AP [.sq _,.sq _,.bk _,.sq _] 8 [] (As _) (λ_=>Z9<|KG [.bk _,.sq _] 2 [] (As _) (λ_=>Bv (C7 C (Al C) (Al C))<|⟨.inr ⟨by rw[hm,Bj K,JY];have:=N4 (s.drop (i+1)) (n*10+(c.toNat-48));have q5:=dF Z;have q6:=dF G;have q7:=dT Q;omega,C⟩,h⟩)));refine AP [.sq _,.sq _,.bk _,.sq _] 6 [] (As _) (λ_=>sP 159 C (λh9=>?_) (λh9=>?_));exact AW [.sq _,.bk _,.sq _] 4 [] (As _) (λ_=>Ab C (Ck C L9)<|AP [.sq _,.sq _,.bk _,.sq _] 8 [] (As _) (λ_=>Z9<|KG [.bk _,.sq _] 2 [] (As _) (λ_=>Bv (C7 C (Al C) (Al C))<|⟨.inr ⟨by rw[hm,Bj K,JY];have:=N4 (s.drop (i+1)) (n*10+(c.toNat-48));have q6:=dF G;have q7:=dF Q;have q8:=dT h9;omega,C⟩,h⟩)));refine AW [.sq _,.bk _,.sq _] 13 [] (As _) (aI ⟨oM,oM⟩<|λ_=>?_);have hN:(((n:Int)*10+((c.toNat:Int)-48)) % 18446744073709551616)=((n*10+(c.toNat-48):Nat):Int):=by have U:=dF G;have J:=dF Q;have Y:=dF h9;omega
 refine HH (s.length-(i+1)) (E11 0 (S s) 1 (iV 10) 8 (.bool (10==0)) 9 (S s) 10 (.int .u64 1844674407370955162) 11 (.int .u64 9223372036854775807) 12 (.bool false) 13 (.int .u64 ((n*10+(c.toNat-48):Nat):Int)) 99 (.slice (some ⟨W,0,none⟩) s.length bc) 100 (iV (s.length:Int)) 101 (iV ((i+1:Nat):Int))) oM (lu11 C C C C C C C (by rw[← hN];rfl) C C C) ⟨i+1,n*10+(c.toNat-48),C,C,C,oM,by have U:=dF G;have J:=dF Q;have Y:=dF h9;omega,by rw[hm,Bj K];rfl,D,h⟩
 ·
  exfalso;have:=dF h5;omega
 ·
  exfalso;have:=dF h4;omega
 exact AW [.sq _] 3 [] (As _) (λ_=>O0<|KG [.bk _,.sq _] 24 [] (As _) (λ_=>Bv (C7 C (Al C) (Al C))<|⟨.inl ⟨by rw[hm,JJ (by have:=dF J;omega)];exact hn,by rw[hm,JJ (by have:=dF J;omega)];rfl⟩,h⟩))
theorem cme:jI prog 206=true:=kR
theorem RV(w:wO)(s:lU)(hlen:s.length≤100000)(D:(s==[])=false)(hd:∀c∈s,48≤c.toNat∧c.toNat≤57) :
  BF prog 119 #[S s,iV 10,iV 63] w λv w'=>((CT 0 s<4611686018427387904∧v=.tuple #[iV (CT 0 s:Int),.nilIface])∨(4611686018427387904≤CT 0 s∧∃z,v=.tuple #[iV z,.iface 206 (iV 1)]))∧AY w w':=by
 obtain⟨c0,Z,F⟩:∃c r,s=c::r:=by
  cases s with
  |nil=>simp at D
  |cons c r=>exact⟨c,r,C⟩
 have G:=AY.refl w;refine enter func119 C C C<|AW [] 13 [] (As _) (λ_=>sP 13 C (λK=>?_) (λK=>?_))
 ·
  exfalso;rw[D] at K;contradiction
 refine AW [.sq _] 12 [] (As _) (λ_=>Ab C (DC (c:=c0) C C Jv dC (by rw[F];rfl))<|AP [.sq _,.sq _] 9 [] (As _) (λ_=>sP 17 C (λL=>?_) (λL=>?_)))
 ·
  exfalso;have Q:=hd c0 (F▸List.mem_cons_self);have:=(beq_iff_eq).1 L;omega
 refine AW [.bk _,.sq _] 7 [] (As _) (λ_=>sP 21 C (λO=>?_) (λO=>?_))
 ·
  exfalso;have Q:=hd c0 (F▸List.mem_cons_self);have:=(beq_iff_eq).1 O;omega
 refine AW [.bk _,.sq _] 14 [] (As _) (λ_=>A5 C (Ay fX C C) (JL _ s hlen D hd) ?_);rintro _ w1 ⟨(⟨hle,rfl⟩|⟨U,rfl⟩),h⟩;replace G:=G.trans h;have W:=h.size;refine AP [.sq _] 11 [] (As _) (λ_=>Ab C (Ik Gw C)<|AP [.sq _,.sq _] 23 [] (As _) (λ_=>Ab C (FZ (62) C C dC)<|Ab C (DL (m:=62) C Ly dC)<|Ab C (JZ (4611686018427387904) C C dC dC)<|AP [.sq _] 15 [] (As _) (λ_=>sP 52 C (λJ=>?_) (λJ=>?_))));exact AW [.sq _] 4 [] (As _) (λ_=>Ab C (FZ (4611686018427387903) C C dC)<|Ab C (DL (m:=4611686018427387903) C K1 dC)<|Ab C (Ck C L9)<|AP [.sq _,.sq _] 6 [] (As _) (λ_=>Bv (C7 C (Al C) (Al C))<|⟨.inr ⟨by have:=dT J;omega,_,C⟩,G⟩));exact AW [.sq _] 20 [] (As _) (λ_=>Ab C (DL (m:=(CT 0 s:Int)) C K1 (Ks ⟨oM,by have:=dF J;omega⟩))<|AP [.sq _] 20 [] (As _) (λ_=>Bv (C7 C (Al C) (Al C))<|⟨.inl ⟨by have:=dF J;omega,C⟩,G⟩));replace G:=G.trans h;have Y:=h.size;refine AP [.sq _] 11 [] (As _) (λ_=>Ab C (Lt Gw C)<|AP [.sq _,.sq _] 2 [] (As _) (λ_=>BN C C C<|Ab C (Ck C L9)<|BN C C C<|Ab C (eF Gw cme C C)<|AP [.sq _,.sq _] 19 [] (As _) (λ_=>Ab C (FZ (62) C C dC)<|Ab C (DL (m:=62) C Ly dC) ?_)));exact Ab C (JZ (4611686018427387904) C C dC dC)<|AP [.sq _] 19 [] (As _) (λ_=>Ab C (FZ (4611686018427387903) C C dC)<|Ab C (DL (m:=4611686018427387903) C K1 dC)<|Ab C (Ck C L9)<|AP [.sq _,.sq _] 6 [] (As _) (λ_=>Bv (C7 C (Al C) (Al C))<|⟨.inr ⟨oM,_,C⟩,G⟩))
theorem R2(w:wO)(r:lU)(hlen:(45::r).length≤100000)(J:(r==[])=false)(hd:∀c∈r,48≤c.toNat∧c.toNat≤57) :
  BF prog 119 #[S (45::r),iV 10,iV 63] w λv w'=>((CT 0 r<4611686018427387905∧v=.tuple #[iV (-(CT 0 r:Int)),.nilIface])∨(4611686018427387905≤CT 0 r∧∃z,v=.tuple #[iV z,.iface 206 (iV 1)]))∧AY w w':=by
 have F:((45::r:lU)==[])=false:=rfl;have D:=AY.refl w;refine enter func119 C C C<|AW [] 13 [] (As _) (λ_=>sP 13 C (λK=>?_) (λK=>?_))
 ·
  exfalso;rw[F] at K;contradiction
 refine AW [.sq _] 12 [] (As _) (λ_=>Ab C (DC (c:=45) C C Jv dC C)<|AP [.sq _,.sq _] 20 [] (As _) (λ_=>Ab C (Nf C C Jv)<|AP [.sq _,.bk _,.sq _] 18 [] (As _) (λ_=>A5 C (Ay fX C C) (JL _ r (by simp only[List.length_cons] at hlen;omega) J hd) ?_)));rintro _ U ⟨(⟨hle,rfl⟩|⟨L,rfl⟩),h⟩;replace D:=D.trans h;have O:=h.size;refine AP [.sq _] 11 [] (As _) (λ_=>Ab C (Ik Gw C)<|AP [.sq _,.sq _] 23 [] (As _) (λ_=>Ab C (FZ (62) C C dC)<|Ab C (DL (m:=62) C Ly dC)<|Ab C (JZ (4611686018427387904) C C dC dC)<|AP [.sq _] 29 [] (As _) (λ_=>sP 62 C (λG=>?_) (λG=>?_))));exact AW [.sq _] 4 [] (As _) (λ_=>Ab C (DL (m:=4611686018427387904) C K1 dC)<|Ab C (LV (-4611686018427387904) C dC)<|Ab C (Ck C L9)<|AP [.sq _,.sq _] 6 [] (As _) (λ_=>Bv (C7 C (Al C) (Al C))<|⟨.inr ⟨by have:=dT G;omega,_,C⟩,D⟩));exact AW [.sq _] 6 [] (As _) (λ_=>Ab C (DL (m:=(CT 0 r:Int)) C K1 (Ks ⟨oM,by have:=dF G;omega⟩))<|AP [.sq _] 12 [] (As _) (λ_=>Ab C (LV (-(CT 0 r:Int)) C (by rw[Ks ⟨by omega,by have:=dF G;omega⟩];omega))<|AP [.sq _] 11 [] (As _) (λ_=>Bv (C7 C (Al C) (Al C))<|⟨.inl ⟨by have:=dF G;omega,C⟩,D⟩)));replace D:=D.trans h;have Q:=h.size;refine AP [.sq _] 11 [] (As _) (λ_=>Ab C (Lt Gw C)<|AP [.sq _,.sq _] 2 [] (As _) (λ_=>BN C C C<|Ab C (Ck C L9)<|BN C C C<|Ab C (eF Gw cme C C)<|AP [.sq _,.sq _] 19 [] (As _) (λ_=>Ab C (FZ (62) C C dC)<|Ab C (DL (m:=62) C Ly dC) ?_)));exact Ab C (JZ (4611686018427387904) C C dC dC)<|AP [.sq _] 33 [] (As _) (λ_=>Ab C (DL (m:=4611686018427387904) C K1 dC)<|Ab C (LV (-4611686018427387904) C dC)<|Ab C (Ck C L9)<|AP [.sq _,.sq _] 6 [] (As _) (λ_=>Bv (C7 C (Al C) (Al C))<|⟨.inr ⟨oM,_,C⟩,D⟩))
end Go.Proofs.YtgdndhedjlmagaaGreatDoor
