/- What it rests on, part 3. -/
import Derived.Test.YtelmolopaolbcaaGreatDoorGn2
import Derived.RangeFuncNested
import Derived.RangeFuncCalls
import Derived.RangeFuncLeaves
set_option linter.unusedVariables false
set_option linter.unusedSimpArgs false
namespace Go.Proofs.YtelmolopaolbcaaGreatDoor
open Go.SW Go.SP Go.RowKit Go.Proofs.Tryz
variable {Q:AX}{af:Array Edge}{σ:Bf}{X:Cx}{Fs:List (wO→Fq→Prop)}{ds:List Deferred}{B:List FB}{fs:List Fr}{H:List HB}{d n:Nat}{g:Option (Nat×Bool)}{pos:String}{ty:tI}
theorem AZ{R:List RB}{all r:List Oper}{op:Op}{t:AB}{O:Value}{b:Bool}
  (U:gd all σ g=some true) (hd:Nat.blt d n=true) (he:∀w,SW.Enters prog σ op ty w 40 #[.agg #[iV t.k,iV t.ln,iV t.co,iV t.nm,S t.tx,O],.bool b]) (Y:∀w' f',b=false→CK X.M X.w0 X.f0 w' f'→Q.p (Sn 61 (t.ln,t.co)) σ ds w')
  (h:b=true→A3 prog n Q ds X R B Fs (.ops all r) fs (AF σ d (.tuple #[])) H):A3 prog n Q ds X R B Fs (.ops all (⟨some d,op,ty,pos,af,g⟩::r)) fs σ H :=
 Km (α:=Unit) (val:=λ_=>.tuple #[]) (q:=λ_=>b=true) (F':=λ_=>[]) (pe:=λe=>b=false∧e=(t.ln,t.co)) (T:=61) U hd he (λw f L=>(Vu w t _ _).mono (λ_ F ⟨D,G,J⟩=>⟨(),f,G,D,CK.of_ext J L.vl,tQ⟩) λ_ F ⟨D,G,J⟩=>⟨_,f,G,⟨D,C⟩,CK.of_ext J L.vl⟩) (λ_=>trivial) (λe F f2 ⟨he,K⟩ Z=>by subst K;exact Y F f2 he Z) (λ_ D=>h D)
theorem BS(F:Nat)(he:BB prog F)(m:AB→Fo→R N)(D:AB→Fo→Prop)(hm:∀ (w:wO) (f:Fq) (_:Vl w f) (_:Dy w f) (t:AB) (k:Fo) (a:oA) (c:Nat),D t k→Ee w f k a c→BI prog F #[fV t a k.len c] w (I5 (m t k) w f) (IT 61 (m t k) w f))(w:wO)(f:Fq)(J:Vl w f)(K:Dy w f)(l:Fo)(G:oA)(lc:Nat)(L:l.all D)(hlen:l.len≤100000)(O:Ee w f l G lc) :
  BI prog 18 #[.slice G l.len lc,.func (.func F) #[] #[]] w (B3 (α:=(Nd×lV)×oA×Nat) (λy=>.slice y.2.1 y.1.1.len y.2.2) (λy=>A9 m l=.ok y.1.1) (λy=>[λw f=>AH w f y.1.1 y.2.1 y.2.2]) w f) (S4 61 (λe=>A9 m l=.error e) w f) :=
 (HA F he m D hm w f J K l G lc L hlen O).mono (λ_ _ h=>cE.fro J h) λ_ _ h=>h
theorem Ur(w:wO)(f:Fq)(O:Vl w f)(U:Dy w f)(l:Fo)(J:oA)(lc:Nat)(Y:l.all (λt _=>t.ok))(hlen:l.len≤100000)(Z:Ee w f l J lc) :
  Bq prog 108 #[.slice J l.len lc] w (B3 (α:=Unit) (λ_=>.bool (Ky l)) (λ_=>True) (λ_=>[]) w f):=by
 refine Cw (X:=X0 w f) (H:=[]) (R:=[]) (B:=[]) (Fs:=[λw f=>Ee w f l J lc,λw f=>Dy w f]) (f:=f) func108 C C C (Ci O ⟨Z,U,tQ⟩ ⟨Ee.mono,Dy.mono,tQ⟩)<|Aa 14 [] (λ_=>?_);refine FG (α:=Nat×Fo) (λx=>x.2.len) (λx=>x.1+x.2.len=l.len∧Ky l=Ky x.2∧x.2.all (λt _=>t.ok)) (λx=>(E3 5 (.slice J l.len lc) 6 (iV (l.len:Int)) 7 (iV (x.1:Int)))) (λx=>X0 w f) (λx=>[]) (λx=>[]) (λx=>[]) (λx=>[λw f=>Fm w f J x.1 x.2,λw f=>Dy w f]) (0,l) ⟨Nat.zero_add _,C,Y⟩ lE (λw f h=>h.more (B':=[]) (F':=[λw f=>Fm w f J 0 l]) nE (AI.mem ⟨Ee.at h.f0,tQ⟩) (Aw.mem ⟨Fm.mono,tQ⟩) |>.less sR sR nE (mR [0,2])) ?_;rintro⟨i,r⟩ ⟨L,D,F⟩;dsimp only at L D F ⊢;refine Aa 6 [] (λ_=>AN 8 C C (λK=>?_) (λK=>?_));refine Aa 6 [] (λ_=>?_);have hil:i<l.len:=by have:=dT K;omega
 obtain⟨t,k,r,rfl⟩:=Fo.cases1 r oM;have hi2:i+(r.len+1)=l.len:=L;refine N8 0 C ?_;rintro⟨eb,eo,ka,kc⟩ rfl;refine Aa 10 [100,0,0,0] (aI oM<|y2<|λb1=>y<|y<|λ_=>Dm C C (eC RP C C) (λw f h=>J3 _ (Dy.gl h.f3) t _ F.1.1 F.1.2)<|Aa 3 [] (λ_=>AN 13 C C (λG=>?_) (λG=>?_)));replace G:=FE G;exact Aa 9 [] (λ_=>Z0<|Aa 2 [] (λ_=>AR (CY C C) (λw f h=>⟨(),f,(by rw[D];show _=Value.bool (t.isHole&&Ky r);rw[G];rfl),tQ,h.exm,tQ⟩)));replace G:=FO G;exact Aa 8 [] (aI ⟨oM,oM⟩<|λ_=>Df ((i+1,r)) (show r.len<r.len+1 from Nat.lt_succ_self _) ⟨show i+1+r.len=_ by omega,D.trans (by show (t.isHole&&Ky r)=_;rw[G];rfl),F.2⟩ lE (λw f h=>⟨_,h.less (sD sZ) sR nE (mR [1,3])⟩));refine Aa 3 [] (λ_=>Fh<|Aa 3 [] (λ_=>?_));obtain rfl:r=.nil:=Fo.len0 (by have:=dF K;omega);exact Aa 5 [] (λ_=>AR (CY C C) (λw f h=>⟨(),f,(by rw[D];rfl),tQ,h.exm,tQ⟩))
theorem Oi(w:wO)(f:Fq)(F:Vl w f)(G:Dy w f)(t:AB)(k:Fo)(ka:oA)(kc:Nat) :
  Bq prog 109 #[fV t ka k.len kc] w (I5 (H3 t k) w f):=by
 refine Cw (X:=X0 w f) (H:=[]) (R:=[]) (B:=[]) (Fs:=[λw f=>Dy w f]) (f:=f) func109 C C C (Ci F ⟨G,tQ⟩ ⟨Dy.mono,tQ⟩)<|Aa 10 [1] (λb1=>λb2=>y<|λ_=>Dm C C (eC KG C C) (λw f h=>D8 _ t _ _)<|Aa 2 [] (λ_=>AN 4 C C (λD=>?_) (λD=>?_)));exact Aa 4 [1] (y<|λ_=>Dm C C (eC Bj C C) (λw f h=>A8 _ t _ _ _ _ _ _)<|Aa 5 [0] (y<|λ_=>AR (λw f h=>AE C (Ac C B6 h.k0 C)) (λw f h=>⟨(⟨21,t.ln,t.co,[],0,.nil⟩,none,0),f,C,(by simp[H3,Ay,D]),h.exm,⟨⟨Nat.zero_le _,.inl C⟩,tQ⟩⟩)));exact Aa 9 [1,1] (y<|y<|λ_=>Dm C C (eC Bj C C) (λw f h=>A8 _ t _ _ _ _ _ _)<|Aa 4 [0] (y<|λ_=>AR (λw f h=>AE C (Ac C B6 h.k0 C)) (λw f h=>⟨(⟨22,t.ln,t.co,t.tx,0,.nil⟩,none,0),f,C,(by simp[H3,Ay,D]),h.exm,⟨⟨Nat.zero_le _,.inl C⟩,tQ⟩⟩)))
theorem SA(n:Nat)(ih:∀n',n=n'+1→∀ (w:wO) (f:Fq) (_:Vl w f) (_:Dy w f) (t:AB) (k:Fo) (a:oA) (c:Nat),GR n' t k→Ee w f k a c→BI prog 133 #[fV t a k.len c] w (I5 (D9 (n'+1) t k) w f) (IT 61 (D9 (n'+1) t k) w f))(w:wO)(f:Fq)(hv:Vl w f)(hJ:Dy w f)(t:AB)(k:Fo)(ka:oA)(kc:Nat)(hp:GR n t k)(hL:Ee w f k ka kc) :
  BI prog 133 #[fV t ka k.len kc] w (I5 (D9 (n+1) t k) w f) (IT 61 (D9 (n+1) t k) w f):=by
 refine Pa (X:=X0 w f) (H:=[]) (R:=[]) (B:=[]) (Fs:=[λw f=>Ee w f k ka kc,λw f=>Dy w f]) (f:=f) func133 C C C (Ci hv ⟨hL,hJ,tQ⟩ ⟨Ee.mono,Dy.mono,tQ⟩)<|Aa 21 [1] (λb1=>λb2=>y<|λ_=>AN 8 C C (λD=>?_) (λD=>?_));exact Aa 16 [1,1,0] (y<|y<|y<|λ_=>AR (λw f d=>AE C (Ac C B6 d.k0 C)) (λw f d=>⟨(⟨23,t.ln,t.co,[],t.nm,.nil⟩,none,0),f,C,(by unfold D9;simp[SP.need,Ay,D]),d.exm,⟨⟨Nat.zero_le _,.inl C⟩,tQ⟩⟩));refine Aa 7 [] (λ_=>AN 17 C C (λF=>?_) (λF=>?_));exact Aa 7 [1,1] (y<|y<|λ_=>Dm C C (eC Bj C C) (λw f d=>A8 _ t _ _ _ _ _ _)<|Aa 6 [0] (y<|λ_=>AR (λw f d=>AE C (Ac C B6 d.k0 C)) (λw f d=>⟨(⟨24,t.ln,t.co,t.tx,0,.nil⟩,none,0),f,C,(by unfold D9;simp[SP.need,Ay,D,F]),d.exm,⟨⟨Nat.zero_le _,.inl C⟩,tQ⟩⟩)));refine Aa 7 [] (λ_=>AN 24 C C (λG=>?_) (λG=>?_));exact Aa 7 [1,1] (y<|y<|λ_=>Dm C C (eC Bj C C) (λw f d=>A8 _ t _ _ _ _ _ _)<|Aa 6 [0] (y<|λ_=>AR (λw f d=>AE C (Ac C B6 d.k0 C)) (λw f d=>⟨(⟨26,t.ln,t.co,t.tx,0,.nil⟩,none,0),f,C,(by unfold D9;simp[SP.need,Ay,D,F,G]),d.exm,⟨⟨Nat.zero_le _,.inl C⟩,tQ⟩⟩)));refine Aa 7 [] (λ_=>AN 31 C C (λK=>?_) (λK=>?_));refine Aa 2 [] (λ_=>CF [0,1] Al (.rd 0 (.rd 1 (.br 2 (.br 3 .fin .fin) .fin))) C kR<|A2 2 [1,1] (y<|y<|λ_=>Ag C ?_ Aj));refine Dm C C (eC RP C C) (λw f d=>J3 _ (Dy.gl d.f1) t _ hp.1.1 hp.1.2)<|Aa 1 [] (λ_=>Au [0,1] C<|Ag C ?_ Aj);refine AZ C C (eC AG C C) (λw2 f2 he J=>⟨C,_,f2,C,(by unfold D9;simp[SP.need,Ay,he,D,F,G,K]),J⟩) λhn1=>Aa 1 [] (λ_=>Au [0,1] C<|Bm<|Aa 4 [1] (y<|λ_=>Bt C C (eC Xk C C) (λw f d=>Oi w f d.vl d.f1 t _ _ _) (λ_=>⟨AH.mono,tQ⟩) ?_));rintro⟨nd1,and1,cnd1⟩ Z;dsimp only at Z ⊢;exact Aa 6 [0] (y<|λ_=>AR (λw f d=>AE C (Ac C B6 d.k0 C)) (λw f d=>⟨(nd1,and1,cnd1),f,C,(by unfold D9;simp[SP.need,Ay,D,F,G,K,hn1,Z]),d.exm,⟨d.f0,tQ⟩⟩));refine Aa 7 [] (λ_=>AN 39 C C (λU=>?_) (λU=>?_));exact Aa 3 [1] (y<|λ_=>vT C C (eC VJ C C) (pe:=λe=>e=(t.ln,t.co)) (T:=61) (λw f d=>(Jb w t _).mono (λ_ _ h=>h.elim) λ_ w2 ⟨D,F⟩=>⟨_,f,D,C,CK.of_ext F d.vl⟩) (λe w2 f2 he J=>by subst he;exact⟨C,_,f2,C,(by unfold D9;simp[SP.need,Ay,D,F,G,K,U]),J⟩));refine Aa 13 [1] (y<|λ_=>AN 46 C C (λL=>?_) (λL=>?_));refine Aa 2 [] (λ_=>?_);obtain rfl:k=.nil:=Fo.len0 (by have h9:((k.len:Int)==0)=true:=L;have:=beq_iff_eq.1 h9;omega);exact Aa 2 [1] (y<|λ_=>Dm C C (eC Bj C C) (λw f d=>A8 _ t _ _ _ _ _ _)<|Aa 5 [0] (y<|λ_=>AR (λw f d=>AE C (Ac C B6 d.k0 C)) (λw f d=>⟨(⟨25,t.ln,t.co,[],0,.nil⟩,none,0),f,C,(by unfold D9;simp[SP.need,Ay,D,F,G,K,U,L]),d.exm,⟨⟨Nat.zero_le _,.inl C⟩,tQ⟩⟩)));refine Aa 4 [] (λ_=>?_);obtain⟨h,hk,r,rfl⟩:=Fo.cases1 k (by have h9:((k.len:Int)==0)=false:=L;have:=beq_eq_false_iff_ne.1 h9;omega)
 obtain⟨hto,hko,hkl,Y⟩:=hp;have hkl2:r.len+1≤100000:=hkl;obtain⟨n,rfl⟩:∃q,n=q+1:=by cases n with|zero=>exact absurd Y (by simp[Fo.deep])|succ q=>exact⟨q,C⟩
 simp only[Fo.deep,Bool.and_eq_true] at Y;refine vY 0 C<|Rw 1 C<|N8 0 C ?_;rintro⟨eb,eo,hka,hkc⟩ rfl;refine CF [0,1] Al (rd [0,1,2,3,4,5,6] (.br 7 (.br 8 (.rd 9 .fin) .fin) .fin)) C kR<|A2 6 [1,100,0,1] (y<|aI (by simp only[Fo.len];omega)<|y2<|y<|λ_=>GI C C C (λw hK=>H7 C C C Lz)<|Ag C ?_ Aj);refine Aa 2 [] (λb3=>λ_=>Au [1,2] C<|Ag C ?_ Aj);refine Aa 2 [0] (y<|λ_=>Au [1,2] C<|A2 1 [] (λ_=>Bm<|Aa 10 [0] (y<|λ_=>AN 59 C C (λh7=>?_) (λh7=>?_))));refine Aa 2 [] (λ_=>CF [0,1,2] Al (rd [0,1,2] (.br 3 (.br 4 .fin .fin) .fin)) C kR<|A2 3 [2] (y<|λ_=>Ag C ?_ Aj));refine Dm C C (eC IJ C C) (λw f d=>Dk _ _ _ _)<|Aa 1 [] (λ_=>Au [0,1,2] C<|Ag C ?_ Aj);refine AZ C C (eC AG C C) (λw2 f2 he J=>⟨C,_,f2,C,(by unfold D9;simp[SP.need,Ay,he,D,F,G,K,U,L,h7]),J⟩) λhn2=>Aa 1 [] (λ_=>Au [0,1,2] C<|Bm<|Aa 2 [] (λ_=>CF [0,2] Al (rd [0,1,2,3,4] (.br 5 (.br 6 (.br 7 .fin .fin) .fin) .fin)) C kR<|A2 5 [1,0] (y<|y<|λ_=>Ag C ?_ Aj)));refine Km C C (eC Dp C C) (λw f d=>BS 133 RH (D9 (n+1)) (GR n) (λw f hv hJ t k a c hd hT=>ih n C w f hv hJ t k a c hd hT) w f d.vl d.f5 r _ _ (NA n r hko.2.2.2 Y.2) oM d.f3) (λ_=>⟨AH.mono,tQ⟩) (λe w2 f2 he J=>⟨C,e,f2,C,(by unfold D9;simp[SP.need,Ay,he,D,F,G,K,U,L,h7,hn2]),J⟩) ?_;rintro⟨⟨nds1,xnds1⟩,ands1,cnds1⟩ O;dsimp only at O ⊢;refine Aa 1 [] (λ_=>Au [0,2] C<|Ag C ?_ Aj);refine Dm C C (eC Bj C C) (λw f d=>A8 _ t _ _ _ _ _ _)<|Aa 1 [] (λ_=>Au [0,2] C<|Ag C ?_ Aj);exact Aa 2 [1] (y<|λ_=>Au [0,2] C<|Bm<|Aa 3 [] (λ_=>AR (λw f d=>AE C (Ac C B6 d.k1 C)) (λw f d=>⟨(⟨26,t.ln,t.co,h.tx,0,nds1⟩,ands1,cnds1),f,C,(by unfold D9;simp[SP.need,Ay,D,F,G,K,U,L,h7,hn2,O]),d.exm,⟨d.f0,tQ⟩⟩)));refine Aa 4 [] (λ_=>CF [0,1,2] Al (.rd 0 (.rd 1 (.br 2 (rd [3,4,5] (.br 6 (.rd 7 (.br 8 .fin .fin)) .fin)) .fin))) C kR<|A2 2 [2,0] (y<|y<|λ_=>Ag C ?_ Aj));refine Dm C C (eC KG C C) (λw f d=>D8 _ h _ _)<|Aa 1 [] (λ_=>Au [0,1,2] C<|A2 1 [] (λ_=>Jn 75 C (λh8=>?_) (λh8=>?_)));refine A2 2 [] (λ_=>Ag C ?_ Aj);refine Dm C C (eC IJ C C) (λw f d=>Dk _ _ _ _)<|Aa 1 [] (λ_=>Au [0,1,2] C<|A2 1 [] (λ_=>Ag C ?_ Aj));refine AZ C C (eC AG C C) (λw2 f2 he J=>⟨C,_,f2,C,(by unfold D9;simp[SP.need,Ay,he,D,F,G,K,U,L,h7,h8]),J⟩) λhn3=>Aa 1 [] (λ_=>Au [0,1,2] C<|Bm<|Aa 2 [] (λ_=>CF [0,2] Al (.rd 0 (.rd 1 (.br 2 (.br 3 (.br 4 .fin .fin) .fin) .fin))) C kR<|A2 2 [1] (y<|λ_=>Ag C ?_ Aj)));refine Km C C (eC Dp C C) (λw f d=>BS 133 RH (D9 (n+1)) (GR n) (λw f hv hJ t k a c hd hT=>ih n C w f hv hJ t k a c hd hT) w f d.vl d.f5 r _ _ (NA n r hko.2.2.2 Y.2) oM d.f3) (λ_=>⟨AH.mono,tQ⟩) (λe w2 f2 he J=>⟨C,e,f2,C,(by unfold D9;simp[SP.need,Ay,he,D,F,G,K,U,L,h7,h8,hn3]),J⟩) ?_;rintro⟨⟨nds2,xnds2⟩,ands2,cnds2⟩ Q;dsimp only at Q ⊢
 refine Aa 1 [] (λ_=>Au [0,2] C<|Ag C ?_ Aj);refine Dm C C (eC Bj C C) (λw f d=>A8 _ t _ _ _ _ _ _)<|Aa 1 [] (λ_=>Au [0,2] C<|Ag C ?_ Aj);exact Aa 2 [1] (y<|λ_=>Au [0,2] C<|Bm<|Aa 2 [] (λ_=>AR (λw f d=>AE C (Ac C B6 d.k1 C)) (λw f d=>⟨(⟨27,t.ln,t.co,[],0,nds2⟩,ands2,cnds2),f,C,(by unfold D9;simp[SP.need,Ay,D,F,G,K,U,L,h7,h8,hn3,Q]),d.exm,⟨d.f0,tQ⟩⟩)));refine A2 2 [] (λ_=>Ag C ?_ Aj);refine Aa 2 [] (λ_=>Au [0,1,2] C<|A2 1 [] (λ_=>Ag C ?_ Aj));refine AZ C C (eC AG C C) (λw2 f2 he J=>⟨C,_,f2,C,(by unfold D9;simp[SP.need,Ay,he,D,F,G,K,U,L,h7,h8]),J⟩) λhn4=>?_
 cases hn4
theorem QH:∀n,∀(w:wO)(f:Fq)(_:Vl w f)(_:Dy w f)(t:AB)(k:Fo)(a:oA)(c:Nat),GR n t k→Ee w f k a c→BI prog 133 #[fV t a k.len c] w (I5 (D9 (n+1) t k) w f) (IT 61 (D9 (n+1) t k) w f)
 |0=>SA 0 (λ_ d=>by cases d)
 |n+1=>SA (n+1) (λn' h=>by cases h;exact QH n)
theorem NC(w:wO)(f:Fq)(K:Vl w f)(t:AB)(k:Fo)(ka:oA)(kc:Nat)(L:Ee w f k ka kc) :
  Bq prog 50 #[fV t ka k.len kc] w (B3 (α:=Unit) (λ_=>.bool (Ry t k)) (λ_=>True) (λ_=>[]) w f):=by
 refine Cw (X:=X0 w f) (H:=[]) (R:=[]) (B:=[]) (Fs:=[λw f=>Ee w f k ka kc]) (f:=f) func50 C C C (Ci K ⟨L,tQ⟩ ⟨Ee.mono,tQ⟩)<|Aa 7 [] (λb1=>λ_=>?_)
 cases k with
 |nil =>
  refine Aa 2 [0] (y<|λ_=>Dm C C (eC Hl C C) (λw f d=>C5 _ t _)<|Aa 1 [] (λ_=>AN 5 C C (λD=>?_) (λD=>?_)));refine Aa 6 [0] (y<|λ_=>AN 11 C C (λG=>?_) (λG=>?_));simp[Fo.len] at G;exact Aa 10 [] (λ_=>AR (CY C C) (λw f d=>⟨(),f,(by simp[Ry,D]),tQ,d.exm,tQ⟩));exact Aa 16 [] (λ_=>AR (CY C C) (λw f d=>⟨(),f,(by simp[Ry,D]),tQ,d.exm,tQ⟩))
 |cons h Y r =>
  refine Rw 0 C<|N8 0 C ?_;rintro⟨Z,eo,O,Q⟩ rfl;refine Aa 2 [0] (y<|λ_=>Dm C C (eC Hl C C) (λw f d=>C5 _ t _)<|Aa 1 [] (λ_=>AN 5 C C (λF=>?_) (λF=>?_)));refine Aa 6 [0] (y<|λ_=>AN 11 C C (λJ=>?_) (λJ=>?_));exact Aa 4 [0,100,0] (y<|aI (by simp only[Fo.len];omega)<|y2<|λ_=>Dm C C (eC KG C C) (λw f d=>D8 _ h _ _)<|Aa 5 [] (λ_=>AR (CY C C) (λw f d=>⟨(),f,(by simp[Ry,F]),tQ,d.exm,tQ⟩)));have U:=dF J;simp only[Fo.len] at U;omega;exact Aa 16 [] (λ_=>AR (CY C C) (λw f d=>⟨(),f,(by simp[Ry,F]),tQ,d.exm,tQ⟩))
set_option maxHeartbeats 1000000 in
theorem YF(n:Nat)(ihx:∀ (w:wO) (f:Fq) (_:Vl w f) (_:Dy w f) (t:AB) (k:Fo) (a:oA) (c:Nat),GR n t k→Ee w f k a c→BI prog 49 #[fV t a k.len c] w (I5 (BG (n+1) t k) w f) (IT 61 (BG (n+1) t k) w f))(iha:∀ (w:wO) (f:Fq) (_:Vl w f) (_:Dy w f) (t:AB) (k:Fo) (a:oA) (c:Nat),GR n t k→Ee w f k a c→BI prog 111 #[fV t a k.len c] w (I5 (Gp (n+1) (BG (n+1)) t k) w f) (IT 61 (Gp (n+1) (BG (n+1)) t k) w f))(w:wO)(f:Fq)(hv:Vl w f)(hJ:Dy w f)(t:AB)(k:Fo)(ka:oA)(kc:Nat)(wd:lU)(l:Fo)(la:oA)(lc:Nat)(D:l.all (GR n))(hlen:l.len≤100000)(hL:Ee w f l la lc) :
  BI prog 80 #[fV t ka k.len kc,S wd,.slice la l.len lc] w (I5 (Bh (n+1) (BG (n+1)) t wd l) w f) (IT 61 (Bh (n+1) (BG (n+1)) t wd l) w f):=by
 refine Pa (X:=X0 w f) (H:=[]) (R:=[]) (B:=[]) (Fs:=[λw f=>Ee w f l la lc,λw f=>Dy w f]) (f:=f) func80 C C C (Ci hv ⟨hL,hJ,tQ⟩ ⟨Ee.mono,Dy.mono,tQ⟩)<|Aa 26 [] (λb1=>λb2=>λ_=>AN 13 C C (λL=>?_) (λL=>?_));obtain rfl:=beq_iff_eq.1 L;refine Aa 2 [] (λ_=>?_);rcases Fo.two l with ⟨p,pk,b,bk,rfl⟩|hne
 refine Rw 0 C<|N8 0 C ?_;rintro⟨eb0,eo0,k0a,k0c⟩ rfl;refine Z9 1 C ?_;rintro⟨k1a,k1c⟩;refine CF [0,1] Al (rd [0,1,2,3,4,5,6] (.br 7 (rd [8,9,10,11,12,13,14] (.br 15 (rd [16,17,18,19,20,21] (.br 22 (.rd 23 (.br 24 .fin .fin)) .fin)) .fin)) .fin)) C kR<|A2 4 [1] (y<|λ_=>Jn 18 C (λh2=>?_) (λh2=>?_));refine A2 3 [101,0] (aI (by simp only[Fo.len];omega)<|y2<|λ_=>Ag C ?_ Aj);refine Dm C C (eC Hl C C) (λw f d=>C5 _ p _)<|Aa 1 [] (λ_=>Au [0,1] C<|A2 2 [] (λ_=>Jn 24 C (λh3=>?_) (λh3=>?_)));refine A2 5 [101,5] (aI (by simp only[Fo.len];omega)<|y2<|λ_=>Ag C ?_ Aj);refine Dm C C (eC IJ C C) (λw f d=>Dk _ _ _ _)<|Aa 1 [] (λ_=>Au [0,1] C<|A2 2 [] (λ_=>Jn 32 C (λh4=>?_) (λh4=>?_)));refine A2 4 [101,5] (aI (by simp only[Fo.len];omega)<|y2<|λ_=>Ag C ?_ Aj);refine Bt C C (eC oJ C C) (λw f d=>Ur w f d.vl d.f6 pk _ _ (Fo.ok.all D.1.2.1) D.1.2.2.1 d.f2) (λ_=>trivial) ?_;rintro⟨⟩ -;refine Aa 1 [] (λ_=>Au [0,1] C<|A2 1 [] (λ_=>Ag C ?_ Aj));refine AZ C C (eC AG C C) (λY f2 he F=>⟨C,_,f2,C,(by simp[Bh,SP.need,Ay,he,h2,h3,h4]),F⟩) λhn1=>Aa 1 [] (λ_=>Au [0,1] C<|Bm<|Aa 2 [] (λ_=>CF [1] Al (rd [0,1,2,3,4,6,7,8] (.br 5 (.br 9 (.br 10 (.br 11 (.br 12 (.br 13 .fin .fin) .fin) .fin) .fin) .fin) .fin)) C kR<|A2 8 [0,101,5,100,0] (y<|aI (by simp only[Fo.len];omega)<|y2<|aI (by simp only[Fo.len];omega)<|y2<|λ_=>Ag C ?_ Aj)));refine YP C C (eC Dp C C) (λw f d=>HA 109 Xk H3 (λ_ _=>True) (λw f hv hJ t k a c hd hT=>(Oi w f hv hJ t k a c).retP) w f d.vl d.f6 pk _ _ (Fo.all_true _) D.1.2.2.1 d.f2) (λ_=>⟨Cd.mono,tQ⟩) (λe Y f2 he F=>⟨C,e,f2,C,(by simp[Bh,SP.need,Ay,he,h2,h3,h4,hn1]),F⟩) ?_;rintro⟨nds1,xnds1⟩ ands1 cnds1 hnds1;dsimp only at hnds1 ⊢;have hnl:=Eh hnds1;have hpl:=D.1.2.2.1;refine Aa 1 [] (λ_=>Au [1] C<|Ag C ?_ Aj);refine Km C C (eC D1 C C) (λw f d=>ihx w f d.vl d.f7 b bk _ _ D.2.1 d.f1) (λ_=>⟨AH.mono,tQ⟩) (λe Y f2 he F=>⟨C,e,f2,C,(by simp[Bh,SP.need,Ay,he,h2,h3,h4,hn1,hnds1]),F⟩) ?_;rintro⟨nd1,and1,cnd1⟩ hnd1;dsimp only at hnd1 ⊢;refine Aa 1 [] (λ_=>Au [1] C<|Ag C ?_ Aj);refine Aa 2 [] (λb3=>λ_=>Au [2] C<|Ag C ?_ Aj);refine Dq 0 0 C C MM C C C C C C C C (λ_ _=>C) oM oM λands2 cnds2=>D5 (λw f=>Cd w f (nds1.app nd1.one) (xnds1++KW nd1.op nd1.ln nd1.co nd1.tx nd1.nm and1 nd1.kids.len cnd1)) (λw f d=>Cd.app (Cd.one d.f0) d.f1) Cd.mono<|P0 (λw f=>AH w f (nds1.app nd1.one) ands2 cnds2) AH.mono (λw f d=>KH d d.f0)<|Aa 1 [] (λ_=>Au [2] C<|Ag C ?_ Aj);refine Dm C C (eC Bj C C) (λw f d=>A8 _ t _ _ _ _ _ _)<|Aa 1 [] (λ_=>Au [2] C<|Ag C ?_ Aj)
 exact Aa 2 [1] (y<|λ_=>Au [2] C<|Bm<|Aa 4 [] (λ_=>AR (λw f d=>AE C (Ac C B6 d.k1 C)) (λw f d=>⟨(⟨7,t.ln,t.co,[],0,(nds1.app nd1.one)⟩,ands2,cnds2),f,(by simp[nV,Nd.app_len,N.one,N.cons,Nd.len,Nat.add_comm]),(by simp[Bh,SP.need,Ay,h2,h3,h4,hn1,hnds1,hnd1]),d.exm,⟨d.f0,tQ⟩⟩)));refine A2 4 [] (λ_=>Ag C ?_ Aj);refine Aa 2 [] (λ_=>Au [0,1] C<|A2 1 [] (λ_=>Ag C ?_ Aj));refine AZ C C (eC AG C C) (λY f2 he F=>⟨C,_,f2,C,(by simp[Bh,SP.need,Ay,he,h2,h3,h4]),F⟩) λhn2=>?_
 cases hn2
 refine A2 5 [] (λ_=>Ag C ?_ Aj);refine Aa 2 [] (λ_=>Au [0,1] C<|A2 6 [] (λ_=>Ag C ?_ Aj));refine Aa 2 [] (λ_=>Au [0,1] C<|A2 1 [] (λ_=>Ag C ?_ Aj));refine AZ C C (eC AG C C) (λY f2 he F=>⟨C,_,f2,C,(by simp[Bh,SP.need,Ay,he,h2,h3]),F⟩) λhn3=>?_
 cases hn3
 simp[Fo.len] at h2;refine CF [0,1] Al (rd [0,1,2,3,4,5,6] (.br 7 (rd [8,9,10,11,12,13,14] (.br 15 (rd [16,17,18,19,20,21] (.br 22 (.rd 23 (.br 24 .fin .fin)) .fin)) .fin)) .fin)) C kR<|A2 4 [1] (y<|λ_=>Jn 18 C (λh5=>?_) (λh5=>?_));exact absurd (by have G:=beq_iff_eq.1 h5;omega) hne;refine A2 3 [] (λ_=>Ag C ?_ Aj);refine Aa 2 [] (λ_=>Au [0,1] C<|A2 7 [] (λ_=>Ag C ?_ Aj));refine Aa 2 [] (λ_=>Au [0,1] C<|A2 6 [] (λ_=>Ag C ?_ Aj));refine Aa 2 [] (λ_=>Au [0,1] C<|A2 1 [] (λ_=>Ag C ?_ Aj));refine AZ C C (eC AG C C) (λY f2 he F=>⟨C,_,f2,C,(by rw[fm_fn hne]),F⟩) λhn4=>?_
 cases hn4
 refine Aa 7 [] (λ_=>AN 53 C C (λZ=>?_) (λZ=>?_));obtain rfl:=beq_iff_eq.1 Z;refine Aa 2 [] (λ_=>?_);rcases Fo.three l with ⟨p,pk,b,bk,c,ck,rfl⟩|hne
 refine Rw 0 C<|N8 0 C ?_;rintro⟨eb0,eo0,k0a,k0c⟩ rfl;refine Z9 1 C ?_;rintro⟨k1a,k1c⟩;refine Z9 1 C ?_;rintro⟨k2a,k2c⟩;refine CF [0,1] Al (rd [0,1,2,3,4,5,6] (.br 7 (.rd 8 (.br 9 .fin .fin)) .fin)) C kR<|A2 4 [1] (y<|λ_=>Jn 58 C (λh7=>?_) (λh7=>?_));refine A2 3 [102,0] (aI (by simp only[Fo.len];omega)<|y2<|λ_=>Ag C ?_ Aj);refine Dm C C (eC RP C C) (λw f d=>J3 _ (Dy.gl d.f8) p _ D.1.1.1 D.1.1.2)<|Aa 1 [] (λ_=>Au [0,1] C<|A2 1 [] (λ_=>Ag C ?_ Aj));refine AZ C C (eC AG C C) (λY f2 he F=>⟨C,_,f2,C,(by simp[Bh,SP.need,Ay,he,L,h7]),F⟩) λhn5=>Aa 1 [] (λ_=>Au [0,1] C<|Bm<|Aa 2 [] (λ_=>CF [1] Al (rd [0,1,2,3,4,5,6,7,8,10,11,12] (.br 9 (.br 13 (.br 14 (.br 15 (.br 16 .fin .fin) .fin) .fin) .fin) .fin)) C kR<|A2 12 [0,102,4,101,0,100,0] (y<|aI (by simp only[Fo.len];omega)<|y2<|aI (by simp only[Fo.len];omega)<|y2<|aI (by simp only[Fo.len];omega)<|y2<|λ_=>Ag C ?_ Aj)));refine Km C C (eC D1 C C) (λw f d=>ihx w f d.vl d.f8 b bk _ _ D.2.1 d.f2) (λ_=>⟨AH.mono,tQ⟩) (λe Y f2 he F=>⟨C,e,f2,C,(by simp[Bh,SP.need,Ay,he,L,h7,hn5]),F⟩) ?_;rintro⟨nd2,and2,cnd2⟩ hnd2;dsimp only at hnd2 ⊢;refine Aa 1 [] (λ_=>Au [1] C<|Ag C ?_ Aj);refine Km C C (eC D1 C C) (λw f d=>ihx w f d.vl d.f9 c ck _ _ D.2.2.1 d.f1) (λ_=>⟨AH.mono,tQ⟩) (λe Y f2 he F=>⟨C,e,f2,C,(by simp[Bh,SP.need,Ay,he,L,h7,hn5,hnd2]),F⟩) ?_;rintro⟨nd3,and3,cnd3⟩ hnd3;dsimp only at hnd3 ⊢;refine Aa 1 [] (λ_=>Au [1] C<|Ag C ?_ Aj);refine Aa 2 [] (λb4=>λ_=>Au [2] C<|Ag C ?_ Aj);refine Dc 0 C C<|D5 (λw f=>AH w f (nd2.cons (nd3.one)) (some ⟨b4,0,none⟩) 2) (λw f d=>Cd.toF (Cd.cons' d.f1 (Cd.cons' d.f0 (show Cd _ _ .nil [] from C))) d.b0 (Nat.le_refl _)) AH.mono<|Dm C C (eC Bj C C) (λw f d=>A8 _ t _ _ _ _ _ _)<|Aa 1 [] (λ_=>AY [1] Fl C (λ_ h=>.tail _ h)<|Ag C ?_ Aj);exact Aa 2 [0] (y<|λ_=>AY [1] Fl C (λ_ h=>.tail _ h)<|Bm<|Aa 4 [] (λ_=>AR (λw f d=>AE C (Ac C B6 d.k0 C)) (λw f d=>⟨(⟨9,t.ln,t.co,p.tx,0,(nd2.cons (nd3.one))⟩,(some ⟨b4,0,none⟩),2),f,C,(by simp[Bh,SP.need,Ay,L,h7,hn5,hnd2,hnd3]),d.exm,⟨d.f0,tQ⟩⟩)));simp[Fo.len] at h7;refine CF [0,1] Al (rd [0,1,2,3,4,5,6] (.br 7 (.rd 8 (.br 9 .fin .fin)) .fin)) C kR<|A2 4 [1] (y<|λ_=>Jn 58 C (λh8=>?_) (λh8=>?_));exact absurd (by have G:=beq_iff_eq.1 h8;omega) hne;refine A2 3 [] (λ_=>Ag C ?_ Aj);refine Aa 2 [] (λ_=>Au [0,1] C<|A2 1 [] (λ_=>Ag C ?_ Aj));refine AZ C C (eC AG C C) (λY f2 he F=>⟨C,_,f2,C,(by rw[uK hne]),F⟩) λhn6=>?_
 cases hn6
 refine Aa 7 [] (λ_=>AN 81 C C (λG=>?_) (λG=>?_));obtain rfl:=beq_iff_eq.1 G;refine Aa 2 [] (λ_=>?_);rcases Fo.three l with ⟨p,pk,b,bk,c,ck,rfl⟩|hne
 refine Rw 0 C<|N8 0 C ?_;rintro⟨eb0,eo0,k0a,k0c⟩ rfl;refine Z9 1 C ?_;rintro⟨k1a,k1c⟩;refine Z9 1 C ?_;rintro⟨k2a,k2c⟩;refine CF [0,1] Al (rd [0,1,2,3,4,5,6] (.br 7 (rd [8,9,10,11,12] (.br 13 (.rd 14 (.br 15 .fin .fin)) .fin)) .fin)) C kR<|A2 4 [1] (y<|λ_=>Jn 86 C (λh10=>?_) (λh10=>?_));refine A2 3 [102,0] (aI (by simp only[Fo.len];omega)<|y2<|λ_=>Ag C ?_ Aj);refine Dm C C (eC OA C C) (λw f d=>EM _ (Dy.gl d.f8) p _ D.1.1.1 D.1.1.2)<|Aa 1 [] (λ_=>Au [0,1] C<|A2 2 [] (λ_=>Jn 92 C (λh11=>?_) (λh11=>?_)));refine A2 3 [101,0] (aI (by simp only[Fo.len];omega)<|y2<|λ_=>Ag C ?_ Aj);refine Bt C C (eC bM C C) (λw f d=>NC w f d.vl b bk _ _ d.f2) (λ_=>trivial) ?_;rintro⟨⟩ -;refine Aa 1 [] (λ_=>Au [0,1] C<|A2 1 [] (λ_=>Ag C ?_ Aj));refine AZ C C (eC AG C C) (λY f2 he F=>⟨C,_,f2,C,(by simp[Bh,SP.need,Ay,he,L,Z,h10,h11]),F⟩) λhn7=>Aa 1 [] (λ_=>Au [0,1] C<|Bm<|Aa 2 [] (λ_=>CF [1] Al (rd [0,1,2,3,4,5,6,7,8,10,11,12] (.br 9 (.br 13 (.br 14 (.br 15 (.br 16 .fin .fin) .fin) .fin) .fin) .fin)) C kR<|A2 12 [0,102,4,101,0,100,0] (y<|aI (by simp only[Fo.len];omega)<|y2<|aI (by simp only[Fo.len];omega)<|y2<|aI (by simp only[Fo.len];omega)<|y2<|λ_=>Ag C ?_ Aj)));refine Km C C (eC D1 C C) (λw f d=>ihx w f d.vl d.f8 b bk _ _ D.2.1 d.f2) (λ_=>⟨AH.mono,tQ⟩) (λe Y f2 he F=>⟨C,e,f2,C,(by simp[Bh,SP.need,Ay,he,L,Z,h10,h11,hn7]),F⟩) ?_;rintro⟨nd4,and4,cnd4⟩ hnd4;dsimp only at hnd4 ⊢;refine Aa 1 [] (λ_=>Au [1] C<|Ag C ?_ Aj);refine Km C C (eC D1 C C) (λw f d=>ihx w f d.vl d.f9 c ck _ _ D.2.2.1 d.f1) (λ_=>⟨AH.mono,tQ⟩) (λe Y f2 he F=>⟨C,e,f2,C,(by simp[Bh,SP.need,Ay,he,L,Z,h10,h11,hn7,hnd4]),F⟩) ?_;rintro⟨nd5,and5,cnd5⟩ hnd5;dsimp only at hnd5 ⊢;refine Aa 1 [] (λ_=>Au [1] C<|Ag C ?_ Aj);refine Aa 2 [] (λb5=>λ_=>Au [2] C<|Ag C ?_ Aj);refine Dc 0 C C<|D5 (λw f=>AH w f (nd4.cons (nd5.one)) (some ⟨b5,0,none⟩) 2) (λw f d=>Cd.toF (Cd.cons' d.f1 (Cd.cons' d.f0 (show Cd _ _ .nil [] from C))) d.b0 (Nat.le_refl _)) AH.mono<|Dm C C (eC Bj C C) (λw f d=>A8 _ t _ _ _ _ _ _)<|Aa 1 [] (λ_=>AY [1] Fl C (λ_ h=>.tail _ h)<|Ag C ?_ Aj);exact Aa 2 [0] (y<|λ_=>AY [1] Fl C (λ_ h=>.tail _ h)<|Bm<|Aa 4 [] (λ_=>AR (λw f d=>AE C (Ac C B6 d.k0 C)) (λw f d=>⟨(⟨10,t.ln,t.co,p.tx,0,(nd4.cons (nd5.one))⟩,(some ⟨b5,0,none⟩),2),f,C,(by simp[Bh,SP.need,Ay,L,Z,h10,h11,hn7,hnd4,hnd5]),d.exm,⟨d.f0,tQ⟩⟩)));refine A2 3 [] (λ_=>Ag C ?_ Aj);refine Aa 2 [] (λ_=>Au [0,1] C<|A2 1 [] (λ_=>Ag C ?_ Aj));refine AZ C C (eC AG C C) (λY f2 he F=>⟨C,_,f2,C,(by simp[Bh,SP.need,Ay,he,L,Z,h10,h11]),F⟩) λhn8=>?_
 cases hn8
 simp[Fo.len] at h10;refine CF [0,1] Al (rd [0,1,2,3,4,5,6] (.br 7 (rd [8,9,10,11,12] (.br 13 (.rd 14 (.br 15 .fin .fin)) .fin)) .fin)) C kR<|A2 4 [1] (y<|λ_=>Jn 86 C (λh12=>?_) (λh12=>?_));exact absurd (by have G:=beq_iff_eq.1 h12;omega) hne;refine A2 3 [] (λ_=>Ag C ?_ Aj);refine Aa 2 [] (λ_=>Au [0,1] C<|A2 5 [] (λ_=>Ag C ?_ Aj));refine Aa 2 [] (λ_=>Au [0,1] C<|A2 1 [] (λ_=>Ag C ?_ Aj));refine AZ C C (eC AG C C) (λY f2 he F=>⟨C,_,f2,C,(by rw[xF hne]),F⟩) λhn9=>?_
 cases hn9
 refine Aa 7 [] (λ_=>AN 115 C C (λJ=>?_) (λJ=>?_));obtain rfl:=beq_iff_eq.1 J;refine Aa 6 [1] (y<|λ_=>AZ C C (eC AG C C) (λY f2 he F=>⟨C,_,f2,C,(by simp[Bh,SP.need,Ay,he,L,Z,G]),F⟩) λhn10=>Aa 3 [] (λ_=>CF [1] Al (.rd 0 (.rd 1 (.br 2 (.br 3 (.br 4 .fin .fin) .fin) .fin))) C kR<|A2 2 [0] (y<|λ_=>Ag C ?_ Aj)));refine Km C C (eC Dp C C) (λw f d=>BS 49 D1 (BG (n+1)) (GR n) (λw f hv hJ t k a c hd hT=>ihx w f hv hJ t k a c hd hT) w f d.vl d.f1 l _ _ D hlen d.f0) (λ_=>⟨AH.mono,tQ⟩) (λe Y f2 he F=>⟨C,e,f2,C,(by simp[Bh,SP.need,Ay,he,L,Z,G,hn10]),F⟩) ?_;rintro⟨⟨nds5,xnds5⟩,ands5,cnds5⟩ hnds5;dsimp only at hnds5 ⊢;refine Aa 1 [] (λ_=>Au [1] C<|Ag C ?_ Aj);refine Dm C C (eC Bj C C) (λw f d=>A8 _ t _ _ _ _ _ _)<|Aa 1 [] (λ_=>Au [1] C<|Ag C ?_ Aj);exact Aa 2 [0] (y<|λ_=>Au [1] C<|Bm<|Aa 4 [] (λ_=>AR (λw f d=>AE C (Ac C B6 d.k0 C)) (λw f d=>⟨(⟨11,t.ln,t.co,[],0,nds5⟩,ands5,cnds5),f,C,(by simp[Bh,SP.need,Ay,L,Z,G,hn10,hnds5]),d.exm,⟨d.f0,tQ⟩⟩)));refine Aa 7 [] (λ_=>AN 125 C C (λK=>?_) (λK=>?_));obtain rfl:=beq_iff_eq.1 K;refine Aa 6 [1] (y<|λ_=>AZ C C (eC AG C C) (λY f2 he F=>⟨C,_,f2,C,(by simp[Bh,SP.need,Ay,he,L,Z,G,J]),F⟩) λhn11=>Aa 3 [] (λ_=>CF [1] Al (.rd 0 (.rd 1 (.br 2 (.br 3 (.br 4 .fin .fin) .fin) .fin))) C kR<|A2 2 [0] (y<|λ_=>Ag C ?_ Aj)));refine Km C C (eC Dp C C) (λw f d=>BS 49 D1 (BG (n+1)) (GR n) (λw f hv hJ t k a c hd hT=>ihx w f hv hJ t k a c hd hT) w f d.vl d.f1 l _ _ D hlen d.f0) (λ_=>⟨AH.mono,tQ⟩) (λe Y f2 he F=>⟨C,e,f2,C,(by simp[Bh,SP.need,Ay,he,L,Z,G,J,hn11]),F⟩) ?_;rintro⟨⟨nds6,xnds6⟩,ands6,cnds6⟩ hnds6;dsimp only at hnds6 ⊢;refine Aa 1 [] (λ_=>Au [1] C<|Ag C ?_ Aj);refine Dm C C (eC Bj C C) (λw f d=>A8 _ t _ _ _ _ _ _)<|Aa 1 [] (λ_=>Au [1] C<|Ag C ?_ Aj);exact Aa 2 [0] (y<|λ_=>Au [1] C<|Bm<|Aa 4 [] (λ_=>AR (λw f d=>AE C (Ac C B6 d.k0 C)) (λw f d=>⟨(⟨12,t.ln,t.co,[],0,nds6⟩,ands6,cnds6),f,C,(by simp[Bh,SP.need,Ay,L,Z,G,J,hn11,hnds6]),d.exm,⟨d.f0,tQ⟩⟩)));refine Aa 7 [] (λ_=>AN 135 C C (λO=>?_) (λO=>?_));obtain rfl:=beq_iff_eq.1 O;refine Aa 2 [] (λ_=>CF [0,1] Al (.rd 0 (.rd 1 (.br 2 (.br 3 .fin .fin) .fin))) C kR<|A2 2 [1] (y<|λ_=>Ag C ?_ Aj));refine Dm C C (eC IJ C C) (λw f d=>Dk _ _ _ _)<|Aa 1 [] (λ_=>Au [0,1] C<|Ag C ?_ Aj);refine AZ C C (eC AG C C) (λY f2 he F=>⟨C,_,f2,C,(by simp[Bh,SP.need,Ay,he,L,Z,G,J,K]),F⟩) λhn12=>Aa 1 [] (λ_=>Au [0,1] C<|Bm<|Aa 2 [] (λ_=>CF [1] Al (.rd 0 (.rd 1 (.br 2 (.br 3 (.br 4 .fin .fin) .fin) .fin))) C kR<|A2 2 [0] (y<|λ_=>Ag C ?_ Aj)))
 refine Km C C (eC Dp C C) (λw f d=>BS 49 D1 (BG (n+1)) (GR n) (λw f hv hJ t k a c hd hT=>ihx w f hv hJ t k a c hd hT) w f d.vl d.f1 l _ _ D hlen d.f0) (λ_=>⟨AH.mono,tQ⟩) (λe Y f2 he F=>⟨C,e,f2,C,(by simp[Bh,SP.need,Ay,he,L,Z,G,J,K,hn12]),F⟩) ?_;rintro⟨⟨nds7,xnds7⟩,ands7,cnds7⟩ hnds7;dsimp only at hnds7 ⊢;refine Aa 1 [] (λ_=>Au [1] C<|Ag C ?_ Aj);refine Dm C C (eC Bj C C) (λw f d=>A8 _ t _ _ _ _ _ _)<|Aa 1 [] (λ_=>Au [1] C<|Ag C ?_ Aj);exact Aa 2 [0] (y<|λ_=>Au [1] C<|Bm<|Aa 4 [] (λ_=>AR (λw f d=>AE C (Ac C B6 d.k0 C)) (λw f d=>⟨(⟨13,t.ln,t.co,[],0,nds7⟩,ands7,cnds7),f,C,(by simp[Bh,SP.need,Ay,L,Z,G,J,K,hn12,hnds7]),d.exm,⟨d.f0,tQ⟩⟩)));refine Aa 8 [] (λ_=>AN 145 C C (λDR=>?_) (λDR=>?_));obtain rfl:=beq_iff_eq.1 DR;refine Aa 5 [] (λ_=>Aa 4 [1] (y<|λ_=>AZ C C (eC AG C C) (λY f2 he F=>⟨C,_,f2,C,(by simp[Bh,SP.need,Ay,he,L,Z,G,J,K,O]),F⟩) λhn13=>Aa 18 [] (λ_=>?_)));obtain⟨p,pk,r,rfl⟩:=Fo.cases1 l (by have:=dT hn13;omega);have hge:0<r.len:=by have G:=dT hn13;simp only[Fo.len] at G;omega
 have hlr:r.len+1≤100000:=hlen;refine vY 0 C<|Rw 1 C<|N8 0 C ?_;rintro⟨eb0,eo0,k0a,k0c⟩ rfl;refine CF [1] Al (rd [0,1,2,3,4,7,8] (.br 5 (.br 6 (.br 9 (.br 10 (.br 11 (.br 12 .fin .fin) .fin) .fin) .fin) (.br 9 (.br 6 (.br 10 (.br 11 (.br 12 .fin .fin) .fin) .fin) .fin) .fin)) .fin)) C kR<|A2 6 [0,100,0] (y<|aI (by simp only[Fo.len];omega)<|y2<|λ_=>GI C C C (λw hK=>H7 C C C Lz)<|Ag C ?_ Aj);refine Km C C (eC D1 C C) (λw f d=>ihx w f d.vl d.f5 p pk _ _ D.1 d.f0) (λ_=>⟨AH.mono,tQ⟩) (λe Y f2 he F=>⟨C,e,f2,C,(by simp[Bh,SP.need,Ay,he,L,Z,G,J,K,O,hn13]),F⟩) ?_;rintro⟨Q,and6,cnd6⟩ hnd6;dsimp only at hnd6 ⊢;refine Aa 1 [] (λ_=>Au [1] C<|Ag C ?_ ?_);refine Aa 2 [] (λb6=>λ_=>Au [2] C<|Ag C ?_ Aj);refine YP C C (eC Dp C C) (λw f d=>HA 111 Nk (Gp (n+1) (BG (n+1))) (GR n) (λw f hv hJ t k a c hd hT=>iha w f hv hJ t k a c hd hT) w f d.vl d.f6 r _ _ D.2 oM d.f4) (λ_=>⟨Cd.mono,tQ⟩) (λe Y f2 he F=>⟨C,e,f2,C,(by simp[Bh,SP.need,Ay,he,L,Z,G,J,K,O,hn13,hnd6]),F⟩) ?_;rintro⟨nds8,xnds8⟩ ands8 cnds8 hnds8;dsimp only at hnds8 ⊢;have hnl:=Eh hnds8;refine Jf (p:=∃rb,ands8=some ⟨rb,0,none⟩) (λw f d=>by rcases (d.row _ (.head _)).2 with ⟨_,_,G⟩|⟨ob,_,G,_⟩;(dsimp only at G;omega);exact⟨ob,G⟩) λhob=>?_;obtain⟨rb,rfl⟩:=hob;refine pW 0 C C<|Aa 1 [] (λ_=>AY [2] Fl C (λ_ h=>.tail _ h)<|Ag C ?_ Aj);refine jN 0 6 1 C C C dC<|Jf (p:=xnds8.length=nds8.len*6∧∀v∈xnds8,v.oneCell'=true) (λw f d=>⟨Cd.len d.f0,Cd.one' d.f0⟩) λ⟨hxl,hx1⟩=>Zz 0 0 C C MM C C C C C C hxl hx1 oM (λ_ _=>C) oM oM λands9 cnds9=>D5 (λw f=>Cd w f (Q.cons nds8) (KW Q.op Q.ln Q.co Q.tx Q.nm and6 Q.kids.len cnd6++xnds8)) (λw f d=>Cd.cons' d.f1 d.f0) Cd.mono<|P0 (λw f=>AH w f (Q.cons nds8) ands9 cnds9) AH.mono (λw f d=>KH d d.f0)<|Aa 1 [] (λ_=>AY [1] Fl C (λ_ h=>.tail _ h)<|Ag C ?_ Aj);refine Dm C C (eC Bj C C) (λw f d=>A8 _ t _ _ _ _ _ _)<|Aa 1 [] (λ_=>AY [1] Fl C (λ_ h=>.tail _ h)<|Ag C ?_ Aj);exact Aa 2 [0] (y<|λ_=>AY [1] Fl C (λ_ h=>.tail _ h)<|Bm<|Aa 4 [] (λ_=>AR (λw f d=>AE C (Ac C B6 d.k0 C)) (λw f d=>⟨(⟨14,t.ln,t.co,[],0,(Q.cons nds8)⟩,ands9,cnds9),f,(by simp[nV,Nd.app_len,N.one,N.cons,Nd.len,Nat.add_comm]),(by simp[Bh,SP.need,Ay,L,Z,G,J,K,O,hn13,hnd6,hnds8]),d.exm,⟨d.f0,tQ⟩⟩)));refine Ag C ?_ Aj;refine YP C C (eC Dp C C) (λw f d=>HA 111 Nk (Gp (n+1) (BG (n+1))) (GR n) (λw f hv hJ t k a c hd hT=>iha w f hv hJ t k a c hd hT) w f d.vl d.f6 r _ _ D.2 oM d.f4) (λ_=>⟨Cd.mono,tQ⟩) (λe Y f2 he F=>⟨C,e,f2,C,(by simp[Bh,SP.need,Ay,he,L,Z,G,J,K,O,hn13,hnd6]),F⟩) ?_;rintro⟨nds10,xnds10⟩ ands10 cnds10 hnds10;dsimp only at hnds10 ⊢;have hnl:=Eh hnds10
 refine Jf (p:=∃rb,ands10=some ⟨rb,0,none⟩) (λw f d=>by rcases (d.row _ (.head _)).2 with ⟨_,_,G⟩|⟨ob,_,G,_⟩;(dsimp only at G;omega);exact⟨ob,G⟩) λhob=>?_;obtain⟨rb,rfl⟩:=hob;refine pW 0 C C<|Aa 1 [] (λ_=>AY [1] Fl C (λ_ h=>.tail _ h)<|Ag C ?_ Aj);refine Aa 2 [] (λb7=>λ_=>AY [2] Fl C (λ_ h=>.tail _ h)<|Ag C ?_ Aj);refine jN 0 6 1 C C C dC<|Jf (p:=xnds10.length=nds10.len*6∧∀v∈xnds10,v.oneCell'=true) (λw f d=>⟨Cd.len d.f0,Cd.one' d.f0⟩) λ⟨hxl,hx1⟩=>Zz 0 0 C C MM C C C C C C hxl hx1 oM (λ_ _=>C) oM oM λands11 cnds11=>D5 (λw f=>Cd w f (Q.cons nds10) (KW Q.op Q.ln Q.co Q.tx Q.nm and6 Q.kids.len cnd6++xnds10)) (λw f d=>Cd.cons' d.f1 d.f0) Cd.mono<|P0 (λw f=>AH w f (Q.cons nds10) ands11 cnds11) AH.mono (λw f d=>KH d d.f0)<|Aa 1 [] (λ_=>AY [1] Fl C (λ_ h=>.tail _ h)<|Ag C ?_ Aj);refine Dm C C (eC Bj C C) (λw f d=>A8 _ t _ _ _ _ _ _)<|Aa 1 [] (λ_=>AY [1] Fl C (λ_ h=>.tail _ h)<|Ag C ?_ Aj);exact Aa 2 [0] (y<|λ_=>AY [1] Fl C (λ_ h=>.tail _ h)<|Bm<|Aa 4 [] (λ_=>AR (λw f d=>AE C (Ac C B6 d.k0 C)) (λw f d=>⟨(⟨14,t.ln,t.co,[],0,(Q.cons nds10)⟩,ands11,cnds11),f,(by simp[nV,Nd.app_len,N.one,N.cons,Nd.len,Nat.add_comm]),(by simp[Bh,SP.need,Ay,L,Z,G,J,K,O,hn13,hnd6,hnds10]),d.exm,⟨d.f0,tQ⟩⟩)));refine Aa 6 [] (λ_=>AN 145 C C (λh17=>?_) (λh17=>?_));obtain rfl:=beq_iff_eq.1 h17;refine Aa 2 [] (λ_=>Aa 4 [1] (y<|λ_=>AZ C C (eC AG C C) (λY f2 he F=>⟨C,_,f2,C,(by simp[Bh,SP.need,Ay,he,L,Z,G,J,K,O,DR]),F⟩) λhn14=>Aa 20 [] (λ_=>?_)));obtain⟨p,pk,r,rfl⟩:=Fo.cases1 l (by have:=dT hn14;omega);have hge:0<r.len:=by have G:=dT hn14;simp only[Fo.len] at G;omega
 have hlr:r.len+1≤100000:=hlen;refine vY 0 C<|Rw 1 C<|N8 0 C ?_;rintro⟨eb0,eo0,k0a,k0c⟩ rfl;refine CF [1] Al (rd [0,1,2,3,4,7,8] (.br 5 (.br 6 (.br 9 (.br 10 (.br 11 (.br 12 .fin .fin) .fin) .fin) .fin) (.br 9 (.br 6 (.br 10 (.br 11 (.br 12 .fin .fin) .fin) .fin) .fin) .fin)) .fin)) C kR<|A2 6 [0,100,0] (y<|aI (by simp only[Fo.len];omega)<|y2<|λ_=>GI C C C (λw hK=>H7 C C C Lz)<|Ag C ?_ Aj);refine Km C C (eC D1 C C) (λw f d=>ihx w f d.vl d.f5 p pk _ _ D.1 d.f0) (λ_=>⟨AH.mono,tQ⟩) (λe Y f2 he F=>⟨C,e,f2,C,(by simp[Bh,SP.need,Ay,he,L,Z,G,J,K,O,DR,hn14]),F⟩) ?_;rintro⟨U,and7,cnd7⟩ hnd7;dsimp only at hnd7 ⊢;refine Aa 1 [] (λ_=>Au [1] C<|Ag C ?_ ?_);refine Aa 2 [] (λb8=>λ_=>Au [2] C<|Ag C ?_ Aj);refine YP C C (eC Dp C C) (λw f d=>HA 111 Nk (Gp (n+1) (BG (n+1))) (GR n) (λw f hv hJ t k a c hd hT=>iha w f hv hJ t k a c hd hT) w f d.vl d.f6 r _ _ D.2 oM d.f4) (λ_=>⟨Cd.mono,tQ⟩) (λe Y f2 he F=>⟨C,e,f2,C,(by simp[Bh,SP.need,Ay,he,L,Z,G,J,K,O,DR,hn14,hnd7]),F⟩) ?_;rintro⟨nds12,xnds12⟩ ands12 cnds12 hnds12;dsimp only at hnds12 ⊢;have hnl:=Eh hnds12;refine Jf (p:=∃rb,ands12=some ⟨rb,0,none⟩) (λw f d=>by rcases (d.row _ (.head _)).2 with ⟨_,_,G⟩|⟨ob,_,G,_⟩;(dsimp only at G;omega);exact⟨ob,G⟩) λhob=>?_;obtain⟨rb,rfl⟩:=hob;refine pW 0 C C<|Aa 1 [] (λ_=>AY [2] Fl C (λ_ h=>.tail _ h)<|Ag C ?_ Aj);refine jN 0 6 1 C C C dC<|Jf (p:=xnds12.length=nds12.len*6∧∀v∈xnds12,v.oneCell'=true) (λw f d=>⟨Cd.len d.f0,Cd.one' d.f0⟩) λ⟨hxl,hx1⟩=>Zz 0 0 C C MM C C C C C C hxl hx1 oM (λ_ _=>C) oM oM λands13 cnds13=>D5 (λw f=>Cd w f (U.cons nds12) (KW U.op U.ln U.co U.tx U.nm and7 U.kids.len cnd7++xnds12)) (λw f d=>Cd.cons' d.f1 d.f0) Cd.mono<|P0 (λw f=>AH w f (U.cons nds12) ands13 cnds13) AH.mono (λw f d=>KH d d.f0)<|Aa 1 [] (λ_=>AY [1] Fl C (λ_ h=>.tail _ h)<|Ag C ?_ Aj);refine Dm C C (eC Bj C C) (λw f d=>A8 _ t _ _ _ _ _ _)<|Aa 1 [] (λ_=>AY [1] Fl C (λ_ h=>.tail _ h)<|Ag C ?_ Aj);exact Aa 2 [0] (y<|λ_=>AY [1] Fl C (λ_ h=>.tail _ h)<|Bm<|Aa 4 [] (λ_=>AR (λw f d=>AE C (Ac C B6 d.k0 C)) (λw f d=>⟨(⟨15,t.ln,t.co,[],0,(U.cons nds12)⟩,ands13,cnds13),f,(by simp[nV,Nd.app_len,N.one,N.cons,Nd.len,Nat.add_comm]),(by simp[Bh,SP.need,Ay,L,Z,G,J,K,O,DR,hn14,hnd7,hnds12]),d.exm,⟨d.f0,tQ⟩⟩)));refine Ag C ?_ Aj;refine YP C C (eC Dp C C) (λw f d=>HA 111 Nk (Gp (n+1) (BG (n+1))) (GR n) (λw f hv hJ t k a c hd hT=>iha w f hv hJ t k a c hd hT) w f d.vl d.f6 r _ _ D.2 oM d.f4) (λ_=>⟨Cd.mono,tQ⟩) (λe Y f2 he F=>⟨C,e,f2,C,(by simp[Bh,SP.need,Ay,he,L,Z,G,J,K,O,DR,hn14,hnd7]),F⟩) ?_;rintro⟨nds14,xnds14⟩ ands14 cnds14 hnds14;dsimp only at hnds14 ⊢;have hnl:=Eh hnds14
 refine Jf (p:=∃rb,ands14=some ⟨rb,0,none⟩) (λw f d=>by rcases (d.row _ (.head _)).2 with ⟨_,_,G⟩|⟨ob,_,G,_⟩;(dsimp only at G;omega);exact⟨ob,G⟩) λhob=>?_;obtain⟨rb,rfl⟩:=hob;refine pW 0 C C<|Aa 1 [] (λ_=>AY [1] Fl C (λ_ h=>.tail _ h)<|Ag C ?_ Aj);refine Aa 2 [] (λb9=>λ_=>AY [2] Fl C (λ_ h=>.tail _ h)<|Ag C ?_ Aj);refine jN 0 6 1 C C C dC<|Jf (p:=xnds14.length=nds14.len*6∧∀v∈xnds14,v.oneCell'=true) (λw f d=>⟨Cd.len d.f0,Cd.one' d.f0⟩) λ⟨hxl,hx1⟩=>Zz 0 0 C C MM C C C C C C hxl hx1 oM (λ_ _=>C) oM oM λands15 cnds15=>D5 (λw f=>Cd w f (U.cons nds14) (KW U.op U.ln U.co U.tx U.nm and7 U.kids.len cnd7++xnds14)) (λw f d=>Cd.cons' d.f1 d.f0) Cd.mono<|P0 (λw f=>AH w f (U.cons nds14) ands15 cnds15) AH.mono (λw f d=>KH d d.f0)<|Aa 1 [] (λ_=>AY [1] Fl C (λ_ h=>.tail _ h)<|Ag C ?_ Aj);refine Dm C C (eC Bj C C) (λw f d=>A8 _ t _ _ _ _ _ _)<|Aa 1 [] (λ_=>AY [1] Fl C (λ_ h=>.tail _ h)<|Ag C ?_ Aj);exact Aa 2 [0] (y<|λ_=>AY [1] Fl C (λ_ h=>.tail _ h)<|Bm<|Aa 4 [] (λ_=>AR (λw f d=>AE C (Ac C B6 d.k0 C)) (λw f d=>⟨(⟨15,t.ln,t.co,[],0,(U.cons nds14)⟩,ands15,cnds15),f,(by simp[nV,Nd.app_len,N.one,N.cons,Nd.len,Nat.add_comm]),(by simp[Bh,SP.need,Ay,L,Z,G,J,K,O,DR,hn14,hnd7,hnds14]),d.exm,⟨d.f0,tQ⟩⟩)));refine Aa 8 [] (λ_=>AN 166 C C (λh18=>?_) (λh18=>?_));obtain rfl:=beq_iff_eq.1 h18;refine Aa 5 [] (λ_=>?_);rcases Fo.single l with ⟨p,pk,rfl⟩|hne
 refine Rw 0 C<|N8 0 C ?_;rintro⟨eb0,eo0,k0a,k0c⟩ rfl;refine Aa 4 [1] (y<|λ_=>AZ C C (eC AG C C) (λY f2 he F=>⟨C,_,f2,C,(by simp[Fo.len] at he),F⟩) λhn15=>Aa 18 [] (λ_=>CF [1] Al (rd [0,1,2,3,4] (.br 5 (.br 6 (.br 7 (.br 8 .fin .fin) .fin) .fin) .fin)) C kR<|A2 5 [0,100,0] (y<|aI (by simp only[Fo.len];omega)<|y2<|λ_=>Ag C ?_ Aj)));refine Km C C (eC D1 C C) (λw f d=>ihx w f d.vl d.f4 p pk _ _ D.1 d.f0) (λ_=>⟨AH.mono,tQ⟩) (λe Y f2 he F=>⟨C,e,f2,C,(by simp[Bh,SP.need,Ay,he,L,Z,G,J,K,O,DR,h17,hn15]),F⟩) ?_;rintro⟨nd8,and8,cnd8⟩ hnd8;dsimp only at hnd8 ⊢;refine Aa 1 [] (λ_=>Au [1] C<|Ag C ?_ Aj);refine Aa 2 [] (λb10=>λ_=>Au [2] C<|Ag C ?_ Aj);refine Dc 0 C C<|D5 (λw f=>AH w f (nd8.one) (some ⟨b10,0,none⟩) 1) (λw f d=>Cd.toF (Cd.cons' d.f0 (show Cd _ _ .nil [] from C)) d.b0 (Nat.le_refl _)) AH.mono<|Dm C C (eC Bj C C) (λw f d=>A8 _ t _ _ _ _ _ _)<|Aa 1 [] (λ_=>AY [1] Fl C (λ_ h=>.tail _ h)<|Ag C ?_ Aj);exact Aa 2 [0] (y<|λ_=>AY [1] Fl C (λ_ h=>.tail _ h)<|Bm<|Aa 4 [] (λ_=>AR (λw f d=>AE C (Ac C B6 d.k0 C)) (λw f d=>⟨(⟨16,t.ln,t.co,[],0,(nd8.one)⟩,(some ⟨b10,0,none⟩),1),f,C,(by simp[Bh,SP.need,Ay,L,Z,G,J,K,O,DR,h17,hn15,hnd8]),d.exm,⟨d.f0,tQ⟩⟩)));exact Aa 4 [1] (y<|λ_=>AZ C C (eC AG C C) (λY f2 he F=>⟨C,_,f2,C,(by rw[eN (.inl C) hne]),F⟩) λhn16=>absurd (by have G:=beq_iff_eq.1 hn16;omega) hne);refine Aa 6 [] (λ_=>AN 166 C C (λh19=>?_) (λh19=>?_));obtain rfl:=beq_iff_eq.1 h19;refine Aa 2 [] (λ_=>?_);rcases Fo.single l with ⟨p,pk,rfl⟩|hne
 refine Rw 0 C<|N8 0 C ?_;rintro⟨eb0,eo0,k0a,k0c⟩ rfl;refine Aa 4 [1] (y<|λ_=>AZ C C (eC AG C C) (λY f2 he F=>⟨C,_,f2,C,(by simp[Fo.len] at he),F⟩) λhn17=>Aa 20 [] (λ_=>CF [1] Al (rd [0,1,2,3,4] (.br 5 (.br 6 (.br 7 (.br 8 .fin .fin) .fin) .fin) .fin)) C kR<|A2 5 [0,100,0] (y<|aI (by simp only[Fo.len];omega)<|y2<|λ_=>Ag C ?_ Aj)));refine Km C C (eC D1 C C) (λw f d=>ihx w f d.vl d.f4 p pk _ _ D.1 d.f0) (λ_=>⟨AH.mono,tQ⟩) (λe Y f2 he F=>⟨C,e,f2,C,(by simp[Bh,SP.need,Ay,he,L,Z,G,J,K,O,DR,h17,h18,hn17]),F⟩) ?_;rintro⟨nd9,and9,cnd9⟩ hnd9;dsimp only at hnd9 ⊢;refine Aa 1 [] (λ_=>Au [1] C<|Ag C ?_ Aj);refine Aa 2 [] (λb11=>λ_=>Au [2] C<|Ag C ?_ Aj);refine Dc 0 C C<|D5 (λw f=>AH w f (nd9.one) (some ⟨b11,0,none⟩) 1) (λw f d=>Cd.toF (Cd.cons' d.f0 (show Cd _ _ .nil [] from C)) d.b0 (Nat.le_refl _)) AH.mono<|Dm C C (eC Bj C C) (λw f d=>A8 _ t _ _ _ _ _ _)<|Aa 1 [] (λ_=>AY [1] Fl C (λ_ h=>.tail _ h)<|Ag C ?_ Aj);exact Aa 2 [0] (y<|λ_=>AY [1] Fl C (λ_ h=>.tail _ h)<|Bm<|Aa 4 [] (λ_=>AR (λw f d=>AE C (Ac C B6 d.k0 C)) (λw f d=>⟨(⟨17,t.ln,t.co,[],0,(nd9.one)⟩,(some ⟨b11,0,none⟩),1),f,C,(by simp[Bh,SP.need,Ay,L,Z,G,J,K,O,DR,h17,h18,hn17,hnd9]),d.exm,⟨d.f0,tQ⟩⟩)));exact Aa 4 [1] (y<|λ_=>AZ C C (eC AG C C) (λY f2 he F=>⟨C,_,f2,C,(by rw[eN (.inr C) hne]),F⟩) λhn18=>absurd (by have G:=beq_iff_eq.1 hn18;omega) hne);exact Aa 7 [1] (y<|λ_=>vT C C (eC VJ C C) (pe:=λe=>e=(t.ln,t.co)) (T:=61) (λw f d=>(Jb w t _).mono (λ_ _ h=>h.elim) λ_ Y ⟨L,h2⟩=>⟨_,f,L,C,CK.of_ext h2 d.vl⟩) (λe Y f2 he F=>by subst he;exact⟨C,_,f2,C,(by simp[Bh,SP.need,Ay,L,Z,G,J,K,O,DR,h17,h18,h19]),F⟩))
theorem UC(w:wO)(d:Gl w)(tx:lU):Bq prog 57 #[S qA,S ([32]++tx++[32])] w λv w'=>v=.bool (Om tx)∧AU w w':=HW w d _ _ dC
theorem SU(n:Nat)(ih:∀n',n=n'+1→∀ (w:wO) (f:Fq) (_:Vl w f) (_:Dy w f) (t:AB) (k:Fo) (a:oA) (c:Nat),GR n' t k→Ee w f k a c→BI prog 49 #[fV t a k.len c] w (I5 (BG (n'+1) t k) w f) (IT 61 (BG (n'+1) t k) w f))(iha:∀n',n=n'+1→∀ (w:wO) (f:Fq) (_:Vl w f) (_:Dy w f) (t:AB) (k:Fo) (a:oA) (c:Nat),GR n' t k→Ee w f k a c→BI prog 111 #[fV t a k.len c] w (I5 (Gp (n'+1) (BG (n'+1)) t k) w f) (IT 61 (Gp (n'+1) (BG (n'+1)) t k) w f))(w:wO)(f:Fq)(hv:Vl w f)(hJ:Dy w f)(t:AB)(k:Fo)(ka:oA)(kc:Nat)(hp:GR n t k)(hL:Ee w f k ka kc) :
  BI prog 49 #[fV t ka k.len kc] w (I5 (BG (n+1) t k) w f) (IT 61 (BG (n+1) t k) w f):=by
 refine Pa (X:=X0 w f) (H:=[]) (R:=[]) (B:=[]) (Fs:=[λw f=>Ee w f k ka kc,λw f=>Dy w f]) (f:=f) func49 C C C (Ci hv ⟨hL,hJ,tQ⟩ ⟨Ee.mono,Dy.mono,tQ⟩)<|Aa 21 [1] (λb1=>λb2=>y<|λ_=>AN 8 C C (λD=>?_) (λD=>?_));exact Aa 16 [1,1,0] (y<|y<|y<|λ_=>AR (λw f d=>AE C (Ac C B6 d.k0 C)) (λw f d=>⟨(⟨1,t.ln,t.co,[],t.nm,.nil⟩,none,0),f,C,(by unfold BG;simp[SP.need,Ay,D]),d.exm,⟨⟨Nat.zero_le _,.inl C⟩,tQ⟩⟩));refine Aa 7 [] (λ_=>AN 17 C C (λF=>?_) (λF=>?_));exact Aa 7 [1,1] (y<|y<|λ_=>Dm C C (eC Bj C C) (λw f d=>A8 _ t _ _ _ _ _ _)<|Aa 6 [0] (y<|λ_=>AR (λw f d=>AE C (Ac C B6 d.k0 C)) (λw f d=>⟨(⟨2,t.ln,t.co,t.tx,0,.nil⟩,none,0),f,C,(by unfold BG;simp[SP.need,Ay,D,F]),d.exm,⟨⟨Nat.zero_le _,.inl C⟩,tQ⟩⟩)));refine Aa 7 [] (λ_=>AN 24 C C (λG=>?_) (λG=>?_));exact Aa 7 [1,1] (y<|y<|λ_=>Dm C C (eC Bj C C) (λw f d=>A8 _ t _ _ _ _ _ _)<|Aa 6 [0] (y<|λ_=>AR (λw f d=>AE C (Ac C B6 d.k0 C)) (λw f d=>⟨(⟨3,t.ln,t.co,t.tx,0,.nil⟩,none,0),f,C,(by unfold BG;simp[SP.need,Ay,D,F,G]),d.exm,⟨⟨Nat.zero_le _,.inl C⟩,tQ⟩⟩)));refine Aa 7 [] (λ_=>AN 31 C C (λJ=>?_) (λJ=>?_));exact Aa 7 [1,1] (y<|y<|λ_=>Dm C C (eC Bj C C) (λw f d=>A8 _ t _ _ _ _ _ _)<|Aa 6 [0] (y<|λ_=>AR (λw f d=>AE C (Ac C B6 d.k0 C)) (λw f d=>⟨(⟨6,t.ln,t.co,t.tx,0,.nil⟩,none,0),f,C,(by unfold BG;simp[SP.need,Ay,D,F,G,J]),d.exm,⟨⟨Nat.zero_le _,.inl C⟩,tQ⟩⟩)));refine Aa 7 [] (λ_=>AN 38 C C (λK=>?_) (λK=>?_));refine Aa 2 [] (λ_=>CF [0,1] Al (.rd 0 (.rd 1 (.br 2 (.br 3 .fin .fin) .fin))) C kR<|A2 2 [1,1] (y<|y<|λ_=>Ag C ?_ Aj));refine Dm C C (eC OA C C) (λw f d=>EM _ (Dy.gl d.f1) t _ hp.1.1 hp.1.2)<|Aa 1 [] (λ_=>Au [0,1] C<|Ag C ?_ Aj);exact AZ C C (eC AG C C) (λw2 f2 he L=>⟨C,_,f2,C,(by unfold BG;simp[SP.need,Ay,he,D,F,G,J,K]),L⟩) λhn1=>Aa 1 [] (λ_=>Au [0,1] C<|Bm<|Aa 7 [1,1] (y<|y<|λ_=>Dm C C (eC Bj C C) (λw f d=>A8 _ t _ _ _ _ _ _)<|Aa 6 [0] (y<|λ_=>AR (λw f d=>AE C (Ac C B6 d.k0 C)) (λw f d=>⟨(⟨5,t.ln,t.co,t.tx,0,.nil⟩,none,0),f,C,(by unfold BG;simp[SP.need,Ay,D,F,G,J,K,hn1]),d.exm,⟨⟨Nat.zero_le _,.inl C⟩,tQ⟩⟩))));refine Aa 13 [1] (y<|λ_=>AN 52 C C (λO=>?_) (λO=>?_));refine Aa 2 [] (λ_=>?_);obtain rfl:k=.nil:=Fo.len0 (by have h9:((k.len:Int)==0)=true:=O;have:=beq_iff_eq.1 h9;omega);exact Aa 2 [1] (y<|λ_=>Dm C C (eC Bj C C) (λw f d=>A8 _ t _ _ _ _ _ _)<|Aa 5 [0] (y<|λ_=>AR (λw f d=>AE C (Ac C B6 d.k0 C)) (λw f d=>⟨(⟨4,t.ln,t.co,[],0,.nil⟩,none,0),f,C,(by unfold BG;simp[SP.need,Ay,D,F,G,J,K,O]),d.exm,⟨⟨Nat.zero_le _,.inl C⟩,tQ⟩⟩)));refine Aa 4 [] (λ_=>?_);obtain⟨h,hk,r,rfl⟩:=Fo.cases1 k (by have h9:((k.len:Int)==0)=false:=O;have:=beq_eq_false_iff_ne.1 h9;omega);have hp0:=hp;obtain⟨hto,hko,hkl,hdp⟩:=hp
 have hkl2:r.len+1≤100000:=hkl;obtain⟨n,rfl⟩:∃q,n=q+1:=by cases n with|zero=>exact absurd hdp (by simp[Fo.deep])|succ q=>exact⟨q,C⟩
 have htl:=hko.1.2;refine vY 0 C<|Rw 1 C<|N8 0 C ?_;rintro⟨eb,eo,hka,hkc⟩ rfl;refine CF [0,1] Al (rd [0,1,2,3,4,5,6] (.br 7 (.br 8 (.rd 9 .fin) .fin) .fin)) C kR<|A2 6 [1,100,0,1] (y<|aI (by simp only[Fo.len];omega)<|y2<|y<|λ_=>GI C C C (λw hK=>H7 C C C Lz)<|Ag C ?_ Aj);refine Aa 2 [] (λb3=>λ_=>Au [1,2] C<|Ag C ?_ Aj);refine Aa 2 [0] (y<|λ_=>Au [1,2] C<|A2 1 [] (λ_=>Bm<|Aa 12 [0] (y<|λ_=>AN 62 C C (λQ=>?_) (λQ=>?_))));refine Aa 2 [] (λ_=>CF [0,1,2] Al (rd [0,1,2] (.br 3 (.br 4 .fin .fin) .fin)) C kR<|A2 3 [2] (y<|λ_=>Ag C ?_ Aj));refine Dm C C (eC IJ C C) (λw f d=>Dk _ _ _ _)<|Aa 1 [] (λ_=>Au [0,1,2] C<|Ag C ?_ Aj);refine AZ C C (eC AG C C) (λw2 f2 he L=>⟨C,_,f2,C,(by unfold BG;simp[SP.need,Ay,he,D,F,G,J,K,O,Q]),L⟩) λhn2=>Aa 1 [] (λ_=>Au [0,1,2] C<|Bm<|Aa 2 [] (λ_=>CF [0,2] Al (rd [0,1,2,3,4] (.br 5 (.br 6 (.br 7 .fin .fin) .fin) .fin)) C kR<|A2 5 [1,0] (y<|y<|λ_=>Ag C ?_ Aj)));refine Km C C (eC Dp C C) (λw f d=>BS 49 D1 (BG (n+1)) (GR n) (λw f hv hJ t k a c hd hT=>ih n C w f hv hJ t k a c hd hT) w f d.vl d.f5 r _ _ (D4 hp0).2 oM d.f3) (λ_=>⟨AH.mono,tQ⟩) (λe w2 f2 he L=>⟨C,e,f2,C,(by unfold BG;simp[SP.need,Ay,he,D,F,G,J,K,O,Q,hn2]),L⟩) ?_;rintro⟨⟨nds1,xnds1⟩,ands1,cnds1⟩ U;dsimp only at U ⊢;refine Aa 1 [] (λ_=>Au [0,2] C<|Ag C ?_ Aj);refine Dm C C (eC Bj C C) (λw f d=>A8 _ t _ _ _ _ _ _)<|Aa 1 [] (λ_=>Au [0,2] C<|Ag C ?_ Aj);exact Aa 2 [1] (y<|λ_=>Au [0,2] C<|Bm<|Aa 4 [] (λ_=>AR (λw f d=>AE C (Ac C B6 d.k1 C)) (λw f d=>⟨(⟨6,t.ln,t.co,h.tx,0,nds1⟩,ands1,cnds1),f,C,(by unfold BG;simp[SP.need,Ay,D,F,G,J,K,O,Q,hn2,U]),d.exm,⟨d.f0,tQ⟩⟩)));refine Aa 4 [0] (y<|λ_=>Dm C C (eC gW C C) (λw f d=>Gr _ h _)<|Aa 1 [] (λ_=>AN 82 C C (λh8=>?_) (λh8=>?_)));refine Aa 5 [0] (y<|aI (by simp <;> omega)<|aI (by simp <;> omega)<|λ_=>Dm C C (eC QT C C) (λw f d=>UC _ (Dy.gl d.f5) h.tx)<|Aa 4 [] (λ_=>AN 79 C C (λh9=>?_) (λh9=>?_)));refine Aa 8 [2,0] (y<|y<|λ_=>?_);refine Km C C (eC rB C C) (λw f d=>YF n (ih n C) (iha n C) w f d.vl d.f5 t (.cons h hk r) _ _ h.tx r _ _ (D4 hp0).2 oM d.f3) (λ_=>⟨AH.mono,tQ⟩) (λe w2 f2 he L=>⟨C,e,f2,C,(by unfold BG;simp[SP.need,Ay,he,D,F,G,J,K,O,Q,h8,h9]),L⟩) ?_;rintro⟨nd1,and1,cnd1⟩ hnd1;dsimp only at hnd1 ⊢;exact Aa 6 [1] (y<|λ_=>AR (λw f d=>AE C (Ac C B6 d.k1 C)) (λw f d=>⟨(nd1,and1,cnd1),f,C,(by unfold BG;simp[SP.need,Ay,D,F,G,J,K,O,Q,h8,h9,hnd1]),d.exm,⟨d.f0,tQ⟩⟩));refine Aa 5 [] (λ_=>CF [0,1,2] Al (rd [0,1,2] (.br 3 (.br 4 .fin .fin) .fin)) C kR<|A2 3 [2] (y<|λ_=>Ag C ?_ Aj));refine Dm C C (eC IJ C C) (λw f d=>Dk _ _ _ _)<|Aa 1 [] (λ_=>Au [0,1,2] C<|Ag C ?_ Aj)
 refine AZ C C (eC AG C C) (λw2 f2 he L=>⟨C,_,f2,C,(by unfold BG;simp[SP.need,Ay,he,D,F,G,J,K,O,Q,h8,h9]),L⟩) λhn3=>Aa 1 [] (λ_=>Au [0,1,2] C<|Bm<|Aa 2 [] (λ_=>CF [0,2] Al (rd [0,1,2] (.br 3 (.br 4 (.br 5 .fin .fin) .fin) .fin)) C kR<|A2 3 [1,1] (y<|y<|λ_=>Ag C ?_ Aj)));refine Km C C (eC Dp C C) (λw f d=>BS 49 D1 (BG (n+1)) (GR n) (λw f hv hJ t k a c hd hT=>ih n C w f hv hJ t k a c hd hT) w f d.vl d.f5 (.cons h hk r) _ _ (D4 hp0) hkl d.f4) (λ_=>⟨AH.mono,tQ⟩) (λe w2 f2 he L=>⟨C,e,f2,C,(by unfold BG;simp[SP.need,Ay,he,D,F,G,J,K,O,Q,h8,h9,hn3]),L⟩) ?_;rintro⟨⟨nds2,xnds2⟩,ands2,cnds2⟩ Y;dsimp only at Y ⊢;refine Aa 1 [] (λ_=>Au [0,2] C<|Ag C ?_ Aj);refine Dm C C (eC Bj C C) (λw f d=>A8 _ t _ _ _ _ _ _)<|Aa 1 [] (λ_=>Au [0,2] C<|Ag C ?_ Aj);exact Aa 2 [1] (y<|λ_=>Au [0,2] C<|Bm<|Aa 2 [] (λ_=>AR (λw f d=>AE C (Ac C B6 d.k1 C)) (λw f d=>⟨(⟨8,t.ln,t.co,[],0,nds2⟩,ands2,cnds2),f,C,(by unfold BG;simp[SP.need,Ay,D,F,G,J,K,O,Q,h8,h9,hn3,Y]),d.exm,⟨d.f0,tQ⟩⟩)));refine Aa 15 [] (λ_=>CF [0,1,2] Al (rd [0,1,2] (.br 3 (.br 4 .fin .fin) .fin)) C kR<|A2 3 [2] (y<|λ_=>Ag C ?_ Aj));refine Dm C C (eC IJ C C) (λw f d=>Dk _ _ _ _)<|Aa 1 [] (λ_=>Au [0,1,2] C<|Ag C ?_ Aj);refine AZ C C (eC AG C C) (λw2 f2 he L=>⟨C,_,f2,C,(by unfold BG;simp[SP.need,Ay,he,D,F,G,J,K,O,Q,h8]),L⟩) λhn4=>Aa 1 [] (λ_=>Au [0,1,2] C<|Bm<|Aa 2 [] (λ_=>CF [0,2] Al (rd [0,1,2] (.br 3 (.br 4 (.br 5 .fin .fin) .fin) .fin)) C kR<|A2 3 [1,1] (y<|y<|λ_=>Ag C ?_ Aj)));refine Km C C (eC Dp C C) (λw f d=>BS 49 D1 (BG (n+1)) (GR n) (λw f hv hJ t k a c hd hT=>ih n C w f hv hJ t k a c hd hT) w f d.vl d.f5 (.cons h hk r) _ _ (D4 hp0) hkl d.f4) (λ_=>⟨AH.mono,tQ⟩) (λe w2 f2 he L=>⟨C,e,f2,C,(by unfold BG;simp[SP.need,Ay,he,D,F,G,J,K,O,Q,h8,hn4]),L⟩) ?_;rintro⟨⟨nds3,xnds3⟩,ands3,cnds3⟩ Z;dsimp only at Z ⊢;refine Aa 1 [] (λ_=>Au [0,2] C<|Ag C ?_ Aj);refine Dm C C (eC Bj C C) (λw f d=>A8 _ t _ _ _ _ _ _)<|Aa 1 [] (λ_=>Au [0,2] C<|Ag C ?_ Aj);exact Aa 2 [1] (y<|λ_=>Au [0,2] C<|Bm<|Aa 2 [] (λ_=>AR (λw f d=>AE C (Ac C B6 d.k1 C)) (λw f d=>⟨(⟨8,t.ln,t.co,[],0,nds3⟩,ands3,cnds3),f,C,(by unfold BG;simp[SP.need,Ay,D,F,G,J,K,O,Q,h8,hn4,Z]),d.exm,⟨d.f0,tQ⟩⟩)))
end Go.Proofs.YtelmolopaolbcaaGreatDoor
namespace Go.SP
open Go.SW Go.RowKit
def ME(l:List lU):List (lU×Value):=l.map λk=>(k,.bool true)
theorem X6(n:lU):∀l:List lU,ER (ME l) n=if l.contains n then some (.bool true) else none
 | []=>rfl
 |k::l=>by
   have:=X6 n l;simp only[ME,List.map,ER,List.contains_cons] at this ⊢
   by_cases hk:n=k
   · subst hk;simp
   · have e:(n==k)=false:=by simpa using hk
     rw[e,this];simp
theorem lkSD(n:lU)(l:List lU):(ER (ME l) n).getD (.bool false)=.bool (l.contains n):=by rw[X6];cases l.contains n <;> rfl
theorem lkS0{n:lU}{l:List lU}(h:l.contains n=false):ER (ME l) n=none:=by rw[X6,h];rfl
theorem tH:∀{l:List lU},l.Nodup→Jp (ME l)
 | [],_=>trivial
 |k::l,h=>⟨by
     have d:=List.nodup_cons.1 h;show ER (ME l) k=none;rw[X6,if_neg];simpa using d.1,tH (List.nodup_cons.1 h).2⟩
abbrev K1(m:Nat)(l:List lU):wO→Fq→Prop:=λw _=>BM BQ w m (ME l)
variable {m:Nat}
theorem Jq{l:List lU}:FD (λb=>b=m) (K1 m l):=λ_ _ _ _ h _ d=>h.heap (d m C)
section
variable{s s0 s2:List lU}{op ln co nm:Int}{tx:lU}{k k0 r:Nd}
theorem X2(h:(op==22)=false):BD s (.cons op ln co tx nm k .nil)=BD s k:=by
 simp only[BD,h];show (match BD s k with|none=>none|some s2=>some s2)=_
 cases BD s k <;> rfl
theorem TV(h:(op==22)=true)(d:s.contains tx=false):BD s (.cons op ln co tx nm k .nil)=BD (tx::s) k:=by
 simp only[BD,h,d];show (match BD (tx::s) k with|none=>none|some s2=>some s2)=_
 cases BD (tx::s) k <;> rfl
theorem dU(h:(op==22)=true)(d:s.contains tx=true):BD s (.cons op ln co tx nm k .nil)=none:=by
 simp only[BD,h,d];rfl
theorem Qt(hk:BD s0 k0=BD s (.cons op ln co tx nm k r))(h:(BD s (.cons op ln co tx nm k .nil)).isSome=true)(D:∀s',BD s (.cons op ln co tx nm k .nil)=some s'→s'=s2):BD s0 k0=BD s2 r:=by
 obtain⟨s',d⟩:=Option.isSome_iff_exists.1 h;obtain rfl:=D s' d;rw[hk,OZ,d]
theorem Tp(hk:BD s0 k0=BD s (.cons op ln co tx nm k r))(h:(BD s (.cons op ln co tx nm k .nil)).isSome=false):BD s0 k0=none:=by
 rw[hk,OZ]
 cases d:BD s (.cons op ln co tx nm k .nil) with
 |none=>rfl
 |some _=>rw[d] at h;cases h
end
def qO(P:Program)(d:FuncId)(n:Nat):Prop:=∀(w:wO)(f:Fq)(_:Vl w f)(m:Nat)(seen:List lU),K1 m seen w f→f m=0→seen.Nodup→∀(op ln co nm:Int)(tx:lU)(kids:Nd)(D:oA)(nc:Nat),kids.size<n→kids.len≤100000∧kids.ok→AH w f kids D nc →
 Bq P d #[.agg #[.int .i64 op,.int .i64 ln,.int .i64 co,S tx,.int .i64 nm,.slice D kids.len nc],.map (some m)] w (KB (α:=List lU) (λ_=>.bool (BD seen (.cons op ln co tx nm kids .nil)).isSome) (λs=>(∀s',BD seen (.cons op ln co tx nm kids .nil)=some s'→s'=s)∧s.Nodup) (λb=>b=m) (λ_ b=>b=m) (λs=>K1 m s) (λ_=>[]) w f)
theorem Fo.all_imp{p q:AB→Fo→Prop}(h:∀t k,p t k→q t k):∀{d:Fo},d.all p→d.all q
 |.nil,_=>trivial
 |.cons _ _ _,D=>⟨h _ _ D.1,Fo.all_imp h D.2⟩
theorem jO:∀{n:Nat}{t:AB}{k:Fo},GR n t k→k.all (GR n)
 |0,_,.nil,_=>trivial
 |0,_,.cons _ _ _,h=>absurd h.2.2.2 (by simp[Fo.deep])
 |_+1,_,_,h=>Fo.all_imp (λ_ _ h=>Sr h) (D4 h)
theorem WM{n:Nat}{ex:AB→Fo→R N}{t:AB}{k:Fo}(h:k.len≠2):Gp n ex t k=.error (t.ln,t.co):=by
 unfold Gp
 split
 · simp[Fo.len] at h
 · rfl
end Go.SP
namespace Go.SP
open Go.SW Go.RowKit
theorem Nd.getN(i:Nat)(x:Nd)(h:i<x.len):∃q:N,x.drop i=q.cons (x.drop (i+1)) :=
 let ⟨op,ln,co,tx,nm,k,e⟩:=Nd.drop_lt i x h
 ⟨⟨op,ln,co,tx,nm,k⟩,e⟩
variable {f:Fq}{i:Nat}{a:oA}{w:wO}
theorem AV.elem{q:N}:∀{i:Nat}{k:Nd}{j:Nat},AV w f a j k→k.drop i=q.cons (k.drop (i+1))→∃b off ka kc,a=some ⟨b,off,none⟩∧Cs w f b (off+(j+i)*6) (KW q.op q.ln q.co q.tx q.nm ka q.kids.len kc)∧AH w f q.kids ka kc
 |0,k,j,h,e=>by
   have e:k=q.cons (k.drop 1):=e;rw[e] at h;obtain⟨b,off,ka,kc,d,D,F,-⟩:=AV.head h;exact⟨b,off,ka,kc,d,D,F⟩
 |_+1,.nil,_,_,e=>by cases e
 |i+1,.cons _ _ _ _ _ _ r,j,h,e=>by
   obtain⟨_,_,_,_,_,_,_,G⟩:=AV.head h;have:=AV.elem (i:=i) (k:=r) G e;rwa[show j+1+i=j+(i+1) by omega] at this
theorem AH.elem{q:N}{c:Nat}{k:Nd}(h:AH w f k a c)(e:k.drop i=q.cons (k.drop (i+1))):∃b off ka kc,a=some ⟨b,off,none⟩∧Cs w f b (off+i*6) (KW q.op q.ln q.co q.tx q.nm ka q.kids.len kc)∧AH w f q.kids ka kc:=by
 have:=AV.elem (AH.at h) e;rwa[Nat.zero_add] at this
end Go.SP
namespace Go.SP
theorem Fo.nc:∀k:Fo,k=.nil∨∃h hk r,k=.cons h hk r
 |.nil=>.inl C
 |.cons h hk r=>.inr ⟨h,hk,r,C⟩
theorem Fo.most:∀l:Fo,(∃a d b bk c D r,l=.cons a d (.cons b bk (.cons c D r)))∨l.len<3
 |.nil=>.inr (by simp[Fo.len])
 |.cons _ _ .nil=>.inr (by simp[Fo.len])
 |.cons _ _ (.cons _ _ .nil)=>.inr (by simp[Fo.len])
 |.cons a d (.cons b bk (.cons c D r))=>.inl ⟨a,d,b,bk,c,D,r,C⟩
section
variable{n:Nat}{t h:AB}{hk l:Fo}{b:Bool}{X:R N}
theorem Ir(d:X=.error (t.ln,t.co)):SP.need t b X=.error (t.ln,t.co):=by subst d;cases b <;> rfl
theorem lY(hw:h.tx=[100,97,116,97])(d:l.len<3):Co n t (.cons h hk l)=.error (t.ln,t.co):=by
 unfold Co;refine Ir ?_;rw[if_pos (by rw[hw];decide)]
 split
 · simp[Fo.len] at d;omega
 · rfl
theorem lN(hw:h.tx=[114,111,111,116])(d:l.len≠3):Co n t (.cons h hk l)=.error (t.ln,t.co):=by
 unfold Co;refine Ir ?_;rw[if_neg (by rw[hw];decide),if_pos (by rw[hw];decide)]
 split
 · simp[Fo.len] at d
 · rfl
theorem uF(hw:h.tx=[100,101,102])(d:l.len≠2):Co n t (.cons h hk l)=.error (t.ln,t.co):=by
 unfold Co;refine Ir ?_;rw[if_neg (by rw[hw];decide),if_neg (by rw[hw];decide),if_pos (by rw[hw];decide)]
 split
 · simp[Fo.len] at d
 · rfl
theorem wA(hw:h.tx=[114,101,99])(d:l.len≠2):Co n t (.cons h hk l)=.error (t.ln,t.co):=by
 unfold Co;refine Ir ?_;rw[if_neg (by rw[hw];decide),if_neg (by rw[hw];decide),if_neg (by rw[hw];decide),if_pos (by rw[hw];decide)]
 split
 · simp[Fo.len] at d
 · rfl
theorem tm_do(hw:h.tx=[100,111])(d:l.len≠1):Co n t (.cons h hk l)=.error (t.ln,t.co):=by
 unfold Co;refine Ir ?_;rw[if_neg (by rw[hw];decide),if_neg (by rw[hw];decide),if_neg (by rw[hw];decide),if_neg (by rw[hw];decide),if_pos (by rw[hw];decide)]
 split
 · simp[Fo.len] at d
 · rfl
theorem Vg(d:(h.tx==[100,97,116,97])=false)(D:(h.tx==[114,111,111,116])=false)(F:(h.tx==[100,101,102])=false)(G:(h.tx==[114,101,99])=false)(J:(h.tx==[100,111])=false):Co n t (.cons h hk l)=.error (t.ln,t.co):=by
 unfold Co;refine Ir ?_;simp only[d,D,F,G,J];rfl
end
end Go.SP
namespace Go.SP
open Go.SW Go.RowKit
variable {σ:Bf}{f:Fq}{i o off:Nat}{lo x:Operand}{P:Program}{T e ty:tI}{w:wO}
theorem Fm.toF{b c:Nat}{k:Fo}(h:Fm w f (some ⟨b,o,none⟩) i k)(d:k.len≤c):Ee w f k (some ⟨b,o+i*6,none⟩) c:=⟨d,h.imp id λ⟨_,_,D,F⟩=>⟨b,o+i*6,C,by cases D;exact F⟩⟩
theorem bP{k len b c:Nat}(m:Nat)(D:len=m+2)(F:ev σ x=some (.slice (some ⟨b,off,none⟩) len c))(d:ev σ lo=some (.int .i64 2))(G:c≠2)(J:Je P T=some (e,k)):AK P σ (.slice T x (some lo) none none) ty w (.slice (some ⟨b,off+2*k,none⟩) m (c-2)) w:=by
 subst D;exact bT F d J G
section
variable{bk q vk:Fo}{v:AB}{vs:Nd}
theorem nJ(h:Bk bk=match Bk (.cons v vk q) with|none=>none|some x=>some (vs.app x))(D:v.isTypeVar=true):Bk bk=match Bk q with|none=>none|some x=>some ((vs.app (Ay v 31 v.tx .nil).one).app x):=by
 rw[h]
 cases d:Bk q with
 |none=>rw[T4 d]
 |some x=>rw[UY D d];simp only[Nd.app_assoc];rfl
theorem rY(h:Bk bk=match Bk (.cons v vk q) with|none=>none|some x=>some (vs.app x))(d:v.isTypeVar=false):Bk bk=none:=by rw[h,Wl d]
theorem ZX:Bk bk=match Bk bk with|none=>none|some x=>some (Nd.nil.app x):=by cases Bk bk <;> rfl
theorem rM(h:Bk bk=match Bk .nil with|none=>none|some x=>some (vs.app x)):Bk bk=some vs:=by rw[h];show some (vs.app .nil)=_;rw[Nd.app_nil]
end
end Go.SP
namespace Go.Proofs.YtelmolopaolbcaaGreatDoor
open Go.SW Go.SP Go.RowKit Go.Proofs.Tryz
theorem YA(n:Nat)(ih:qO prog 134 n)(w:wO)(f:Fq)(hv:Vl w f)(m:Nat)(seen:List lU)(hS:K1 m seen w f)(hf:f m=0)(hnd:seen.Nodup)(op ln co nm:Int)(tx:lU)(kids:Nd)(na:oA)(nc:Nat)(hm:kids.size<n+1)(hok:kids.len≤100000∧kids.ok)(hN:AH w f kids na nc) :
  Bq prog 134 #[.agg #[iV op,iV ln,iV co,S tx,iV nm,.slice na kids.len nc],.map (some m)] w (KB (α:=List lU) (λ_=>.bool (BD seen (.cons op ln co tx nm kids .nil)).isSome) (λs=>(∀s',BD seen (.cons op ln co tx nm kids .nil)=some s'→s'=s)∧s.Nodup) (λb=>b=m) (λ_ b=>b=m) (λs=>K1 m s) (λ_=>[]) w f):=by
 have hkl:=hok.1;refine Cw (X:=⟨λb=>b=m,λb=>b=m,K1 m seen,w,f⟩) (H:=[]) (R:=[]) (B:=[]) (Fs:=[λw f=>AH w f kids na nc]) (f:=f) func134 C C C (Te (M:=λb=>b=m) hv hS Jq (λb hb=>by subst hb;exact⟨BM.lt hS,hf⟩) ⟨hN,tQ⟩ ⟨AH.mono,tQ⟩)<|Aa 14 [0] (λb1=>y<|λ_=>AN 9 C C (λh1=>?_) (λh1=>?_));refine Aa 7 [0] (y<|λ_=>Dn C C (λw f d=>M8 (K:=BQ) (a:=tx) C C Xf Gt jW d.res (tH hnd) (lkSD tx seen))<|Aa 2 [] (λ_=>AN 13 C C (λh2=>?_) (λh2=>?_)));refine Aa 9 [] (λ_=>?_);have D:=dU (ln:=ln) (co:=co) (nm:=nm) (k:=kids) h1 h2;exact AR (CY C C) (λw f d=>⟨seen,f,(by rw[D];rfl),⟨(λs' h=>by rw[D] at h;cases h <;> rfl),hnd⟩,d.exm,(λb h=>.inl h),d.res,tQ⟩);refine Aa 7 [0] (y<|λ_=>cN (K:=BQ) (a:=tx) (l:=ME seen) (I':=K1 m (tx::seen)) C C C C Xf Gt C (tH hnd) (lkS0 h2) (λw f h=>h) (λw f w2 h d hC hm=>hm) Jq<|Aa 12 [0] (y<|λ_=>?_));refine FG (α:=Nat×Nd×List lU) (λx=>x.2.1.len) (λx=>x.1+x.2.1.len=kids.len∧BD (tx::seen) kids=BD x.2.2 x.2.1∧x.2.2.Nodup∧x.2.1.ok∧x.2.1.size≤kids.size) (λx=>(E4 1 (.map (some m)) 18 (.slice na kids.len nc) 19 (iV (kids.len:Int)) 20 (iV (x.1:Int)))) (λx=>⟨λb=>b=m,λb=>b=m,K1 m x.2.2,w,f⟩) (λx=>[]) (λx=>[]) (λx=>[]) (λx=>[λw f=>AV w f na x.1 x.2.1]) (0,kids,(tx::seen)) ⟨Nat.zero_add _,C,(List.nodup_cons.2 ⟨by simpa using h2,hnd⟩),hok.2,Nat.le_refl _⟩ lE (λw f d=>d.more (B':=[]) (F':=[λw f=>AV w f na 0 kids]) nE (AI.mem ⟨AH.at d.f0,tQ⟩) (Aw.mem ⟨AV.mono,tQ⟩) |>.less (.cons _ sR) sR nE (mR [0])) ?_;rintro⟨i,r,s⟩ ⟨hi,hk,J,F,L⟩;dsimp only at hi hk J F L ⊢;refine Aa 6 [] (λ_=>AN 21 C C (λh3=>?_) (λh3=>?_));refine Aa 6 [] (λ_=>?_);have hil:i<kids.len:=by have:=dT h3;omega
 obtain⟨O,Q,U,Y,Z,k2,r,rfl⟩:=Nd.cases1 r oM;have hi2:i+(r.len+1)=kids.len:=hi;refine IA 0 C ?_;rintro⟨eb,eo,ka,kc⟩ rfl;refine Aa 11 [100,0,0,0] (aI oM<|y2<|λb2=>y<|y<|λ_=>Wf (α:=List lU) (XX:=λ_ _=>False) C C (eC Sa C C) (λw f d=>(ih w f d.vl m s d.res (d.mi m C).2.1 J O Q U Z Y k2 ka kc (by have D:(Nd.cons O Q U Y Z k2 r).size≤kids.size:=L;simp only[Nd.size] at D;omega) ⟨F.1,F.2.1⟩ d.f0).retP) (λ_=>Jq) (λ_=>trivial) (λ_ _ _ _ _ h=>h.elim) ?_);rintro s2 ⟨hs2,G⟩;refine Aa 3 [] (λ_=>AN 27 C C (λh4=>?_) (λh4=>?_));replace h4:=FE h4;refine Aa 9 [] (λ_=>Z0<|Aa 2 [] (λ_=>?_));have D:=(TV (ln:=ln) (co:=co) (nm:=nm) (k:=kids) h1 h2).trans (Tp hk h4);exact AR (CY C C) (λw f d=>⟨s2,f,(by rw[D];rfl),⟨(λs' h=>by rw[D] at h;cases h <;> rfl),G⟩,d.exm,(λb h=>.inl h),d.res,tQ⟩);replace h4:=FO h4;exact Aa 8 [] (aI ⟨oM,oM⟩<|λ_=>Df ((i+1,r,s2)) (show r.len<r.len+1 from Nat.lt_succ_self _) ⟨show i+1+r.len=_ by omega,Qt hk h4 hs2,G,F.2.2,show r.size≤kids.size by have D:(Nd.cons O Q U Y Z k2 r).size≤kids.size:=L;simp only[Nd.size] at D;omega⟩ lE (λw f d=>⟨_,d.less (.cons _ sR) sR nE (mR [1])⟩));refine Aa 3 [] (λ_=>Fh<|Aa 8 [] (λ_=>?_));obtain rfl:r=.nil:=Nd.len0 (by have:=dF h3;omega);have D:=(TV (ln:=ln) (co:=co) (nm:=nm) (k:=kids) h1 h2).trans (hk.trans (show BD s .nil=some s from C));exact AR (CY C C) (λw f d=>⟨s,f,(by rw[D];rfl),⟨(λs' h=>by rw[D] at h;cases h <;> rfl),J⟩,d.exm,(λb h=>.inl h),d.res,tQ⟩);refine Aa 13 [0] (y<|λ_=>?_);refine FG (α:=Nat×Nd×List lU) (λx=>x.2.1.len) (λx=>x.1+x.2.1.len=kids.len∧BD seen kids=BD x.2.2 x.2.1∧x.2.2.Nodup∧x.2.1.ok∧x.2.1.size≤kids.size) (λx=>(E4 1 (.map (some m)) 18 (.slice na kids.len nc) 19 (iV (kids.len:Int)) 20 (iV (x.1:Int)))) (λx=>⟨λb=>b=m,λb=>b=m,K1 m x.2.2,w,f⟩) (λx=>[]) (λx=>[]) (λx=>[]) (λx=>[λw f=>AV w f na x.1 x.2.1]) (0,kids,seen) ⟨Nat.zero_add _,C,hnd,hok.2,Nat.le_refl _⟩ lE (λw f d=>d.more (B':=[]) (F':=[λw f=>AV w f na 0 kids]) nE (AI.mem ⟨AH.at d.f0,tQ⟩) (Aw.mem ⟨AV.mono,tQ⟩) |>.less (.cons _ sR) sR nE (mR [0])) ?_;rintro⟨i,r,s⟩ ⟨hi,hk,J,F,L⟩;dsimp only at hi hk J F L ⊢;refine Aa 6 [] (λ_=>AN 21 C C (λh5=>?_) (λh5=>?_));refine Aa 6 [] (λ_=>?_);have hil:i<kids.len:=by have:=dT h5;omega
 obtain⟨O,Q,U,Y,Z,k2,r,rfl⟩:=Nd.cases1 r oM;have hi2:i+(r.len+1)=kids.len:=hi;refine IA 0 C ?_;rintro⟨eb,eo,ka,kc⟩ rfl;refine Aa 11 [100,0,0,0] (aI oM<|y2<|λb3=>y<|y<|λ_=>Wf (α:=List lU) (XX:=λ_ _=>False) C C (eC Sa C C) (λw f d=>(ih w f d.vl m s d.res (d.mi m C).2.1 J O Q U Z Y k2 ka kc (by have D:(Nd.cons O Q U Y Z k2 r).size≤kids.size:=L;simp only[Nd.size] at D;omega) ⟨F.1,F.2.1⟩ d.f0).retP) (λ_=>Jq) (λ_=>trivial) (λ_ _ _ _ _ h=>h.elim) ?_);rintro s2 ⟨hs2,G⟩;refine Aa 3 [] (λ_=>AN 27 C C (λh6=>?_) (λh6=>?_));replace h6:=FE h6;refine Aa 9 [] (λ_=>Z0<|Aa 2 [] (λ_=>?_));have D:=(X2 (ln:=ln) (co:=co) (nm:=nm) (tx:=tx) (k:=kids) h1).trans (Tp hk h6);exact AR (CY C C) (λw f d=>⟨s2,f,(by rw[D];rfl),⟨(λs' h=>by rw[D] at h;cases h <;> rfl),G⟩,d.exm,(λb h=>.inl h),d.res,tQ⟩);replace h6:=FO h6;exact Aa 8 [] (aI ⟨oM,oM⟩<|λ_=>Df ((i+1,r,s2)) (show r.len<r.len+1 from Nat.lt_succ_self _) ⟨show i+1+r.len=_ by omega,Qt hk h6 hs2,G,F.2.2,show r.size≤kids.size by have D:(Nd.cons O Q U Y Z k2 r).size≤kids.size:=L;simp only[Nd.size] at D;omega⟩ lE (λw f d=>⟨_,d.less (.cons _ sR) sR nE (mR [1])⟩));refine Aa 3 [] (λ_=>Fh<|Aa 8 [] (λ_=>?_));obtain rfl:r=.nil:=Nd.len0 (by have:=dF h5;omega);have D:=(X2 (ln:=ln) (co:=co) (nm:=nm) (tx:=tx) (k:=kids) h1).trans (hk.trans (show BD s .nil=some s from C));exact AR (CY C C) (λw f d=>⟨s,f,(by rw[D];rfl),⟨(λs' h=>by rw[D] at h;cases h <;> rfl),J⟩,d.exm,(λb h=>.inl h),d.res,tQ⟩)
theorem PE:∀n,qO prog 134 n
 |0=>λw f d m seen D F G op ln co nm tx kids J nc h=>by omega
 |n+1=>λw f d m seen D F G op ln co nm tx kids J nc K L O=>YA n (PE n) w f d m seen D F G op ln co nm tx kids J nc K L O
theorem Ym(n:Nat)(ihx:∀ (w:wO) (f:Fq) (_:Vl w f) (_:Dy w f) (t:AB) (k:Fo) (a:oA) (c:Nat),GR n t k→Ee w f k a c→BI prog 49 #[fV t a k.len c] w (I5 (BG (n+1) t k) w f) (IT 61 (BG (n+1) t k) w f))(w:wO)(f:Fq)(hv:Vl w f)(hJ:Dy w f)(t:AB)(k:Fo)(ka:oA)(kc:Nat)(hp:GR n t k)(hL:Ee w f k ka kc) :
  BI prog 111 #[fV t ka k.len kc] w (I5 (Gp (n+1) (BG (n+1)) t k) w f) (IT 61 (Gp (n+1) (BG (n+1)) t k) w f):=by
 refine Pa (X:=X0 w f) (H:=[]) (R:=[]) (B:=[]) (Fs:=[λw f=>Ee w f k ka kc,λw f=>Dy w f]) (f:=f) func111 C C C (Ci hv ⟨hL,hJ,tQ⟩ ⟨Ee.mono,Dy.mono,tQ⟩)<|Aa 7 [] (λb1=>λb2=>λ_=>?_);have J:=jO hp;rcases Fo.two k with ⟨p,pk,b,bk,rfl⟩|U
 refine Rw 0 C<|N8 0 C ?_;rintro⟨eb0,eo0,k0a,k0c⟩ rfl;refine Z9 1 C ?_;rintro⟨k1a,k1c⟩;refine CF [0,1] Al (.rd 0 (.rd 1 (.br 2 (rd [3,4,5,6,7,8] (.br 9 .fin .fin)) .fin))) C kR<|A2 2 [1,1] (y<|y<|λ_=>Ag C ?_ Aj);refine Dm C C (eC Hl C C) (λw f d=>C5 _ t _)<|Aa 1 [] (λ_=>Au [0,1] C<|A2 1 [] (λ_=>Jn 7 C (λO=>?_) (λO=>?_)));refine A2 5 [1] (y<|λ_=>Ag C ?_ Aj);refine AZ C C (eC AG C C) (λY f2 he G=>⟨C,_,f2,C,(by simp[Fo.len] at he),G⟩) λL=>Aa 1 [] (λ_=>Au [0,1] C<|Bm<|Aa 7 [1,101,0] (y<|aI (by simp only[Fo.len];omega)<|y2<|λ_=>?_));refine Km C C (eC RH C C) (λw f d=>QH n w f d.vl d.f6 p pk _ _ J.1 d.f2) (λ_=>⟨AH.mono,tQ⟩) (λe Y f2 he G=>⟨C,e,f2,C,(by simp[Gp,SP.need,Ay,he,O,L]),G⟩) ?_;rintro⟨D,Z,cnd1⟩ F;dsimp only at F ⊢;refine Aa 5 [0] (λb3=>y<|λ_=>CF [0,1,2] Al (rd [0,1,2,3,4] (.br 5 (.br 6 (.br 7 .fin .fin) .fin) .fin)) C kR<|A2 5 [2,101,0,0] (y<|aI (by simp only[Fo.len];omega)<|y2<|y<|λ_=>Ag C ?_ Aj));refine yJ (K:=BQ) C C λm=>Aa 1 [] (λ_=>Au [0,1,2] C<|Ag C ?_ Aj);refine Wf (α:=List lU) (val:=λ_=>.bool (BD [] D.one).isSome) (q:=λ_=>True) (MI':=λ_ b=>b=m) (I':=λs=>K1 m s) (F':=λ_=>[]) (XX:=λ_ _=>False) C C (eC Sa C C) (λw f d=>((PE (D.kids.size+1) w f d.vl m [] d.res.2 (d.mi m (.inr C)).2.1 List.nodup_nil D.op D.ln D.co D.nm D.tx D.kids Z cnd1 (Nat.lt_succ_self _) (ZP n p pk D J.1 F) d.f0).mono λv Y ⟨x,f2,O,h2,h3,h4,h5,h6⟩=>⟨x,f2,O,tQ,h3.mono (λb hb=>.inr hb),(λb hb=>(h4 b hb).imp .inr id),h5,h6⟩).retP) (λ_=>Jq) (λ_=>trivial) (λ_ _ _ _ _ h=>h.elim) ?_;rintro s1 -;refine Aa 1 [] (λ_=>Au [0,1,2] C<|Ag C ?_ Aj);refine AZ C C (eC AG C C) (λY f2 he G=>⟨C,_,f2,C,(by simp[Gp,SP.need,Ay,he,O,L,F]),G⟩) λhn2=>Aa 1 [] (λ_=>Au [0,1,2] C<|Bm<|Aa 2 [] (λ_=>CF [0,2] Al (rd [0,1,2,3,4,5] (.br 6 (.br 7 (.br 8 (.br 9 .fin .fin) .fin) .fin) .fin)) C kR<|A2 6 [1,0,1,100,0] (y<|y<|y<|aI (by simp only[Fo.len];omega)<|y2<|λ_=>Ag C ?_ Aj)));refine Km C C (eC D1 C C) (λw f d=>ihx w f d.vl d.f7 b bk _ _ J.2.1 d.f1) (λ_=>⟨AH.mono,tQ⟩) (λe Y f2 he G=>⟨C,e,f2,C,(by simp[Gp,SP.need,Ay,he,O,L,hn2,F]),G⟩) ?_;rintro⟨nd2,and2,cnd2⟩ Q;dsimp only at Q ⊢;refine Aa 1 [] (λ_=>Au [0,2] C<|Ag C ?_ Aj);refine Aa 2 [] (λb4=>λ_=>Au [1,3] C<|Ag C ?_ Aj);refine Dc 0 C C<|D5 (λw f=>AH w f (D.cons (nd2.one)) (some ⟨b4,0,none⟩) 2) (λw f d=>Cd.toF (Cd.cons' d.f1 (Cd.cons' d.f0 (show Cd _ _ .nil [] from C))) d.b0 (Nat.le_refl _)) AH.mono<|Dm C C (eC Bj C C) (λw f d=>A8 _ t _ _ _ _ _ _)<|Aa 1 [] (λ_=>AY [0,2] Fl C (λ_ h=>.tail _ h)<|Ag C ?_ Aj)
 exact Aa 2 [1] (y<|λ_=>AY [0,2] Fl C (λ_ h=>.tail _ h)<|Bm<|Aa 2 [] (λ_=>AR (λw f d=>AE C (Ac C B6 d.k1 C)) (λw f d=>⟨(⟨18,t.ln,t.co,[],0,(D.cons (nd2.one))⟩,(some ⟨b4,0,none⟩),2),f,C,(by simp[Gp,SP.need,Ay,O,L,hn2,F,Q]),d.exm,⟨d.f0,tQ⟩⟩)));refine A2 5 [] (λ_=>Ag C ?_ Aj);refine AZ C C (eC AG C C) (λY f2 he G=>⟨C,_,f2,C,(by simp[Gp,SP.need,O]),G⟩) λhn3=>?_
 cases hn3
 refine CF [0,1] Al (.rd 0 (.rd 1 (.br 2 (rd [3,4,5,6,7,8] (.br 9 .fin .fin)) .fin))) C kR<|A2 2 [1,1] (y<|y<|λ_=>Ag C ?_ Aj);refine Dm C C (eC Hl C C) (λw f d=>C5 _ t _)<|Aa 1 [] (λ_=>Au [0,1] C<|A2 1 [] (λ_=>Jn 7 C (λh2=>?_) (λh2=>?_)));refine A2 5 [1] (y<|λ_=>Ag C ?_ Aj);exact AZ C C (eC AG C C) (λY f2 he G=>⟨C,_,f2,C,(by exact WM U),G⟩) λhn4=>absurd (by simp at hn4;omega) U;refine A2 5 [] (λ_=>Ag C ?_ Aj);refine AZ C C (eC AG C C) (λY f2 he G=>⟨C,_,f2,C,(by exact WM U),G⟩) λhn5=>?_
 cases hn5
theorem My:∀n,∀(w:wO)(f:Fq)(_:Vl w f)(_:Dy w f)(t:AB)(k:Fo)(a:oA)(c:Nat),GR n t k→Ee w f k a c→BI prog 49 #[fV t a k.len c] w (I5 (BG (n+1) t k) w f) (IT 61 (BG (n+1) t k) w f)
 |0=>SU 0 (λ_ d=>by cases d) (λ_ d=>by cases d)
 |n+1=>SU (n+1) (λn' h=>by cases h;exact My n) (λn' h=>by cases h;exact Ym n (My n))
theorem SD(n:Nat)(ih:∀n',n=n'+1→∀ (w:wO) (f:Fq) (_:Vl w f) (_:Dy w f) (t:AB) (k:Fo) (a:oA) (c:Nat),GR n' t k→Ee w f k a c→BI prog 48 #[fV t a k.len c] w (I5 (BV (n'+1) t k) w f) (IT 61 (BV (n'+1) t k) w f))(w:wO)(f:Fq)(U:Vl w f)(Y:Dy w f)(t:AB)(k:Fo)(ka:oA)(kc:Nat)(hp:GR n t k)(hL:Ee w f k ka kc) :
  BI prog 48 #[fV t ka k.len kc] w (I5 (BV (n+1) t k) w f) (IT 61 (BV (n+1) t k) w f):=by
 refine Pa (X:=X0 w f) (H:=[]) (R:=[]) (B:=[]) (Fs:=[λw f=>Ee w f k ka kc,λw f=>Dy w f]) (f:=f) func48 C C C (Ci U ⟨hL,Y,tQ⟩ ⟨Ee.mono,Dy.mono,tQ⟩)<|Aa 10 [1] (λb1=>λb2=>y<|λ_=>Dm C C (eC Hl C C) (λw f d=>C5 _ t _)<|Aa 3 [] (λ_=>AN 11 C C (λF=>?_) (λF=>?_)));replace F:=FE F;refine Aa 5 [1] (y<|λ_=>Dm C C (eC iI C C) (λw f d=>JI _ t _ hp.1.1)<|Aa 2 [] (λ_=>AN 13 C C (λh2=>?_) (λh2=>?_)));exact Aa 7 [1,1] (y<|y<|λ_=>Dm C C (eC Bj C C) (λw f d=>A8 _ t _ _ _ _ _ _)<|Aa 6 [0] (y<|λ_=>AR (λw f d=>AE C (Ac C B6 d.k0 C)) (λw f d=>⟨(⟨31,t.ln,t.co,t.tx,0,.nil⟩,none,0),f,C,(by unfold BV;simp[SP.need,Ay,F,h2]),d.exm,⟨⟨Nat.zero_le _,.inl C⟩,tQ⟩⟩)));refine Aa 4 [] (λ_=>CF [0,1] Al (.rd 0 (.rd 1 (.br 2 (.br 3 .fin .fin) .fin))) C kR<|A2 2 [1,1] (y<|y<|λ_=>Ag C ?_ Aj));refine Dm C C (eC UE C C) (λw f d=>G4 _ (Dy.gl d.f1) t _ hp.1.1 hp.1.2)<|Aa 1 [] (λ_=>Au [0,1] C<|Ag C ?_ Aj);exact AZ C C (eC AG C C) (λQ f2 he J=>⟨C,_,f2,C,(by unfold BV;simp[SP.need,Ay,he,F,h2]),J⟩) λhn1=>Aa 1 [] (λ_=>Au [0,1] C<|Bm<|Aa 7 [1,1] (y<|y<|λ_=>Dm C C (eC Bj C C) (λw f d=>A8 _ t _ _ _ _ _ _)<|Aa 5 [0] (y<|λ_=>AR (λw f d=>AE C (Ac C B6 d.k0 C)) (λw f d=>⟨(⟨32,t.ln,t.co,t.tx,0,.nil⟩,none,0),f,C,(by unfold BV;simp[SP.need,Ay,F,h2,hn1]),d.exm,⟨⟨Nat.zero_le _,.inl C⟩,tQ⟩⟩))));replace F:=FO F;refine Aa 10 [1,1] (y<|y<|λ_=>AZ C C (eC AG C C) (λQ f2 he J=>⟨C,_,f2,C,(by obtain rfl:k=.nil:=Fo.len0 (by have:=dF he;omega);unfold BV;simp[F]),J⟩) λD=>Aa 3 [] (λ_=>?_));obtain⟨h,hk,r,rfl⟩:=Fo.cases1 k (by have:=dT D;omega);have Z:=hp;obtain⟨hto,hko,hkl,hdp⟩:=hp;have hkl2:r.len+1≤100000:=hkl;obtain⟨n,rfl⟩:∃q,n=q+1:=by cases n with|zero=>exact absurd hdp (by simp[Fo.deep])|succ q=>exact⟨q,C⟩
 refine vY 0 C<|Rw 1 C<|N8 0 C ?_;rintro⟨eb,eo,hka,hkc⟩ rfl;refine CF [0,1] Al (rd [0,1,2,3,4,5,6] (.br 7 (.br 8 (.rd 9 .fin) .fin) .fin)) C kR<|A2 6 [1,100,0,1] (y<|aI (by first|(simp only[Fo.len];omega)|(dsimp only;omega)|omega)<|y2<|y<|λ_=>GI C C C (λw hK=>H7 C C C Lz)<|Ag C ?_ Aj);refine Aa 2 [] (λb3=>λ_=>Au [1,2] C<|Ag C ?_ Aj);refine Aa 2 [0] (y<|λ_=>Au [1,2] C<|A2 1 [] (λ_=>Bm<|Aa 13 [0] (y<|λ_=>Dm C C (eC KG C C) (λw f d=>D8 _ h _ _)<|Aa 3 [] (λ_=>AN 51 C C (λK=>?_) (λK=>?_)))));refine Aa 6 [2] (y<|λ_=>AZ C C (eC AG C C) (λQ f2 he J=>⟨C,_,f2,C,(by unfold BV;simp[SP.need,Ay,he,F,D,K]),J⟩) λhn3=>Aa 5 [] (λ_=>?_));refine Km C C (eC Dp C C) (λw f d=>BS 48 KM (BV (n+1)) (GR n) (λw f U Y t k a c hd hT=>ih n C w f U Y t k a c hd hT) w f d.vl d.f5 r _ _ (D4 Z).2 oM d.f3) (λ_=>⟨AH.mono,tQ⟩) (λe Q f2 he J=>⟨C,e,f2,C,(by unfold BV;simp[SP.need,Ay,he,F,D,K,hn3]),J⟩) ?_;rintro⟨⟨G,xnds1⟩,ands1,cnds1⟩ L;dsimp only at L ⊢;refine Aa 4 [] (λ_=>?_);have hnl:=Eh L;have hge:2≤r.len:=by have:=dT hn3;omega
 obtain⟨q,hq⟩:=Nd.getN (r.len-1) G oM;refine KU (α:=Nat×Nat×oA×Nat) (λx=>ands1=some ⟨x.1,x.2.1,none⟩) (λx=>[⟨x.1,x.2.1+((r.len:Int)-1).toNat*6,KW q.op q.ln q.co q.tx q.nm x.2.2.1 q.kids.len x.2.2.2⟩]) (λx=>[λw f=>AH w f q.kids x.2.2.1 x.2.2.2]) (λw f d=>let ⟨b,off,ka,kc,F,h2,K⟩:=AH.elem d.f0 hq;⟨(b,off,ka,kc),F,(λe he=>by cases he with|head=>(rw[show ((r.len:Int)-1).toNat=r.len-1 by omega];exact h2)|tail _ h=>cases h),AI.mem ⟨K,tQ⟩⟩) (λx=>Aw.mem ⟨AH.mono,tQ⟩) ?_;rintro⟨eb5,eo5,qa,qc⟩ rfl;refine Aa 19 [100,0,0] (aI ⟨oM,oM⟩<|aI (by first|(simp only[Fo.len];omega)|(dsimp only;omega)|omega)<|y2<|λb4=>y<|aI ⟨oM,oM⟩<|λ_=>?_);refine FG (α:=Nat×N×oA×Nat) (λx=>x.1) (λx=>x.1+1≤G.len∧CP t (G.drop x.1)=some x.2.1) (λx=>(E5 1 (pB b1) 2 (pB b2) 6 (.slice (some (⟨eb5,eo5,none⟩:Addr)) G.len cnds1) 7 (pB b4) 8 (iV ((x.1:Int)-1)))) (λx=>X0 w f) (λx=>[⟨b4,[iV x.2.1.op,iV x.2.1.ln,iV x.2.1.co,S x.2.1.tx,iV x.2.1.nm,.slice x.2.2.1 x.2.1.kids.len x.2.2.2],74,true⟩,⟨b2,zN,74,true⟩,⟨b1,[iV t.k,iV t.ln,iV t.co,iV t.nm,S t.tx,.slice (some (⟨eb,eo,none⟩:Addr)) (Fo.cons h hk r).len kc],110,true⟩]) (λx=>[]) (λx=>[]) (λx=>[λw f=>AH w f G (some (⟨eb5,eo5,none⟩:Addr)) cnds1,λw f=>AH w f x.2.1.kids x.2.2.1 x.2.2.2]) (r.len-1,q,qa,qc) ⟨show r.len-1+1≤G.len by omega,Ud hq oM⟩ (lu5 C C C C (Eq.trans (b:=some (Value.int .i64 ((r.len:Int)-2))) C (by dsimp only;rw[show ((r.len:Int)-2)=((r.len-1:Nat):Int)-1 by omega]))) (λw f d=>d.less (sK (sD (sK (sK sZ)))) sR nE (mR [1,0])) ?_;rintro⟨j,o,oa,oc⟩ ⟨hj,har⟩;dsimp only at hj har ⊢;refine Aa 7 [] (λ_=>AN 68 C C (λh4=>?_) (λh4=>?_));refine Aa 5 [] (λ_=>?_);obtain⟨j,rfl⟩:∃q,j=q+1:=⟨j-1,by have:=dT h4;omega⟩;obtain⟨q2,hq2⟩:=Nd.getN j G oM;refine KU (α:=Nat×Nat×oA×Nat) (λx=>(some (⟨eb5,eo5,none⟩:Addr))=some ⟨x.1,x.2.1,none⟩) (λx=>[⟨x.1,x.2.1+(((j+1:Nat):Int)-1).toNat*6,KW q2.op q2.ln q2.co q2.tx q2.nm x.2.2.1 q2.kids.len x.2.2.2⟩]) (λx=>[λw f=>AH w f q2.kids x.2.2.1 x.2.2.2]) (λw f d=>let ⟨b,off,ka,kc,F,h2,K⟩:=AH.elem d.f0 hq2;⟨(b,off,ka,kc),F,(λe he=>by cases he with|head=>(rw[show (((j+1:Nat):Int)-1).toNat=j by omega];exact h2)|tail _ h=>cases h),AI.mem ⟨K,tQ⟩⟩) (λx=>Aw.mem ⟨AH.mono,tQ⟩) ?_;rintro⟨eb6,eo6,qa2,qc2⟩ h44;obtain⟨rfl,rfl⟩:eb5=eb6∧eo5=eo6:=by cases h44;exact⟨C,C⟩
 refine CF [1,2] Al (rd [0,1,2,3,4] (.br 5 (.br 6 (.br 7 (.br 8 .fin .fin) .fin) .fin) .fin)) C kR<|A2 5 [1,100,0] (y<|aI (by first|(simp only[Fo.len];omega)|(dsimp only;omega)|omega)<|y2<|λ_=>Ag C ?_ Aj);refine Aa 2 [0] (y<|λ_=>Au [1,2] C<|Ag C ?_ Aj);refine Aa 2 [] (λb5=>λ_=>Au [2,3] C<|Ag C ?_ Aj);refine Dc 0 C C<|D5 (λw f=>AH w f (q2.cons (o.one)) (some ⟨b5,0,none⟩) 2) (λw f d=>Cd.toF (Cd.cons' d.f0 (Cd.cons' d.f2 (show Cd _ _ .nil [] from C))) d.b0 (Nat.le_refl _)) AH.mono<|Dm C C (eC Bj C C) (λw f d=>A8 _ t _ _ _ _ _ _)<|Aa 1 [] (λ_=>AY [1,2] Fl C (λ_ h=>.tail _ h)<|Ag C ?_ Aj);exact Aa 2 [0] (y<|λ_=>AY [1,2] Fl C (λ_ h=>.tail _ h)<|Bm<|Aa 7 [] (aI ⟨oM,oM⟩<|λ_=>Df ((j,Ay t 32 [45,62] (q2.cons o.one),(some ⟨b5,0,none⟩),2)) (Nat.lt_succ_self _) ⟨show j+1≤G.len by omega,TW hq2 har⟩ (lu5 C C C C (Eq.trans (b:=some (Value.int .i64 ((((j+1:Nat):Int)-1)-1))) C (by dsimp only;rw[show ((((j+1:Nat):Int)-1)-1)=(j:Int)-1 by omega]))) (λw f d=>⟨_,d.less (sK (sK (sK sZ))) sR nE (mR [2,0])⟩)));refine Aa 3 [] (λ_=>Fh<|Aa 11 [0,1] (y<|y<|λ_=>?_));obtain rfl:j=0:=by have:=dF h4;omega
 have har2:CP t G=some o:=har;exact AR (λw f d=>AE C (Ac C B6 d.k1 C)) (λw f d=>⟨(o,oa,oc),f,C,(by unfold BV;simp[SP.need,F,D,K,hn3,L,har2]),d.exm,⟨d.f1,tQ⟩⟩);refine Aa 4 [0] (y<|λ_=>Dm C C (eC KG C C) (λw f d=>D8 _ h _ _)<|Aa 3 [] (λ_=>AN 80 C C (λO=>?_) (λO=>?_)));refine Aa 1 [] (λ_=>CF [0,1,2] Al (.rd 0 (.rd 1 (.br 2 (.br 3 .fin .fin) .fin))) C kR<|A2 2 [2] (y<|λ_=>Ag C ?_ Aj));refine Dm C C (eC IJ C C) (λw f d=>Dk _ _ _ _)<|Aa 1 [] (λ_=>Au [0,1,2] C<|Ag C ?_ Aj);refine AZ C C (eC AG C C) (λQ f2 he J=>⟨C,_,f2,C,(by unfold BV;simp[SP.need,Ay,he,F,D,K,O]),J⟩) λhn4=>Aa 1 [] (λ_=>Au [0,1,2] C<|Bm<|Aa 3 [] (λ_=>CF [0,2] Al (rd [0,1,2,3,4] (.br 5 (.br 6 (.br 7 .fin .fin) .fin) .fin)) C kR<|A2 5 [1,0] (y<|y<|λ_=>Ag C ?_ Aj)));refine Km C C (eC Dp C C) (λw f d=>BS 48 KM (BV (n+1)) (GR n) (λw f U Y t k a c hd hT=>ih n C w f U Y t k a c hd hT) w f d.vl d.f5 r _ _ (D4 Z).2 oM d.f3) (λ_=>⟨AH.mono,tQ⟩) (λe Q f2 he J=>⟨C,e,f2,C,(by unfold BV;simp[SP.need,Ay,he,F,D,K,O,hn4]),J⟩) ?_;rintro⟨⟨nds3,xnds3⟩,ands3,cnds3⟩ hnds3;dsimp only at hnds3 ⊢;refine Aa 1 [] (λ_=>Au [0,2] C<|Ag C ?_ Aj);refine Dm C C (eC Bj C C) (λw f d=>A8 _ t _ _ _ _ _ _)<|Aa 1 [] (λ_=>Au [0,2] C<|Ag C ?_ Aj);exact Aa 2 [1] (y<|λ_=>Au [0,2] C<|Bm<|Aa 2 [] (λ_=>AR (λw f d=>AE C (Ac C B6 d.k1 C)) (λw f d=>⟨(⟨32,t.ln,t.co,h.tx,0,nds3⟩,ands3,cnds3),f,C,(by unfold BV;simp[SP.need,Ay,F,D,K,O,hn4,hnds3]),d.exm,⟨d.f0,tQ⟩⟩)));refine Aa 4 [0] (y<|λ_=>Dm C C (eC KG C C) (λw f d=>D8 _ h _ _)<|Aa 1 [] (λ_=>AN 90 C C (λh6=>?_) (λh6=>?_)));refine Aa 11 [2] (y<|λ_=>AZ C C (eC AG C C) (λQ f2 he J=>⟨C,_,f2,C,(by unfold BV;simp[SP.need,Ay,he,F,D,K,O,h6]),J⟩) λhn5=>Aa 4 [] (λ_=>CF [0,2] Al (rd [0,1,2,3,4] (.br 5 (.br 6 (.br 7 .fin .fin) .fin) .fin)) C kR<|A2 5 [1,0] (y<|y<|λ_=>Ag C ?_ Aj)));refine Km C C (eC Dp C C) (λw f d=>BS 48 KM (BV (n+1)) (GR n) (λw f U Y t k a c hd hT=>ih n C w f U Y t k a c hd hT) w f d.vl d.f5 r _ _ (D4 Z).2 oM d.f3) (λ_=>⟨AH.mono,tQ⟩) (λe Q f2 he J=>⟨C,e,f2,C,(by unfold BV;simp[SP.need,Ay,he,F,D,K,O,h6,hn5]),J⟩) ?_;rintro⟨⟨nds4,xnds4⟩,ands4,cnds4⟩ hnds4;dsimp only at hnds4 ⊢;refine Aa 1 [] (λ_=>Au [0,2] C<|Ag C ?_ Aj);refine Dm C C (eC Bj C C) (λw f d=>A8 _ t _ _ _ _ _ _)<|Aa 1 [] (λ_=>Au [0,2] C<|Ag C ?_ Aj);exact Aa 2 [1] (y<|λ_=>Au [0,2] C<|Bm<|Aa 2 [] (λ_=>AR (λw f d=>AE C (Ac C B6 d.k1 C)) (λw f d=>⟨(⟨32,t.ln,t.co,h.tx,0,nds4⟩,ands4,cnds4),f,C,(by unfold BV;simp[SP.need,Ay,F,D,K,O,h6,hn5,hnds4]),d.exm,⟨d.f0,tQ⟩⟩)));refine Aa 1 [0] (y<|λ_=>Dm C C (eC KG C C) (λw f d=>D8 _ h _ _)<|Aa 4 [] (λ_=>AN 87 C C (λh7=>?_) (λh7=>?_)))
 refine Aa 5 [2] (y<|λ_=>AZ C C (eC AG C C) (λQ f2 he J=>⟨C,_,f2,C,(by unfold BV;simp[SP.need,Ay,he,F,D,K,O,h6,h7]),J⟩) λhn6=>Aa 4 [] (λ_=>CF [0,2] Al (rd [0,1,2,3,4] (.br 5 (.br 6 (.br 7 .fin .fin) .fin) .fin)) C kR<|A2 5 [1,0] (y<|y<|λ_=>Ag C ?_ Aj)));refine Km C C (eC Dp C C) (λw f d=>BS 48 KM (BV (n+1)) (GR n) (λw f U Y t k a c hd hT=>ih n C w f U Y t k a c hd hT) w f d.vl d.f5 r _ _ (D4 Z).2 oM d.f3) (λ_=>⟨AH.mono,tQ⟩) (λe Q f2 he J=>⟨C,e,f2,C,(by unfold BV;simp[SP.need,Ay,he,F,D,K,O,h6,h7,hn6]),J⟩) ?_;rintro⟨⟨nds5,xnds5⟩,ands5,cnds5⟩ hnds5;dsimp only at hnds5 ⊢;refine Aa 1 [] (λ_=>Au [0,2] C<|Ag C ?_ Aj);refine Dm C C (eC Bj C C) (λw f d=>A8 _ t _ _ _ _ _ _)<|Aa 1 [] (λ_=>Au [0,2] C<|Ag C ?_ Aj);exact Aa 2 [1] (y<|λ_=>Au [0,2] C<|Bm<|Aa 2 [] (λ_=>AR (λw f d=>AE C (Ac C B6 d.k1 C)) (λw f d=>⟨(⟨32,t.ln,t.co,h.tx,0,nds5⟩,ands5,cnds5),f,C,(by unfold BV;simp[SP.need,Ay,F,D,K,O,h6,h7,hn6,hnds5]),d.exm,⟨d.f0,tQ⟩⟩)));refine Aa 1 [] (λ_=>CF [0,1,2] Al (.rd 0 (.rd 1 (.br 2 (.rd 3 (.rd 4 (.br 5 (.rd 6 (.br 7 .fin .fin)) .fin))) .fin))) C kR<|A2 2 [2,0] (y<|y<|λ_=>Ag C ?_ Aj));refine Dm C C (eC UE C C) (λw f d=>G4 _ (Dy.gl d.f5) h _ hko.1.1 hko.1.2)<|Aa 1 [] (λ_=>Au [0,1,2] C<|A2 1 [] (λ_=>Jn 46 C (λh8=>?_) (λh8=>?_)));refine A2 1 [] (λ_=>Ag C ?_ Aj);refine Dm C C (eC IJ C C) (λw f d=>Dk _ _ _ _)<|Aa 1 [] (λ_=>Au [0,1,2] C<|A2 1 [] (λ_=>Ag C ?_ Aj));refine AZ C C (eC AG C C) (λQ f2 he J=>⟨C,_,f2,C,(by unfold BV;simp[SP.need,Ay,he,F,D,K,O,h6,h7,h8]),J⟩) λhn7=>Aa 1 [] (λ_=>Au [0,1,2] C<|Bm<|Aa 3 [] (λ_=>CF [0,2] Al (rd [0,1,2,3,4] (.br 5 (.br 6 (.br 7 .fin .fin) .fin) .fin)) C kR<|A2 5 [1,0] (y<|y<|λ_=>Ag C ?_ Aj)));refine Km C C (eC Dp C C) (λw f d=>BS 48 KM (BV (n+1)) (GR n) (λw f U Y t k a c hd hT=>ih n C w f U Y t k a c hd hT) w f d.vl d.f5 r _ _ (D4 Z).2 oM d.f3) (λ_=>⟨AH.mono,tQ⟩) (λe Q f2 he J=>⟨C,e,f2,C,(by unfold BV;simp[SP.need,Ay,he,F,D,K,O,h6,h7,h8,hn7]),J⟩) ?_;rintro⟨⟨nds6,xnds6⟩,ands6,cnds6⟩ hnds6;dsimp only at hnds6 ⊢;refine Aa 1 [] (λ_=>Au [0,2] C<|Ag C ?_ Aj);refine Dm C C (eC Bj C C) (λw f d=>A8 _ t _ _ _ _ _ _)<|Aa 1 [] (λ_=>Au [0,2] C<|Ag C ?_ Aj);exact Aa 2 [1] (y<|λ_=>Au [0,2] C<|Bm<|Aa 2 [] (λ_=>AR (λw f d=>AE C (Ac C B6 d.k1 C)) (λw f d=>⟨(⟨32,t.ln,t.co,h.tx,0,nds6⟩,ands6,cnds6),f,C,(by unfold BV;simp[SP.need,Ay,F,D,K,O,h6,h7,h8,hn7,hnds6]),d.exm,⟨d.f0,tQ⟩⟩)));refine A2 1 [] (λ_=>Ag C ?_ Aj);refine Aa 2 [] (λ_=>Au [0,1,2] C<|A2 1 [] (λ_=>Ag C ?_ Aj));refine AZ C C (eC AG C C) (λQ f2 he J=>⟨C,_,f2,C,(by unfold BV;simp[SP.need,Ay,he,F,D,K,O,h6,h7,h8]),J⟩) λhn8=>?_
 cases hn8
theorem Mn:∀n,∀(w:wO)(f:Fq)(_:Vl w f)(_:Dy w f)(t:AB)(k:Fo)(a:oA)(c:Nat),GR n t k→Ee w f k a c→BI prog 48 #[fV t a k.len c] w (I5 (BV (n+1) t k) w f) (IT 61 (BV (n+1) t k) w f)
 |0=>SD 0 (λ_ d=>by cases d)
 |n+1=>SD (n+1) (λn' h=>by cases h;exact Mn n)
theorem Vo(n:Nat)(w:wO)(f:Fq)(Z:Vl w f)(hJ:Dy w f)(t:AB)(k:Fo)(ka:oA)(kc:Nat)(hp:GR (n+1) t k)(hL:Ee w f k ka kc) :
  BI prog 46 #[fV t ka k.len kc] w (I5 (Eo (n+1) t k) w f) (IT 61 (Eo (n+1) t k) w f):=by
 refine Pa (X:=X0 w f) (H:=[]) (R:=[]) (B:=[]) (Fs:=[λw f=>Ee w f k ka kc,λw f=>Dy w f]) (f:=f) func46 C C C (Ci Z ⟨hL,hJ,tQ⟩ ⟨Ee.mono,Dy.mono,tQ⟩)<|Aa 7 [] (λb1=>λb2=>λ_=>?_);rcases Fo.nc k with rfl|⟨h,hk,r,rfl⟩
 refine CF [0,1] Al (.rd 0 (.rd 1 (.br 2 (rd [3,4,5,6,7,8,9,10,11,12,13,14,15,16,17,18,19,20,21,22,23] (.br 24 .fin .fin)) .fin))) C kR<|A2 2 [1,1] (y<|y<|λ_=>Ag C ?_ Aj);refine Dm C C (eC Hl C C) (λw f d=>C5 _ t _)<|Aa 1 [] (λ_=>Au [0,1] C<|A2 1 [] (λ_=>Jn 6 C (λh1=>?_) (λh1=>?_)));refine A2 6 [1] (y<|λ_=>Jn 12 C (λh2=>?_) (λh2=>?_));simp[Fo.len] at h2;refine A2 14 [] (λ_=>Ag C ?_ Aj);refine AZ C C (eC AG C C) (λO f2 he D=>⟨C,_,f2,C,(by simp[Eo]),D⟩) λhn1=>?_
 cases hn1
 refine A2 20 [] (λ_=>Ag C ?_ Aj);refine AZ C C (eC AG C C) (λO f2 he D=>⟨C,_,f2,C,(by simp[Eo]),D⟩) λhn2=>?_
 cases hn2
 have hkl:=hp.2.2.1;have hkl2:r.len+1≤100000:=hkl;refine vY 0 C<|Rw 1 C<|N8 0 C ?_;rintro⟨eb,eo,hka,hkc⟩ rfl;refine CF [0,1] Al (.rd 0 (.rd 1 (.br 2 (rd [3,4,5,6,7,8,9,10,11,12,13,14,15,16,17,18,19,20,21,22,23] (.br 24 .fin .fin)) .fin))) C kR<|A2 2 [1,1] (y<|y<|λ_=>Ag C ?_ Aj);refine Dm C C (eC Hl C C) (λw f d=>C5 _ t _)<|Aa 1 [] (λ_=>Au [0,1] C<|A2 1 [] (λ_=>Jn 6 C (λK=>?_) (λK=>?_)));refine A2 6 [1] (y<|λ_=>Jn 12 C (λL=>?_) (λL=>?_));refine A2 9 [1,100,0] (y<|aI (by first|(simp only[Fo.len];omega)|omega)<|y2<|λ_=>Jn 21 C (λQ=>?_) (λQ=>?_));refine A2 5 [1] (y<|λ_=>Ag C ?_ Aj);refine AZ C C (eC AG C C) (λO f2 he D=>⟨C,_,f2,C,(by simp[Eo,SP.need,Ay,he,K,L,Q]),D⟩) λU=>Aa 1 [] (λ_=>Au [0,1] C<|Bm<|Aa 2 [] (λ_=>CF [1] Al (rd [0,1,2,3,4,5,6,7,8,9] (.br 10 (.br 11 (.br 12 .fin .fin) .fin) .fin)) C kR<|A2 9 [0,0,100,4,0] (y<|y<|aI (by first|(simp only[Fo.len];omega)|omega)<|y2<|y<|λ_=>GI C C C (λw hK=>H7 C C C Lz)<|Ag C ?_ Aj)));refine Km C C (eC Dp C C) (λw f d=>BS 48 KM (BV (n+1)) (GR n) (λw f Z hJ t k a c hd hT=>Mn n w f Z hJ t k a c hd hT) w f d.vl d.f5 r _ _ (D4 hp).2 oM d.f3) (λ_=>⟨AH.mono,tQ⟩) (λe O f2 he D=>⟨C,e,f2,C,(by simp[Eo,SP.need,Ay,he,K,L,Q,U]),D⟩) ?_;rintro⟨⟨Y,xnds1⟩,G,J⟩ F;dsimp only at F ⊢;refine Aa 1 [] (λ_=>Au [1] C<|Ag C ?_ Aj);refine Dm C C (eC Bj C C) (λw f d=>A8 _ t _ _ _ _ _ _)<|Aa 1 [] (λ_=>Au [1] C<|Ag C ?_ Aj);exact Aa 2 [0] (y<|λ_=>Au [1] C<|Bm<|Aa 2 [] (λ_=>AR (λw f d=>AE C (Ac C B6 d.k0 C)) (λw f d=>⟨(⟨42,t.ln,t.co,h.tx,0,Y⟩,G,J),f,C,(by simp[Eo,SP.need,Ay,K,L,Q,U,F]),d.exm,⟨d.f0,tQ⟩⟩)));refine A2 5 [] (λ_=>Ag C ?_ Aj);refine AZ C C (eC AG C C) (λO f2 he D=>⟨C,_,f2,C,(by simp[Eo,SP.need,Ay,he,K,L,Q]),D⟩) λhn4=>?_
 cases hn4
 have h9:=dF L;simp only[Fo.len] at h9;omega;refine A2 20 [] (λ_=>Ag C ?_ Aj);refine AZ C C (eC AG C C) (λO f2 he D=>⟨C,_,f2,C,(by simp[Eo,SP.need,Ay,he,K]),D⟩) λhn5=>?_
 cases hn5
set_option maxHeartbeats 1000000 in
theorem Yl(n:Nat)(w:wO)(f:Fq)(hv:Vl w f)(hJ:Dy w f)(t:AB)(k:Fo)(ka:oA)(kc:Nat)(hp:GR (n+1) t k)(hL:Ee w f k ka kc) :
  BI prog 20 #[fV t ka k.len kc] w (I5 (Co (n+1) t k) w f) (IT 61 (Co (n+1) t k) w f):=by
 have ihx:=My n;refine Pa (X:=X0 w f) (H:=[]) (R:=[]) (B:=[]) (Fs:=[λw f=>Ee w f k ka kc,λw f=>Dy w f]) (f:=f) func20 C C C (Ci hv ⟨hL,hJ,tQ⟩ ⟨Ee.mono,Dy.mono,tQ⟩)<|Aa 7 [] (λb1=>λb2=>λ_=>?_);rcases Fo.nc k with rfl|⟨h,hk,r,rfl⟩
 refine CF [0,1] Al (.rd 0 (.rd 1 (.br 2 (rd [3,4,5,6,7,8,9,10,11,12,13] (.br 14 (.rd 15 (.br 16 .fin .fin)) .fin)) .fin))) C kR<|A2 2 [1,1] (y<|y<|λ_=>Ag C ?_ Aj);refine Dm C C (eC Hl C C) (λw f d=>C5 _ t _)<|Aa 1 [] (λ_=>Au [0,1] C<|A2 1 [] (λ_=>Jn 11 C (λh1=>?_) (λh1=>?_)));refine A2 6 [1] (y<|λ_=>Jn 17 C (λh2=>?_) (λh2=>?_));simp[Fo.len] at h2;refine A2 4 [] (λ_=>Ag C ?_ Aj);refine Aa 2 [] (λ_=>Au [0,1] C<|A2 1 [] (λ_=>Ag C ?_ Aj));refine AZ C C (eC AG C C) (λL f2 he F=>⟨C,_,f2,C,(by simp[Co]),F⟩) λhn1=>?_
 cases hn1
 refine A2 10 [] (λ_=>Ag C ?_ Aj);refine Aa 2 [] (λ_=>Au [0,1] C<|A2 1 [] (λ_=>Ag C ?_ Aj));refine AZ C C (eC AG C C) (λL f2 he F=>⟨C,_,f2,C,(by simp[Co]),F⟩) λhn2=>?_
 cases hn2
 have hkl:=hp.2.2.1;have hkl2:r.len+1≤100000:=hkl;have D:=(D4 hp).2;refine vY 0 C<|Rw 1 C<|N8 0 C ?_;rintro⟨eb,eo,hka,hkc⟩ rfl;refine CF [0,1] Al (.rd 0 (.rd 1 (.br 2 (rd [3,4,5,6,7,8,9,10,11,12,13] (.br 14 (.rd 15 (.br 16 .fin .fin)) .fin)) .fin))) C kR<|A2 2 [1,1] (y<|y<|λ_=>Ag C ?_ Aj);refine Dm C C (eC Hl C C) (λw f d=>C5 _ t _)<|Aa 1 [] (λ_=>Au [0,1] C<|A2 1 [] (λ_=>Jn 11 C (λQ=>?_) (λQ=>?_)));refine A2 6 [1] (y<|λ_=>Jn 17 C (λU=>?_) (λU=>?_));refine A2 4 [1,100,0] (y<|aI (by first|(simp only[Fo.len];omega)|(dsimp only;omega)|omega)<|y2<|λ_=>Ag C ?_ Aj);refine Dm C C (eC gW C C) (λw f d=>Gr _ h _)<|Aa 1 [] (λ_=>Au [0,1] C<|A2 1 [] (λ_=>Ag C ?_ Aj));refine AZ C C (eC AG C C) (λL f2 he F=>⟨C,_,f2,C,(by simp[Co,SP.need,Ay,he,Q,U]),F⟩) λG=>Aa 1 [] (λ_=>Au [0,1] C<|Bm<|Aa 5 [1] (y<|λ_=>Dn C C (λw f d=>H7 C C C Lz)<|Aa 4 [] (λ_=>?_)));generalize hla:Fy (some (⟨eb,eo,none⟩:Addr)) kc 6=la;refine Aa 24 [1,100,4] (y<|aI (by first|(simp only[Fo.len];omega)|(dsimp only;omega)|omega)<|y2<|λ_=>AN 36 C C (λY=>?_) (λY=>?_));refine Aa 2 [] (λ_=>?_);rcases Fo.most r with ⟨a,ak,b,bk,c,ck,r2,rfl⟩|K
 refine Jf (p:=(Fo.cons a ak (.cons b bk (.cons c ck r2))).len≤kc-1) (λw f d=>d.f3.1) λhcap=>?_;have hcap2:r2.len+3≤kc-1:=hcap;have hkl3:r2.len+3+1≤100000:=hkl2;have hbl:bk.len≤100000:=D.2.1.2.2.1;refine Rw 3 C<|N8 0 C ?_;rintro⟨eb0,eo0,k0a,k0c⟩ rfl;refine Z9 1 C ?_;rintro⟨k1a,k1c⟩;refine CF [0,1] Al (rd [0,1,2,3,4,5,6] (.br 7 (rd [8,9,10,11,12] (.br 13 (rd [14,15,16,17,18,19,20,21,22] (.br 23 .fin .fin)) .fin)) .fin)) C kR<|A2 4 [1] (y<|λ_=>Jn 41 C (λh6=>?_) (λh6=>?_));refine A2 3 [101,0] (aI (by first|(simp only[Fo.len];omega)|(dsimp only;omega)|omega)<|y2<|λ_=>Ag C ?_ Aj);refine Dm C C (eC UE C C) (λw f d=>G4 _ (Dy.gl d.f10) a _ D.1.1.1 D.1.1.2)<|Aa 1 [] (λ_=>Au [0,1] C<|A2 2 [] (λ_=>Jn 47 C (λh7=>?_) (λh7=>?_)));refine A2 3 [100,0] (aI (by first|(simp only[Fo.len];omega)|(dsimp only;omega)|omega)<|y2<|λ_=>Ag C ?_ Aj);refine Dm C C (eC Hl C C) (λw f d=>C5 _ b _)<|Aa 1 [] (λ_=>Au [0,1] C<|A2 2 [] (λ_=>Jn 53 C (λh8=>?_) (λh8=>?_)));refine A2 7 [100,5] (aI (by first|(simp only[Fo.len];omega)|(dsimp only;omega)|omega)<|y2<|λ_=>Ag C ?_ Aj);refine AZ C C (eC AG C C) (λL f2 he F=>⟨C,_,f2,C,(by simp[Co,SP.need,Ay,he,Q,U,G,Y,h6,h7,h8]),F⟩) λhn4=>Aa 1 [] (λ_=>Au [0,1] C<|Bm<|Aa 18 [100,5] (aI (by first|(simp only[Fo.len];omega)|(dsimp only;omega)|omega)<|y2<|λ_=>D5 (λw f=>Ee w f (.cons c ck r2) (some ⟨eb0,eo0+2*6,none⟩) (kc-1-2)) (λw f d=>Fm.toF d.f1 (by show r2.len+1≤_;omega)) Ee.mono<|PA 74 6 ?_));refine FG (α:=Nat×Fo×Nd×lV×oA×Nat) (λx=>x.2.1.len) (λx=>x.1+x.2.1.len=bk.len∧x.2.2.1.len=x.1∧(Bk bk=match Bk x.2.1 with|none=>none|some y=>some (x.2.2.1.app y))∧x.2.1.all (λt _=>t.ok)) (λx=>(E7 1 (pB b1) 2 (pB b2) 3 (.slice (some (⟨eb0,eo0,none⟩:Addr)) (Fo.cons a ak (.cons b bk (.cons c ck r2))).len (kc-1)) 5 (.slice x.2.2.2.2.1 x.1 x.2.2.2.2.2) 65 (.slice k1a bk.len k1c) 66 (iV (bk.len:Int)) 67 (iV (x.1:Int)))) (λx=>X0 w f) (λx=>[⟨b2,zN,74,true⟩,⟨b1,[iV t.k,iV t.ln,iV t.co,iV t.nm,S t.tx,.slice (some (⟨eb,eo,none⟩:Addr)) (Fo.cons h hk (Fo.cons a ak (.cons b bk (.cons c ck r2)))).len kc],110,true⟩]) (λx=>[⟨74,6,x.2.2.2.2.1,x.2.2.2.2.2,x.1,x.2.2.2.1⟩]) (λx=>[]) (λx=>[λw f=>Fm w f k1a x.1 x.2.1,λw f=>Cd w f x.2.2.1 x.2.2.2.1,λw f=>Fm w f (some (⟨eb0,eo0,none⟩:Addr)) 0 (Fo.cons a ak (.cons b bk (.cons c ck r2))),λw f=>Ee w f (.cons c ck r2) (some ⟨eb0,eo0+2*6,none⟩) (kc-1-2),λw f=>Dy w f]) (0,bk,.nil,[],none,0) ⟨Nat.zero_add _,C,ZX,Fo.ok.all D.2.1.2.1⟩ lE (λw f d=>d.more (B':=[]) (F':=[λw f=>Fm w f k1a 0 bk,λw f=>Cd w f .nil []]) nE (AI.mem ⟨Ee.at d.f1,C,tQ⟩) (Aw.mem ⟨Fm.mono,Cd.mono,tQ⟩) |>.less (sK (sK sZ)) sR nE (mR [0,1,7,2,13])) ?_;rintro⟨i,q,vs,xs,ra,rc⟩ ⟨hi,hvl,htv,hqo⟩;dsimp only at hi hvl htv hqo ⊢;refine Aa 6 [] (λ_=>AN 68 C C (λZ=>?_) (λZ=>?_));refine Aa 6 [] (λ_=>?_)
 have hil:i<bk.len:=by have:=dT Z;omega
 obtain⟨v,vk,q,rfl⟩:=Fo.cases1 q oM;have hi2:i+(q.len+1)=bk.len:=hi;refine N8 0 C ?_;rintro⟨vb,vo,vka,vkc⟩ rfl;refine Aa 8 [100,0,0] (aI (by first|(simp only[Fo.len];omega)|(dsimp only;omega)|omega)<|y2<|λb3=>y<|λ_=>CF [0,1,2] Al (.rd 0 (.rd 1 (.br 2 (.br 3 .fin .fin) .fin))) C kR<|A2 2 [2,0] (y<|y<|λ_=>Ag C ?_ Aj));refine Dm C C (eC iI C C) (λw f d=>JI _ v _ hqo.1.1)<|Aa 1 [] (λ_=>Au [0,1,2] C<|Ag C ?_ Aj);exact AZ C C (eC AG C C) (λL f2 he F=>⟨C,_,f2,C,(by have Z:=rY htv he;simp[Co,SP.need,Z,Q,U,G,Y,h6,h7,h8,hn4]),F⟩) λhn5=>Aa 1 [] (λ_=>Au [0,1,2] C<|Bm<|Aa 7 [0,0] (y<|y<|λ_=>Dm C C (eC Bj C C) (λw f d=>A8 _ v _ _ _ _ _ _)<|Aa 1 [] (λb4=>λ_=>Dq 0 0 C C MM C C C C C C C C (λ_ _=>C) oM oM λra2 rc2=>Aa 8 [] (aI ⟨oM,oM⟩<|λ_=>Df ((i+1,q,(vs.app (Ay v 31 v.tx .nil).one),(xs++KW 31 v.ln v.co v.tx 0 none 0 0),ra2,rc2)) (show q.len<q.len+1 from Nat.lt_succ_self _) ⟨show i+1+q.len=_ by omega,show (vs.app (Ay v 31 v.tx .nil).one).len=i+1 by rw[Nd.app_len,hvl];rfl,nJ htv hn5,hqo.2⟩ lE (λw f d=>⟨_,(d.more (B':=[]) (F':=[λw f=>Cd w f (vs.app (Ay v 31 v.tx .nil).one) (xs++KW 31 v.ln v.co v.tx 0 none 0 0)]) nE (AI.mem ⟨Cd.app (Cd.one (k:=.nil) ⟨Nat.zero_le _,.inl C⟩) d.f3,tQ⟩) (Aw.mem ⟨Cd.mono,tQ⟩)).less (sD (sD (sK (sK sZ)))) sR nE (mR [2,0,5,6,7])⟩)))));refine Aa 3 [] (λ_=>Fh<|Aa 3 [] (λ_=>?_));obtain rfl:q=.nil:=Fo.len0 (by have:=dF Z;omega);have htv2:=rM htv;have hie:i=bk.len:=by have Z:i+0=bk.len:=hi;omega
 subst hvl;refine Z9 2 C ?_;rintro⟨k9a,k9c⟩;refine CF [1] Al (rd [0,1,2,3,4,5,6,7,8] (.br 9 (.br 10 (.br 11 (.br 12 .fin .fin) .fin) .fin) .fin)) C kR<|A2 8 [0,100,4] (y<|aI (by first|(simp only[Fo.len];omega)|(dsimp only;omega)|omega)<|y2<|λ_=>GI C C C (λw hK=>bP (Fo.cons c ck r2).len C C C oM Lz)<|Ag C ?_ Aj);refine YP C C (eC Dp C C) (λw f d=>HA 46 tO (Eo (n+1)) (GR (n+1)) (λw f hv hJ t k a c hd hT=>Vo n w f hv hJ t k a c hd hT) w f d.vl d.f6 (.cons c ck r2) _ _ (Fo.all_imp (λ_ _ h=>Sr h) D.2.2) (by show r2.len+1≤_;omega) d.f5) (λ_=>⟨Cd.mono,tQ⟩) (λe L f2 he F=>⟨C,e,f2,C,(by simp[Co,SP.need,Ay,he,Q,U,G,Y,h6,h7,h8,hn4,htv2]),F⟩) ?_;rintro⟨nds1,xnds1⟩ ands1 cnds1 hnds1;dsimp only at hnds1 ⊢;have hnl:=Eh hnds1;have hnl2:nds1.len=r2.len+1:=hnl;refine Jf (p:=∃rb,ands1=some ⟨rb,0,none⟩) (λw f d=>by rcases (d.row _ (.head _)).2 with ⟨_,_,Z⟩|⟨ob,_,Z,_⟩;(dsimp only at Z;omega);exact⟨ob,Z⟩) λhob=>?_;obtain⟨rb,rfl⟩:=hob;refine pW 0 C C<|Aa 1 [] (λ_=>AY [1] Fl C (λ_ h=>.tail _ h)<|Ag C ?_ Aj);refine Jf (p:=xnds1.length=nds1.len*6∧∀v∈xnds1,v.oneCell'=true) (λw f d=>⟨Cd.len d.f0,Cd.one' d.f0⟩) λ⟨hxl,hx1⟩=>Zz 0 0 C C MM C C C C C C hxl hx1 oM (λ_ _=>C) oM oM λands2 cnds2=>D5 (λw f=>Cd w f (vs.app nds1) (xs++xnds1)) (λw f d=>Cd.app d.f0 d.f4) Cd.mono<|P0 (λw f=>AH w f (vs.app nds1) ands2 cnds2) AH.mono (λw f d=>KH d d.f0)<|Aa 1 [] (λ_=>AY [1] Fl C (λ_ h=>.tail _ h)<|Ag C ?_ Aj);refine Dm C C (eC Bj C C) (λw f d=>A8 _ t _ _ _ _ _ _)<|Aa 1 [] (λ_=>AY [1] Fl C (λ_ h=>.tail _ h)<|Ag C ?_ Aj);exact Aa 2 [0] (y<|λ_=>AY [1] Fl C (λ_ h=>.tail _ h)<|Bm<|Aa 4 [] (λ_=>AR (λw f d=>AE C (Ac C B6 d.k0 C)) (λw f d=>⟨(⟨41,t.ln,t.co,a.tx,0,(vs.app nds1)⟩,ands2,cnds2),f,(by simp[nV,Nd.app_len,N.one,N.cons,Nd.len,Nat.add_comm]),(by simp[Co,SP.need,Ay,Q,U,G,Y,h6,h7,h8,hn4,htv2,hnds1]),d.exm,⟨d.f0,tQ⟩⟩)));refine A2 7 [] (λ_=>Ag C ?_ Aj);refine AZ C C (eC AG C C) (λL f2 he F=>⟨C,_,f2,C,(by simp[Co,SP.need,Ay,he,Q,U,G,Y,h6,h7,h8]),F⟩) λhn6=>?_
 cases hn6
 refine A2 3 [] (λ_=>Ag C ?_ Aj);refine Aa 2 [] (λ_=>Au [0,1] C<|A2 9 [] (λ_=>Ag C ?_ Aj));refine AZ C C (eC AG C C) (λL f2 he F=>⟨C,_,f2,C,(by simp[Co,SP.need,Ay,he,Q,U,G,Y,h6,h7]),F⟩) λhn7=>?_
 cases hn7
 have Z:=dF h6;simp only[Fo.len] at Z;omega;refine CF [0,1] Al (rd [0,1,2,3,4,5,6] (.br 7 (rd [8,9,10,11,12] (.br 13 (rd [14,15,16,17,18,19,20,21,22] (.br 23 .fin .fin)) .fin)) .fin)) C kR<|A2 4 [1] (y<|λ_=>Jn 41 C (λh10=>?_) (λh10=>?_));have Z:=dT h10;omega;refine A2 3 [] (λ_=>Ag C ?_ Aj);refine Aa 2 [] (λ_=>Au [0,1] C<|A2 5 [] (λ_=>Ag C ?_ Aj));refine Aa 2 [] (λ_=>Au [0,1] C<|A2 9 [] (λ_=>Ag C ?_ Aj));refine AZ C C (eC AG C C) (λL f2 he F=>⟨C,_,f2,C,(by exact lY (beq_iff_eq.1 Y) K),F⟩) λhn8=>?_
 cases hn8
 refine Aa 7 [] (λ_=>AN 96 C C (λJ=>?_) (λJ=>?_));refine Aa 2 [] (λ_=>?_);rcases Fo.three r with ⟨a,ak,b,bk,c,ck,rfl⟩|K
 refine Rw 3 C<|N8 0 C ?_;rintro⟨eb0,eo0,k0a,k0c⟩ rfl;refine Z9 1 C ?_;rintro⟨k1a,k1c⟩;refine Z9 1 C ?_;rintro⟨k2a,k2c⟩;refine CF [0,1] Al (rd [0,1,2,3,4,5,6] (.br 7 (.rd 8 (.br 9 .fin .fin)) .fin)) C kR<|A2 4 [1] (y<|λ_=>Jn 101 C (λh12=>?_) (λh12=>?_));refine A2 3 [102,0] (aI (by first|(simp only[Fo.len];omega)|(dsimp only;omega)|omega)<|y2<|λ_=>Ag C ?_ Aj);refine Dm C C (eC OA C C) (λw f d=>EM _ (Dy.gl d.f12) a _ D.1.1.1 D.1.1.2)<|Aa 1 [] (λ_=>Au [0,1] C<|A2 1 [] (λ_=>Ag C ?_ Aj));refine AZ C C (eC AG C C) (λL f2 he F=>⟨C,_,f2,C,(by simp[Co,SP.need,Ay,he,Q,U,G,Y,J,h12]),F⟩) λhn9=>Aa 1 [] (λ_=>Au [0,1] C<|Bm<|Aa 2 [] (λ_=>CF [1] Al (rd [0,1,2,3,4,5,6,7,8,10,11,12] (.br 9 (.br 13 (.br 14 (.br 15 (.br 16 .fin .fin) .fin) .fin) .fin) .fin)) C kR<|A2 12 [0,102,4,101,0,100,0] (y<|aI (by first|(simp only[Fo.len];omega)|(dsimp only;omega)|omega)<|y2<|aI (by first|(simp only[Fo.len];omega)|(dsimp only;omega)|omega)<|y2<|aI (by first|(simp only[Fo.len];omega)|(dsimp only;omega)|omega)<|y2<|λ_=>Ag C ?_ Aj)));refine Km C C (eC KM C C) (λw f d=>Mn n w f d.vl d.f12 b bk _ _ D.2.1 d.f2) (λ_=>⟨AH.mono,tQ⟩) (λe L f2 he F=>⟨C,e,f2,C,(by simp[Co,SP.need,Ay,he,Q,U,G,Y,J,h12,hn9]),F⟩) ?_;rintro⟨nd1,and1,cnd1⟩ hnd1;dsimp only at hnd1 ⊢;refine Aa 1 [] (λ_=>Au [1] C<|Ag C ?_ Aj);refine Km C C (eC D1 C C) (λw f d=>ihx w f d.vl d.f13 c ck _ _ D.2.2.1 d.f1) (λ_=>⟨AH.mono,tQ⟩) (λe L f2 he F=>⟨C,e,f2,C,(by simp[Co,SP.need,Ay,he,Q,U,G,Y,J,h12,hn9,hnd1]),F⟩) ?_;rintro⟨nd2,and2,cnd2⟩ hnd2;dsimp only at hnd2 ⊢;refine Aa 1 [] (λ_=>Au [1] C<|Ag C ?_ Aj);refine Aa 2 [] (λb5=>λ_=>Au [2] C<|Ag C ?_ Aj);refine Dc 0 C C<|D5 (λw f=>AH w f (nd1.cons (nd2.one)) (some ⟨b5,0,none⟩) 2) (λw f d=>Cd.toF (Cd.cons' d.f1 (Cd.cons' d.f0 (show Cd _ _ .nil [] from C))) d.b0 (Nat.le_refl _)) AH.mono<|Dm C C (eC Bj C C) (λw f d=>A8 _ t _ _ _ _ _ _)<|Aa 1 [] (λ_=>AY [1] Fl C (λ_ h=>.tail _ h)<|Ag C ?_ Aj);exact Aa 2 [0] (y<|λ_=>AY [1] Fl C (λ_ h=>.tail _ h)<|Bm<|Aa 4 [] (λ_=>AR (λw f d=>AE C (Ac C B6 d.k0 C)) (λw f d=>⟨(⟨43,t.ln,t.co,a.tx,0,(nd1.cons (nd2.one))⟩,(some ⟨b5,0,none⟩),2),f,C,(by simp[Co,SP.need,Ay,Q,U,G,Y,J,h12,hn9,hnd1,hnd2]),d.exm,⟨d.f0,tQ⟩⟩)));simp[Fo.len] at h12;refine CF [0,1] Al (rd [0,1,2,3,4,5,6] (.br 7 (.rd 8 (.br 9 .fin .fin)) .fin)) C kR<|A2 4 [1] (y<|λ_=>Jn 101 C (λh13=>?_) (λh13=>?_));exact absurd (by have Z:=beq_iff_eq.1 h13;omega) K;refine A2 3 [] (λ_=>Ag C ?_ Aj);refine Aa 2 [] (λ_=>Au [0,1] C<|A2 1 [] (λ_=>Ag C ?_ Aj));refine AZ C C (eC AG C C) (λL f2 he F=>⟨C,_,f2,C,(by exact lN (beq_iff_eq.1 J) K),F⟩) λhn10=>?_
 cases hn10
 refine Aa 7 [] (λ_=>AN 124 C C (λO=>?_) (λO=>?_));refine Aa 2 [] (λ_=>?_);rcases Fo.two r with ⟨a,ak,b,bk,rfl⟩|K
 refine Rw 3 C<|N8 0 C ?_;rintro⟨eb0,eo0,k0a,k0c⟩ rfl;refine Z9 1 C ?_;rintro⟨k1a,k1c⟩;refine CF [0,1] Al (rd [0,1,2,3,4,5,6] (.br 7 (.rd 8 (.br 9 .fin .fin)) .fin)) C kR<|A2 4 [1] (y<|λ_=>Jn 129 C (λh15=>?_) (λh15=>?_));refine A2 3 [101,0] (aI (by first|(simp only[Fo.len];omega)|(dsimp only;omega)|omega)<|y2<|λ_=>Ag C ?_ Aj);refine Dm C C (eC OA C C) (λw f d=>EM _ (Dy.gl d.f10) a _ D.1.1.1 D.1.1.2)<|Aa 1 [] (λ_=>Au [0,1] C<|A2 1 [] (λ_=>Ag C ?_ Aj));refine AZ C C (eC AG C C) (λL f2 he F=>⟨C,_,f2,C,(by simp[Co,SP.need,Ay,he,Q,U,G,Y,J,O,h15]),F⟩) λhn11=>Aa 1 [] (λ_=>Au [0,1] C<|Bm<|Aa 2 [] (λ_=>CF [1] Al (rd [0,1,2,3,4,5,6,7,8] (.br 9 (.br 10 (.br 11 (.br 12 .fin .fin) .fin) .fin) .fin)) C kR<|A2 9 [0,101,4,100,0] (y<|aI (by first|(simp only[Fo.len];omega)|(dsimp only;omega)|omega)<|y2<|aI (by first|(simp only[Fo.len];omega)|(dsimp only;omega)|omega)<|y2<|λ_=>Ag C ?_ Aj)));refine Km C C (eC D1 C C) (λw f d=>ihx w f d.vl d.f10 b bk _ _ D.2.1 d.f0) (λ_=>⟨AH.mono,tQ⟩) (λe L f2 he F=>⟨C,e,f2,C,(by simp[Co,SP.need,Ay,he,Q,U,G,Y,J,O,h15,hn11]),F⟩) ?_;rintro⟨nd3,and3,cnd3⟩ hnd3;dsimp only at hnd3 ⊢;refine Aa 1 [] (λ_=>Au [1] C<|Ag C ?_ Aj);refine Aa 2 [] (λb6=>λ_=>Au [2] C<|Ag C ?_ Aj);refine Dc 0 C C<|D5 (λw f=>AH w f (nd3.one) (some ⟨b6,0,none⟩) 1) (λw f d=>Cd.toF (Cd.cons' d.f0 (show Cd _ _ .nil [] from C)) d.b0 (Nat.le_refl _)) AH.mono<|Dm C C (eC Bj C C) (λw f d=>A8 _ t _ _ _ _ _ _)<|Aa 1 [] (λ_=>AY [1] Fl C (λ_ h=>.tail _ h)<|Ag C ?_ Aj);exact Aa 2 [0] (y<|λ_=>AY [1] Fl C (λ_ h=>.tail _ h)<|Bm<|Aa 4 [] (λ_=>AR (λw f d=>AE C (Ac C B6 d.k0 C)) (λw f d=>⟨(⟨44,t.ln,t.co,a.tx,0,(nd3.one)⟩,(some ⟨b6,0,none⟩),1),f,C,(by simp[Co,SP.need,Ay,Q,U,G,Y,J,O,h15,hn11,hnd3]),d.exm,⟨d.f0,tQ⟩⟩)));simp[Fo.len] at h15;refine CF [0,1] Al (rd [0,1,2,3,4,5,6] (.br 7 (.rd 8 (.br 9 .fin .fin)) .fin)) C kR<|A2 4 [1] (y<|λ_=>Jn 129 C (λDR=>?_) (λDR=>?_));exact absurd (by have Z:=beq_iff_eq.1 DR;omega) K;refine A2 3 [] (λ_=>Ag C ?_ Aj);refine Aa 2 [] (λ_=>Au [0,1] C<|A2 1 [] (λ_=>Ag C ?_ Aj));refine AZ C C (eC AG C C) (λL f2 he F=>⟨C,_,f2,C,(by exact uF (beq_iff_eq.1 O) K),F⟩) λhn12=>?_
 cases hn12
 refine Aa 7 [] (λ_=>AN 148 C C (λh17=>?_) (λh17=>?_));refine Aa 2 [] (λ_=>?_);rcases Fo.two r with ⟨a,ak,b,bk,rfl⟩|K
 refine Rw 3 C<|N8 0 C ?_;rintro⟨eb0,eo0,k0a,k0c⟩ rfl;refine Z9 1 C ?_;rintro⟨k1a,k1c⟩;refine CF [0,1] Al (rd [0,1,2,3,4,5,6] (.br 7 (rd [8,9,10,11,12] (.br 13 (.rd 14 (.br 15 .fin .fin)) .fin)) .fin)) C kR<|A2 4 [1] (y<|λ_=>Jn 153 C (λh18=>?_) (λh18=>?_));refine A2 3 [101,0] (aI (by first|(simp only[Fo.len];omega)|(dsimp only;omega)|omega)<|y2<|λ_=>Ag C ?_ Aj);refine Dm C C (eC OA C C) (λw f d=>EM _ (Dy.gl d.f10) a _ D.1.1.1 D.1.1.2)<|Aa 1 [] (λ_=>Au [0,1] C<|A2 2 [] (λ_=>Jn 159 C (λh19=>?_) (λh19=>?_)));refine A2 3 [100,0] (aI (by first|(simp only[Fo.len];omega)|(dsimp only;omega)|omega)<|y2<|λ_=>Ag C ?_ Aj);refine Bt C C (eC bM C C) (λw f d=>NC w f d.vl b bk _ _ d.f0) (λ_=>trivial) ?_;rintro⟨⟩ -;refine Aa 1 [] (λ_=>Au [0,1] C<|A2 1 [] (λ_=>Ag C ?_ Aj));refine AZ C C (eC AG C C) (λL f2 he F=>⟨C,_,f2,C,(by simp[Co,SP.need,Ay,he,Q,U,G,Y,J,O,h17,h18,h19]),F⟩) λhn13=>Aa 1 [] (λ_=>Au [0,1] C<|Bm<|Aa 2 [] (λ_=>CF [1] Al (rd [0,1,2,3,4,5,6,7,8] (.br 9 (.br 10 (.br 11 (.br 12 .fin .fin) .fin) .fin) .fin)) C kR<|A2 9 [0,101,4,100,0] (y<|aI (by first|(simp only[Fo.len];omega)|(dsimp only;omega)|omega)<|y2<|aI (by first|(simp only[Fo.len];omega)|(dsimp only;omega)|omega)<|y2<|λ_=>Ag C ?_ Aj)));refine Km C C (eC D1 C C) (λw f d=>ihx w f d.vl d.f10 b bk _ _ D.2.1 d.f0) (λ_=>⟨AH.mono,tQ⟩) (λe L f2 he F=>⟨C,e,f2,C,(by simp[Co,SP.need,Ay,he,Q,U,G,Y,J,O,h17,h18,h19,hn13]),F⟩) ?_;rintro⟨nd4,and4,cnd4⟩ hnd4;dsimp only at hnd4 ⊢;refine Aa 1 [] (λ_=>Au [1] C<|Ag C ?_ Aj);refine Aa 2 [] (λb7=>λ_=>Au [2] C<|Ag C ?_ Aj);refine Dc 0 C C<|D5 (λw f=>AH w f (nd4.one) (some ⟨b7,0,none⟩) 1) (λw f d=>Cd.toF (Cd.cons' d.f0 (show Cd _ _ .nil [] from C)) d.b0 (Nat.le_refl _)) AH.mono<|Dm C C (eC Bj C C) (λw f d=>A8 _ t _ _ _ _ _ _)<|Aa 1 [] (λ_=>AY [1] Fl C (λ_ h=>.tail _ h)<|Ag C ?_ Aj);exact Aa 2 [0] (y<|λ_=>AY [1] Fl C (λ_ h=>.tail _ h)<|Bm<|Aa 4 [] (λ_=>AR (λw f d=>AE C (Ac C B6 d.k0 C)) (λw f d=>⟨(⟨45,t.ln,t.co,a.tx,0,(nd4.one)⟩,(some ⟨b7,0,none⟩),1),f,C,(by simp[Co,SP.need,Ay,Q,U,G,Y,J,O,h17,h18,h19,hn13,hnd4]),d.exm,⟨d.f0,tQ⟩⟩)));refine A2 3 [] (λ_=>Ag C ?_ Aj);refine Aa 2 [] (λ_=>Au [0,1] C<|A2 1 [] (λ_=>Ag C ?_ Aj));refine AZ C C (eC AG C C) (λL f2 he F=>⟨C,_,f2,C,(by simp[Co,SP.need,Ay,he,Q,U,G,Y,J,O,h17,h18,h19]),F⟩) λhn14=>?_
 cases hn14
 simp[Fo.len] at h18;refine CF [0,1] Al (rd [0,1,2,3,4,5,6] (.br 7 (rd [8,9,10,11,12] (.br 13 (.rd 14 (.br 15 .fin .fin)) .fin)) .fin)) C kR<|A2 4 [1] (y<|λ_=>Jn 153 C (λh20=>?_) (λh20=>?_));exact absurd (by have Z:=beq_iff_eq.1 h20;omega) K;refine A2 3 [] (λ_=>Ag C ?_ Aj);refine Aa 2 [] (λ_=>Au [0,1] C<|A2 5 [] (λ_=>Ag C ?_ Aj));refine Aa 2 [] (λ_=>Au [0,1] C<|A2 1 [] (λ_=>Ag C ?_ Aj));refine AZ C C (eC AG C C) (λL f2 he F=>⟨C,_,f2,C,(by exact wA (beq_iff_eq.1 h17) K),F⟩) λhn15=>?_
 cases hn15
 refine Aa 7 [] (λ_=>AN 178 C C (λh21=>?_) (λh21=>?_));refine Aa 2 [] (λ_=>?_);rcases Fo.single r with ⟨a,ak,rfl⟩|K
 refine Rw 3 C<|N8 0 C ?_;rintro⟨eb0,eo0,k0a,k0c⟩ rfl;refine Aa 4 [1] (y<|λ_=>AZ C C (eC AG C C) (λL f2 he F=>⟨C,_,f2,C,(by simp[Fo.len] at he),F⟩) λhn16=>Aa 3 [] (λ_=>CF [1] Al (rd [0,1,2,3] (.br 4 (.br 5 (.br 6 (.br 7 .fin .fin) .fin) .fin) .fin)) C kR<|A2 4 [0,100,0] (y<|aI (by first|(simp only[Fo.len];omega)|(dsimp only;omega)|omega)<|y2<|λ_=>Ag C ?_ Aj)));refine Km C C (eC D1 C C) (λw f d=>ihx w f d.vl d.f8 a ak _ _ D.1 d.f0) (λ_=>⟨AH.mono,tQ⟩) (λe L f2 he F=>⟨C,e,f2,C,(by simp[Co,SP.need,Ay,he,Q,U,G,Y,J,O,h17,h21,hn16]),F⟩) ?_;rintro⟨nd5,and5,cnd5⟩ hnd5;dsimp only at hnd5 ⊢;refine Aa 1 [] (λ_=>Au [1] C<|Ag C ?_ Aj);refine Aa 2 [] (λb8=>λ_=>Au [2] C<|Ag C ?_ Aj);refine Dc 0 C C<|D5 (λw f=>AH w f (nd5.one) (some ⟨b8,0,none⟩) 1) (λw f d=>Cd.toF (Cd.cons' d.f0 (show Cd _ _ .nil [] from C)) d.b0 (Nat.le_refl _)) AH.mono<|Dm C C (eC Bj C C) (λw f d=>A8 _ t _ _ _ _ _ _)<|Aa 1 [] (λ_=>AY [1] Fl C (λ_ h=>.tail _ h)<|Ag C ?_ Aj);exact Aa 2 [0] (y<|λ_=>AY [1] Fl C (λ_ h=>.tail _ h)<|Bm<|Aa 4 [] (λ_=>AR (λw f d=>AE C (Ac C B6 d.k0 C)) (λw f d=>⟨(⟨46,t.ln,t.co,[],0,(nd5.one)⟩,(some ⟨b8,0,none⟩),1),f,C,(by simp[Co,SP.need,Ay,Q,U,G,Y,J,O,h17,h21,hn16,hnd5]),d.exm,⟨d.f0,tQ⟩⟩)));exact Aa 4 [1] (y<|λ_=>AZ C C (eC AG C C) (λL f2 he F=>⟨C,_,f2,C,(by exact tm_do (beq_iff_eq.1 h21) K),F⟩) λhn17=>absurd (by have Z:=beq_iff_eq.1 hn17;omega) K);exact Aa 7 [1] (y<|λ_=>vT C C (eC VJ C C) (pe:=λe=>e=(t.ln,t.co)) (T:=61) (λw f d=>(Jb w t _).mono (λ_ _ h=>h.elim) λ_ L ⟨h1,h2⟩=>⟨_,f,h1,C,CK.of_ext h2 d.vl⟩) (λe L f2 he F=>by subst he;exact⟨C,_,f2,C,(by exact Vg Y J O h17 h21),F⟩));have Z:=dF U;simp only[Fo.len] at Z;omega;refine A2 10 [] (λ_=>Ag C ?_ Aj);refine Aa 2 [] (λ_=>Au [0,1] C<|A2 1 [] (λ_=>Ag C ?_ Aj));refine AZ C C (eC AG C C) (λL f2 he F=>⟨C,_,f2,C,(by simp[Co,SP.need,Ay,he,Q]),F⟩) λhn18=>?_
 cases hn18
end Go.Proofs.YtelmolopaolbcaaGreatDoor
namespace Go.SP
open Go.SW Go.RowKit
theorem Bw(n:Int):(T1.var n).bnd:=⟨⟨Nat.zero_le _,Nat.zero_le _⟩,tQ⟩
theorem Da{tx:lU}(h:tx.length≤1000000):(c0 tx).bnd:=⟨⟨Nat.zero_le _,h⟩,tQ⟩
theorem Dt{tx:lU}{k:Ty}(h:tx.length≤1000000)(d:k.len≤200000)(D:k.bnd):(T1.con tx k).bnd:=⟨⟨d,h⟩,D⟩
theorem Ty.bnd_app:∀{x y:Ty},x.bnd→y.bnd→(x.app y).bnd
 |.nil,_,_,h=>h
 |.var _ r,_,h,d=>Ty.bnd_app (x:=r) h d
 |.con _ _ r,_,h,d=>⟨h.1,h.2.1,Ty.bnd_app (x:=r) h.2.2 d⟩
theorem Ty.bnd_snoc{x:Ty}{t:T1}(h:x.bnd)(d:t.bnd):(x.snoc t).bnd:=Ty.bnd_app h (GO d)
def yX(P:Program)(d:FuncId)(F T TS:tI)(n:Nat):Prop:=∀(w:wO)(f:Fq)(_:Vl w f)(A:Ad)(_:A.ok)(s:CS)(_:As T TS A s w f)(_:∀b,Bz A b→f b=0)(_:DI s)(op ln co nm:Int)(tx:lU)(kids:Nd)(h:oA)(nc:Nat)(e:Ba)(D:oA),
 kids.size<n→kids.size≤200000→AH w f kids h nc→Gx e→AJ w f e D→s.fresh+200001*(kids.size+1)≤800000000000 →
 BI P d #[.pointer (some ⟨A.cb,0,none⟩),nV op ln co tx nm kids h nc,.pointer D] w (Fg (α:=(T1×oA×Nat)×(Ba×oA)×CS) (λx=>.tuple #[tV x.1.1 x.1.2.1 x.1.2.2,.pointer x.2.1.2]) (λx=>C4 n s e op ln co tx nm kids=.ok (x.1.1,x.2.1.1,x.2.2)∧x.1.1.bnd∧Gx x.2.1.1∧DI x.2.2∧x.2.2.fresh≤s.fresh+200001*(kids.size+1)) (Bz A) (λx=>As T TS A x.2.2) (λx=>[λw f=>Ak w f x.1.1.kids x.1.2.1 x.1.2.2,λw f=>AJ w f x.2.1.1 x.2.1.2]) w f)
   (PanE F (Bz A) (λer=>C4 n s e op ln co tx nm kids=.error er) w f)
variable {e5:Ba}{s s5:CS}{co ln nm:Int}{k r:Nd}{ar:Ty}
theorem Wk{p:OO}{d:CS}{e:Ba}{op:Int}{tx:lU}{t q:T1}(h:p s e op ln co tx nm k=.ok (q,e5,s5))(D:EA s5 t q ln co=.ok d):GD p s e (t.cons ar) (.cons op ln co tx nm k r)=GD p d e5 ar r:=by
 rw[GD,h];simp only;rw[T1.hd_cons,D];simp only;rw[T1.tl_cons]
theorem TZ{p:OO}{e:Ba}:FF p s e k=(match FF p s e k with|.error x=>.error x|.ok (l,d,h)=>.ok (Ty.nil.app l,d,h)):=by
 cases FF p s e k with
 |error x=>rfl
 |ok q=>rfl
theorem Vp{p:OO}{e:Ba}{op:Int}{tx:lU}{d:Ty}{q:T1}(h:p s e op ln co tx nm k=.ok (q,e5,s5)) :
   (match FF p s e (.cons op ln co tx nm k r) with|.error x=>.error x|.ok (l,D,F)=>.ok (d.app l,D,F):RI (Ty×Ba×CS))=(match FF p s5 e5 r with|.error x=>.error x|.ok (l,D,F)=>.ok ((d.snoc q).app l,D,F)):=by
 rw[FF,h];simp only
 cases FF p s5 e5 r with
 |error x=>rfl
 |ok z=>obtain⟨l,D,F⟩:=z;simp only[Ty.snoc_app]
end Go.SP
namespace Go.SW
open Go.RowKit
def Yq:List Oper→Bool
 | []=>true
 |o::l=>(match o.op with|.defer _=>false|_=>true)&&Yq l
abbrev GF(ro:Option Nat):Fence:={Fence.wide with round:=ro}
section
variable{P:Program}{n:Nat}{Q:AX}{σ:Bf}{ds:List Deferred}{w:World}
variable {l vs:List Value}{i m:Nat}{ro:Option Nat}{w':World}
theorem Y1{o:Oper}{a:Act}{next next':Act→World→Prop}{Q:Exit→Act→World→Prop}(hn:∀a w,next a w→next' a w):∀r:Result Next,o.upon P a next Q r→o.uponIn (GF ro) m P a next' Q r
 |.ok (.value _) _,h=>hn _ _ h
 |.ok .skip _,h=>hn _ _ h
 |.ok (.defer _) _,h=>hn _ _ h
 |.ok (.enter f args) w',h=>by
   refine⟨λe=>(by cases e),?_⟩
   have G:Calls P f args w' _:=Calls.mono (R':=λe D=>match e,D with|.returned v,D=>next' (a.put o.dst v) D | .panicked chain,D=>Q (.panic chain) a D | .outgrown,_=>LetsOut Q) h λe D F=>by
     cases e with
     |returned v=>exact hn _ _ F
     |panicked c=>exact F
     |outgrown=>exact F
   exact (callsIn_wide (n:=m-1)).2 G
 |.ok (.row row args) w',h=>⟨λe=>(by cases e),λc cs _=>let ⟨v,J,F,K⟩:=h c cs;⟨v,J,hn _ _ F,stepsIn_wide.2 K⟩⟩
 |.halt (.panic _) _,h=>h
theorem Md{ops:Array Oper}{Q:Exit→Act→World→Prop}(D:¬LetsOut Q):∀(l:List Oper)(a:Act)(w:World),Yq l=true→wpList P ops Q l a w→wpListIn (GF ro) m P ops Q l a w
 | [],_,_,_,h=>h
 |o::l,a,w,hd,h=>by
   unfold Yq at hd;simp only[Bool.and_eq_true] at hd;have F:∀c,o.op≠.defer c:=λc e=>by rw[e] at hd;exact absurd hd.1 (by simp)
   unfold wpList at h;unfold wpListIn
   split
   · rename_i hw
     rw[if_pos hw] at h;rcases h with h|h
     · refine⟨λ_ _=>trivial,?_⟩
       rw[Oper.semAt_eq _ _ _ F];exact Y1 (λa w=>Md D l a w hd.2) _ h
     · exact absurd h.2 D
   · rename_i hw
     rw[if_neg hw] at h;exact⟨λ_ _=>trivial,Md D l _ w hd.2 h⟩
theorem oP{l:List Oper}{a:Act}(D:Yq l=true)(F:¬LetsOut (Q.up n))(G:St n σ ds a)(h:Hu P n l.toArray Q l σ ds w):(Code.region i l.toArray false).wpIn (GF ro) m P (Q.up n) a w :=
 wpIn_region_lit (Md F l a w D (h a G))
theorem cQ:¬LetsOut (Q.up n):=λh=>by
 obtain⟨a,w,h⟩:=h;exact h
def Yj(P:Program)(n:Nat)(ops:Array Oper)(Q:AX)(l:List Oper)(σ:Bf)(ds:List Deferred)(w:World):Prop :=
 ∀a,St n σ ds a→wpListIn Fence.wide 3 P ops (Q.up n) l a w
theorem bN{l:List Oper}(h:Yj P n l.toArray Q l σ ds w):HH P n (.region i l.toArray false) Q σ ds w:=λa D=>wpIn_wide.1 (wpIn_region_lit (h a D))
variable{ops:Array Oper}{op:Op}{ty:TypeId}{pos:String}{af:Array Edge}{rest:List Oper}{d:Nat}
theorem Sy(h:Q.q .normal σ ds w):Yj P n ops Q [] σ ds w:=λ_ D=>wpListIn_nil ⟨σ,ds,D,h⟩
theorem G0{v:Value}(hd:Nat.blt d n=true)(F:AK P σ op ty w v w')(h:Yj P n ops Q rest (AF σ d v) ds w') :
   Yj P n ops Q (⟨some d,op,ty,pos,af,none⟩::rest) σ ds w:=λa D =>
 wpListIn_plain C λK G=>⟨λ_ _=>trivial,by
   show Oper.uponIn _ _ _ _ _ _ _ ((Oper.semAt none _ _).run P w);rw[Oper.semAt_none,F a.eval _ _ _ _ D.ev];exact G _ _ (h _ (D.put hd v))⟩
theorem Vs{D:Nat}{g:Operand}{args:List Operand}{G:Array TypeId}{R:Ending→World→Prop}(hd:Nat.blt d n=true)(L:ev σ g=some (.func (.yield D) #[] #[]))(O:Jd σ args=some vs)(U:YieldAt Fence.wide m P D vs.toArray w R)
   (h:∀e w',R e w'→∃v,e=.returned v∧Yj P n ops Q rest (AF σ d v) ds w'):Yj P n ops Q (⟨some d,.call {callee:=.value g,args:=args.toArray,argTypes:=G},ty,pos,af,none⟩::rest) σ ds w:=λa F =>
 wpListIn_plain C λK Y=>⟨λ_ _=>trivial,by
   obtain⟨fn,tmps,assign,body,Z,J⟩:=U;have h3:=EN F.ev O
   have he:(execOp a.eval ⟨some d,.call {callee:=.value g,args:=args.toArray,argTypes:=G},ty,pos,af,none⟩).run P w=.ok (.round D fn tmps assign body) w:=by
     simp[execOp,resolve,F.ev _ _ L,Deferred.ofValue,invoke,h3,Z]
   show Oper.uponIn _ _ _ _ _ _ _ ((Oper.semAt none _ _).run P w);rw[Oper.semAt_none,he];refine⟨λe=>(by cases e),J.1,λc cs _=>?_⟩;obtain⟨e,w',hr,hc⟩:=J.2 c cs (room_wide _);obtain⟨v,rfl,hv⟩:=h e w' hr;exact⟨.returned v,w',Y _ _ (hv _ (F.put hd v)),hc⟩⟩
def XF(P:Program)(fn:Func)(R:Value→World→Prop):AX :=
 {q:=λe σ ds w=>match e with|.normal|.ret=>∃D,ds=[{target:=.collected D,args:=#[]}]∧w.heap[D]?=some (.deferred (some []))∧∃v,UH P fn σ (w.putObj D (.deferred none)) v∧R v (w.putObj D (.deferred none))|_=>False,p:=λ_ _ _ _=>False}
theorem wS{f:FuncId}{fn:Func}{c:Code}{R:Value→World→Prop}(O:P.funcs[f]?=some fn)(U:fn.body=some c)
   (Y:fn.ntmps=n) (Z:Nat.ble l.length n=true) (h:HH P n c (XF P fn R) (Il l 0) [] w):Bq P f l.toArray w R:=by
 refine (callsIn_wide (n:=3)).1 (callsIn_of_wp_marks O U tQ (wpIn_wide.2 ?_));have L:=h _ (JA Z);rw[← Y] at L;intro b k cs;obtain⟨e,a',w',J,K⟩:=L b k cs;refine⟨e,a',w',?_,K⟩
 have key:∀σ ds,St fn.ntmps σ ds a'→(∃D,ds=[{target:=.collected D,args:=#[]}]∧w'.heap[D]?=some (.deferred (some []))∧∃v,UH P fn σ (w'.putObj D (.deferred none)) v∧R v (w'.putObj D (.deferred none)))→LeavesInM Fence.wide 3 P fn a'.tmps (λe w'=>∃v,e=.returned v∧R v w') a'.defers .returning w':=λσ ds F ⟨D,hD,hw,v,hv,hR⟩=>by
   rw[F.defs,hD];exact⟨by simp,.inl ⟨D,_,C,run_takeDeferred hw,v,hv a'.tmps F.val,v,C,hR⟩⟩
 cases e with
 |normal=>obtain⟨σ,ds,F,G⟩:=J;exact key σ ds F G
 |ret=>obtain⟨σ,ds,F,G⟩:=J;exact key σ ds F G
 |exit i=>obtain⟨σ,ds,F,G⟩:=J;exact G.elim
 |goto i=>obtain⟨σ,ds,F,G⟩:=J;exact G.elim
 |panic c=>obtain⟨σ,ds,F,G⟩:=J;exact G.elim
 |outgrown=>exact J.elim
end
variable {X:Cx}{f:Fq}{fid:FuncId}{Fs:List (World→Fq→Prop)}{B:List FB}{H:List HB}{l:List Value}{R0:Value→World→Prop}
theorem menM{P:Program}{n:Nat}{R:List RB}{fn:Func}{c:Code}{w:World}(D:P.funcs[fid]?=some fn)(F:fn.body=some c)(G:fn.ntmps=n)(J:Nat.ble l.length n=true)(K:AQ X w f H R B Fs)
   (h:A3 P n (XF P fn R0) [] X R B Fs (.code c) [] (Il l 0) H):Bq P fid l.toArray w R0:=wS D F G J (h w f K)
end Go.SW
namespace Go.SP
open Go.SW Go.RowKit
def Ty.list:Ty→List T1
 |.nil=>[]
 |.var n r=>.var n::r.list
 |.con tx k r=>.con tx k::r.list
theorem Ty.list_cons(t:T1)(r:Ty):(t.cons r).list=t::r.list:=by cases t <;> rfl
theorem Ty.list_len:∀k:Ty,k.list.length=k.len
 |.nil=>rfl
 |.var _ r=>congrArg (· + 1) (Ty.list_len r)
 |.con _ _ r=>congrArg (· + 1) (Ty.list_len r)
theorem Ty.list_get:∀(k:Ty)(i:Nat),k.list[i]?=k.get i
 |.nil,_=>by simp[Ty.list,Ty.get]
 |.var _ _,0=>rfl
 |.con _ _ _,0=>rfl
 |.var _ r,i+1=>by simpa[Ty.list,Ty.get] using Ty.list_get r i
 |.con _ _ r,i+1=>by simpa[Ty.list,Ty.get] using Ty.list_get r i
def pJ(t:T1)(l:List T1):T1:=l.foldl (λt x=>.con DA (x.cons t.one)) t
theorem Uc(t:T1)(l:List T1)(x:T1):pJ t (l++[x])=.con DA (x.cons (pJ t l).one):=by simp[pJ]
theorem Oz(t u:T1)(r:Ty):Ih (t.cons (u.cons r))=.con DA (t.cons (Ih (u.cons r)).one):=by cases t <;> cases u <;> rfl
theorem RQ(t:T1):Ih t.one=t:=by cases t <;> rfl
theorem jU:∀(n:Nat)(k:Ty)(t:T1),k.len=n+1→k.get n=some t→pJ t (k.list.take n).reverse=Ih k:=by
 intro n
 induction n with
 |zero =>
   intro k t D d;obtain⟨u,r,rfl⟩:=Ty.cases1 k oM;rw[T1.len_cons] at D;obtain rfl:=Ty.len0 (k:=r) oM;have:u=t:=by cases u <;> (simp[T1.cons,Ty.get] at d;exact d)
   subst this;rw[show (List.take 0 (u.cons Ty.nil).list).reverse=[] by simp];exact (RQ u).symm
 |succ n G =>
   intro k t D d;obtain⟨u,r,rfl⟩:=Ty.cases1 k oM;rw[T1.len_cons] at D;have F:r.get n=some t:=by cases u <;> exact d
   have h:=G r t oM F;obtain⟨v,r,rfl⟩:=Ty.cases1 r oM;rw[Oz,Ty.list_cons,List.take_succ_cons,List.reverse_cons,Uc,h]
abbrev zR(w:wO)(f:Fq)(k:Ty):={x:Nat×T1×oA×Nat // k.get x.1=some x.2.1∧Ak w f x.2.1.kids x.2.2.1 x.2.2.2}
def encB{w:wO}{f:Fq}{k:Ty}(x:zR w f k):Array Value:=#[.int .i64 (x.1.1:Int),tV x.1.2.1 x.1.2.2.1 x.1.2.2.2]
def jA{w:wO}{f:Fq}{k:Ty}(l:List (zR w f k)):List T1:=l.map λx=>x.1.2.1
def wP(n0 b3:Nat)(W d:wO):Prop:=∀k,k<n0→k≠b3→d.heap[k]?=W.heap[k]?
def iv(i:Nat):Int:=(i:Int)-1
theorem oB(i:Nat):iv (i+1)=(i:Int):=by unfold iv;omega
def nrm(n0:Nat)(V:wO)(f:Fq):Fq:=λb=>if b<n0 then f b else if (match V.heap[b]? with|some o=>o.isCells|none=>false) then f b else 0
variable {σ:Bf}{l:lV}{b i n0 off:Nat}{M:Nat→Prop}{hi x:Operand}{P:Program}{T e ty:tI}
theorem Cs.nrm{V:wO}{f:Fq}(h:Cs V f b off l):Cs V (nrm n0 V f) b off l:=λj v G=>by
 obtain⟨d,D⟩:=h j v G;refine⟨?_,D⟩;obtain⟨o,F,J⟩:=cells_of_cell D;unfold SP.nrm
 split
 · exact d
 · simp only at F
   rw[F];simp only;rw[if_pos J];exact d
theorem Jm.nrm{V:wO}{f:Fq}:∀(k:Ty)(b off:Nat),Jm V f k b off→Jm V (nrm n0 V f) k b off
 |.nil,_,_,_=>trivial
 |.var _ r,b,off,⟨⟨a,c,h⟩,D⟩=>⟨⟨a,c,Cs.nrm h⟩,Jm.nrm r b _ D⟩
 |.con _ k r,b,off,⟨⟨a,c,h,J,F⟩,D⟩=>⟨⟨a,c,Cs.nrm h,J,F.imp id λ⟨G,d,e,F⟩=>⟨G,d,e,Jm.nrm k G d F⟩⟩,Jm.nrm r b _ D⟩
theorem Ak.nrm{V:wO}{f:Fq}{k:Ty}{a:oA}{c:Nat}(h:Ak V f k a c):Ak V (nrm n0 V f) k a c:=⟨h.1,h.2.imp id λ⟨b,off,e,d⟩=>⟨b,off,e,Jm.nrm k b off d⟩⟩
theorem kE{V:wO}{f:Fq}(h:b<n0):nrm n0 V f b=f b:=if_pos h
theorem JC{V:wO}{f:Fq}(h:f b=0):nrm n0 V f b=0:=by
 unfold nrm;simp[h]
structure Wz(w:wO)(f:Fq)(b2 b3:Nat)(z:lV)(TT:tI)(t:T1)(V:wO)(f2:Fq)(a:oA)(c:Nat):Prop where
 exm:CK (λ_=>False) w f V f2
 k3:AM V b3 (tC t a c) TT
 k2:AM V b2 z TT
 ty:Ak V f2 t.kids a c
 bnd:t.bnd
 z3:f2 b3=0∧f2 b2=0
 hz:∀r o,V.heap[r]?=some o→o.isCells=false→w.heap.size≤r→f2 r=0
theorem Xm{w V:wO}{f f2:Fq}(h:CK M w f V f2):CK M w f V (nrm w.heap.size V f2):=⟨h.stp,λb d=>(kE d).trans (h.old b d),λb d=>JC (h.val b d)⟩
theorem aK{w V:wO}{f2:Fq}:∀r o,V.heap[r]?=some o→o.isCells=false→w.heap.size≤r→nrm w.heap.size V f2 r=0:=λr o d h D=>by
 unfold nrm;rw[if_neg (by omega),d];simp[h]
theorem CK.trans0{w V V':wO}{f f2 f3:Fq}(h:CK (λ_=>False) w f V f2)(d:CK M V f2 V' f3)(G:∀b,M b→w.heap.size≤b):CK (λ_=>False) w f V' f3 :=
 ⟨⟨d.stp.os.trans h.stp.os,d.stp.tape.trans h.stp.tape,d.stp.output.trans h.stp.output,Nat.le_trans h.stp.size d.stp.size,λk D _=>(d.stp.block k (Nat.lt_of_lt_of_le D h.stp.size) (λhm=>by have:=G k hm;omega)).trans (h.stp.block k D (λh=>h))⟩,
   λb F=>(d.old b (Nat.lt_of_lt_of_le F h.stp.size)).trans (h.old b F),d.val⟩
section
variable{w V V':wO}{f f2 f3:Fq}{b2 b3:Nat}{z:lV}{TT:tI}{t t':T1}{a a':oA}{c c':Nat}
theorem Wz.step(h:Wz w f b2 b3 z TT t V f2 a c)(G:w.heap.size≤b3)(D:b2≠b3)(d:CK (λb=>b=b3) V f2 V' f3)(J:AM V' b3 (tC t' a' c') TT)(K:Ak V' f3 t'.kids a' c')(F:t'.bnd):Wz w f b2 b3 z TT t' V' (nrm w.heap.size V' f3) a' c' where
 exm:=Xm (CK.trans0 h.exm d λb e=>e▸G)
 k3:=J
 k2:=(d.stp.block b2 h.k2.lt D).trans h.k2
 ty:=Ak.nrm K
 bnd:=F
 z3:=⟨JC ((d.old _ h.k3.lt).trans h.z3.1),JC ((d.old _ h.k2.lt).trans h.z3.2)⟩
 hz:=aK
theorem Iy(h:AM V b l T){o:Obj}(d:V.heap[b]?=some o)(D:o.isCells=false):False:=by
 have F:V.heap[b]?=some (.cells l.toArray T):=h;rw[F] at d;cases d;cases D
theorem Wz.own{B:Nat}(Z:w.heap.size≤B){row:Option Nat}(h:Wz w f b2 b3 z TT t V f2 a c)(d:V.grownBy V' row)(L:∀r,row=some r→B≤r∧∃o:Obj,V.heap[r]?=some o∧o.isCells=false):Wz w f b2 b3 z TT t V' f2 a c:=by
 have G:∀{b:Nat}{l:lV}{T:tI},AM V b l T→some b≠row:=λO e=>by
   obtain⟨_,o,F,J⟩:=L _ e.symm;exact Iy O F J
 have K:∀r,row=some r→f2 r=0:=λr e=>by
   obtain⟨h1,o,F,J⟩:=L r e;exact h.hz r o F J oM
 have Y:Ii V f2 V' f2:=λb=>⟨Nat.le_refl _,λk Q=>by
   have U:b<V.heap.size:=by
     rcases Nat.lt_or_ge b V.heap.size with D|D
     · exact D
     · have:=h.exm.val b D;omega
   refine Dz (d.block b U λe=>?_) k;have:=K b e.symm;omega⟩
 exact {exm:=⟨⟨d.os.trans h.exm.stp.os,d.tape.trans h.exm.stp.tape,d.output.trans h.exm.stp.output,Nat.le_trans h.exm.stp.size d.size,λk Q hm=>(d.block k (Nat.lt_of_lt_of_le Q h.exm.stp.size) (λe=>by have:=(L k e.symm).1;omega)).trans (h.exm.stp.block k Q hm)⟩,h.exm.old,λb O=>h.exm.val b (Nat.le_trans d.size O)⟩,
         k3:=(d.block _ h.k3.lt (G h.k3)).trans h.k3,
         k2:=(d.block _ h.k2.lt (G h.k2)).trans h.k2,
         ty:=Ak.mono _ _ _ _ h.ty Y,
         bnd:=h.bnd,z3:=h.z3,
         hz:=λr o F J hw=>by
           rcases Nat.lt_or_ge r V.heap.size with D|D
           · by_cases e:some r=row
             · exact K r e.symm
             · rw[d.block r D e] at F;exact h.hz r o F J hw
           · exact h.exm.val r D}
end
theorem KeepsFrom.of_exm{B b3:Nat}{V V':wO}{f2 f3:Fq}(h:CK (λb=>b=b3) V f2 V' f3)(D:AM V b3 l T):KeepsFrom B V V' :=
 ⟨h.stp.size,λk o _ d F=>(h.stp.block k (Array.getElem?_eq_some_iff.1 d).1 (λe=>by subst e;exact Iy D d F)).trans d⟩
theorem wP.of_exm{b3:Nat}{V V':wO}{f2 f3:Fq}(h:CK (λb=>b=b3) V f2 V' f3)(D:n0≤V.heap.size):wP n0 b3 V V':=λk F d=>h.stp.block k oM d
theorem iT{w:wO}{f:Fq}{x t:T1}{d D:oA}{F G:Nat}(h:Cs w f b 0 (tC x d F++tC t D G))(K:Ak w f x.kids d F)(L:Ak w f t.kids D G):Ak w f (x.cons t.one) (some ⟨b,0,none⟩) 2:=by
 have O:Bi w f Ty.nil []:=rfl;have J:=Bi.snoc (t:=t) L (Bi.snoc (t:=x) K O)
 have e:(Ty.nil.snoc x).snoc t=x.cons t.one:=by
   show (x.one).app t.one=_;rw[T1.one_app]
 rw[e] at J;exact Bi.toF J h (by simp[T1.len_cons,T1.one,Ty.len])
theorem Wz.frz{w V:wO}{f f2:Fq}{b2 b3 b5:Nat}{z:lV}{TT:tI}{t:T1}{a:oA}{c:Nat}(h:Wz w f b2 b3 z TT t V f2 a c)(d:AM V b5 l T)(D:b5≠b2)(F:b5≠b3)(hw:w.heap.size≤b5) :
   Wz w f b2 b3 z TT t V (λb=>if b=b5 then max l.length (f2 b) else f2 b) a c∧Cs V (λb=>if b=b5 then max l.length (f2 b) else f2 b) b5 0 l:=by
 have Q:Ii V f2 V (λb=>if b=b5 then max l.length (f2 b) else f2 b):=λb=>⟨by simp only;split <;> omega,λ_ _=>C⟩
 refine⟨{exm:=⟨h.exm.stp,λb G=>by rw[if_neg (by omega)];exact h.exm.old b G,λb G=>by have:=d.lt;rw[if_neg (by omega)];exact h.exm.val b G⟩,
           k3:=h.k3,k2:=h.k2,ty:=Ak.mono _ _ _ _ h.ty Q,bnd:=h.bnd,z3:=by rw[if_neg (Ne.symm F),if_neg (Ne.symm D)];exact h.z3,
           hz:=λr o K L hw=>by
             rw[if_neg (λe=>by subst e;exact Iy d K L)];exact h.hz r o K L hw},λj v O=>?_⟩
 have U:j<l.length:=(List.getElem?_eq_some_iff.1 O).1;refine⟨by simp only[if_true];omega,?_⟩;have J:V.heap[b5]?=some (.cells l.toArray T):=d;simp[World.cell?,J,O]
theorem O2{w:wO}{k:Nat}{z:Int}{k1:IntKind}{a:oA}{len cap:Nat}(hz:z=(i:Int))(h:ev σ x=some (.slice a len cap))(d:ev σ hi=some (.int k1 z))(D:Je P T=some (e,k))(hle:i≤cap):AK P σ (.slice T x none (some hi) none) ty w (.slice a i cap) w:=by
 subst hz;exact WT h d D hle
theorem Wz.fin{w V V':wO}{f f2:Fq}{b2 b3 D:Nat}{z:lV}{TT:tI}{t:T1}{a:oA}{c:Nat}(h:Wz w f b2 b3 z TT t V f2 a c)(h2:w.heap.size≤b2)(Q:w.heap.size≤D)(K:V.heap[D]?=some (.deferred (some [])))(F:GG b2 V V') :
   CK (λ_=>False) w f (V'.putObj D (.deferred none)) f2∧Ak (V'.putObj D (.deferred none)) f2 t.kids a c∧V'.heap[D]?=some (.deferred (some []))∧D≠b2:=by
 have G:D≠b2:=λe=>by subst e;exact Iy h.k2 K C
 have U:f2 D=0:=h.hz D _ K C Q;have d:∀j,j≠D→j≠b2→(V'.putObj D (.deferred none)).heap[j]?=V.heap[j]?:=λj Y Z=>(World.putObj_heap_other Y).trans (F.block j Z);have J:(V'.putObj D (.deferred none)).heap.size=V.heap.size:=by rw[World.putObj_size,F.size]
 refine⟨⟨⟨F.os.trans h.exm.stp.os,F.tape.trans h.exm.stp.tape,F.output.trans h.exm.stp.output,by rw[J];exact h.exm.stp.size,λj hj hm=>(d j oM oM).trans (h.exm.stp.block j hj hm)⟩,h.exm.old,λb L=>h.exm.val b (by rw[J] at L;exact L)⟩,?_,(F.block D G).trans K,G⟩;refine Ak.mono _ _ _ _ h.ty λb=>⟨Nat.le_refl _,λq O=>Dz (d b (λe=>?_) (λe=>?_)) q⟩
 · rw[e,U] at O;omega
 · rw[e,h.z3.2] at O;omega
end Go.SP
namespace Go.SW
open Go.RowKit
variable {X:Cx}{f:Fq}{Fs:List (wO→Fq→Prop)}{B:List FB}{H H':List HB}{w:wO}
theorem AQ.perm{R:List RB}(h:AQ X w f H R B Fs)(F:H'.Perm H):AQ X w f H' R B Fs:=by
 have D:(CO H' R).Perm (CO H R):=(F.map _).append_right _
 exact {h with
         blk:=λe he=>h.blk e (F.mem_iff.1 he),
         nd:=D.nodup_iff.2 h.nd,
         own:=λb G=>h.own b (D.mem_iff.1 G),
         hnw:=λe he=>h.hnw e (F.mem_iff.1 he)}
end Go.SW
namespace Go.SP
open Go.SW Go.RowKit
abbrev ExpQ(n:Nat)(s:CS)(e:Ba)(op ln co:Int)(tx:lU)(nm:Int)(kids:Nd)(x:(T1×oA×Nat)×CS):Prop:=Ca n s e op ln co tx nm kids=.ok (x.1.1,x.2)∧x.1.1.bnd∧DI x.2∧x.2.fresh+1≤s.fresh+200002*(kids.size+1)
def Zy(P:Program)(h:FuncId)(G T TS:tI)(n:Nat):Prop:=∀(w:wO)(f:Fq)(_:Vl w f)(A:Ad)(_:A.ok)(s:CS)(_:As T TS A s w f)(_:∀b,Bz A b→f b=0)(_:DI s)(op ln co nm:Int)(tx:lU)(kids:Nd)(D:oA)(nc:Nat)(e:Ba)(F:oA),
 kids.size<n→kids.size≤200000→Hf op kids→AH w f kids D nc→Gx e→AJ w f e F→s.fresh+200002*(kids.size+1)≤800000000000 →
 BI P h #[.pointer (some ⟨A.cb,0,none⟩),nV op ln co tx nm kids D nc,.pointer F] w (Fg (α:=(T1×oA×Nat)×CS) (λx=>tV x.1.1 x.1.2.1 x.1.2.2) (ExpQ n s e op ln co tx nm kids) (Bz A) (λx=>As T TS A x.2) (λx=>[λw f=>Ak w f x.1.1.kids x.1.2.1 x.1.2.2]) w f)
   (PanE G (Bz A) (λer=>Ca n s e op ln co tx nm kids=.error er) w f)
section
variable{p:MT}{s s1 s2 s3 s4 s5:CS}{e e5:Ba}{op ln co nm bop bln bco bnm o1 l1 c1 m1:Int}{tx btx x1:lU}{k bk r pk rest:Nd}{d:Ty}{q t t0 rt pt:T1}{n:Nat}
theorem Tz:Ez p e s k=(match Ez p e s k with|.error x=>.error x|.ok (l,s3)=>.ok (Ty.nil.app l,s3)):=by
 cases Ez p e s k with
 |error x=>rfl
 |ok q=>rfl
theorem Vf(h:p s e op ln co tx nm k=.ok (q,s5)) :
   (match Ez p e s (.cons op ln co tx nm k r) with|.error x=>.error x|.ok (l,s3)=>.ok (d.app l,s3):RI (Ty×CS))=(match Ez p e s5 r with|.error x=>.error x|.ok (l,s3)=>.ok ((d.snoc q).app l,s3)):=by
 rw[Ez,h];simp only
 cases Ez p e s5 r with
 |error x=>rfl
 |ok z=>obtain⟨l,s3⟩:=z;simp only[Ty.snoc_app]
variable {ar:Ty}
theorem UK{a:T1}(h:p s e op ln co tx nm k=.ok (q,s5))(D:EA s5 a q ln co=.ok s4):F8 p e s (a.cons ar) (.cons op ln co tx nm k r)=F8 p e s4 ar r:=by
 rw[F8,h];simp only;rw[T1.hd_cons,D];simp only;rw[T1.tl_cons]
theorem Zw(h:p s e op ln co tx nm k=.ok (q,s5))(D:EA (A7 s5).2 t (.con DA (q.cons (A7 s5).1.one)) ln co=.ok s4):Kr p e s t (.cons op ln co tx nm k r)=Kr p e s4 (A7 s5).1 r:=by
 rw[Kr,h];simp only;rw[D]
theorem Vm(h:C4 n s e op ln co tx nm pk=.ok (q,e5,s1))(D:EA s1 pt q ln co=.ok s2)(F:p s2 e5 bop bln bco btx bnm bk=.ok (rt,s3))(G:EA s3 t0 rt bln bco=.ok s4) :
   DH n p e pt s (some t0) (.cons o1 l1 c1 x1 m1 (.cons op ln co tx nm pk (.cons bop bln bco btx bnm bk rest)) r)=DH n p e pt s4 (some t0) r:=by
 rw[DH];simp only;rw[h];simp only;rw[D];simp only;rw[F];simp only;rw[G]
theorem U9(h:C4 n s e op ln co tx nm pk=.ok (q,e5,s1))(D:EA s1 pt q ln co=.ok s2)(F:p s2 e5 bop bln bco btx bnm bk=.ok (rt,s3)) :
   DH n p e pt s none (.cons o1 l1 c1 x1 m1 (.cons op ln co tx nm pk (.cons bop bln bco btx bnm bk rest)) r)=DH n p e pt s3 (some rt) r:=by
 rw[DH];simp only;rw[h];simp only;rw[D];simp only;rw[F]
end
variable {m:Nat}
theorem C7{k:Nd}(h:k.wfm m)(hm:2≤m∧m≤8):∃op ln co tx nm k2 r,k=.cons op ln co tx nm k2 r:=by
 cases k with
 |nil=>rcases h with h|h|h <;> omega
 |cons op ln co tx nm k2 r=>exact⟨op,ln,co,tx,nm,k2,r,C⟩
variable {f:Fq}{m:Nat}{lo x:Operand}{a:oA}{T ty:tI}{w:wO}
theorem AH.rest{op ln co nm:Int}{tx:lU}{k r:Nd}{c:Nat}(h:AH w f (.cons op ln co tx nm k r) a c):AH w f r (Fy a c 6) (c-1):=by
 obtain⟨D,F⟩:=h;have D:r.len+1≤c:=D;refine⟨oM,?_⟩;rcases F with F|⟨b,off,G,J⟩
 · cases F
 · cases r with
   |nil=>exact .inl C
   |cons K l2 c2 L m2 k2 O =>
     simp only[Nd.len] at D;refine .inr ⟨b,off+6,?_,J.2⟩;rw[Fy,if_neg (by omega),G];rfl
theorem O3{P:Program}{σ:Bf}{e:tI}{k len c:Nat}(D:len=m+1)(F:ev σ x=some (.slice a len c))(h:ev σ lo=some (.int .i64 1))(G:Je P T=some (e,k)):AK P σ (.slice T x (some lo) none none) ty w (.slice (Fy a c k) m (c-1)) w:=by
 subst D;exact WY F h G
theorem Ty.last_get:∀{k:Ty}{m:Nat},k.len=m+1→k.get m=some k.last
 |.nil,m,h=>by simp[Ty.len] at h
 |.var n .nil,m,h=>by obtain rfl:m=0:=(by simpa[Ty.len] using h.symm);rfl
 |.con tx k .nil,m,h=>by obtain rfl:m=0:=(by simpa[Ty.len] using h.symm);rfl
 |.var n (.var F r),m,h=>by
   obtain⟨m,rfl⟩:∃q,m=q+1:=⟨m-1,by simp only[Ty.len] at h;omega⟩;exact Ty.last_get (k:=.var F r) (by simp only[Ty.len] at h ⊢;omega)
 |.var n (.con D k2 r),m,h=>by
   obtain⟨m,rfl⟩:∃q,m=q+1:=⟨m-1,by simp only[Ty.len] at h;omega⟩;exact Ty.last_get (k:=.con D k2 r) (by simp only[Ty.len] at h ⊢;omega)
 |.con tx k (.var F r),m,h=>by
   obtain⟨m,rfl⟩:∃q,m=q+1:=⟨m-1,by simp only[Ty.len] at h;omega⟩;exact Ty.last_get (k:=.var F r) (by simp only[Ty.len] at h ⊢;omega)
 |.con tx k (.con D k2 r),m,h=>by
   obtain⟨m,rfl⟩:∃q,m=q+1:=⟨m-1,by simp only[Ty.len] at h;omega⟩;exact Ty.last_get (k:=.con D k2 r) (by simp only[Ty.len] at h ⊢;omega)
section
variable{s:CS}{e:Ba}{op ln co nm:Int}{tx:lU}{k r:Nd}{d:Ty}
theorem Pp(D:r≠.nil):(d.app (FK s e (.cons op ln co tx nm k r)).1,(FK s e (.cons op ln co tx nm k r)).2)=((d.snoc (A7 s).1).app (FK (A7 s).2 (if op==22 then ⟨tx,(A7 s).1,[]⟩::e else e) r).1,(FK (A7 s).2 (if op==22 then ⟨tx,(A7 s).1,[]⟩::e else e) r).2):=by
 cases r with
 |nil=>exact absurd C D
 |cons F l2 c2 G m2 k2 J =>
   rw[FK]
   · rw[Ty.snoc_app]
   · intro h;cases h
theorem Nd.last_step(h:r≠.nil):(Nd.cons op ln co tx nm k r).last=r.last:=by
 cases r with
 |nil=>exact absurd C h
 |cons=>rfl
end
theorem Nd.ne_nil{r:Nd}(h:0<r.len):r≠.nil:=λe=>by rw[e] at h;exact absurd h dC
theorem wf6{k:Nd}(h:Hf 6 k):k.wfm 0:=by simpa[Hf] using h
theorem wf7{k:Nd}(h:Hf 7 k):k.wfm 4:=by simpa[Hf] using h
theorem wf8{k:Nd}(h:Hf 8 k):0<k.len∧k.wfm 0:=by simpa[Hf] using h
theorem wf9{k:Nd}(h:Hf 9 k):k.wfm 6:=by simpa[Hf] using h
theorem wf10{k:Nd}(h:Hf 10 k):k.wfm 6:=by simpa[Hf] using h
theorem wf11{k:Nd}(h:Hf 11 k):k.wfm 7:=by simpa[Hf] using h
theorem wf12{k:Nd}(h:Hf 12 k):0<k.len∧k.wfm 0:=by simpa[Hf] using h
theorem wf13{k:Nd}(h:Hf 13 k):k.wfm 0:=by simpa[Hf] using h
theorem wf14{k:Nd}(h:Hf 14 k):k.wfm 5:=by simpa[Hf] using h
theorem wf15{k:Nd}(h:Hf 15 k):k.wfm 5:=by simpa[Hf] using h
theorem wf16{k:Nd}(h:Hf 16 k):k.wfm 3:=by simpa[Hf] using h
theorem wf17{op:Int}{k:Nd}(h:Hf op k)(h1:(op==1)=false)(h2:(op==2)=false)(h3:(op==3)=false)(h4:(op==4)=false)(h5:(op==5)=false)(O:(op==6)=false)(U:(op==7)=false)(Y:(op==8)=false)(Z:(op==9)=false)(D:(op==10)=false)(F:(op==11)=false)(G:(op==12)=false)(J:(op==13)=false)(K:(op==14)=false)(L:(op==15)=false)(DR:(op==16)=false):k.wfm 3:=by
 simp only[beq_eq_false_iff_ne,ne_eq] at *;unfold Hf at h;rcases h with h|h|h|h|h|h|h|h|h
 · omega
 · exact absurd h.1 O
 · exact absurd h.1 U
 · rcases h.1 with h|h
   · exact absurd h Y
   · exact absurd h G
 · rcases h.1 with h|h
   · exact absurd h Z
   · exact absurd h D
 · exact absurd h.1 F
 · exact absurd h.1 J
 · rcases h.1 with h|h
   · exact absurd h K
   · exact absurd h L
 · exact h.2
theorem gA:∀(n:Nat)(k:Ty),k.len≤n→k.bnd→(Ih k).bnd:=by
 intro n
 induction n with
 |zero=>intro k G _;obtain rfl:=Ty.len0 (k:=k) oM;exact Bw 0
 |succ n J =>
   intro k G K
   cases D:k.len with
   |zero=>obtain rfl:=Ty.len0 D;exact Bw 0
   |succ m =>
     obtain⟨t,r,rfl⟩:=Ty.cases1 k oM;rw[T1.len_cons] at G;obtain⟨h,F⟩:=T1.bnd_cons.1 K
     cases L:r.len with
     |zero=>obtain rfl:=Ty.len0 L;exact (RQ t).symm▸h
     |succ m2 =>
       have:=J r oM F;obtain⟨u,r,rfl⟩:=Ty.cases1 r oM;rw[Oz];exact Dt dC (by simp[T1.len_cons,T1.one,Ty.len]) (T1.bnd_cons.2 ⟨h,GO this⟩)
end Go.SP
namespace Go.SW
open Go.RowKit Go.SP
section
variable{P:Program}{n:Nat}{Q:AX}{ds:List Deferred}{X:Cx}{R:List RB}{B:List FB}{Fs:List (wO→Fq→Prop)}{fs:List Fr}{σ:Bf}{H:List HB}{k:KX}{na:oA}{c:Nat}
theorem mnr{x r:Nd}{op ln co nm:Int}{tx:lU}{q:Nd}(j:Nat)(D:nth Fs j=some (λw f=>AH w f x na c))(e:x=.cons op ln co tx nm q r)(h:A3 P n Q ds X R B ((λw f=>AH w f r (Fy na c 6) (c-1))::Fs) k fs σ H):A3 P n Q ds X R B Fs k fs σ H:=D5 _ (λ_ _ F=>AH.rest (e▸F.fn D)) AH.mono h
end
end Go.SW
namespace Go.SP
open Go.SW Go.RowKit
def Nd.txb:Nd→Prop
 |.nil=>True
 |.cons _ _ _ tx _ k r=>tx.length≤100000∧k.txb∧r.txb
def N6(datas:List (lU×Int))(tx:lU)(kids:Nd):Bool :=
 if Cq EO ([32]++tx++[32]) then (kids.len:Int)==0
 else if tx==DA then (kids.len:Int)==2
 else if Cq IU ([32]++tx++[32]) then true
 else match AD datas tx with|some c=>c==(kids.len:Int)|none=>false
def CT(datas:List (lU×Int))(vars:List (lU×T1))(op ln co:Int)(tx:lU)(kids:Nd):RI T1 :=
 if op==31 then (match AD vars tx with
   |some t=>.ok t
   |none=>.error (ln,co,11))
 else if N6 datas tx kids then (match Dr datas vars kids with|.error x=>.error x|.ok k=>.ok (.con tx k)) else .error (ln,co,11)
section
variable{datas:List (lU×Int)}{vars:List (lU×T1)}{op ln co nm:Int}{tx:lU}{k r:Nd}{d:Ty}{t:T1}{er:Er}
theorem Kb:Dr datas vars (.cons op ln co tx nm k r)=(match CT datas vars op ln co tx k with
   |.error x=>.error x
   |.ok t=>match Dr datas vars r with
     |.error x=>.error x
     |.ok l=>.ok (t.cons l)):=rfl
theorem OP:Dr datas vars k=(match Dr datas vars k with|.error x=>.error x|.ok l=>.ok (Ty.nil.app l)):=by cases Dr datas vars k <;> rfl
theorem Hh(h:CT datas vars op ln co tx k=.ok t):(match Dr datas vars (.cons op ln co tx nm k r) with|.error x=>.error x|.ok l=>.ok (d.app l):RI Ty)=(match Dr datas vars r with|.error x=>.error x|.ok l=>.ok ((d.snoc t).app l)):=by
 rw[Kb,h];simp only
 cases Dr datas vars r with
 |error x=>rfl
 |ok z=>simp only[Ty.snoc_app]
theorem Jw(h:CT datas vars op ln co tx k=.error er):Dr datas vars (.cons op ln co tx nm k r)=.error er:=by rw[Kb,h]
end
theorem EE{α:Type}(g:α→Value)(n:lU):∀l:List (lU×α),ER (l.map λp=>(p.1,g p.2)) n=(AD l n).map g
 | []=>rfl
 |(k,v)::l=>by
   simp only[List.map_cons,ER,AD]
   by_cases h:k=n
   · subst h;simp
   · have D:(k==n)=false:=by simpa using h
     have F:(n==k)=false:=by simpa using λe:n=k=>h e.symm
     rw[D,F];simpa using EE g n l
def Oy(v:Value)(vars:List (lU×T1))(w:wO):Prop:=(v=.map none∧vars=[])∨∃m,v=.map (some m)∧BM BQ w m (vars.map λp=>(p.1,tV p.2 none 0))∧Jp (vars.map λp=>(p.1,tV p.2 none 0))∧∀n t,AD vars n=some t→∃q,t=.var q
variable {σ:Bf}{f f':Fq}{x:Operand}{P:Program}{T e ty:tI}{w w':wO}
theorem Oy.keep{v:Value}{vars:List (lU×T1)}(h:Oy v vars w)(F:CK (λ_=>False) w f w' f'):Oy v vars w' :=
 h.imp id λ⟨m,G,D,J⟩=>⟨m,G,D.heap (F.stp.block m D.lt (λh=>h)),J⟩
theorem uD{k:tI}{y:Operand}{z:Value}{a:lU}(J:ev σ x=some (.map none))(K:ev σ y=some (S a))(L:Gn P T=some (k,e))(G:P.underlying k=some BQ.desc)(hz:qW P e z):AK P σ (.lookup T x y true) ty w (.tuple #[z,.bool false]) w:=λQ _ _ _ _ h=>by
 have hu:=Kf L;obtain⟨i,O,hz⟩:=Su hz;have F:=λb=>BQ.chk P k w a b G;have D:∀b,(Instr.checkKey b 10000 k (S a)).run P w=.ok () w:=F;simp[execOp,h _ _ J,h _ _ K,Instr.lookup,run_underlying hu,D,Instr.findKey,run_underlying G,Instr.findNow,zeroValue,typeInfo,O,hz]
def TypF(P:Program)(G:wO→Fq→Prop)(h:FuncId)(J T TS:tI)(n:Nat):Prop:=∀(w:wO)(f:Fq)(_:Vl w f)(A:Ad)(s:CS)(_:As T TS A s w f)(_:DI s)(_:G w f)(op ln co nm:Int)(tx:lU)(kids:Nd)(D:oA)(nc:Nat)(F:Value)(vars:List (lU×T1)),
 kids.size<n→kids.size≤200000→tx.length≤100000→kids.txb→Oy F vars w→AH w f kids D nc →
 BI P h #[.pointer (some ⟨A.cb,0,none⟩),nV op ln co tx nm kids D nc,F] w (B3 (α:=T1×oA×Nat) (λx=>tV x.1 x.2.1 x.2.2) (λx=>CT s.datas vars op ln co tx kids=.ok x.1∧x.1.bnd) (λx=>[λw f=>Ak w f x.1.kids x.2.1 x.2.2]) w f)
   (PanE J (λ_=>False) (λer=>CT s.datas vars op ln co tx kids=.error er) w f)
section
variable{T TS:tI}{A:Ad}{s:CS}{w w':wO}{f f':Fq}
variable {fr pr:Int}{ac b mb oc sb vc:Nat}{aa oa va:oA}
theorem BC.chg{so:BZ}(h:BC TS sb mb so fr pr w f)(d:GG b w w')(D:sb≠b)(F:mb≠b)(G:f b=0):BC TS sb mb so fr pr w' f :=
 BC.stab (MI:=λk=>k=sb∨k=mb) (.inl C) (.inr C) _ _ _ _ h (GG.fle d G) λk J=>d.block k (by rcases J with rfl|rfl;exact D;exact F)
theorem As.setVars(h:As T TS A s w f)(d:A.ok)(D:GG A.cb w w'){v:Int}(G:AM w' A.cb [.pointer (some ⟨A.sb,0,none⟩),.map (some A.km),.map (some A.dm),.map (some A.rm),.int .i64 v] T)(F:f A.cb=0):As T TS A {s with vars:=v} w' f where
 blk:=G
 sol:=let ⟨pr,J⟩:=h.sol;⟨pr,J.chg D (Ne.symm d.cs) (Ne.symm d.cm.1) F⟩
 cons:=let ⟨es,K,L⟩:=h.cons;⟨es,K.heap (D.block _ (Ne.symm d.cm.2.1)),Cb.mono (GG.fle D F) _ _ L⟩
 datas:=h.datas.heap (D.block _ (Ne.symm d.cm.2.2.1))
 roots:=h.roots.heap (D.block _ (Ne.symm d.cm.2.2.2))
theorem As.addData(h:As T TS A s w f)(d:A.ok)(D:GG A.dm w w'){k:lU}{n:Int}(hm:BM BQ w' A.dm ((k,.int .i64 n)::s.datas.map λp=>(p.1,.int .i64 p.2)))(F:f A.dm=0):As T TS A {s with datas:=(k,n)::s.datas} w' f where
 blk:=(D.block _ d.cm.2.2.1).trans h.blk
 sol:=let ⟨pr,G⟩:=h.sol;⟨pr,G.chg D d.sm.2.2.1 d.mm.2.1 F⟩
 cons:=let ⟨es,J,K⟩:=h.cons;⟨es,J.heap (D.block _ d.mm.2.2.2.1),Cb.mono (GG.fle D F) _ _ K⟩
 datas:=hm
 roots:=h.roots.heap (D.block _ (Ne.symm d.mm.2.2.2.2.2))
theorem As.addRoot(h:As T TS A s w f)(d:A.ok)(D:GG A.rm w w'){k:lU}(hm:BM BQ w' A.rm ((k,.bool true)::s.roots.map λk=>(k,.bool true)))(F:f A.rm=0):As T TS A {s with roots:=k::s.roots} w' f where
 blk:=(D.block _ d.cm.2.2.2).trans h.blk
 sol:=let ⟨pr,G⟩:=h.sol;⟨pr,G.chg D d.sm.2.2.2 d.mm.2.2.1 F⟩
 cons:=let ⟨es,J,K⟩:=h.cons;⟨es,J.heap (D.block _ d.mm.2.2.2.2.1),Cb.mono (GG.fle D F) _ _ K⟩
 datas:=h.datas.heap (D.block _ d.mm.2.2.2.2.2)
 roots:=hm
theorem As.addCons(h:As T TS A s w f)(D:A.ok){es:List (lU×Value)}(G:Cb w f s.cons es)(d:GG A.km w w'){k:lU}{m:Mk}(hm:BM BQ w' A.km ((k,.agg (jE m aa ac oa oc va vc).toArray)::es))(F:f A.km=0)
   (J:Ak w f m.args aa ac) (K:Ak w f m.out.kids oa oc) (L:B9 w f m.vars va vc):As T TS A {s with cons:=(k,m)::s.cons} w' f where
 blk:=(d.block _ D.cm.2.1).trans h.blk
 sol:=let ⟨pr,O⟩:=h.sol;⟨pr,O.chg d D.sm.2.1 D.mm.1 F⟩
 cons:=⟨_,hm,aa,ac,oa,oc,va,vc,es,C,Ak.mono _ _ _ _ J (GG.fle d F),Ak.mono _ _ _ _ K (GG.fle d F),B9.mono _ _ _ _ L (GG.fle d F),Cb.mono (GG.fle d F) _ _ G⟩
 datas:=h.datas.heap (d.block _ (Ne.symm D.mm.2.2.2.1))
 roots:=h.roots.heap (d.block _ (Ne.symm D.mm.2.2.2.2.1))
end
abbrev vEs(vars:List (lU×T1)):List (lU×Value):=vars.map λp=>(p.1,tV p.2 none 0)
def Ex(T TS:tI)(A:Ad)(s:CS)(vm:Nat)(vars:List (lU×T1))(w:wO)(f:Fq):Prop:=As T TS A s w f∧BM BQ w vm (vEs vars)
section
variable{T TS:tI}{A:Ad}{s:CS}{w w':wO}{f f':Fq}{vm:Nat}{vars:List (lU×T1)}
theorem Ex.stab:FD (λb=>Bz A b∨b=vm) (Ex T TS A s vm vars):=λw f w' f' h D d =>
 ⟨As.stab w f w' f' h.1 D λb hm=>d b (.inl hm),h.2.heap (d _ (.inr C))⟩
variable {b:Nat}
theorem RG{l:List (lU×Value)}(h:BM BQ w vm l)(D:GG b w w')(d:vm≠b):BM BQ w' vm l:=h.heap (D.block _ d)
end
section
variable{P:Program}{n:Nat}{Q:AX}{ds:List Deferred}{M:Nat→Prop}{w0:wO}{f0:Fq}{T TS:tI}{A:Ad}{s:CS}{vm:Nat}{vars:List (lU×T1)}{R:List RB}{B:List FB}{Fs:List (wO→Fq→Prop)}{fs:List Fr}{σ:Bf}{H:List HB}
variable{all r:List Oper}{ty TM k e:tI}{pos:String}{af:Array Edge}{g:Option (Nat×Bool)}{x y z:Operand}
variable {ag:Bool}{ac i1 oc vc:Nat}{aa oa va:oA}{vz:Value}
theorem dSet{v:Int}(F:A.ok)(d:¬Bz A vm)(G:gd all σ g=some true)(J:ev σ x=some (.pointer (some ⟨A.cb,4,none⟩)))(K:ev σ y=some (.int .i64 v))(L:AP P TM=some (ag,1))
   (h:A3 P n Q ds ⟨M,λb=>Bz A b∨b=vm,Ex T TS A {s with vars:=v} vm vars,w0,f0⟩ R B Fs (.ops all r) fs σ H):A3 P n Q ds ⟨M,λb=>Bz A b∨b=vm,Ex T TS A s vm vars,w0,f0⟩ R B Fs (.ops all (⟨none,.store TM x y,ty,pos,af,g⟩::r)) fs σ H :=
 Vx (b:=A.cb) (I':=Ex T TS A {s with vars:=v} vm vars) G J K C L C C C (.inl (.inl C)) (λw f h=>h.1.blk) (λw f Y h O D U=>⟨h.1.setVars F D U (O.mi _ (.inl (.inl C))).2.1,RG h.2 D λe=>d (e▸.inl C)⟩) Ex.stab h
theorem dVar{a:lU}{q:Int}(d:¬Bz A vm)(D:gd all σ g=some true)(F:ev σ x=some (.map (some vm)))(G:ev σ y=some (S a))(hz:ev σ z=some (tV (.var q) none 0))(J:Gn P TM=some (k,e))(L:P.underlying k=some .string)(hd:Jp (vEs vars))(O:AD vars a=none)
   (h:A3 P n Q ds ⟨M,λb=>Bz A b∨b=vm,Ex T TS A s vm ((a,.var q)::vars),w0,f0⟩ R B Fs (.ops all r) fs σ H):A3 P n Q ds ⟨M,λb=>Bz A b∨b=vm,Ex T TS A s vm vars,w0,f0⟩ R B Fs (.ops all (⟨none,.mapUpdate TM x y z,ty,pos,af,g⟩::r)) fs σ H :=
 cN (K:=BQ) (a:=a) (l:=vEs vars) (I':=Ex T TS A s vm ((a,.var q)::vars)) D F G hz J L (.inr C) hd (by rw[vEs,EE (λt=>tV t none 0),O];rfl) (λw f h=>h.2) (λw f Z h U Y hm=>⟨h.1.chg Y d (U.mi vm (.inr C)).2.1,hm⟩) Ex.stab h
theorem dData{a:lU}{q:Int}(F:A.ok)(d:¬Bz A vm)(hw:DI s)(G:gd all σ g=some true)(J:ev σ x=some (.map (some A.dm)))(L:ev σ y=some (S a))(hz:ev σ z=some (.int .i64 q))(O:Gn P TM=some (k,e))(U:P.underlying k=some .string)(Y:AD s.datas a=none)
   (h:A3 P n Q ds ⟨M,λb=>Bz A b∨b=vm,Ex T TS A {s with datas:=(a,q)::s.datas} vm vars,w0,f0⟩ R B Fs (.ops all r) fs σ H):A3 P n Q ds ⟨M,λb=>Bz A b∨b=vm,Ex T TS A s vm vars,w0,f0⟩ R B Fs (.ops all (⟨none,.mapUpdate TM x y z,ty,pos,af,g⟩::r)) fs σ H :=
 cN (K:=BQ) (a:=a) (l:=s.datas.map λp=>(p.1,.int .i64 p.2)) (I':=Ex T TS A {s with datas:=(a,q)::s.datas} vm vars) G J L hz O U (.inl (.inr (.inr (.inr (.inr (.inl C)))))) hw.dd (by rw[EE (λc=>Value.int .i64 c),Y];rfl) (λw f h=>h.1.datas) (λw f w2 h Z D hm=>⟨h.1.addData F D hm (Z.mi _ (.inl (.inr (.inr (.inr (.inr (.inl C))))))).2.1,RG h.2 D λe=>d (e▸.inr (.inr (.inr (.inr (.inl C)))))⟩) Ex.stab h
theorem Aa0{a:lU}{m:Mk}{i2 i3:Nat}(hA:A.ok)(F:¬Bz A vm)(hw:DI s)(hg:gd all σ g=some true)(hx:ev σ x=some (.map (some A.km)))(hy:ev σ y=some (S a))(hz:ev σ z=some vz)(G:vz=.agg (jE m aa ac oa oc va vc).toArray)(hT:Gn P TM=some (k,e))(hk:P.underlying k=some .string)(hn:AD s.cons a=none)
   (J:nth Fs i1=some λw f=>Ak w f m.args aa ac) (L:nth Fs i2=some λw f=>Ak w f m.out.kids oa oc) (O:nth Fs i3=some λw f=>B9 w f m.vars va vc)
   (h:A3 P n Q ds ⟨M,λb=>Bz A b∨b=vm,Ex T TS A {s with cons:=(a,m)::s.cons} vm vars,w0,f0⟩ R B Fs (.ops all r) fs σ H):A3 P n Q ds ⟨M,λb=>Bz A b∨b=vm,Ex T TS A s vm vars,w0,f0⟩ R B Fs (.ops all (⟨none,.mapUpdate TM x y z,ty,pos,af,g⟩::r)) fs σ H:=by
 subst G;exact oZ (λes w f=>Ex T TS A s vm vars w f∧BM BQ w A.km es∧Cb w f s.cons es) (λw f h=>let ⟨es,h1,h2⟩:=h.1.cons;⟨es,h,h1,h2⟩) (λes w f w' f' h Y Z=>⟨Ex.stab w f w' f' h.1 Y Z,h.2.1.heap (Z _ (.inl (.inr (.inr (.inr (.inl C)))))),Cb.mono Y _ _ h.2.2⟩) λes=>Jf (λw f d=>(show Jp es from Cb.dis d.res.2.2 hw.dc)) λD=>Jf (λw f d=>(show ER es a=none from (Cb.look d.res.2.2).1 hn)) λU=>cN (K:=BQ) (a:=a) (l:=es) (I':=Ex T TS A {s with cons:=(a,m)::s.cons} vm vars) hg hx hy hz hT hk (.inl (.inr (.inr (.inr (.inl C))))) D U (λw f h=>h.2.1) (λw f w2 h d hC hm=>⟨h.1.1.addCons hA h.2.2 hC hm (d.mi _ (.inl (.inr (.inr (.inr (.inl C)))))).2.1 (d.fact J) (d.fact L) (d.fact O),RG h.1.2 hC λe=>F (e▸.inr (.inr (.inr (.inl C))))⟩) Ex.stab h
end
theorem Eb{α:Type}{a b:lU}{v:α}{l:List (lU×α)}:AD ((a,v)::l) b=if a==b then some v else AD l b:=rfl
theorem J9{α:Type}(g:α→Value){a:lU}{v:α}{l:List (lU×α)}(h:Jp (l.map λp=>(p.1,g p.2)))(d:AD l a=none):Jp (((a,v)::l).map λp=>(p.1,g p.2)):=⟨by rw[EE,d];rfl,h⟩
theorem DI.addData{s:CS}(h:DI s){a:lU}{q:Int}(d:AD s.datas a=none):DI {s with datas:=(a,q)::s.datas}:={h with dd:=J9 (λc=>Value.int .i64 c) h.dd d}
theorem DI.setVars{s:CS}(h:DI s){v:Int}:DI {s with vars:=v}:={h with}
theorem DI.addCons{s:CS}(h:DI s){a:lU}{m:Mk}(D:AD s.cons a=none)(hm:m.args.len≤200000∧m.args.bnd∧m.out.bnd∧m.vars.length≤200000):DI {s with cons:=(a,m)::s.cons} :=
 {h with
   cons:=λk F d=>by
     rw[Eb] at d
     split at d
     · cases d;exact hm
     · exact h.cons k F d,
   dc:=J9 (λ_=>Value.bool true) h.dc D}
section
variable{ln co:Int}{op ln2 co2 nm:Int}{tx:lU}{k r:Nd}{v:Int}{m:List (lU×T1)}{self:Ty}{nums:List Int}
theorem KF(h:(op==31)=true)(d:AD m tx=none):CZ ln co (.cons op ln2 co2 tx nm k r) v m self nums=CZ ln co r (v-1) ((tx,.var (v-1))::m) (self.snoc (.var (v-1))) (nums++[v-1]):=by
 rw[CZ,if_pos h,if_neg (by rw[d];decide)]
theorem VS(h:(op==31)=true){t:T1}(d:AD m tx=some t):CZ ln co (.cons op ln2 co2 tx nm k r) v m self nums=.error (ln,co,11):=by
 rw[CZ,if_pos h,if_pos (by rw[d];rfl)]
theorem Un(h:(op==31)=false):CZ ln co (.cons op ln2 co2 tx nm k r) v m self nums=CZ ln co r v m self nums:=by
 rw[CZ,if_neg (by rw[h];decide)]
variable{datas:List (lU×Int)}{out:T1}{c:List (lU×Mk)}
theorem W0(h:(op==42)=true)(d:AD c tx=none){args:Ty}(D:Dr datas m k=.ok args):C2 datas m out nums (.cons op ln2 co2 tx nm k r) c=C2 datas m out nums r ((tx,⟨args,out,nums⟩)::c):=by
 rw[C2,if_pos h,if_neg (by rw[d];decide),D]
theorem Sg(h:(op==42)=true){mk:Mk}(d:AD c tx=some mk):C2 datas m out nums (.cons op ln2 co2 tx nm k r) c=.error (ln2,co2,11):=by
 rw[C2,if_pos h,if_pos (by rw[d];rfl)]
theorem Of(h:(op==42)=true)(d:AD c tx=none){er:Er}(D:Dr datas m k=.error er):C2 datas m out nums (.cons op ln2 co2 tx nm k r) c=.error er:=by
 rw[C2,if_pos h,if_neg (by rw[d];decide),D]
theorem Ux(h:(op==42)=false):C2 datas m out nums (.cons op ln2 co2 tx nm k r) c=C2 datas m out nums r c:=by
 rw[C2,if_neg (by rw[h];decide)]
end
abbrev TJ:=lU×Int×T1
def pC(p:TJ)(a:oA)(c:Nat):lV:=S p.1::.int .i64 p.2.1::tC p.2.2 a c
def Db(w:wO)(f:Fq):List TJ→lV→Prop
 | [],xs=>xs=[]
 |p::l,xs=>∃a c xs',xs=pC p a c++xs'∧Ak w f p.2.2.kids a c∧Db w f l xs'
theorem Db.mono'{w w':wO}{f f':Fq}(d:Ii w f w' f'):∀(l:List TJ)(xs:lV),Db w f l xs→Db w' f' l xs
 | [],_,h=>h
 |_::l,_,⟨a,c,xs',D,F,G⟩=>⟨a,c,xs',D,Ak.mono _ _ _ _ F d,Db.mono' d l xs' G⟩
theorem Db.snoc{w:wO}{f:Fq}{p:TJ}{a:oA}{c:Nat}(d:Ak w f p.2.2.kids a c):∀{l:List TJ}{xs:lV},Db w f l xs→Db w f (l++[p]) (xs++pC p a c)
 | [],xs,h=>by
   have h:xs=[]:=h;subst h;exact⟨a,c,[],by simp,d,C⟩
 |q::l,xs,⟨a',c',xs',D,F,G⟩=>⟨a',c',xs'++pC p a c,by rw[D,List.append_assoc],F,Db.snoc d G⟩
theorem Db.len{w:wO}{f:Fq}:∀{l:List TJ}{xs:lV},Db w f l xs→xs.length=l.length*6
 | [],xs,h=>by have h:xs=[]:=h;subst h;rfl
 |p::l,xs,⟨a,c,xs',d,F,D⟩=>by
   have:=Db.len D;subst d;simp only[List.length_append,List.length_cons,pC,tC,List.length_nil];omega
theorem Db.mono{l:List TJ}{xs:lV}:FU (λw f=>Db w f l xs):=λ_ _ _ _ h d=>Db.mono' d l xs h
def Pw(ob:Nat)(a:oA)(b:Nat):Prop:=b=ob∨rb a=some b
structure DW(T E:tI)(ob:Nat)(sl:Value)(a:oA)(c n:Nat)(xs:lV)(w:wO)(_:Fq):Prop where
 blk:AM w ob [sl] T
 row:BX w E 6 a c n xs
 ne:rb a≠some ob
section
variable{T E:tI}{ob:Nat}{sl sl':Value}{a a':oA}{c c' n n':Nat}{xs xs':lV}{w w':wO}{f f':Fq}
theorem DW.stab:FD (Pw ob a) (DW T E ob sl a c n xs):=λw f w' f' h K d=>⟨(d _ (.inl C)).trans h.blk,⟨h.row.1,h.row.2.imp id λ⟨b,l,D,F,G⟩=>⟨b,l,D,(d b (.inr (by rw[D];rfl))).trans F,G⟩⟩,h.ne⟩
variable {b:Nat}
theorem DW.lt(h:DW T E ob sl a c n xs w f)(d:Pw ob a b):b<w.heap.size:=by
 rcases d with rfl|d
 · exact h.blk.lt
 · exact h.row.lt d
theorem DW.app(h:DW T E ob sl a c n xs w f)(D:BX w' E 6 a' c' n' xs')(d:Fj a w a' w'):DW T E ob sl a' c' n' xs' w' f' :=
 ⟨h.blk.grow d (λe=>h.ne e.symm),D,λe=>d.own.elim (λo=>h.ne (o.symm.trans e)) (λo=>absurd h.blk.lt (by rw[← Option.some.inj (o.symm.trans e)];exact Nat.lt_irrefl _))⟩
theorem DW.store(h:DW T E ob sl a c n xs w f)(d:GG ob w w')(D:AM w' ob [sl'] T):DW T E ob sl' a c n xs w' f':=⟨D,BX.chgB h.row d h.ne,h.ne⟩
theorem Pw.or(h:Pw ob a' b):Pw ob a b∨rb a'=some b:=h.elim (λh=>.inl (.inl h)) .inr
end
def Uy:List (T1×oA×Nat)→Ty
 | []=>.nil
 |t::l=>t.1.cons (Uy l)
def yG:List (T1×oA×Nat)→lV
 | []=>[]
 |t::l=>tC t.1 t.2.1 t.2.2++yG l
def hoL(w:wO)(f:Fq):List (T1×oA×Nat)→Prop
 | []=>True
 |t::l=>Ak w f t.1.kids t.2.1 t.2.2∧hoL w f l
theorem ZO{w:wO}{f:Fq}:∀{l:List (T1×oA×Nat)},hoL w f l→Bi w f (Uy l) (yG l)
 | [],_=>rfl
 |(.var n,a,c)::l,h=>⟨a,c,yG l,C,ZO h.2⟩
 |(.con tx k,a,c)::l,h=>⟨a,c,yG l,C,h.1,ZO h.2⟩
theorem QL:∀l:List (T1×oA×Nat),(Uy l).len=l.length
 | []=>rfl
 |t::l=>by rw[Uy,T1.len_cons,QL l];rfl
variable {b:Nat}{M:Nat→Prop}{w0:wO}
theorem Dg{w:wO}{f:Fq}{l:List (T1×oA×Nat)}(h:hoL w f l)(d:Cs w f b 0 (yG l)):Ak w f (Uy l) (some ⟨b,0,none⟩) l.length:=Bi.toF (ZO h) d (by rw[QL];exact Nat.le_refl _)
def V9(w:wO)(f:Fq)(l:List TJ)(a:oA)(c:Nat):Prop:=l.length≤c∧∃b xs,a=some ⟨b,0,none⟩∧Cs w f b 0 xs∧Db w f l xs
theorem V9.mono{l:List TJ}{a:oA}{c:Nat}:FU (λw f=>V9 w f l a c):=λ_ _ _ _ h d=>⟨h.1,let ⟨b,xs,D,F,G⟩:=h.2;⟨b,xs,D,F.mono d,Db.mono' d l xs G⟩⟩
theorem DW.fin{T E:tI}{ob:Nat}{sl:Value}{a:oA}{c n:Nat}{xs:lV}{w:wO}{f0 f:Fq}{l:List TJ}(h:DW T E ob sl a c n xs w f)(D:CK M w0 f0 w f)(U:∀b,rb a=some b→w0.heap.size≤b)(Y:Db w f l xs)(hl:l.length=n)(h0:0<n):∃f',CK M w0 f0 w f'∧V9 w f' l a c:=by
 rcases h.row.2 with ⟨_,_,hz⟩|⟨b,q,L,O,Z,hq1,hq,ht⟩
 · omega
 · have hlt:=O.lt
   refine⟨λk=>if k=b then max xs.length (f k) else f k,?_,oM,b,xs,L,?_,?_⟩
   · refine⟨D.stp,λk F=>?_,λk F=>?_⟩
     · have:=U b (by rw[L];rfl)
       rw[if_neg (by omega)];exact D.old k F
     · rw[if_neg (by omega)];exact D.val k F
   · intro j v d
     have hjl:j<xs.length:=(List.getElem?_eq_some_iff.1 d).1;refine⟨by simp only[if_true];omega,?_⟩;have G:w.heap[b]?=some (.cells q.toArray _):=O
     have K:q[j]?=some v:=by
       rw[← ht] at d;rw[List.getElem?_take] at d
       split at d
       · exact d
       · cases d
     simp[World.cell?,G,K]
   · exact Db.mono' (λk=>⟨by split <;> omega,λ_ _=>C⟩) l xs Y
end Go.SP
namespace Go.SW
open Go.RowKit
variable {top:Bool}{fs:List Fr}
theorem mmi{P:Program}{n:Nat}{Q:AX}{ds:List Deferred}{X:Cx}{R:List RB}{B:List FB}{Fs:List (wO→Fq→Prop)}{σ:Bf}{H:List HB}{k:KX}(MI':Nat→Prop)(I':wO→Fq→Prop)(hm:∀b,MI' b→X.MI b)(G:∀w f,X.I w f→I' w f)(F:FD MI' I')
   (h:A3 P n Q ds {X with MI:=MI',I:=I' } R B Fs k fs σ H):A3 P n Q ds X R B Fs k fs σ H:=λw f d =>
 h w f {d with
         res:=G w f d.res,
         stab:=F,
         mi:=λb D=>d.mi b (hm b D),
         own:=λb D=>⟨(d.own b D).1,(d.own b D).2.1,λh=>(d.own b D).2.2 (hm b h)⟩}
section
variable{P:Program}{n:Nat}{Q:AX}{ds:List Deferred}{X:Cx}{R:List RB}{B:List FB}{Fs:List (wO→Fq→Prop)}{l:List Oper}{Hk:List HB}{B0:List FB}{J:wO→Prop}{σ:Bf}{H:List HB}
theorem LU{α:Type}{t:OT}(t':OT)(s':α→Bf)(H':α→List HB)(B':α→List FB)(F':α→List (wO→Fq→Prop))(d:∀x,Dj P n Q ds X R (B' x) (F' x) l Hk B0 J true t' (s' x) (H' x))
   (h:(∀x,Dj P n Q ds X R (B' x) (F' x) l Hk B0 J true t' (s' x) (H' x))→Dj P n Q ds X R B Fs l Hk B0 J top t σ H):Dj P n Q ds X R B Fs l Hk B0 J top t σ H:=h d
theorem Fk{α:Type}{t:OT}{s':α→Bf}{H':α→List HB}{B':α→List FB}{F':α→List (wO→Fq→Prop)}(h:∀x,Dj P n Q ds X R (B' x) (F' x) l Hk B0 J true t (s' x) (H' x))(x:α)(d:Le (s' x) σ)(D:∀w f,AQ X w f H R B Fs→AQ X w f (H' x) R (B' x) (F' x)):Dj P n Q ds X R B Fs l Hk B0 J true t σ H :=
 λw f hm a F=>h x w f (D w f hm) a (F.le d)
end
end Go.SW
namespace Go.SP
open Go.SW Go.RowKit
section
variable{P:Program}{n:Nat}{Q:AX}{ds:List Deferred}{M:Nat→Prop}{w0:wO}{f0:Fq}{T TS:tI}{A:Ad}{s:CS}{R:List RB}{B:List FB}{Fs:List (wO→Fq→Prop)}{fs:List Fr}{σ:Bf}{H:List HB}
variable{all r:List Oper}{ty TM k e:tI}{pos:String}{af:Array Edge}{g:Option (Nat×Bool)}{x y z:Operand}
variable {ag:Bool}{ac i1 oc vc:Nat}{aa oa va:oA}{vz:Value}
theorem cSet{v:Int}(d:A.ok)(D:gd all σ g=some true)(F:ev σ x=some (.pointer (some ⟨A.cb,4,none⟩)))(G:ev σ y=some (.int .i64 v))(J:AP P TM=some (ag,1))
   (h:A3 P n Q ds ⟨M,Bz A,As T TS A {s with vars:=v},w0,f0⟩ R B Fs (.ops all r) fs σ H):A3 P n Q ds ⟨M,Bz A,As T TS A s,w0,f0⟩ R B Fs (.ops all (⟨none,.store TM x y,ty,pos,af,g⟩::r)) fs σ H :=
 Vx (b:=A.cb) (I':=As T TS A {s with vars:=v}) D F G C J C C C (.inl C) (λw f h=>h.blk) (λw f U h K L O=>h.setVars d L O (K.mi _ (.inl C)).2.1) As.stab h
theorem cRoot{a:lU}(D:A.ok)(hw:DI s)(F:gd all σ g=some true)(G:ev σ x=some (.map (some A.rm)))(J:ev σ y=some (S a))(hz:ev σ z=some (.bool true))(L:Gn P TM=some (k,e))(O:P.underlying k=some .string)(U:s.roots.contains a=false)
   (h:A3 P n Q ds ⟨M,Bz A,As T TS A {s with roots:=a::s.roots},w0,f0⟩ R B Fs (.ops all r) fs σ H):A3 P n Q ds ⟨M,Bz A,As T TS A s,w0,f0⟩ R B Fs (.ops all (⟨none,.mapUpdate TM x y z,ty,pos,af,g⟩::r)) fs σ H :=
 cN (K:=BQ) (a:=a) (l:=s.roots.map λk=>(k,.bool true)) (I':=As T TS A {s with roots:=a::s.roots}) F G J hz L O (.inr (.inr (.inr (.inr (.inr C))))) hw.dr (by
   have:∀l:List lU,l.contains a=false→ER (l.map λk=>(k,Value.bool true)) a=none:=by
     intro l
     induction l with
     |nil=>intro _;rfl
     |cons b l Y =>
       intro d;rw[List.contains_cons,Bool.or_eq_false_iff] at d;simp only[List.map_cons,ER];rw[d.1];simpa using Y d.2
   exact this _ U) (λw f h=>h.roots) (λw f w2 h Z hC hm=>h.addRoot D hC hm (Z.mi _ (.inr (.inr (.inr (.inr (.inr C)))))).2.1) As.stab h
theorem zB{a:lU}{m:Mk}(U:A.ok)(hw:DI s)(Y:gd all σ g=some true)(Z:ev σ x=some (.map (some A.km)))(hy:ev σ y=some (S a))(hz:ev σ z=some vz)(F:vz=.agg (jE m aa ac oa oc va vc).toArray)(hT:Gn P TM=some (k,e))(hk:P.underlying k=some .string)(hn:AD s.cons a=none)
   (G:nth Fs i1=some λw f=>Ak w f m.args aa ac) (J:m.out.kids=.nil) (L:m.vars=[])
   (h:A3 P n Q ds ⟨M,Bz A,As T TS A {s with cons:=(a,m)::s.cons},w0,f0⟩ R B Fs (.ops all r) fs σ H):A3 P n Q ds ⟨M,Bz A,As T TS A s,w0,f0⟩ R B Fs (.ops all (⟨none,.mapUpdate TM x y z,ty,pos,af,g⟩::r)) fs σ H:=by
 subst F;exact mxk λes=>Jf (λw f d=>(show Jp es from Cb.dis d.res.2.2 hw.dc)) λD=>Jf (λw f d=>(show ER es a=none from (Cb.look d.res.2.2).1 hn)) λO=>cN (K:=BQ) (a:=a) (l:=es) (I':=As T TS A {s with cons:=(a,m)::s.cons}) Y Z hy hz hT hk (.inr (.inr (.inr (.inl C)))) D O (λw f h=>h.2.1) (λw f w2 h d hC hm=>h.1.addCons U h.2.2 hC hm (d.mi _ (.inr (.inr (.inr (.inl C))))).2.1 (d.fact G) (by rw[J];exact Ak.nil _ _ _ _) (by rw[L];exact⟨Nat.zero_le _,.inl C⟩)) As.stab h
end
def NK:Nat→Ty
 |0=>.nil
 |n+1=>(NK n).snoc (c0 bS)
theorem LF:∀n,(NK n).len=n
 |0=>rfl
 |n+1=>by rw[NK,Ty.len_snoc,LF n]
theorem NH:∀n,(NK n).bnd
 |0=>trivial
 |n+1=>Ty.bnd_snoc (NH n) (Da dC)
def Io:List (lU×lU×Int×Nat):=[([70,97,108,115,101],bB,0,0),([84,114,117,101],bB,1,0),([68,105,118],bX,0,0),([77,97,116,99,104],bX,1,0),([65,98,111,114,116],bX,2,0),([75,101,101,112],bX,3,0),([79,117,116],bX,4,0),([70,97,105,108],bX,5,1)]
def mkL(p:lU×lU×Int×Nat):lU×Mk:=(p.1,⟨NK p.2.2.2,c0 p.2.1,[]⟩)
def ZC(i:Nat):List (lU×Mk):=((Io.take i).map mkL).reverse
variable {f:Fq}{b i:Nat}{w:wO}
theorem OI{p:lU×lU×Int×Nat}(h:Io[i]?=some p):ZC (i+1)=mkL p::ZC i:=by
 unfold ZC;rw[CC h,List.map_append,List.reverse_append];rfl
theorem OC:∀i,i<8→∀p,Io[i]?=some p→AD (ZC i) p.1=none:=by
 intro i h p d;have:i=0∨i=1∨i=2∨i=3∨i=4∨i=5∨i=6∨i=7:=oM;rcases this with rfl|rfl|rfl|rfl|rfl|rfl|rfl|rfl <;> (cases d;decide)
def cC(p:lU×lU×Int×Nat):lV:=[S p.1,S p.2.1,.int .i64 p.2.2.1,.int .i64 (p.2.2.2:Int)]
theorem Cs.flat{α:Type}(g:α→lV)(q:Nat)(D:∀x,(g x).length=q):∀(l:List α)(off i:Nat)(x:α),Cs w f b off (l.flatMap g)→l[i]?=some x→Cs w f b (off+i*q) (g x)
 | [],_,_,_,_,h=>by simp at h
 |y::l,off,0,x,d,h=>by
   cases h
   rw[List.flatMap_cons] at d;simpa using Cs.le d
 |y::l,off,i+1,x,d,h=>by
   rw[List.flatMap_cons] at d;have F:=Cs.drop d;rw[D] at F;have:=Cs.flat g q D l (off+q) i x F (by simpa using h);rwa[show off+q+i*q=off+(i+1)*q by rw[Nat.add_mul];omega] at this
theorem Db.get:∀{l:List TJ}{xs:lV}{off i:Nat}{p:TJ},Db w f l xs→Cs w f b off xs→l[i]?=some p→∃a c,Cs w f b (off+i*6) (pC p a c)∧Ak w f p.2.2.kids a c
 | [],_,_,_,_,_,_,h=>by simp at h
 |q::l,xs,off,0,p,⟨a,c,xs',d,F,G⟩,D,h=>by
   cases h
   subst d;exact⟨a,c,by simpa using Cs.le D,F⟩
 |q::l,xs,off,i+1,p,⟨a,c,xs',d,F,G⟩,D,h=>by
   subst d;have J:=Cs.drop D;obtain⟨a',c',K,L⟩:=Db.get G J (by simpa using h);exact⟨a',c',by rwa[show off+(pC q a c).length+i*6=off+(i+1)*6 by simp only[pC,tC,List.length_cons,List.length_nil];omega] at K,L⟩
end Go.SP
namespace Go.SW
open Go.RowKit
def yF(K:List Nat)(Q:AX):Prop:=∀c σ h ds w,(∀k,k∈K→h k=σ k)→Q.p c σ ds w→Q.p c h ds w
def xY(K:List Nat):List Oper→Bool
 | []=>true
 |o::l=>(match o.dst with|some d=>!K.contains d|none=>true)&&xY K l
theorem X9{K:List Nat}:∀{l:List Oper}{i:Nat}{o:Oper}{d:Nat},xY K l=true→l[i]?=some o→o.dst=some d→d∉K
 | [],_,_,_,_,h,_=>by simp at h
 |x::l,0,o,d,D,h,hd=>by
   cases h
   simp only[xY,hd,Bool.and_eq_true] at D;simpa using D.1
 |x::l,i+1,o,d,D,h,hd=>by
   simp only[xY,Bool.and_eq_true] at D;exact X9 D.2 (by simpa using h) hd
section
variable{P:Program}{n:Nat}{Q:AX}{S:wO→Prop}{l:List Oper}{K:List Nat}
variable {id:Nat}{w:wO}
theorem jX(D:yF K Q){c:List PanicEntry}{a:Act}{d:Nat}{v:Value}(hd:d∉K)(h:Q.up n (.panic c) (a.put (some d) v) w):Q.up n (.panic c) a w:=by
 obtain⟨σ,ds,F,L⟩:=h;refine⟨λt=>if t=d then none else σ t,ds,⟨by have:=F.size;simpa[Act.put] using this,F.defs,λt O G=>?_⟩,D _ _ _ _ _ (λk U=>if_neg (c:=k=d) λe=>hd (e▸U)) L⟩
 by_cases e:t=d
 · simp[e] at G
 · simp only[e,if_false] at G
   have J:=F.val t O G;simp only[Act.put,Array.getD_eq_getD_getElem?] at J ⊢;rwa[Array.getElem?_setIfInBounds_ne (λh=>e h.symm)] at J
theorem KA(Z:Region.noSelect l.toArray=true)(G:yF K Q)(J:xY K l=true):∀(m:Nat)(t:OT)(listed:Array Bool)(a:Act)(w:wO),t.even true m=true→t.ok l.toArray true listed=true→S w→hZ P l (Q.up n) S true t a w→wpAnyH P .any l.toArray (Q.up n) S m listed a w
 |m,.fin,listed,a,w,D,F,U,h=>by
   simp[OT.even] at D;subst D;exact wpAnyH_done (by simpa[OT.ok] using F) (h C) 0
 |0,.rd _ _,_,_,_,D,_,_,_=>by simp[OT.even] at D
 |0,.br _ _ _,_,_,_,D,_,_,_=>by simp[OT.even] at D
 |m+1,.rd i k,listed,a,w,D,F,U,h=>by
   simp only[OT.ok,Bool.and_eq_true,Bool.true_and] at F;obtain⟨o,v,hi,hy,h'⟩:=h
   exact wpAnyH_take (by simpa using hi) Z F.1.1 F.1.2 (λc a w Y=>by
     cases hd:o.dst with
     |none=>rw[hd] at Y;exact Y
     |some d=>rw[hd] at Y;exact jX G (X9 J hi hd) Y) hy U (KA Z G J m k _ _ w D F.2 U h')
 |m+1,.br i k o,listed,a,w,D,F,U,h=>by
   have L:(OT.br i k o).ok l.toArray false listed=true:=by
     simp only[OT.ok,Bool.and_eq_true] at F ⊢;exact⟨⟨C,F.1.2⟩,F.2⟩
   have O:(OT.br i k o).even false (m+1)=true:=D
   have hrd:Region.ready .any l.toArray listed=(OT.br i k o).alts:=by
     simp only[OT.ok,Bool.and_eq_true,Bool.not_true,Bool.false_or,beq_iff_eq] at F;exact F.1.1
   have hw':hZ P l (Q.up n) S false (.br i k o) a w:=h;refine wpAnyH_all hrd (by simp[OT.alts]) λj hj=>?_;obtain⟨k',h1,⟨m',hm,h2⟩,h3⟩:=OT.alts_mem (.br i k o) l.toArray listed (m+1) j L O hj;obtain rfl:m=m':=oM;obtain⟨op,hop,hwl⟩:=h3 P l (Q.up n) S a w hw';exact wpOp_mono (λa' w' hk=>⟨hk.1,KA Z G J m k' _ a' w' h2 h1 hk.1 hk.2⟩) (IC (by simpa using hop) (λ_ _ h=>h) hwl)
variable{σ:Bf}{ds:List Deferred}{X:Cx}{R:List RB}{B:List FB}{Fs:List (wO→Fq→Prop)}{fs:List Fr}{H Hk:List HB}
theorem Rd(h:yF K Q):∀fs:List Fr,yF K (MK P n Q fs)
 | []=>h
 |.sq _::fs=>Rd h fs
 |.bk _::fs=>Rd h fs
theorem Zl(K:List Nat)(J:wO→Prop)(Z:∀w f,X.I w f→CK X.M X.w0 X.f0 w f→J w)(ix:List Nat)(hm:P.follows .mixedOrders=true)(t:OT)(hk:MR H ix=some Hk)(G:t.ok l.toArray true (Array.replicate l.length false)=true)(L:t.even true l.length=true)(D:Region.noSelect l.toArray=true)(O:xY K l=true)(U:yF K Q)
   (h:Dj P n (MK P n Q fs) ds X R B Fs l Hk B J true t σ H):A3 P n Q ds X R B Fs (.code (.region id l.toArray true)) fs σ H:=λw f Y a ha=>by
 refine wp_region_held (S:=Kp Hk B J) hm ?_;have F:AQ X w.drew f H R B Fs:=Y.call0 (CK.of_ext AU.drew Y.val);have:=KA (P:=P) (n:=n) (Q:=MK P n Q fs) D (Rd U fs) O l.length t (Array.replicate l.length false) a w.drew L G (F.kp (Kg hk) Z) (h w.drew f F a ha);simpa using this
end
variable {args:Array Value}{f:Fq}{fid:FuncId}{cv:lV}{M:Nat→Prop}{x:Operand}{w:wO}
theorem qJ{b1 b2 b3:Nat}{J l2 L:lV}{T1 O U:tI}(Y:Vl w f)(Z:AM w b1 J T1)(h2:AM w b2 l2 O)(h3:AM w b3 L U)(D:f b1=0∧f b2=0∧f b3=0)(F:b1≠b2∧b1≠b3∧b2≠b3) :
   AQ ⟨λb=>b=b1∨b=b2∨b=b3,λ_=>False,λ_ _=>True,w,f⟩ w f [⟨b1,J,T1,false⟩,⟨b2,l2,O,false⟩,⟨b3,L,U,false⟩] [] [] [] where
 stp:=MW.refl _ _
 old _ _:=rfl
 val:=Y
 ent:=Ii.refl _ _
 res:=trivial
 stab _ _ _ _ _ _ _:=trivial
 mi _ h:=h.elim
 blk e h:=by
   rcases List.mem_cons.1 h with rfl|h
   · exact Z
   rcases List.mem_cons.1 h with rfl|h
   · exact h2
   rcases List.mem_cons.1 h with rfl|h
   · exact h3
   cases h
 row _ h:=by cases h
 nd:=by simp[CO,F.1,F.2.1,F.2.2]
 own b h:=by
   simp[CO] at h;rcases h with rfl|rfl|rfl
   · exact⟨D.1,.inr (.inl C),λh=>h⟩
   · exact⟨D.2.1,.inr (.inr (.inl C)),λh=>h⟩
   · exact⟨D.2.2,.inr (.inr (.inr C)),λh=>h⟩
 hnw e h G:=by
   rcases List.mem_cons.1 h with rfl|h
   · cases G
   rcases List.mem_cons.1 h with rfl|h
   · cases G
   rcases List.mem_cons.1 h with rfl|h
   · cases G
   cases h
 rnw _ h:=by cases h
 fro _ h:=by cases h
 fac _ h:=by cases h
 mono _ h:=by cases h
def Xo(P:Program)(fn:Func)(K:List Nat)(R:Ending→wO→Prop):AX :=
 {q:=(Xj P fn R).q,
   p:=λc σ ds w=>∀tmps:Array Value,(∀t,t∈K→∀v,σ t=some v→tmps.getD t undef=v)→Leaves P fn tmps R ds (.panicking c) w}
theorem EU{P:Program}{fn:Func}{K:List Nat}{R:Ending→wO→Prop}:yF K (Xo P fn K R):=λ_ _ _ _ _ D h tmps F=>h tmps λt hm v G=>F t hm v ((D t hm).trans G)
theorem uY{P:Program}{n:Nat}{X:Cx}{H:List HB}{R:List RB}{B:List FB}{Fs:List (wO→Fq→Prop)}{fn:Func}{c:Code}{l:lV}{G:Ending→wO→Prop}{K:List Nat}(J:P.funcs[fid]?=some fn)(L:fn.body=some c)(O:fn.ntmps=n)(U:Nat.ble l.length n=true)(Y:AQ X w f H R B Fs)
   (h:A3 P n (Xo P fn K G) [] X R B Fs (.code c) [] (Il l 0) H):Calls P fid l.toArray w G:=by
 refine calls_of_wp_defers J L ?_;rw[O];refine wp_mono (h w f Y _ (JA U)) λe a w' he=>?_
 cases e with
 |normal=>obtain⟨σ,ds,D,F⟩:=he;show Leaves _ _ _ _ a.defers _ _;rw[D.defs];exact F _ D.val
 |ret=>obtain⟨σ,ds,D,F⟩:=he;show Leaves _ _ _ _ a.defers _ _;rw[D.defs];exact F _ D.val
 |panic c=>obtain⟨σ,ds,D,F⟩:=he;show Leaves _ _ _ _ a.defers _ _;rw[D.defs];exact F _ λt _ v Z=>D.val t v Z
 |outgrown=>exact he.elim
 |exit i=>obtain⟨σ,ds,D,F⟩:=he;exact F.elim
 |goto i=>obtain⟨σ,ds,D,F⟩:=he;exact F.elim
section
variable{P:Program}{n:Nat}{Q:AX}{ds:List Deferred}{X:Cx}{R:List RB}{B:List FB}{Fs:List (wO→Fq→Prop)}{fs:List Fr}{σ:Bf}{H:List HB}
variable{all r:List Oper}{ty T:tI}{pos:String}{af:Array Edge}{g:Option (Nat×Bool)}{d:Nat}
theorem mdf{f:FuncId}{D:Array tI}(F:gd all σ g=some true)(G:ev σ x=some (.func (.func f) #[] cv.toArray))
   (h:A3 P n Q ({target:=.fn (.func f) cv.toArray,args:=#[]}::ds) X R B Fs (.ops all r) fs σ H):A3 P n Q ds X R B Fs (.ops all (⟨none,.defer {callee:=.value x,args:=#[],argTypes:=D},ty,pos,af,g⟩::r)) fs σ H:=λw f J =>
 B2 F (QD G (h w f J))
theorem Z6{op:Op}{α:Type}{val:α→Value}{q:α→Prop}{I':α→wO→Fq→Prop}{F':α→List (wO→Fq→Prop)}{pe:SP.Er→Prop}
   (U:gd all σ g=some true) (hd:Nat.blt d n=true) (he:∀w,Enters P σ op ty w fid args) (Y:∀b,M b→X.MI b)
   (Z:∀w f,AQ X w f H R B Fs→BI P fid args w (Fg val q X.MI I' F' w f) (SP.PanE T M pe w f)) (F:∀x,FD X.MI (I' x)) (hm:∀x,Aw (F' x))
   (hp:∀er w' f',pe er→CK X.M X.w0 X.f0 w' f'→(∀e,e∈H→AM w' e.b e.l e.T∧f' e.b=0∧(e.nw=true→X.w0.heap.size≤e.b))→Q.p (SP.trI T er) σ ds w')
   (h:∀x,q x→A3 P n Q ds {X with I:=I' x} R B (F' x++Fs) (.ops all r) fs (AF σ d (val x)) H):A3 P n Q ds X R B Fs (.ops all (⟨some d,op,ty,pos,af,g⟩::r)) fs σ H :=
 P8 (XX:=λc w'=>∃er f',c=SP.trI T er∧pe er∧CK X.M X.w0 X.f0 w' f'∧∀e,e∈H→AM w' e.b e.l e.T∧f' e.b=0∧(e.nw=true→X.w0.heap.size≤e.b)) U hd he (λw f O=>(Z w f O).mono (λ_ _ h=>h) λ_ w' ⟨er,f',G,J,L⟩=>by
   have D:=O.callI (I':=λ_ _=>True) (L.mono Y) tQ (λ_ _ _ _ _ _ _=>trivial);exact⟨er,f',G,J,D.exm,λe he=>⟨D.blk e he,(D.own e.b (List.mem_append.2 (.inl (List.mem_map.2 ⟨e,he,C⟩)))).1,D.hnw e he⟩⟩) F hm (λ_ _ _ _ _ ⟨er,f',G,J,L,h4⟩=>G▸hp er _ f' J L h4) h
end
open Go.SP (Sn)
section
variable{P:Program}{n:Nat}{Q:AX}{ds:List Deferred}{X:Cx}{R:List RB}{B:List FB}{Fs:List (wO→Fq→Prop)}{fs:List Fr}{σ:Bf}{H:List HB}
variable{all r:List Oper}{ty T:tI}{pos:String}{af:Array Edge}{g:Option (Nat×Bool)}{d:Nat}{op:Op}{fid:FuncId}{args:Array Value}{α:Type}
variable {pe:Int×Int→Prop}{xs:lV}{e:tI}
theorem Aa9{val:α→Value}{q:α→Prop}{F':α→List (wO→Fq→Prop)}
   (K:gd all σ g=some true) (hd:Nat.blt d n=true) (he:∀w,Enters P σ op ty w fid args)
   (L:∀w f,AQ X w f H R B Fs→BI P fid args w (B3 val q F' w f) (S4 T pe w f)) (hm:∀x,Aw (F' x))
   (O:∀e w' f',pe e→CK X.M X.w0 X.f0 w' f'→(∀e,e∈H→AM w' e.b e.l e.T∧f' e.b=0∧(e.nw=true→X.w0.heap.size≤e.b))→Q.p (Sn T e) σ ds w')
   (h:∀x,q x→A3 P n Q ds X R B (F' x++Fs) (.ops all r) fs (AF σ d (val x)) H):A3 P n Q ds X R B Fs (.ops all (⟨some d,op,ty,pos,af,g⟩::r)) fs σ H:=λw f F=>by
 refine B2 K (Cg hd (he w) (L w f F) ?_ ?_)
 · rintro v w' ⟨x,f',rfl,G,J,U⟩
   exact h x G w' f' ((F.call0 J).more (B':=[]) (λ_ h=>by cases h) U.mem (hm x).mem)
 · rintro c w' ⟨e,f',rfl,G,J⟩
   rw[MF];have D:=F.call0 J;exact O e w' f' G D.exm λe he=>⟨D.blk e he,(D.own e.b (List.mem_append.2 (.inl (List.mem_map.2 ⟨e,he,C⟩)))).1,D.hnw e he⟩
theorem mct{size k:Nat}{val:oA→Nat→Value}(J:gd all σ g=some true)(hd:Nat.blt d n=true)(he:∀w,Enters P σ op ty w fid args)
   (K:∀w f,AQ X w f H R B Fs→Bq P fid args w λv w'=>∃a c,v=val a c∧(BX w' e size a c k xs∧∀b,rb a=some b→w.heap.size≤b)∧AU w w')
   (h:∀a c,A3 P n Q ds X (⟨e,size,a,c,k,xs⟩::R) B Fs (.ops all r) fs (AF σ d (val a c)) H):A3 P n Q ds X R B Fs (.ops all (⟨some d,op,ty,pos,af,g⟩::r)) fs σ H:=λw f F=>by
 refine B2 J (Cg hd (he w) (Bq.retP (X:=λ_ _=>False) (K w f F)) ?_ (λ_ _ h=>False.elim h));rintro v w' ⟨a,c,rfl,⟨L,G⟩,O⟩;exact h a c w' f (F.addRow (CK.of_ext O F.val) L λb D=>⟨G b D,F.val b (G b D)⟩)
end
end Go.SW
namespace Go.SP
open Go.SW Go.RowKit
def pL(w w':wO)(f:Fq):Fq:=λb=>if b<w.heap.size then f b else match w'.heap[b]? with|some (.cells l _)=>l.size|_=>0
variable {f:Fq}{l:lV}{b off:Nat}{a:oA}{w w':wO}
theorem kA(D:AU w w'):CK (λ_=>False) w f w' (pL w w' f) where
 stp:=MW.of_ext D
 old b h:=by unfold pL;rw[if_pos h]
 val b h:=by
   unfold pL;rw[if_neg (by have:=D.size;omega),Array.getElem?_eq_none h]
theorem sO{L r:lV}{T:tI}(F:AM w' b L T)(O:w.heap.size≤b)(hd:L.drop off=l++r):Cs w' (pL w w' f) b off l:=λj v G=>by
 have J:L[off+j]?=some v:=by
   rw[← List.getElem?_drop,hd];obtain⟨h,_⟩:=List.getElem?_eq_some_iff.1 G;rw[List.getElem?_append_left h];exact G
 obtain⟨K,_⟩:=List.getElem?_eq_some_iff.1 J;have D:w'.heap[b]?=some (.cells L.toArray T):=F;refine⟨?_,?_⟩
 · unfold pL
   rw[if_neg (by omega),D];simpa using K
 · rw[F.cell,J]
theorem HC.frz:∀(k:Fo)(b off:Nat)(L l:lV)(T:tI),AM w' b L T→w.heap.size≤b→L.drop off=l→HC (λb=>w.heap.size≤b) w' k l→ZD w' (pL w w' f) k b off
 |.nil,_,_,_,_,_,_,_,_,_=>trivial
 |.cons t k r,b,off,L,l,T,J,K,hd,⟨a,n,c,O,Y,⟨D,h3,F⟩,Z⟩=>by
   subst Y;refine⟨⟨a,c,sO (r:=O) J K (by rw[hd,D];rfl),oM,?_⟩,HC.frz r b (off+6) L O T J K (by rw[← List.drop_drop,hd];rfl) Z⟩;rcases F with F|⟨U,h,l2,T2,hu,ha,G,hc⟩
   · left
     cases k with
     |nil=>rfl
     |cons _ _ _=>rw[F] at D;cases D
   · exact .inr ⟨U,h,ha,HC.frz k U h l2 _ T2 G hu C hc⟩
theorem Ey.frz{c:Nat}{k:Fo}(h:Ey (λb=>w.heap.size≤b) w' a k.len c k):Ee w' (pL w w' f) k a c:=by
 obtain⟨L,F,D⟩:=h;refine⟨F,?_⟩;rcases D with D|⟨b,off,l,T,hu,G,J,K⟩
 · left
   cases k with
   |nil=>rfl
   |cons _ _ _=>cases D
 · exact .inr ⟨b,off,G,HC.frz k b off l _ T J hu C K⟩
def Td(p:Nd×Int×Int×Int)(w:wO)(f:Fq)(v:Value)(w':wO):Prop :=
 ∃f' a c,CK (λ_=>False) w f w' f'∧v=.tuple #[.slice a p.1.len c,.agg #[.int .i64 p.2.1,.int .i64 p.2.2.1],.int .i64 p.2.2.2]∧AH w' f' p.1 a c
end Go.SP
namespace Go.Proofs.YtelmolopaolbcaaGreatDoor
open Go.SW Go.SP Go.RowKit Go.Proofs.Tryz
theorem Wt(w:wO)(ta:oA)(tn tc:Nat)(J:List AB)(hT:BX w 108 5 ta tc J.length (Fw J))(htn:tn=J.length)(hlen:J.length≤100000) :
  BI prog 19 #[.slice ta tn tc] w (λv w'=>∃fo a c,AA J [] .nil=.ok fo∧v=.slice a fo.len c∧Ey (λb=>w.heap.size≤b) w' a fo.len c fo∧AU w w') (λc w'=>∃e,AA J [] .nil=.error e∧c=Sn 61 e∧AU w w'):=by
 subst htn;have F:=AU.refl w;refine IV func19 C C C<|AT [] 7 [] (Ar _) (λ_=>Ch C C Ho zr63 C C C C C λb1 w1 hb1 hE1 hs1 hz1=>?_);replace F:=F.trans hE1;refine AL [.sq _] 17 [] (Ar _) (λ_=>?_);refine DU (λk σ ds w'=>∃(i:Nat)(pre rest:List AB)(st:List (AB×Fo))(cur:Fo)(u:Nat→Nat)(oa:oA)(oc sb sc:Nat)(a:oA)(c:Nat)(vs:lV),k=rest.length∧ds=[]∧σ=(E5 3 (.slice (some ⟨sb,0,none⟩) (st.length+1) sc) 4 (.slice oa st.length oc) 10 (.slice ta J.length tc) 11 (iV (J.length:Int)) 12 (iV (i:Int)))∧J=pre++rest∧pre.length=i∧AA J [] .nil=AA rest st cur∧st.length≤200∧cur.len≤i∧(∀z∈st,z.2.len≤i)∧SV 110 108 63 u w w' st st oa oc (some ⟨sb,0,none⟩) sc (.slice a cur.len c) a c cur vs none 0 0 .nil∧AU w w') J.length (E5 3 (.slice (some ⟨b1,0,none⟩) 1 1) 4 (.slice none 0 0) 10 (.slice ta J.length tc) 11 (iV (J.length:Int)) 12 (iV ((0:Nat):Int))) lE ⟨0,[],J,[],.nil,λ_=>2,none,0,b1,1,none,0,[],C,C,C,C,C,C,by simp,by simp[Fo.len],(λz hz=>by cases hz),SV.start hb1 oM,F⟩ ?_;rintro _ _ _ wl ⟨i,pre,rest,st,cur,u,oa,oc,sb,sc,a,c,vs,rfl,rfl,rfl,htk,hpi,hm,h200,hcl,hsl,Q,F⟩;have szl:=F.size;have hil:i+rest.length=J.length:=by rw[htk,List.length_append,hpi]
 have hslt:sb<wl.heap.size:=Q.slt sb C;have hsge:w.heap.size≤sb:=(Q.sla sb C).1;have htlt:=Q.tlt;have holt:=Q.olt;have hson:=Q.o.n_le;have hssn:=Q.s.n_le;have G:=AU.refl wl;refine AT [] 6 [] (Ar _) (λ_=>sP 13 C (λh1=>?_) (λh1=>?_));refine AT [.sq _] 7 [] (Ar _) (λ_=>?_);have hi2:i<J.length:=by simpa using h1
 rcases rest with _|⟨tk,rest⟩
 · simp at hil;omega
 simp only[List.length_cons] at hil;obtain⟨bt,lt,lt2,hta,hbt,hdt⟩:=uU (htk▸hT) hpi
 cases hta
 have hbtl:=hbt.lt;refine Ab C (KL (i:=i) C C Hj hi2)<|Ab C (Mx 0 C DY (hbt.ext F) hdt oM C)<|CI C D7 λb2 w2 hb2 hE2 hs2 hz2=>?_;replace F:=F.trans hE2;replace G:=G.trans hE2;refine A1 C C C DY C hb2 C C λw3 K hC1=>?_;replace F:=F.chg hC1 oM;replace G:=G.chg hC1 oM;have sz1:=hC1.size;refine AL [.sq _,.bk _,.sq _] 23 [0,0] (kB K (Ar _)) (aI ⟨oM,oM⟩<|y2<|λ_=>sP 32 C (λh2=>?_) (λh2=>?_));refine AT [.bk _,.bk _,.sq _] 9 [] (Ar _) (λ_=>sP 36 C (λh3=>?_) (λh3=>?_));exact AT [.sq _,.bk _,.bk _,.sq _] 5 [0,1] (kB K (Ar _)) (y2<|λ_=>Ab C (BR C kH)<|Cl (BE C) (aI C<|⟨(tk.ln,tk.co),hm.trans (Ta h2 (by have:=h3;simp at this;omega)),C,F⟩));refine AT [.sq _,.bk _,.bk _,.sq _] 7 [0,0] (kB K (Ar _)) (y2<|λ_=>Ch C C Hj D7 C C C C C λb3 w4 hb4 hE3 hs3 hz3=>?_);replace K:=K.ext hE3;replace F:=F.trans hE3;replace G:=G.trans hE3;have D:=(Q.ext G);refine Bb C Jg C C C C D.o hb4 C C oM oM λoa2 oc2 w5 hr1 hG1=>?_;obtain⟨u2,hS1⟩:=D.pushTok tk cur hr1 hG1 oM;replace F:=F.grow hG1 (λb hb=>(D.ol b hb).1);have sz2:=hG1.size;have hA2:=AU.refl w5;refine AL [.sq _,.bk _,.bk _,.sq _] 5 [] (Ar _) (λ_=>Ch C C Ho zr63 C C C C C λb4 w6 hb5 hE4 hs4 hz4=>?_);replace F:=F.trans hE4;replace hA2:=hA2.trans hE4;have D:=(hS1.ext hA2);refine Bb C yW C C C C D.s hb5 C C oM oM λsa2 sc2 w7 hr2 hG2=>?_;obtain⟨u3,hS2⟩:=D.pushLev C tk hr2 hG2 oM;replace F:=F.grow hG2 (λb hb=>(D.sla b hb).1);have sz3:=hG2.size;have hA3:=AU.refl w7;refine AL [.bk _,.bk _,.sq _] 9 [] (Ar _) (aI ⟨oM,oM⟩<|λ_=>?_);obtain⟨sb2,_,hes2,-⟩:=(hS2.ext hA3).sblk
 cases hes2
 have hne2:st.length≠200:=by have:=h3;simp at this;omega
 refine HF rest.length (E5 3 (.slice (some ⟨sb2,0,none⟩) (st.length+1+1) sc2) 4 (.slice oa2 (st.length+1) oc2) 10 (.slice (some ⟨bt,0,none⟩) J.length tc) 11 (iV (J.length:Int)) 12 (iV ((i+1:Nat):Int))) (by simp) lE ⟨i+1,pre++[tk],rest,(tk,cur)::st,.nil,_,oa2,oc2,sb2,sc2,none,0,_,C,C,C,by rw[htk];simp,by simp[hpi],hm.trans (SF h2 hne2),by simp only[List.length_cons];omega,by simp[Fo.len],XM tk hsl hcl,(hS2.ext hA3),F⟩;refine AT [.bk _,.bk _,.sq _] 7 [] (Ar _) (λ_=>sP 48 C (λh4=>?_) (λh4=>?_));refine AT [.bk _,.bk _,.sq _] 8 [] (Ar _) (λ_=>sP 51 C (λh5=>?_) (λh5=>?_));refine AT [.sq _,.bk _,.bk _,.sq _] 5 [0,1] (kB K (Ar _)) (y2<|λ_=>Ab C (BR C kH)<|Cl (BE C) (aI C ?_));rcases st with _|⟨o,s⟩
 · exact⟨(tk.ln,tk.co),hm.trans (U1 h2 h4),C,F⟩
 · have h2:=h5;simp at h2 <;> omega
 refine AT [.sq _,.bk _,.bk _,.sq _] 4 [] (Ar _) (λ_=>?_);rcases st with _|⟨⟨o,q⟩,s⟩
 · simp at h5
 rcases vs with _|⟨y,vs⟩
 · exact Q.lv.elim
 obtain⟨_,ls,Y,O,L,hsl2,hsw,hsu⟩:=(Q.ext G).sblk
 cases Y
 obtain⟨ob,lo,lo2,hoa,hob,hod⟩:=(Q.ext G).oblk
 cases hoa
 have hobl:ob<wl.heap.size:=holt ob C;have hr3:=O;have hr4:=(hbt.ext F);have hr5:=K;have hr6:=hob;refine DX mixed (A5 w3 [sb,bt,b2,ob]) [(true,0),(true,1),(true,2),(true,3),(true,4),(true,5),(true,6),(true,7),(true,8),(true,9),(false,10),(false,11)] kR kR C C λw8 hE5 hz5=>?_;have d:A5 w3 [sb,bt,b2,ob] w8:=A5.cons hr3 hE5 (A5.cons hr4 hE5 (A5.cons hr5 hE5 (A5.cons hr6 hE5 (A5.nil _ _))));refine⟨d,?_⟩;replace K:=K.ext hE5;replace hob:=hob.ext hE5;replace O:=O.ext hE5;replace F:=F.trans hE5;replace G:=G.trans hE5;refine A0 C (λ_ Q=>Az C)<|A0 C (λ_ Q=>Az C)<|A0 C (λ_ Q=>Hp C C ⟨oM,oM⟩)<|A0 C (λ_ Q=>EL s.length C C (by simp <;> omega) Hj (by simp))<|A0 C (λ_ Q=>Mx 0 C DY (hr6.keep Q (.tail _ (.tail _ (.tail _ (.head _))))) hod oM C)<|A0 C (λ_ Q=>Az C)<|A0 C (λ_ Q=>Az C)<|A0 C (λ_ Q=>EL (s.length+1) C C (by simp) Ho (by simp))<|A0 C (λ_ Q=>Ai C Kt (hr3.keep Q (.head _)) (by simpa using L))<|A0 C (λ_ Q=>DC C oO LJ C) ?_;refine EK<|CI C LJ λb5 w9 hb6 hE6 hs5 hz6=>?_;replace K:=K.ext hE6;replace hob:=hob.ext hE6;replace O:=O.ext hE6;replace F:=F.trans hE6;replace G:=G.trans hE6;replace d:=d.ext hE6;refine Ae (Hn d<|EK<|A1 C C C Lk C hb6 C C λw10 Z hC2=>?_);replace K:=K.chg hC2 oM;replace hob:=hob.chg hC2 oM;replace O:=O.chg hC2 oM;replace F:=F.chg hC2 oM;replace G:=G.chg hC2 oM;replace d:=d.chg hC2 nM;have sz4:=hC2.size;refine Ae (Hn d<|El<|K5 [.sq _,.bk _,.bk _,.sq _] 2 [] (Ar _) (λ_=>?_));have hr7:=(hbt.ext F);have hr8:=K;have hr9:=Z;refine DX mixed (A5 w10 [bt,b2,b5]) [(true,0),(true,1),(true,2),(true,3),(true,4),(true,5),(true,6),(true,7),(true,8)] kR kR C C λw11 hE7 hz7=>?_;have d:A5 w10 [bt,b2,b5] w11:=A5.cons hr7 hE7 (A5.cons hr8 hE7 (A5.cons hr9 hE7 (A5.nil _ _)));refine⟨d,?_⟩;replace K:=K.ext hE7;replace Z:=Z.ext hE7;replace F:=F.trans hE7;replace G:=G.trans hE7;refine A0 C (λ_ Q=>Az C)<|A0 C (λ_ Q=>Az C)<|A0 C (λ_ Q=>Hp C C ⟨oM,oM⟩)<|A0 C (λ_ Q=>Xn s.length C C (by simp <;> omega) Hj (by simp only[List.length_cons] at hson;omega))<|A0 C (λ_ Q=>Az C)<|A0 C (λ_ Q=>Az C)<|A0 C (λ_ Q=>Xn (s.length+1) C C (by simp) Ho (by simp only[List.length_cons] at hssn;omega))<|A0 C (λ_ Q=>De C)<|A0 C (λ_ Q=>De C)<|El ?_;refine K5 [.sq _,.bk _,.bk _,.sq _] 2 [] (Ar _) (λ_=>?_);obtain⟨u2,a2,c2,hy,hP⟩:=(Q.ext G).pop
 cases hy
 obtain⟨a9,c9,hy9,xs9,hrow9,-⟩:=Q.lv.1
 cases hy9
 have htlt9:∀b,rb a2=some b→b<wl.heap.size:=λb hb=>hrow9.lt hb;have U:=AU.refl w11;have hr10:=(hbt.ext F);have hr11:=K;have hr12:=Z;refine Em mixed (A5 w11 [bt,b2,b5]) (.br 0 (.br 1 (.br 2 (.br 3 .fin .fin) .fin) (.br 2 (.br 1 (.br 3 .fin .fin) .fin) .fin)) .fin) kR kR kR λw12 hE8 hz8=>?_;have d:A5 w11 [bt,b2,b5] w12:=A5.cons hr10 hE8 (A5.cons hr11 hE8 (A5.cons hr12 hE8 (A5.nil _ _)));refine⟨d,?_⟩;replace K:=K.ext hE8;replace Z:=Z.ext hE8;replace F:=F.trans hE8;replace G:=G.trans hE8;replace U:=U.trans hE8;refine An C ?_ Af;refine CI C zr4 λb6 w13 hb8 hE9 hs6 hz9=>?_;replace K:=K.ext hE9;replace Z:=Z.ext hE9;replace F:=F.trans hE9;replace G:=G.trans hE9;replace U:=U.trans hE9;replace d:=d.ext hE9;refine Ae (Ao d<|An C ?_ ?_);refine A1 C C C vG C hb8 C C λw14 hb9 hC3=>?_;replace K:=K.chg hC3 oM;replace Z:=Z.chg hC3 oM;replace F:=F.chg hC3 oM;replace G:=G.chg hC3 oM;replace U:=U.chg hC3 oM;replace d:=d.chg hC3 nM;have sz5:=hC3.size;refine Ae (Ao d<|An C ?_ Af);refine A1 C C C vG C hb9 C C λw15 hb10 hC4=>?_;replace K:=K.chg hC4 oM;replace Z:=Z.chg hC4 oM;replace F:=F.chg hC4 oM;replace G:=G.chg hC4 oM;replace U:=U.chg hC4 oM;replace d:=d.chg hC4 nM;have sz6:=hC4.size;refine Ae (Ao d<|An C ?_ Af);refine Ab C (Ai C vG hb10 C)<|Ae (Ao d<|By<|K5 [.sq _,.bk _,.bk _,.sq _] 2 [] (Ar _) (λ_=>?_));have hr13:=(hbt.ext F);have hr14:=K;have hr15:=Z;have hr16:=hb10;refine Em mixed (A5 w15 [bt,b2,b5,b6]) (rd [0,1,2,3,4,5,6,8] (.br 7 (.br 9 (.br 10 (.rd 11 (.br 12 .fin .fin)) .fin) .fin) (.br 9 (.br 7 (.br 10 (.rd 11 (.br 12 .fin .fin)) .fin) .fin) .fin))) kR kR kR λw16 hE10 hz10=>?_;have d:A5 w15 [bt,b2,b5,b6] w16:=A5.cons hr13 hE10 (A5.cons hr14 hE10 (A5.cons hr15 hE10 (A5.cons hr16 hE10 (A5.nil _ _))));refine⟨d,?_⟩;replace K:=K.ext hE10;replace Z:=Z.ext hE10;replace hb10:=hb10.ext hE10;replace F:=F.trans hE10;replace G:=G.trans hE10;replace U:=U.trans hE10;refine Av C C (λ_ Q=>Az C)<|Av C C (λ_ Q=>Az C)<|Av C C (λ_ Q=>Hp C C ⟨oM,oM⟩)<|Av C C (λ_ Q=>Az C)<|Av C C (λ_ Q=>Az C)<|Av C C (λ_ Q=>Hp C C ⟨oM,oM⟩)<|Av C C (λ_ Q=>EL s.length C C (by simp <;> omega) Ho oM)<|Av C C (λ_ Q=>Di C Lk (hr15.keep Q (.tail _ (.tail _ (.head _)))) C)<|An C ?_ ?_;obtain⟨_,ls,Y,O,L,hsl2,hsw,hsu⟩:=(hP.ext U).sblk
 cases Y
 refine Ab C (Ai C Kt O (by simpa using L))<|Ae (Ao d<|An C ?_ Af);refine Ch C C La LJ C C C C C λb7 w17 hb11 hE11 hs7 hz11=>?_;replace K:=K.ext hE11;replace Z:=Z.ext hE11;replace hb10:=hb10.ext hE11;replace F:=F.trans hE11;replace G:=G.trans hE11;replace U:=U.trans hE11;replace d:=d.ext hE11;refine Ae (Ao d<|An C ?_ Af);have D:=(hP.ext U);obtain⟨xs,hrow,hfc,hla⟩:=D.top;have hql:=hsl (o,q) (.head _);simp only at hql;refine Bb C YO C C C C hrow hb11 C C oM oM λa3 c3 w18 hr17 hG3=>?_;obtain⟨u3,hS3⟩:=D.app hrow hfc hla o D.kid hr17 hG3 oM;obtain⟨lb,_,he3,-⟩:=hS3.tblk
 cases he3
 have hlo:lb<wl.heap.size∨lb=w17.heap.size:=by
  rcases hG3.own with h|h
  · exact .inl (htlt9 lb h.symm)
  · exact .inr (Option.some.inj h)
 have hlge:w17.heap.size≤w18.heap.size:=hG3.size;replace F:=F.grow hG3 (λb hb=>(hla b hb).1);have sz7:=hG3.size;replace d:=d.grow hG3 (by simp only[List.mem_cons,List.not_mem_nil,or_false];intro c hc e;have h1:=(hla c e.symm).1;have h2:=htlt9 c e.symm;omega);have hA5:=AU.refl w18;refine Ae (Ao d<|Av C C (λ_ Q=>EL s.length C C (by simp <;> omega) Ho oM)<|An C ?_ Af);have D:=(hS3.ext hA5);obtain⟨_,ls,Y,O,L,hsl2,hsw,hsu⟩:=D.sblk
 cases Y
 refine Ce C C C Kt C O C (by simp <;> omega) λw19 hb12 hC5=>?_;have hS4:=D.cell' C O hb12 hC5;replace F:=F.chg hC5 hsw;have sz8:=hC5.size;replace d:=d.chg hC5 nM;have hA6:=AU.refl w19;refine Ae (Ao d<|By<|K5 [.bk _,.bk _,.sq _] 7 [] (Ar _) (aI ⟨oM,oM⟩<|λ_=>HF rest.length (E5 3 (.slice (some ⟨sb,0,none⟩) (s.length+1) sc) 4 (.slice (some ⟨ob,0,none⟩) s.length oc) 10 (.slice (some ⟨bt,0,none⟩) J.length tc) 11 (iV (J.length:Int)) 12 (iV ((i+1:Nat):Int))) (by simp) lE ⟨i+1,pre++[tk],rest,s,q.snoc o cur,_,_,oc,sb,sc,_,_,_,C,C,C,by rw[htk];simp,by simp[hpi],hm.trans (GX h2 h4),by simp only[List.length_cons] at h200;omega,by rw[Fo.len_snoc];have:=hsl (o,q) (.head _);simp only at this;omega,LA hsl,(by rw[Fo.len_snoc];exact (hS4.ext hA6).knil),F⟩));refine An C ?_ ?_;refine Ch C C La LJ C C C C C λb8 w20 hb13 hE12 hs8 hz12=>?_;replace K:=K.ext hE12;replace Z:=Z.ext hE12;replace hb10:=hb10.ext hE12;replace F:=F.trans hE12;replace G:=G.trans hE12;replace U:=U.trans hE12;replace d:=d.ext hE12;refine Ae (Ao d<|An C ?_ Af);obtain⟨_,ls,Y,O,L,hsl2,hsw,hsu⟩:=(hP.ext U).sblk
 cases Y
 refine Ab C (Ai C Kt O (by simpa using L))<|Ae (Ao d<|An C ?_ Af);have D:=(hP.ext U);obtain⟨xs,hrow,hfc,hla⟩:=D.top;have hql:=hsl (o,q) (.head _);simp only at hql;refine Bb C YO C C C C hrow hb13 C C oM oM λa3 c3 w21 hr18 hG4=>?_;obtain⟨u3,hS5⟩:=D.app hrow hfc hla o D.kid hr18 hG4 oM;obtain⟨lb,_,he3,-⟩:=hS5.tblk
 cases he3
 have hlo:lb<wl.heap.size∨lb=w20.heap.size:=by
  rcases hG4.own with h|h
  · exact .inl (htlt9 lb h.symm)
  · exact .inr (Option.some.inj h)
 have hlge:w20.heap.size≤w21.heap.size:=hG4.size;replace F:=F.grow hG4 (λb hb=>(hla b hb).1);have sz9:=hG4.size;replace d:=d.grow hG4 (by simp only[List.mem_cons,List.not_mem_nil,or_false];intro c hc e;have h1:=(hla c e.symm).1;have h2:=htlt9 c e.symm;omega);have hA7:=AU.refl w21;refine Ae (Ao d<|Av C C (λ_ Q=>EL s.length C C (by simp <;> omega) Ho oM)<|An C ?_ Af);have D:=(hS5.ext hA7);obtain⟨_,ls,Y,O,L,hsl2,hsw,hsu⟩:=D.sblk
 cases Y
 refine Ce C C C Kt C O C (by simp <;> omega) λw22 hb14 hC6=>?_;have hS6:=D.cell' C O hb14 hC6;replace F:=F.chg hC6 hsw;have sz10:=hC6.size;replace d:=d.chg hC6 nM;have hA8:=AU.refl w22;refine Ae (Ao d<|By<|K5 [.bk _,.bk _,.sq _] 7 [] (Ar _) (aI ⟨oM,oM⟩<|λ_=>HF rest.length (E5 3 (.slice (some ⟨sb,0,none⟩) (s.length+1) sc) 4 (.slice (some ⟨ob,0,none⟩) s.length oc) 10 (.slice (some ⟨bt,0,none⟩) J.length tc) 11 (iV (J.length:Int)) 12 (iV ((i+1:Nat):Int))) (by simp) lE ⟨i+1,pre++[tk],rest,s,q.snoc o cur,_,_,oc,sb,sc,_,_,_,C,C,C,by rw[htk];simp,by simp[hpi],hm.trans (GX h2 h4),by simp only[List.length_cons] at h200;omega,by rw[Fo.len_snoc];have:=hsl (o,q) (.head _);simp only at this;omega,LA hsl,(by rw[Fo.len_snoc];exact (hS6.ext hA8).knil),F⟩));exact Af;refine An C ?_ ?_;refine A1 C C C vG C hb8 C C λw23 hb15 hC7=>?_;replace K:=K.chg hC7 oM;replace Z:=Z.chg hC7 oM;replace F:=F.chg hC7 oM;replace G:=G.chg hC7 oM;replace U:=U.chg hC7 oM;replace d:=d.chg hC7 nM;have sz11:=hC7.size;refine Ae (Ao d<|An C ?_ Af);refine A1 C C C vG C hb15 C C λw24 hb16 hC8=>?_;replace K:=K.chg hC8 oM;replace Z:=Z.chg hC8 oM;replace F:=F.chg hC8 oM;replace G:=G.chg hC8 oM;replace U:=U.chg hC8 oM;replace d:=d.chg hC8 nM;have sz12:=hC8.size;refine Ae (Ao d<|An C ?_ Af);refine Ab C (Ai C vG hb16 C)<|Ae (Ao d<|By<|K5 [.sq _,.bk _,.bk _,.sq _] 3 [] (Ar _) (λ_=>?_));have hr19:=(hbt.ext F);have hr20:=K;have hr21:=Z;have hr22:=hb16;refine Em mixed (A5 w24 [bt,b2,b5,b6]) (rd [0,1,2,3,4,5,6,8] (.br 7 (.rd 9 (.br 10 (.br 11 (.rd 12 (.br 13 .fin .fin)) .fin) .fin)) (.br 10 (.br 7 (.rd 9 (.br 11 (.rd 12 (.br 13 .fin .fin)) .fin)) .fin) .fin))) kR kR kR λw25 hE13 hz13=>?_;have d:A5 w24 [bt,b2,b5,b6] w25:=A5.cons hr19 hE13 (A5.cons hr20 hE13 (A5.cons hr21 hE13 (A5.cons hr22 hE13 (A5.nil _ _))));refine⟨d,?_⟩;replace K:=K.ext hE13;replace Z:=Z.ext hE13;replace hb16:=hb16.ext hE13;replace F:=F.trans hE13;replace G:=G.trans hE13;replace U:=U.trans hE13;refine Av C C (λ_ Q=>Az C)<|Av C C (λ_ Q=>Az C)<|Av C C (λ_ Q=>Hp C C ⟨oM,oM⟩)<|Av C C (λ_ Q=>Az C)<|Av C C (λ_ Q=>Az C)<|Av C C (λ_ Q=>Hp C C ⟨oM,oM⟩)<|Av C C (λ_ Q=>EL s.length C C (by simp <;> omega) Ho oM)<|Av C C (λ_ Q=>Di C Lk (hr21.keep Q (.tail _ (.tail _ (.head _)))) C)<|An C ?_ ?_;obtain⟨_,ls,Y,O,L,hsl2,hsw,hsu⟩:=(hP.ext U).sblk
 cases Y
 refine Ab C (Ai C Kt O (by simpa using L))<|Ae (Ao d<|Av C C (λ_ Q=>Mw C La)<|An C ?_ Af);refine Ch C C La LJ C C C C C λb9 w26 hb17 hE14 hs9 hz14=>?_;replace K:=K.ext hE14;replace Z:=Z.ext hE14;replace hb16:=hb16.ext hE14;replace F:=F.trans hE14;replace G:=G.trans hE14;replace U:=U.trans hE14;replace d:=d.ext hE14;refine Ae (Ao d<|An C ?_ Af);have D:=(hP.ext U);obtain⟨xs,hrow,hfc,hla⟩:=D.top;have hql:=hsl (o,q) (.head _);simp only at hql;refine Bb C YO C C C C hrow hb17 C C oM oM λa3 c3 w27 hr23 hG5=>?_;obtain⟨u3,hS7⟩:=D.app hrow hfc hla ⟨0,0,0,0,[]⟩ (Ey.nil _ _ none 0) hr23 hG5 oM;obtain⟨lb,_,he3,-⟩:=hS7.tblk
 cases he3
 have hlo:lb<wl.heap.size∨lb=w26.heap.size:=by
  rcases hG5.own with h|h
  · exact .inl (htlt9 lb h.symm)
  · exact .inr (Option.some.inj h)
 have hlge:w26.heap.size≤w27.heap.size:=hG5.size;replace F:=F.grow hG5 (λb hb=>(hla b hb).1);have sz13:=hG5.size;replace d:=d.grow hG5 (by simp only[List.mem_cons,List.not_mem_nil,or_false];intro c hc e;have h1:=(hla c e.symm).1;have h2:=htlt9 c e.symm;omega);have hA9:=AU.refl w27;refine Ae (Ao d<|Av C C (λ_ Q=>EL s.length C C (by simp <;> omega) Ho oM)<|An C ?_ Af);have D:=(hS7.ext hA9);obtain⟨_,ls,Y,O,L,hsl2,hsw,hsu⟩:=D.sblk
 cases Y
 refine Ce C C C Kt C O C (by simp <;> omega) λw28 hb18 hC9=>?_;have hS8:=D.cell' C O hb18 hC9;replace F:=F.chg hC9 hsw;have sz14:=hC9.size;replace d:=d.chg hC9 nM;have hA10:=AU.refl w28;refine Ae (Ao d<|By<|K5 [.sq _,.bk _,.bk _,.sq _] 2 [] (Ar _) (λ_=>Ab C (EL q.len C C oM La oM) ?_));have D:=(hS8.ext hA10);obtain⟨_,ll,hel,hlb,hll,hlw,hlu⟩:=D.tblk
 cases hel
 refine Ce C C C Lk C hlb C (by simp <;> omega) λw29 hb19 hC10=>?_;have hS9:=D.last' C hlb o D.kid hb19 hC10;replace F:=F.chg hC10 hlw;have sz15:=hC10.size;have hA11:=AU.refl w29;refine AL [.bk _,.bk _,.sq _] 8 [] (Ar _) (aI ⟨oM,oM⟩<|λ_=>HF rest.length (E5 3 (.slice (some ⟨sb,0,none⟩) (s.length+1) sc) 4 (.slice (some ⟨ob,0,none⟩) s.length oc) 10 (.slice (some ⟨bt,0,none⟩) J.length tc) 11 (iV (J.length:Int)) 12 (iV ((i+1:Nat):Int))) (by simp) lE ⟨i+1,pre++[tk],rest,s,q.snoc o cur,_,_,oc,sb,sc,_,_,_,C,C,C,by rw[htk];simp,by simp[hpi],hm.trans (GX h2 h4),by simp only[List.length_cons] at h200;omega,by rw[Fo.len_snoc];have:=hsl (o,q) (.head _);simp only at this;omega,LA hsl,(by rw[Fo.len_snoc];exact (hS9.ext hA11).knil),F⟩);refine An C ?_ ?_;refine Ch C C La LJ C C C C C λb10 w30 hb20 hE15 hs10 hz15=>?_;replace K:=K.ext hE15;replace Z:=Z.ext hE15;replace hb16:=hb16.ext hE15;replace F:=F.trans hE15;replace G:=G.trans hE15;replace U:=U.trans hE15;replace d:=d.ext hE15;refine Ae (Ao d<|An C ?_ Af);obtain⟨_,ls,Y,O,L,hsl2,hsw,hsu⟩:=(hP.ext U).sblk
 cases Y
 refine Ab C (Ai C Kt O (by simpa using L))<|Ae (Ao d<|Av C C (λ_ Q=>Mw C La)<|An C ?_ Af);have D:=(hP.ext U);obtain⟨xs,hrow,hfc,hla⟩:=D.top;have hql:=hsl (o,q) (.head _);simp only at hql;refine Bb C YO C C C C hrow hb20 C C oM oM λa3 c3 w31 hr24 hG6=>?_;obtain⟨u3,hS10⟩:=D.app hrow hfc hla ⟨0,0,0,0,[]⟩ (Ey.nil _ _ none 0) hr24 hG6 oM;obtain⟨lb,_,he3,-⟩:=hS10.tblk
 cases he3
 have hlo:lb<wl.heap.size∨lb=w30.heap.size:=by
  rcases hG6.own with h|h
  · exact .inl (htlt9 lb h.symm)
  · exact .inr (Option.some.inj h)
 have hlge:w30.heap.size≤w31.heap.size:=hG6.size;replace F:=F.grow hG6 (λb hb=>(hla b hb).1);have sz16:=hG6.size;replace d:=d.grow hG6 (by simp only[List.mem_cons,List.not_mem_nil,or_false];intro c hc e;have h1:=(hla c e.symm).1;have h2:=htlt9 c e.symm;omega);have hA12:=AU.refl w31;refine Ae (Ao d<|Av C C (λ_ Q=>EL s.length C C (by simp <;> omega) Ho oM)<|An C ?_ Af);have D:=(hS10.ext hA12);obtain⟨_,ls,Y,O,L,hsl2,hsw,hsu⟩:=D.sblk
 cases Y
 refine Ce C C C Kt C O C (by simp <;> omega) λw32 hb21 hC11=>?_;have hS11:=D.cell' C O hb21 hC11;replace F:=F.chg hC11 hsw;have sz17:=hC11.size;replace d:=d.chg hC11 nM;have hA13:=AU.refl w32;refine Ae (Ao d<|By<|K5 [.sq _,.bk _,.bk _,.sq _] 2 [] (Ar _) (λ_=>Ab C (EL q.len C C oM La oM) ?_));have D:=(hS11.ext hA13);obtain⟨_,ll,hel,hlb,hll,hlw,hlu⟩:=D.tblk
 cases hel
 refine Ce C C C Lk C hlb C (by simp <;> omega) λw33 hb22 hC12=>?_;have hS12:=D.last' C hlb o D.kid hb22 hC12;replace F:=F.chg hC12 hlw;have sz18:=hC12.size;have hA14:=AU.refl w33;refine AL [.bk _,.bk _,.sq _] 8 [] (Ar _) (aI ⟨oM,oM⟩<|λ_=>HF rest.length (E5 3 (.slice (some ⟨sb,0,none⟩) (s.length+1) sc) 4 (.slice (some ⟨ob,0,none⟩) s.length oc) 10 (.slice (some ⟨bt,0,none⟩) J.length tc) 11 (iV (J.length:Int)) 12 (iV ((i+1:Nat):Int))) (by simp) lE ⟨i+1,pre++[tk],rest,s,q.snoc o cur,_,_,oc,sb,sc,_,_,_,C,C,C,by rw[htk];simp,by simp[hpi],hm.trans (GX h2 h4),by simp only[List.length_cons] at h200;omega,by rw[Fo.len_snoc];have:=hsl (o,q) (.head _);simp only at this;omega,LA hsl,(by rw[Fo.len_snoc];exact (hS12.ext hA14).knil),F⟩);exact Af;exact Af;refine Ki C C ?_;have hr25:=(hbt.ext F);have hr26:=K;refine Em mixed (A5 w3 [bt,b2]) (rd [0,1,2,4,5] (.br 3 (.rd 6 (.br 7 (.br 8 (.rd 9 (.rd 11 (.br 10 (.br 12 .fin .fin) (.br 12 (.br 10 .fin .fin) .fin)))) .fin) .fin)) (.br 7 (.br 3 (.rd 6 (.br 8 (.rd 9 (.rd 11 (.br 10 (.br 12 .fin .fin) (.br 12 (.br 10 .fin .fin) .fin)))) .fin)) .fin) .fin))) kR kR kR λw34 hE16 hz16=>?_;have d:A5 w3 [bt,b2] w34:=A5.cons hr25 hE16 (A5.cons hr26 hE16 (A5.nil _ _));refine⟨d,?_⟩;replace K:=K.ext hE16;replace F:=F.trans hE16;replace G:=G.trans hE16;refine Av C C (λ_ Q=>Az C)<|Av C C (λ_ Q=>Az C)<|Av C C (λ_ Q=>EL st.length C C oM Ho oM)<|Av C C (λ_ Q=>Di C DY (hr26.keep Q (.tail _ (.head _))) C)<|Av C C (λ_ Q=>DC C oO LJ C)<|An C ?_ ?_;obtain⟨_,ls,Y,O,L,hsl2,hsw,hsu⟩:=(Q.ext G).sblk
 cases Y
 refine Ab C (Ai C Kt O (by simpa using L))<|Ae (Ao d<|Av C C (λ_ Q=>Mw C La)<|An C ?_ Af);refine Ch C C La LJ C C C C C λb11 w35 hb23 hE17 hs11 hz17=>?_;replace K:=K.ext hE17;replace F:=F.trans hE17;replace G:=G.trans hE17;replace d:=d.ext hE17;refine Ae (Ao d<|An C ?_ Af);have D:=(Q.ext G);obtain⟨xs,hrow,hfc,hla⟩:=D.top;refine Bb C YO C C C C hrow hb23 C C oM oM λa3 c3 w36 hr27 hG7=>?_;obtain⟨u3,hS13⟩:=D.app hrow hfc hla ⟨0,0,0,0,[]⟩ (Ey.nil _ _ none 0) hr27 hG7 oM;obtain⟨lb,_,he3,-⟩:=hS13.tblk
 cases he3
 have hlo:lb<wl.heap.size∨lb=w35.heap.size:=by
  rcases hG7.own with h|h
  · exact .inl (htlt lb h.symm)
  · exact .inr (Option.some.inj h)
 have hlge:w35.heap.size≤w36.heap.size:=hG7.size;replace F:=F.grow hG7 (λb hb=>(hla b hb).1);have sz19:=hG7.size;replace d:=d.grow hG7 (by simp only[List.mem_cons,List.not_mem_nil,or_false];intro c hc e;have h1:=(hla c e.symm).1;have h2:=htlt c e.symm;omega);have hA15:=AU.refl w36;refine Ae (Ao d<|Av C C (λ_ Q=>EL cur.len C C oM La oM)<|Av C C (λ_ Q=>EL st.length C C oM Ho oM)<|An C ?_ ?_);have D:=(hS13.ext hA15);obtain⟨_,ll,hel,hlb,hll,hlw,hlu⟩:=D.tblk
 cases hel
 refine Ce C C C Lk C hlb C (by simp <;> omega) λw37 hb24 hC13=>?_;have hS14:=D.last' C hlb tk (Ey.nil _ _ none 0) hb24 hC13;replace F:=F.chg hC13 hlw;have sz20:=hC13.size;replace d:=d.chg hC13 nM;have hA16:=AU.refl w37;refine Ae (Ao d<|An C ?_ Af);have D:=(hS14.ext hA16);obtain⟨_,ls,Y,O,L,hsl2,hsw,hsu⟩:=D.sblk
 cases Y
 refine Ce C C C Kt C O C (by simp <;> omega) λw38 hb25 hC14=>?_;have hS15:=D.cell' C O hb25 hC14;replace F:=F.chg hC14 hsw;have sz21:=hC14.size;replace d:=d.chg hC14 nM;have hA17:=AU.refl w38;refine Ae (Ao d<|By<|K5 [.bk _,.bk _,.sq _] 7 [] (Ar _) (aI ⟨oM,oM⟩<|λ_=>HF rest.length (E5 3 (.slice (some ⟨sb,0,none⟩) (st.length+1) sc) 4 (.slice oa st.length oc) 10 (.slice (some ⟨bt,0,none⟩) J.length tc) 11 (iV (J.length:Int)) 12 (iV ((i+1:Nat):Int))) (by simp) lE ⟨i+1,pre++[tk],rest,st,cur.snoc tk .nil,_,oa,oc,sb,sc,_,_,_,C,C,C,by rw[htk];simp,by simp[hpi],hm.trans (GM h2 h4),h200,by rw[Fo.len_snoc];omega,Kd hsl,(by rw[Fo.len_snoc];exact (hS15.ext hA17)),F⟩));refine An C ?_ ?_;have D:=(hS13.ext hA15);obtain⟨_,ls,Y,O,L,hsl2,hsw,hsu⟩:=D.sblk
 cases Y
 refine Ce C C C Kt C O C (by simp <;> omega) λw39 hb26 hC15=>?_;have hS16:=D.cell' C O hb26 hC15;replace F:=F.chg hC15 hsw;have sz22:=hC15.size;replace d:=d.chg hC15 nM;have hA18:=AU.refl w39;refine Ae (Ao d<|An C ?_ Af);have D:=(hS16.ext hA18);obtain⟨_,ll,hel,hlb,hll,hlw,hlu⟩:=D.tblk
 cases hel
 refine Ce C C C Lk C hlb C (by simp <;> omega) λw40 hb27 hC16=>?_;have hS17:=D.last' C hlb tk (Ey.nil _ _ none 0) hb27 hC16;replace F:=F.chg hC16 hlw;have sz23:=hC16.size;replace d:=d.chg hC16 nM;have hA19:=AU.refl w40;refine Ae (Ao d<|By<|K5 [.bk _,.bk _,.sq _] 7 [] (Ar _) (aI ⟨oM,oM⟩<|λ_=>HF rest.length (E5 3 (.slice (some ⟨sb,0,none⟩) (st.length+1) sc) 4 (.slice oa st.length oc) 10 (.slice (some ⟨bt,0,none⟩) J.length tc) 11 (iV (J.length:Int)) 12 (iV ((i+1:Nat):Int))) (by simp) lE ⟨i+1,pre++[tk],rest,st,cur.snoc tk .nil,_,oa,oc,sb,sc,_,_,_,C,C,C,by rw[htk];simp,by simp[hpi],hm.trans (GM h2 h4),h200,by rw[Fo.len_snoc];omega,Kd hsl,(by rw[Fo.len_snoc];exact (hS17.ext hA19)),F⟩));exact Af;refine An C ?_ ?_;refine Ch C C La LJ C C C C C λb12 w41 hb28 hE18 hs12 hz18=>?_;replace K:=K.ext hE18;replace F:=F.trans hE18;replace G:=G.trans hE18;replace d:=d.ext hE18;refine Ae (Ao d<|An C ?_ Af);obtain⟨_,ls,Y,O,L,hsl2,hsw,hsu⟩:=(Q.ext G).sblk
 cases Y
 refine Ab C (Ai C Kt O (by simpa using L))<|Ae (Ao d<|Av C C (λ_ Q=>Mw C La)<|An C ?_ Af);have D:=(Q.ext G);obtain⟨xs,hrow,hfc,hla⟩:=D.top;refine Bb C YO C C C C hrow hb28 C C oM oM λa3 c3 w42 hr28 hG8=>?_;obtain⟨u3,hS18⟩:=D.app hrow hfc hla ⟨0,0,0,0,[]⟩ (Ey.nil _ _ none 0) hr28 hG8 oM;obtain⟨lb,_,he3,-⟩:=hS18.tblk
 cases he3
 have hlo:lb<wl.heap.size∨lb=w41.heap.size:=by
  rcases hG8.own with h|h
  · exact .inl (htlt lb h.symm)
  · exact .inr (Option.some.inj h)
 have hlge:w41.heap.size≤w42.heap.size:=hG8.size;replace F:=F.grow hG8 (λb hb=>(hla b hb).1);have sz24:=hG8.size;replace d:=d.grow hG8 (by simp only[List.mem_cons,List.not_mem_nil,or_false];intro c hc e;have h1:=(hla c e.symm).1;have h2:=htlt c e.symm;omega);have hA20:=AU.refl w42;refine Ae (Ao d<|Av C C (λ_ Q=>EL cur.len C C oM La oM)<|Av C C (λ_ Q=>EL st.length C C oM Ho oM)<|An C ?_ ?_);have D:=(hS18.ext hA20);obtain⟨_,ll,hel,hlb,hll,hlw,hlu⟩:=D.tblk
 cases hel
 refine Ce C C C Lk C hlb C (by simp <;> omega) λw43 hb29 hC17=>?_;have hS19:=D.last' C hlb tk (Ey.nil _ _ none 0) hb29 hC17;replace F:=F.chg hC17 hlw;have sz25:=hC17.size;replace d:=d.chg hC17 nM;have hA21:=AU.refl w43;refine Ae (Ao d<|An C ?_ Af);have D:=(hS19.ext hA21);obtain⟨_,ls,Y,O,L,hsl2,hsw,hsu⟩:=D.sblk
 cases Y
 refine Ce C C C Kt C O C (by simp <;> omega) λw44 hb30 hC18=>?_;have hS20:=D.cell' C O hb30 hC18;replace F:=F.chg hC18 hsw;have sz26:=hC18.size;replace d:=d.chg hC18 nM;have hA22:=AU.refl w44;refine Ae (Ao d<|By<|K5 [.bk _,.bk _,.sq _] 7 [] (Ar _) (aI ⟨oM,oM⟩<|λ_=>HF rest.length (E5 3 (.slice (some ⟨sb,0,none⟩) (st.length+1) sc) 4 (.slice oa st.length oc) 10 (.slice (some ⟨bt,0,none⟩) J.length tc) 11 (iV (J.length:Int)) 12 (iV ((i+1:Nat):Int))) (by simp) lE ⟨i+1,pre++[tk],rest,st,cur.snoc tk .nil,_,oa,oc,sb,sc,_,_,_,C,C,C,by rw[htk];simp,by simp[hpi],hm.trans (GM h2 h4),h200,by rw[Fo.len_snoc];omega,Kd hsl,(by rw[Fo.len_snoc];exact (hS20.ext hA22)),F⟩));refine An C ?_ ?_;have D:=(hS18.ext hA20);obtain⟨_,ls,Y,O,L,hsl2,hsw,hsu⟩:=D.sblk
 cases Y
 refine Ce C C C Kt C O C (by simp <;> omega) λw45 hb31 hC19=>?_;have hS21:=D.cell' C O hb31 hC19;replace F:=F.chg hC19 hsw;have sz27:=hC19.size;replace d:=d.chg hC19 nM;have hA23:=AU.refl w45;refine Ae (Ao d<|An C ?_ Af);have D:=(hS21.ext hA23);obtain⟨_,ll,hel,hlb,hll,hlw,hlu⟩:=D.tblk
 cases hel
 refine Ce C C C Lk C hlb C (by simp <;> omega) λw46 hb32 hC20=>?_;have hS22:=D.last' C hlb tk (Ey.nil _ _ none 0) hb32 hC20;replace F:=F.chg hC20 hlw;have sz28:=hC20.size;replace d:=d.chg hC20 nM;have hA24:=AU.refl w46;refine Ae (Ao d<|By<|K5 [.bk _,.bk _,.sq _] 7 [] (Ar _) (aI ⟨oM,oM⟩<|λ_=>HF rest.length (E5 3 (.slice (some ⟨sb,0,none⟩) (st.length+1) sc) 4 (.slice oa st.length oc) 10 (.slice (some ⟨bt,0,none⟩) J.length tc) 11 (iV (J.length:Int)) 12 (iV ((i+1:Nat):Int))) (by simp) lE ⟨i+1,pre++[tk],rest,st,cur.snoc tk .nil,_,oa,oc,sb,sc,_,_,_,C,C,C,by rw[htk];simp,by simp[hpi],hm.trans (GM h2 h4),h200,by rw[Fo.len_snoc];omega,Kd hsl,(by rw[Fo.len_snoc];exact (hS22.ext hA24)),F⟩));exact Af;exact Af;refine AT [.sq _] 3 [] (Ar _) (λ_=>OJ<|K5 [.bk _,.sq _] 4 [] (Ar _) (λ_=>?_))
 have hrz:rest=[]:=by
  rcases rest with _|⟨t9,rest⟩
  · rfl
  · simp at hil;have:=h1;simp at this;omega
 subst hrz;refine AT [.sq _,.sq _] 6 [] (Ar _) (λ_=>sP 104 C (λh6=>?_) (λh6=>?_));refine Gh C C ?_;rcases st with _|⟨o,s⟩
 · simp at h6
 obtain⟨ob,lo,lo2,tz,fz,hoa,hob,hoz,hod⟩:=(Q.ext G).oblk0
 cases hoa
 exact AT [.sq _] 2 [] (Ar _) (λ_=>Ab C (KL (i:=0) C C Hj (by simp))<|Ab C (BF C jV)<|Ab C (Mx 1 C Jl hob hod oM C)<|Ab C (DC C pl61 zr61 C)<|Ab C (BR C kH)<|Cl (BE C) (aI C<|⟨(tz.ln,tz.co),hm.trans (W2 hoz),C,F⟩));refine AT [.sq _] 4 [] (Ar _) (λ_=>?_);rcases st with _|⟨o,s⟩
 rotate_left
 · simp at h6
 refine AT [.sq _] 2 [] (Ar _) (λ_=>Ab C (KL (i:=0) C C Ho oM) ?_);obtain⟨_,ls,Y,O,L,hsl2,hsw,hsu⟩:=(Q.ext G).sblk
 cases Y
 exact Ab C (Ai C Kt O (by simpa using L))<|AL [.sq _] 4 [] (Ar _) (λ_=>Bp (AE C (Ah C))<|⟨cur,a,c,hm.trans T0,C,(Q.ext G).out,F⟩)
theorem RL(w:wO)(c2 c3 c4:Nat) :
  CallsD prog 17 [pB c2,pB c3,pB c4].toArray .returning w λr m w'=>∃x,r=.returned x∧m=.returning∧AU w w':=by
 refine D0 (R:=λw'=>AU w w') func17 C C C C NU<|(?_:A3 prog _ (FR prog _ (λ_ w'=>AU w w') λ_ _=>False) [] (X0 w (λ_=>0)) [] [] [] (.code _) [] _ []) w (λ_=>0) (Ci (λ_ _=>C) tQ tQ);exact Aa 3 [] (λ_=>Dn C C (λw f d=>RO Rm C)<|Aa 7 [] (λ_=>mJ (λw f d=>DL C) (λw f d=>d.exm.stp.ext)))
theorem Sw(w:wO)(f:Fq)(G:Vl w f)(c2 c3 c4:Nat)(v2 x3 y3 v4:Value)(h:AM w c2 [v2] 46)(D:AM w c3 [x3,y3] 27)(F:AM w c4 [v4] 28)(J:f c2=0∧f c3=0∧f c4=0)(K:c2≠c3∧c2≠c4∧c3≠c4)(er:Int×Int) :
  CallsD prog 17 [pB c2,pB c3,pB c4].toArray (.panicking (Sn 61 er)) w λr m w'=>∃x,r=.returned x∧m=.panicking [{v:=.iface 61 (.agg #[iV er.1,iV er.2]),recovered:=true}]∧(∃f',CK (λb=>b=c2∨b=c3∨b=c4) w f w' f'∧AM w' c2 [.slice none 0 0] 46∧AM w' c3 [iV er.1,iV er.2] 27∧AM w' c4 [iV 10] 28):=by
 refine D0 (R:=λw'=>∃f',CK (λb=>b=c2∨b=c3∨b=c4) w f w' f'∧AM w' c2 [.slice none 0 0] 46∧AM w' c3 [iV er.1,iV er.2] 27∧AM w' c4 [iV 10] 28) func17 C C C C Sj<|(?_:A3 prog _ (FR prog _ (λ_ w'=>∃f',CK (λb=>b=c2∨b=c3∨b=c4) w f w' f'∧AM w' c2 [.slice none 0 0] 46∧AM w' c3 [iV er.1,iV er.2] 27∧AM w' c4 [iV 10] 28) λ_ _=>False) [] ⟨λb=>b=c2∨b=c3∨b=c4,λ_=>False,λ_ _=>True,w,f⟩ [] [] [] (.code _) [] _ [⟨c2,[v2],46,false⟩,⟨c3,[x3,y3],27,false⟩,⟨c4,[v4],28,false⟩]) w f (qJ G h D F J K);refine Aa 3 [] (λ_=>Dn C C (λw f d=>Ri Rm C)<|Aa 5 [] (λ_=>Dn C C (λw f d=>V3 C rO)<|Aa 11 [0] (λb1=>y<|λ_=>CF [0] Al (.rd 0 (.rd 1 (.br 2 (.br 3 (.br 4 .fin .fin) .fin) .fin))) C kR<|A2 2 [0] (y<|λ_=>Ag C ?_ Aj))));refine Aa 2 [1] (y<|λ_=>Au [0] C<|Ag C ?_ Aj);refine Aa 2 [2] (y<|λ_=>Au [0] C<|Ag C ?_ Aj);exact Aa 2 [3] (y<|λ_=>Au [0] C<|Bm<|Aa 1 [] (λ_=>mJ (λw f d=>DL C) (λw f d=>⟨f,d.exm,d.blk _ tG,d.blk _ WU,d.blk _ WN⟩)))
variable {σ:Bf}{f f':Fq}{a:oA}{v2 v4 x3 y3:Value}{w w':wO}
theorem yP{p:Nd×Int×Int×Int}{b2 b3 b4:Nat}(K:b2≠b3∧b2≠b4∧b3≠b4){fn:Func}(L:fn.results=#[.cell 2 46,.cell 3 27,.cell 4 28])(O:σ 2=some (pB b2))(Q:σ 3=some (pB b3))(U:σ 4=some (pB b4)){er:Int×Int}(hm:p=(.nil,er.1,er.2,10))(F:CK (λ_=>False) w f w' f')
  (k2:AM w' b2 [v2] 46∧f' b2=0∧(true=true→w.heap.size≤b2)) (k3:AM w' b3 [x3,y3] 27∧f' b3=0∧(true=true→w.heap.size≤b3)) (k4:AM w' b4 [v4] 28∧f' b4=0∧(true=true→w.heap.size≤b4))
  (tmps:Array Value) (D:∀t,t∈[2,3,4]→∀v,σ t=some v→tmps.getD t undef=v):Leaves prog fn tmps (λe w'=>∃v,e=.returned v∧Td p w f v w') [{target:=.fn (.func 17) ([pB b2,pB b3,pB b4]:lV).toArray,args:=#[]}] (.panicking (Sn 61 er)) w':=by
 refine FP (by simp) dB (Sw w' f' F.val b2 b3 b4 v2 x3 y3 v4 k2.1 k3.1 k4.1 ⟨k2.2.1,k3.2.1,k4.2.1⟩ K er) λwz hz=>?_;rw[KK];obtain⟨f3,Y,z2,z3,z4⟩:=hz;refine BT (σ:=AF (E2 2 (pB b2) 3 (pB b3)) 4 (pB b4)) (λt v d=>?_) (DP L (Br C JJ z2 C) (Ac C Fa z3 C) (Br C Ik z4 C)) ⟨_,C,f3,none,0,CK.trans0 F Y (λb Z=>?_),by rw[hm];rfl,by rw[hm];exact⟨Nat.zero_le _,.inl C⟩⟩
 ·
  by_cases e4:t=4
  · subst e4;exact D 4 (by simp) v (U.trans d)
  by_cases G:t=3
  · subst G;exact D 3 (by simp) v (Q.trans d)
  by_cases J:t=2
  · subst J;exact D 2 (by simp) v (O.trans d)
  have n4:Nat.beq t 4=false:=by cases h:Nat.beq t 4 with|false=>rfl|true=>exact absurd (Nat.eq_of_beq_eq_true h) e4
  have n3:Nat.beq t 3=false:=by cases h:Nat.beq t 3 with|false=>rfl|true=>exact absurd (Nat.eq_of_beq_eq_true h) G
  have n2:Nat.beq t 2=false:=by cases h:Nat.beq t 2 with|false=>rfl|true=>exact absurd (Nat.eq_of_beq_eq_true h) J
  simp[AF,Go.SW.e0,n2,n3,n4] at d
 ·
  rcases Z with rfl|rfl|rfl
  · exact k2.2.2 C
  · exact k3.2.2 C
  · exact k4.2.2 C
theorem pdone{p:Nd×Int×Int×Int}{b2 b3 b4:Nat}{fn:Func}(F:fn.results=#[.cell 2 46,.cell 3 27,.cell 4 28])(G:σ 2=some (pB b2))(J:σ 3=some (pB b3))(K:σ 4=some (pB b4)){nds:Nd}(hm:p=(nds,0,0,0))(d:CK (λ_=>False) w f w' f'){c:Nat}(L:AH w' f' nds a c)
  (k2:AM w' b2 [.slice a nds.len c] 46) (k3:AM w' b3 [iV 0,iV 0] 27) (k4:AM w' b4 [iV 0] 28)
  (tmps:Array Value) (O:∀t v,σ t=some v→tmps.getD t undef=v):Leaves prog fn tmps (λe w'=>∃v,e=.returned v∧Td p w f v w') [{target:=.fn (.func 17) ([pB b2,pB b3,pB b4]:lV).toArray,args:=#[]}] .returning w':=by
 refine FP (by simp) dB (RL w' b2 b3 b4) λU hz=>?_;have D:=CK.of_ext hz d.val;subst hm;exact BT O (DP F (Br G JJ (k2.ext hz) C) (Ac J Fa (k3.ext hz) C) (Br K Ik (k4.ext hz) C)) ⟨_,C,f',a,c,CK.trans0 d D (λb Q=>Q.elim),C,AH.mono _ _ _ _ L (D.fle d.val (λ_ h=>h.elim))⟩
theorem TH(w:wO)(f:Fq)(K:Vl w f)(h:oA)(D:Nat)(d:List AB)(L:BX w 108 5 h D d.length (Fw d))(hlen:d.length≤100000) :
  BI prog 19 #[.slice h d.length D] w (B3 (α:=Fo×oA×Nat) (λx=>.slice x.2.1 x.1.len x.2.2) (λx=>AA d [] .nil=.ok x.1) (λx=>[λw f=>Ee w f x.1 x.2.1 x.2.2]) w f) (S4 61 (λe=>AA d [] .nil=.error e) w f) :=
 (Wt w h _ D d L C hlen).mono (λ_ w' ⟨O,a,c,F,G,J,Q⟩=>⟨(O,a,c),pL w w' f,G,F,kA Q,Ey.frz J,tQ⟩) λ_ w' ⟨e,F,G,J⟩=>⟨e,f,G,F,CK.of_ext J K⟩
set_option maxHeartbeats 1000000 in
theorem Zc(w:wO)(f:Fq)(O:Vl w f)(Q:Dy w f)(n:Nat)(src:lU)(e:Int×Int×Int)(G:(e.2.2 != 0)=true)(U:∀J,Gl J→Bq prog 16 #[S src] J λv w'=>v=.tuple #[.slice none 0 0,.agg #[iV e.1,iV e.2.1],iV e.2.2]∧AU J w') :
  Bq prog 11 #[S src] w (Td (HS (n+1) (.error e)) w f):=by
 refine uY (K:=[2,3,4]) (X:=X0 w f) (H:=[]) (R:=[]) (B:=[]) (Fs:=[λw f=>Dy w f]) (f:=f) func11 C C C (Ci O ⟨Q,tQ⟩ ⟨Dy.mono,tQ⟩)<|Aa 8 [] (λb1=>λb2=>λb3=>λ_=>Jf (p:=b1≠b2∧b1≠b3∧b2≠b3) (λw f d=>by have F:=d.nd;simp[CO] at F;exact⟨λe=>F.2 e.symm,λe=>F.1.2 e.symm,λe=>F.1.1 e.symm⟩) λY=>Aa 2 [] (λ_=>Dm C C (eC cL C C) (λw f d=>U _ (Dy.gl d.f0))<|Aa 16 [1,0,0] (y<|y<|y<|λ_=>AN 13 C C (λL=>?_) (λL=>?_))));refine Aa 2 [] (λ_=>Zl [2,3,4] (λ_=>True) Fl [] Al (.br 0 (.br 1 (.br 2 (.br 3 (.br 4 .fin .fin) .fin) .fin) (.br 2 (.br 1 (.br 3 (.br 4 .fin .fin) .fin) (.br 3 (.br 1 (.br 4 .fin .fin) .fin) .fin)) .fin)) (.br 1 (.br 0 (.br 2 (.br 3 (.br 4 .fin .fin) .fin) .fin) (.br 2 (.br 0 (.br 3 (.br 4 .fin .fin) .fin) .fin) .fin)) (.br 2 (.br 0 (.br 1 (.br 3 (.br 4 .fin .fin) .fin) (.br 3 (.br 1 (.br 4 .fin .fin) .fin) .fin)) (.br 1 (.br 0 (.br 3 (.br 4 .fin .fin) .fin) .fin) .fin)) .fin))) C kR kR kR C EU<|Ag C ?_ ?_);refine Aa 2 [1] (y<|λ_=>Au [] C<|Ag C ?_ ?_);refine Aa 2 [0] (y<|λ_=>Au [] C<|Ag C ?_ Aj);refine Aa 2 [2] (y<|λ_=>Au [] C<|Ag C ?_ Aj);refine Aa 2 [1] (y<|λ_=>Au [] C<|Ag C ?_ Aj);exact Aa 2 [0] (y<|λ_=>Au [] C<|Bm<|Aa 3 [] (λ_=>λD f9 d=>λtmps h=>BT h (DP C (Br C JJ d.k2 C) (Ac C Fa d.k1 C) (Br C Ik d.k0 C)) ⟨_,C,f9,none,0,d.exm,C,⟨Nat.zero_le _,.inl C⟩⟩));refine Ag C ?_ Aj;refine Aa 2 [2] (y<|λ_=>Au [] C<|Ag C ?_ ?_);refine Aa 2 [0] (y<|λ_=>Au [] C<|Ag C ?_ Aj);refine Aa 2 [1] (y<|λ_=>Au [] C<|Ag C ?_ Aj);exact Aa 2 [0] (y<|λ_=>Au [] C<|Bm<|Aa 3 [] (λ_=>λD f9 d=>λtmps h=>BT h (DP C (Br C JJ d.k2 C) (Ac C Fa d.k1 C) (Br C Ik d.k0 C)) ⟨_,C,f9,none,0,d.exm,C,⟨Nat.zero_le _,.inl C⟩⟩));refine Ag C ?_ Aj;refine Aa 2 [1] (y<|λ_=>Au [] C<|Ag C ?_ Aj);refine Aa 2 [0] (y<|λ_=>Au [] C<|Ag C ?_ Aj);exact Aa 2 [0] (y<|λ_=>Au [] C<|Bm<|Aa 3 [] (λ_=>λD f9 d=>λtmps h=>BT h (DP C (Br C JJ d.k2 C) (Ac C Fa d.k1 C) (Br C Ik d.k0 C)) ⟨_,C,f9,none,0,d.exm,C,⟨Nat.zero_le _,.inl C⟩⟩));refine Ag C ?_ ?_;refine Aa 2 [0] (y<|λ_=>Au [] C<|Ag C ?_ ?_);refine Aa 2 [1] (y<|λ_=>Au [] C<|Ag C ?_ Aj);refine Aa 2 [2] (y<|λ_=>Au [] C<|Ag C ?_ Aj);refine Aa 2 [1] (y<|λ_=>Au [] C<|Ag C ?_ Aj);exact Aa 2 [0] (y<|λ_=>Au [] C<|Bm<|Aa 3 [] (λ_=>λD f9 d=>λtmps h=>BT h (DP C (Br C JJ d.k2 C) (Ac C Fa d.k1 C) (Br C Ik d.k0 C)) ⟨_,C,f9,none,0,d.exm,C,⟨Nat.zero_le _,.inl C⟩⟩));refine Ag C ?_ Aj;refine Aa 2 [2] (y<|λ_=>Au [] C<|Ag C ?_ Aj);refine Aa 2 [1] (y<|λ_=>Au [] C<|Ag C ?_ Aj);refine Aa 2 [1] (y<|λ_=>Au [] C<|Ag C ?_ Aj);exact Aa 2 [0] (y<|λ_=>Au [] C<|Bm<|Aa 3 [] (λ_=>λD f9 d=>λtmps h=>BT h (DP C (Br C JJ d.k2 C) (Ac C Fa d.k1 C) (Br C Ik d.k0 C)) ⟨_,C,f9,none,0,d.exm,C,⟨Nat.zero_le _,.inl C⟩⟩));refine Ag C ?_ Aj
 refine Aa 2 [2] (y<|λ_=>Au [] C<|Ag C ?_ ?_);refine Aa 2 [1] (y<|λ_=>Au [] C<|Ag C ?_ ?_);refine Aa 2 [0] (y<|λ_=>Au [] C<|Ag C ?_ Aj);refine Aa 2 [1] (y<|λ_=>Au [] C<|Ag C ?_ Aj);exact Aa 2 [0] (y<|λ_=>Au [] C<|Bm<|Aa 3 [] (λ_=>λD f9 d=>λtmps h=>BT h (DP C (Br C JJ d.k2 C) (Ac C Fa d.k1 C) (Br C Ik d.k0 C)) ⟨_,C,f9,none,0,d.exm,C,⟨Nat.zero_le _,.inl C⟩⟩));refine Ag C ?_ Aj;refine Aa 2 [1] (y<|λ_=>Au [] C<|Ag C ?_ Aj);refine Aa 2 [0] (y<|λ_=>Au [] C<|Ag C ?_ Aj);exact Aa 2 [0] (y<|λ_=>Au [] C<|Bm<|Aa 3 [] (λ_=>λD f9 d=>λtmps h=>BT h (DP C (Br C JJ d.k2 C) (Ac C Fa d.k1 C) (Br C Ik d.k0 C)) ⟨_,C,f9,none,0,d.exm,C,⟨Nat.zero_le _,.inl C⟩⟩));refine Ag C ?_ Aj;refine Aa 2 [0] (y<|λ_=>Au [] C<|Ag C ?_ Aj);refine Aa 2 [1] (y<|λ_=>Au [] C<|Ag C ?_ Aj);refine Aa 2 [1] (y<|λ_=>Au [] C<|Ag C ?_ Aj);exact Aa 2 [0] (y<|λ_=>Au [] C<|Bm<|Aa 3 [] (λ_=>λD f9 d=>λtmps h=>BT h (DP C (Br C JJ d.k2 C) (Ac C Fa d.k1 C) (Br C Ik d.k0 C)) ⟨_,C,f9,none,0,d.exm,C,⟨Nat.zero_le _,.inl C⟩⟩));exact absurd (G.symm.trans L) dC
set_option maxHeartbeats 1000000 in
theorem eL(w:wO)(f:Fq)(Z:Vl w f)(hJ:Dy w f)(n:Nat)(src:lU)(d:List AB)(hlen:d.length≤100000)(hok:∀G,AA d [] .nil=.ok G→G.all (GR (n+1))∧G.len≤100000)(hs:∀Q,Gl Q→Bq prog 16 #[S src] Q λv w'=>∃L U,v=.tuple #[.slice L d.length U,.agg #[iV 0,iV 0],iV 0]∧(BX w' 108 5 L U d.length (Fw d)∧∀b,rb L=some b→Q.heap.size≤b)∧AU Q w') :
  Bq prog 11 #[S src] w (Td (HS (n+1) (.ok d)) w f):=by
 refine uY (K:=[2,3,4]) (X:=X0 w f) (H:=[]) (R:=[]) (B:=[]) (Fs:=[λw f=>Dy w f]) (f:=f) func11 C C C (Ci Z ⟨hJ,tQ⟩ ⟨Dy.mono,tQ⟩)<|Aa 8 [] (λb1=>λb2=>λb3=>λ_=>Jf (p:=b1≠b2∧b1≠b3∧b2≠b3) (λw f h=>by have Y:=h.nd;simp[CO] at Y;exact⟨λe=>Y.2 e.symm,λe=>Y.1.2 e.symm,λe=>Y.1.1 e.symm⟩) λhn=>Aa 2 [] (λ_=>mct (val:=λa c=>.tuple #[.slice a d.length c,.agg #[iV 0,iV 0],iV 0]) C C (eC cL C C) (λw f h=>hs w (Dy.gl h.f0)) λL U=>Aa 21 [1,0,0] (y<|y<|y<|λ_=>Dn C C (λw f h=>VP C)<|mdf C C<|Aa 5 [] (λ_=>Aa9 (pe:=λe=>AA d [] .nil=.error e) C C (eC wY C C) (λw f h=>TH w f h.vl L U d (h.row _ (.head _)) hlen) (λ_=>⟨Ee.mono,tQ⟩) (λer w2 f2 he hE J=>yP hn C C C C (by rw[HS,he]) hE (J _ WU) (J _ tG) (J _ om0)) ?_))));rintro⟨G,fa,fc⟩ D;dsimp only at D ⊢;obtain⟨O,hfl⟩:=hok G D;refine Aa9 (pe:=λe=>A9 (Co (n+1)) G=.error e) C C (eC Dp C C) (λw f h=>BS 20 rV (Co (n+1)) (GR (n+1)) (λw f Z hJ t k a c hd hT=>Yl n w f Z hJ t k a c hd hT) w f h.vl h.f1 G _ _ O hfl h.f0) (λ_=>⟨AH.mono,tQ⟩) (λer w2 f2 he hE J=>yP hn C C C C (by rw[HS,D];simp only[he]) hE (J _ WU) (J _ tG) (J _ om0)) ?_;rintro⟨⟨nds,xnds⟩,na,nc⟩ F;dsimp only at F ⊢;exact Aa 7 [2,1,0] (y<|y<|y<|λ_=>λw9 f9 h=>λtmps ht=>pdone C C C C (show HS (n+1) (.ok d)=(nds,0,0,0) by rw[HS,D];simp only[F]) h.exm h.f0 h.k2 h.k1 h.k0 tmps ht)
theorem Iz(w:wO)(b:Nat)(src:lU)(i:Nat)(p:Ps)(sl:Value)(h:AM w b [S src,iV (i:Int),iV p.1,iV p.2,sl] 106) :
  Bq prog 38 #[pB b] w λv w'=>v=.bool (decide ((i:Int)<(src.length:Int)))∧AU w w':=by
 have K:=h.lt;have G:=AU.refl w;refine enter func38 C C C<|AT [] 6 [] (Ar _) (λ_=>?_);have D:=h;refine DX mixed (A5 w [b]) [(true,0),(true,1),(true,2),(true,3),(true,4),(true,5),(true,6),(true,7),(true,8),(true,9),(true,10)] kR kR C C λL F O=>?_;have J:A5 w [b] L:=A5.cons D F (A5.nil _ _);refine⟨J,?_⟩;replace h:=h.ext F;replace G:=G.trans F;refine A0 C (λ_ d=>Az C)<|A0 C (λ_ d=>Bv C)<|A0 C (λ_ d=>BF C F4)<|A0 C (λ_ d=>Ai C UR (D.keep d (.head _)) C)<|A0 C (λ_ d=>Az C)<|A0 C (λ_ d=>Bv C)<|A0 C (λ_ d=>BF C HK)<|A0 C (λ_ d=>Ai C ZB (D.keep d (.head _)) C)<|A0 C (λ_ d=>Ni C JQ)<|A0 C (λ_ d=>VG C C) ?_;exact A0 C (λ_ d=>De C)<|El<|K5 [.sq _] 2 [] (Ar _) (λ_=>Bp (AE C (Ah C))<|⟨C,G⟩)
theorem FZ(w:wO)(b:Nat)(src:lU)(i:Nat)(p:Ps)(sl:Value)(d:AM w b [S src,iV (i:Int),iV p.1,iV p.2,sl] 106)(c:UInt8)(hc:src[i]?=some c)(hi:i<1000000)(hp:Pk i p) :
  Bq prog 74 #[pB b] w λv w'=>v=.int .u8 c.toNat∧AM w' b [S src,iV ((i+1:Nat):Int),iV (adv c p).1,iV (adv c p).2,sl] 106∧KV b w w':=by
 have hbl:=d.lt;obtain⟨hp1,hp2,hp3,hp4⟩:=hp;have D:=KV.refl b w;refine enter func74 C C C<|AT [] 6 [] (Ar _) (λ_=>?_);have F:=d;refine DX mixed (A5 w [b]) [(true,0),(true,1),(true,2),(true,3),(true,4),(true,5),(true,6),(true,7),(true,8),(true,9)] kR kR C C λw1 G hz1=>?_;have U:A5 w [b] w1:=A5.cons F G (A5.nil _ _);refine⟨U,?_⟩;replace d:=d.ext G;replace D:=D.trans G;refine A0 C (λ_ h=>Az C)<|A0 C (λ_ h=>Bv C)<|A0 C (λ_ h=>BF C HK)<|A0 C (λ_ h=>Ai C ZB (F.keep h (.head _)) C)<|A0 C (λ_ h=>Az C)<|A0 C (λ_ h=>Bv C)<|A0 C (λ_ h=>BF C F4)<|A0 C (λ_ h=>Ai C UR (F.keep h (.head _)) C)<|A0 C (λ_ h=>D2 C C JQ oM (by simpa using hc))<|A0 C (λ_ h=>De C) ?_;refine El<|K5 [.sq _] 4 [] (Ar _) (λ_=>Ab C (Bv C)<|AL [.sq _] 3 [0,1] (kB d (Ar _)) (y2<|aI ⟨oM,oM⟩<|λ_=>Ab C (Bv C)<|Ab C (BF C F4)<|A1 C C C UR C d C C λw2 K L=>?_));replace D:=D.chg L oM;have sz1:=L.size;refine AL [.sq _] 5 [] (Ar _) (λ_=>Ab C (Bv C)<|AL [.sq _] 4 [0,3] (kB K (Ar _)) (y2<|aI ⟨oM,oM⟩<|λ_=>Ab C (Bv C)<|AL [.sq _] 2 [] (Ar _) (λ_=>A1 C C C UR C K C C λw3 J O=>?_)));replace D:=D.chg O oM;have sz2:=O.size;refine AL [.sq _] 9 [] (Ar _) (λ_=>sP 30 C (λY=>?_) (λY=>?_));refine AT [.sq _] 4 [] (Ar _) (λ_=>Ab C (Bv C)<|AL [.sq _] 5 [0,2] (kB J (Ar _)) (y2<|aI ⟨oM,oM⟩<|λ_=>Ab C (Bv C)<|Ab C (BF C QX)<|A1 C C C Jl C J C C λw4 Z Q=>?_));replace D:=D.chg Q oM;have sz3:=Q.size;exact AL [.sq _] 9 [] (Ar _) (λ_=>Bp (AE C (Ah C))<|⟨C,by simp only[adv,Y];exact Z,D⟩);exact AT [.sq _] 10 [] (Ar _) (λ_=>Bp (AE C (Ah C))<|⟨C,by simp only[adv,Y];exact J,D⟩)
theorem T6(w:wO)(b:Nat)(src:lU)(i:Nat)(p:Ps)(sl:Value)(J:AM w b [S src,iV (i:Int),iV p.1,iV p.2,sl] 106)(c:UInt8)(K:src[i]?=some c)(hi:i<100000)(hp:Pk i p) :
  BI prog 102 #[pB b] w (λv w'=>∃(c1:UInt8)(i1:Nat)(p1:Ps),Hv p (src.drop i)=.ok (c1,src.drop i1,p1)∧v=.int .u8 c1.toNat∧AM w' b [S src,iV ((i1:Nat):Int),iV p1.1,iV p1.2,sl] 106∧KV b w w'∧i<i1∧i1≤src.length∧Pk i1 p1) (λcc w'=>∃e,Hv p (src.drop i)=.error e∧cc=Sn 103 e∧KV b w w'):=by
 have hbl:=J.lt;have F:=KV.refl b w;refine IV func102 C C C<|AT [] 8 [] (Ar _) (λ_=>Ab C (Bv C)<|AL [.sq _] 2 [0,2] (kB J (Ar _)) (y2<|λ_=>CI C U4 λb1 w1 hb1 hE1 hs1 hz1=>?_));replace J:=J.ext hE1;replace F:=F.trans hE1;refine A1 C C C Jl C hb1 C C λw2 d hC1=>?_;replace J:=J.chg hC1 oM;replace F:=F.chg hC1 oM;have sz1:=hC1.size;refine AL [.sq _] 6 [] (Ar _) (λ_=>A4 C (Ax N5 C C) (FZ _ b src i p sl J c K oM hp) ?_);rintro _ w3 ⟨rfl,D,hE2⟩;replace d:=d.exb hE2 oM;replace F:=F.trans2 hE2;have sz2:=hE2.size;have L:=Pk.adv (c:=c) hp;refine AL [.sq _,.sq _] 16 [] (Ar _) (λ_=>sP 14 C (λh1=>?_) (λh1=>?_));exact AT [.sq _,.bk _,.sq _] 13 [] (Ar _) (λ_=>Bp (AE C (Ah C))<|⟨c,i+1,adv c p,by rw[Bc K];simp[Hv,h1],C,D,F,oM,by have:=Cj K;omega,L⟩);refine AT [.sq _,.bk _,.sq _] 6 [] (Ar _) (λ_=>sP 14 C (λh2=>?_) (λh2=>?_));exact AT [.bk _,.sq _] 10 [] (Ar _) (λ_=>Bp (AE C (Ah C))<|⟨c,i+1,adv c p,by rw[Bc K];simp[Hv,h1,h2],C,D,F,oM,by have:=Cj K;omega,L⟩);refine AT [.bk _,.sq _] 7 [] (Ar _) (λ_=>sP 18 C (λh3=>?_) (λh3=>?_));exact AT [.bk _,.sq _] 9 [] (Ar _) (λ_=>Bp (AE C (Ah C))<|⟨10,i+1,adv c p,by rw[Bc K];simp[Hv,h1,h2,h3],C,D,F,oM,by have:=Cj K;omega,L⟩);refine AT [.bk _,.sq _] 7 [] (Ar _) (λ_=>sP 20 C (λh4=>?_) (λh4=>?_));refine AT [.bk _,.sq _] 2 [] (Ar _) (λ_=>?_);have hr1:=D;have hr2:=d;refine DX mixed (A5 w3 [b,b1]) [(true,0),(true,1),(true,2),(true,3),(true,4),(true,5),(true,6),(true,7),(true,8),(true,9),(true,10)] kR kR C C λw4 O hz2=>?_;have G:A5 w3 [b,b1] w4:=A5.cons hr1 O (A5.cons hr2 O (A5.nil _ _));refine⟨G,?_⟩;replace d:=d.ext O;replace D:=D.ext O;replace F:=F.trans O;refine A0 C (λ_ h=>Az C)<|A0 C (λ_ h=>Bv C)<|A0 C (λ_ h=>BF C F4)<|A0 C (λ_ h=>Ai C UR (hr1.keep h (.head _)) C)<|A0 C (λ_ h=>Oj C C ⟨oM,oM⟩)<|A0 C (λ_ h=>Az C)<|A0 C (λ_ h=>Bv C)<|A0 C (λ_ h=>BF C HK)<|A0 C (λ_ h=>Ai C ZB (hr1.keep h (.head _)) C)<|A0 C (λ_ h=>Ni C JQ) ?_;refine A0 C (λ_ h=>aU C C)<|El<|Dw<|sP 32 C (λh5=>?_) (λh5=>?_);refine AT [.bk _,.sq _] 2 [] (Ar _) (λ_=>?_);have hlt2:i+3≤src.length:=by have:=h5;simp at this;omega
 obtain⟨a1,Q⟩:=K2 (show i+1<src.length by omega);obtain⟨a2,U⟩:=K2 (show i+2<src.length by omega);have Y:=D;have hr4:=d;refine DX mixed (A5 w4 [b,b1]) [(true,0),(true,1),(true,2),(true,3),(true,4),(true,5),(true,6),(true,7),(true,8),(true,10),(true,11),(true,12),(true,13),(true,14),(true,15),(true,16),(true,17),(true,18),(true,19),(false,9),(false,20),(true,21),(true,22)] kR kR C C λw5 Z hz3=>?_;have G:A5 w4 [b,b1] w5:=A5.cons Y Z (A5.cons hr4 Z (A5.nil _ _));refine⟨G,?_⟩;replace d:=d.ext Z;replace D:=D.ext Z;replace F:=F.trans Z;refine A0 C (λ_ h=>Az C)<|A0 C (λ_ h=>Bv C)<|A0 C (λ_ h=>BF C HK)<|A0 C (λ_ h=>Ai C ZB (Y.keep h (.head _)) C)<|A0 C (λ_ h=>Az C)<|A0 C (λ_ h=>Bv C)<|A0 C (λ_ h=>BF C F4)<|A0 C (λ_ h=>Ai C UR (Y.keep h (.head _)) C)<|A0 C (λ_ h=>D2 C C JQ oM (show src[(((i+1:Nat):Int)).toNat]?=some a1 by rw[Int.toNat_natCast];exact Q))<|A0 C (λ_ h=>Az C) ?_;refine A0 C (λ_ h=>Bv C)<|A0 C (λ_ h=>BF C HK)<|A0 C (λ_ h=>Ai C ZB (Y.keep h (.head _)) C)<|A0 C (λ_ h=>Az C)<|A0 C (λ_ h=>Bv C)<|A0 C (λ_ h=>BF C F4)<|A0 C (λ_ h=>Ai C UR (Y.keep h (.head _)) C)<|A0 C (λ_ h=>Oj C C ⟨oM,oM⟩)<|A0 C (λ_ h=>D2 C C JQ oM (show src[(((i+1:Nat):Int)+1).toNat]?=some a2 by rw[show (((i+1:Nat):Int)+1).toNat=i+2 by omega];exact U))<|EK ?_;refine A4 C (Ax Xu C C) (Fp _ F5 _) ?_;rintro _ w6 ⟨rfl,hE5⟩;replace d:=d.ext hE5;replace D:=D.ext hE5;replace F:=F.trans hE5;replace G:=G.ext hE5;have sz3:=hE5.size;refine Ae (Hn G<|EK<|A4 C (Ax Xu C C) (Fp _ F5 _) ?_);rintro _ w7 ⟨rfl,hE6⟩;replace d:=d.ext hE6;replace D:=D.ext hE6;replace F:=F.trans hE6;replace G:=G.ext hE6;have sz4:=hE6.size;refine Ae (Hn G<|A0 C (λ_ h=>De C)<|A0 C (λ_ h=>De C)<|El<|K5 [.sq _,.bk _,.sq _] 6 [] (Ar _) (λ_=>sL 56 C (λh6=>?_) (λh6=>?_)));refine AL [.sq _,.bk _,.sq _] 5 [] (Ar _) (λ_=>sP 59 C (λh7=>?_) (λh7=>?_));refine AT [.bk _,.sq _] 4 [] (Ar _) (λ_=>A4 C (Ax N5 C C) (FZ _ b src (i+1) (adv c p) sl D a1 Q oM L) ?_);rintro _ w8 ⟨rfl,hb4,hE7⟩;replace d:=d.exb hE7 oM;replace F:=F.trans2 hE7;have sz5:=hE7.size;have hp2:=Pk.adv (c:=a1) L;refine AL [.sq _,.bk _,.sq _] 5 [] (Ar _) (λ_=>A4 C (Ax N5 C C) (FZ _ b src ((i+1)+1) (adv a1 (adv c p)) sl hb4 a2 U oM hp2) ?_);rintro _ w9 ⟨rfl,hb5,hE8⟩;replace d:=d.exb hE8 oM;replace F:=F.trans2 hE8;have sz6:=hE8.size;have hp3:=Pk.adv (c:=a2) hp2;refine AL [.sq _,.bk _,.sq _] 3 [] (Ar _) (λ_=>?_);have hx1:0≤Lib.indexByte F5 a1:=by have:=h6;simpa using this
 have hx2:0≤Lib.indexByte F5 a2:=by have:=h7;simpa using this
 have hy1:=dS a1;have hy2:=dS a2;exact AT [.sq _,.bk _,.sq _] 2 [] (Ar _) (λ_=>Ab C (nN C C ⟨hx1,hy1⟩)<|Ab C (Az C)<|Ab C (nW C C ⟨hx1,hy1⟩ ⟨hx2,hy2⟩)<|Ab C (BJ C pZ (Xq ⟨oM,oM⟩))<|AL [.sq _,.bk _,.sq _] 6 [] (Ar _) (λ_=>Bp (AE C (Ah C))<|⟨UInt8.ofNat ((Lib.indexByte F5 a1).toNat*16+(Lib.indexByte F5 a2).toNat),i+3,adv a2 (adv a1 (adv c p)),by rw[Bc K,iR Q U];simp[Hv,h1,h2,h3,h4,hx1,hx2],by rw[hexv ⟨hx1,hy1⟩ ⟨hx2,hy2⟩],hb5,F,oM,oM,hp3⟩));exact AT [.bk _,.sq _] 7 [0,0] (kB d (Ar _)) (y2<|λ_=>Ab C (BR C Gs)<|Cl (BE C) (aI C<|⟨p,by rw[Bc K,iR Q U];exact Uf h1 h2 h3 h4 (.inr (by have:=h7;simpa using this)),C,F⟩));exact AL [.sq _,.bk _,.sq _] 12 [0,0] (kB d (Ar _)) (y2<|λ_=>Ab C (BR C Gs)<|Cl (BE C) (aI C<|⟨p,by rw[Bc K,iR Q U];exact Uf h1 h2 h3 h4 (.inl (by have:=h6;simpa using this)),C,F⟩));exact AT [.bk _,.sq _] 7 [0,0] (kB d (Ar _)) (y2<|λ_=>Ab C (BR C Gs)<|Cl (BE C) (aI C<|⟨p,by rw[Bc K];exact gE h1 h2 h3 (by have:=h5;simp at this;simp;omega),C,F⟩));exact AT [.bk _,.sq _] 7 [0,0] (kB d (Ar _)) (y2<|λ_=>Ab C (BR C Gs)<|Cl (BE C) (aI C<|⟨p,by rw[Bc K];simp[Hv,h1,h2,h3,h4],C,F⟩))
theorem So(w:wO)(b:Nat)(src:lU)(i:Nat)(p:Ps)(sl:Value)(hsc:AM w b [S src,iV (i:Int),iV p.1,iV p.2,sl] 106)(start:Ps)(hile:i≤src.length)(hi:src.length<100000)(hp:Pk i p) :
  BI prog 76 #[pB b,.agg #[iV start.1,iV start.2]] w (λv w'=>∃(tx:lU)(i1:Nat)(p1:Ps),F3 start (src.length+1) p [] (src.drop i)=.ok (tx,src.drop i1,p1)∧v=.agg #[iV 4,iV start.1,iV start.2,iV 0,S tx]∧AM w' b [S src,iV ((i1:Nat):Int),iV p1.1,iV p1.2,sl] 106∧KV b w w'∧i<i1∧i1≤src.length∧Pk i1 p1) (λcc w'=>∃e,F3 start (src.length+1) p [] (src.drop i)=.error e∧cc=Sn 103 e∧KV b w w'):=by
 have hbl:=hsc.lt;have J:=KV.refl b w;refine IV func76 C C C<|AT [] 2 [] (Ar _) (λ_=>Ei C C C λb1 w1 hb1 hE1 hs1 hz1=>?_);replace hsc:=hsc.ext hE1;replace J:=J.trans hE1;refine CI C D7 λb2 w2 hb2 hE2 hs2 hz2=>?_;replace hsc:=hsc.ext hE2;replace hb1:=hb1.ext hE2;replace J:=J.trans hE2;refine AL [.sq _] 9 [] (Ar _) (λ_=>?_);refine DU (λk σ ds w'=>∃(j:Nat)(q:Ps)(acc:lU)(ra:oA)(rc F:Nat),k=src.length-j∧ds=[]∧σ=(E4 0 (pB b) 3 (pB b1) 4 (pB b2) 5 (.slice ra acc.length rc))∧i≤j∧j≤src.length∧Pk j q∧src.length+1≤F+j∧F3 start (src.length+1) p [] (src.drop i)=F3 start F q acc (src.drop j)∧acc.length≤j∧AM w' b [S src,iV ((j:Nat):Int),iV q.1,iV q.2,sl] 106∧AM w' b1 [iV start.1,iV start.2] 27 ∧ AM w' b2 [iV 0,iV 0,iV 0,iV 0,.string ⟨#[]⟩] 108∧BX w' 5 1 ra rc acc.length (bC acc)∧(∀x,rb ra=some x→w.heap.size≤x∧x≠b1∧x≠b2)∧KV b w w') (src.length-i) (E4 0 (pB b) 3 (pB b1) 4 (pB b2) 5 (.slice none 0 0)) lE ⟨i,p,[],none,0,src.length+1,C,C,C,Nat.le_refl _,hile,hp,oM,C,by simp,hsc,hb1,hb2,Gf _ _ _,(λx hx=>by cases hx),J⟩ ?_;rintro _ _ _ wl ⟨j,q,acc,ra,rc,F,rfl,rfl,rfl,hij,hjl,hq,hF,hm,hal,L,h,D,d,G,J⟩;have szl:=J.size;have lt3:=h.lt;have lt4:=D.lt;have lts:=L.lt;have K:∀x,rb ra=some x→x<wl.heap.size:=λx hx=>d.lt hx;refine AT [] 4 [] (Ar _) (λ_=>A4 C (Ax Tm C C) (Iz _ b src j q sl L) ?_);rintro _ w3 ⟨rfl,hE3⟩;replace L:=L.ext hE3;replace h:=h.ext hE3;replace D:=D.ext hE3;replace d:=d.ext hE3;replace J:=J.trans hE3;have sz1:=hE3.size;refine AL [.sq _,.sq _] 2 [] (Ar _) (λ_=>sP 9 C (λh1=>?_) (λh1=>?_));refine AT [.sq _] 5 [] (Ar _) (λ_=>?_);have hjlt:j<src.length:=by have:=h1;simpa using this
 obtain⟨c,U⟩:=K2 hjlt;obtain⟨F,rfl⟩:∃F1,F=F1+1:=⟨F-1,oM⟩;refine AT [.sq _,.bk _] 2 [] (Ar _) (λ_=>Ab C (Bv C)<|AL [.sq _,.bk _] 2 [0,2] (kB L (Ar _)) (y2<|λ_=>CI C U4 λb3 w4 hb3 hE4 hs3 hz3=>?_));replace L:=L.ext hE4;replace h:=h.ext hE4;replace D:=D.ext hE4;replace d:=d.ext hE4;replace J:=J.trans hE4;refine A1 C C C Jl C hb3 C C λw5 O hC1=>?_;replace L:=L.chg hC1 oM;replace h:=h.chg hC1 oM;replace D:=D.chg hC1 oM;replace d:=BX.chg d hC1 (λe=>by have:=G _ e;have:=K _ e;omega);replace J:=J.chg hC1 oM;have sz2:=hC1.size;refine AL [.sq _,.bk _] 5 [] (Ar _) (λ_=>A4 C (Ax N5 C C) (FZ _ b src j q sl L c U oM hq) ?_);rintro _ w6 ⟨rfl,Q,hE5⟩;replace h:=h.exb hE5 oM;replace D:=D.exb hE5 oM;replace d:=BX.exb d hE5 (λe=>by have:=G _ e;omega);replace O:=O.exb hE5 oM;replace J:=J.trans2 hE5;have sz3:=hE5.size;have hp1:=Pk.adv (c:=c) hq;refine AL [.sq _,.bk _] 11 [] (Ar _) (λ_=>sP 16 C (λh2=>?_) (λh2=>?_));refine AT [.bk _,.bk _] 9 [] (Ar _) (λ_=>sP 21 C (λh3=>?_) (λh3=>?_));exact AT [.sq _,.bk _,.bk _] 4 [0,0] (kB h (Ar _)) (y2<|λ_=>Ab C (BR C Gs)<|Cl (BE C) (aI C<|⟨start,hm.trans (aJ U h2 h3),C,J⟩));refine AT [.sq _,.bk _,.bk _] 7 [0,0] (kB h (Ar _)) (y2<|λ_=>Ab C (Mj C Xx d)<|Ab C (DC C Ui D7 C)<|A1 C C C DY C D C C λw7 hb6 hC2=>?_);replace h:=h.chg hC2 oM;replace d:=BX.chg d hC2 (λe=>by have:=G _ e;have:=K _ e;omega);replace O:=O.chg hC2 oM;replace Q:=Q.chg hC2 oM;replace J:=J.chg hC2 oM;have sz4:=hC2.size;exact AL [.sq _,.bk _,.bk _] 5 [] (Ar _) (λ_=>Yw<|K5 [.bk _,.sq _] 2 [] (Ar _) (λ_=>Bp (AE C (Ac C DY hb6 C))<|⟨acc,j+1,adv c q,hm.trans (iK U h2 h3),C,Q,J,oM,oM,hp1⟩));refine AT [.bk _,.bk _] 8 [] (Ar _) (λ_=>sP 29 C (λh4=>?_) (λh4=>?_));exact AT [.bk _,.bk _] 4 [0,0] (kB O (Ar _)) (y2<|λ_=>Ab C (BR C Gs)<|Cl (BE C) (aI C<|⟨q,hm.trans (cT U h2 h4),C,J⟩));refine AT [.bk _,.bk _] 8 [] (Ar _) (λ_=>sP 35 C (λh5=>?_) (λh5=>?_));refine AT [.bk _,.bk _] 4 [] (Ar _) (λ_=>Ch C C nI zr5 C C C C C λb4 w8 hb7 hE6 hs4 hz4=>?_);replace h:=h.ext hE6;replace D:=D.ext hE6;replace d:=d.ext hE6;replace O:=O.ext hE6;replace Q:=Q.ext hE6;replace J:=J.trans hE6;refine Bb C uE C C C C d hb7 C C oM oM λY rc2 w9 hr2 hG=>?_;have Z:∀x,rb Y=some x→w.heap.size≤x∧x≠b1∧x≠b2:=BU hG G oM;replace h:=h.grow hG (λe=>by have:=G _ e.symm;have:=K _ e.symm;omega);replace D:=D.grow hG (λe=>by have:=G _ e.symm;have:=K _ e.symm;omega);replace Q:=Q.grow hG (λe=>by have:=G _ e.symm;have:=K _ e.symm;omega);replace J:=J.grow hG (λx hx=>(G x hx).1);have sz5:=hG.size;refine AL [.bk _,.bk _] 4 [] (Ar _) (λ_=>?_);have hl2:acc.length+1=(acc++[c]).length:=by simp
 refine HF (src.length-(j+1)) (E4 0 (pB b) 3 (pB b1) 4 (pB b2) 5 (.slice Y (acc++[c]).length rc2)) (by have:=Cj U;omega) (lu4 C C C (hl2▸rfl)) ⟨j+1,adv c q,acc++[c],Y,rc2,F,C,C,C,oM,by have:=Cj U;omega,hp1,oM,hm.trans (YS U h2 h4 h5),by rw[← hl2];omega,Q,h,D,by rw[← hl2,bC_app];exact hr2,Z,J⟩;refine AT [.bk _,.bk _] 4 [] (Ar _) (λ_=>A4 C (Ax Tm C C) (Iz _ b src (j+1) (adv c q) sl Q) ?_);rintro _ w10 ⟨rfl,hE7⟩;replace h:=h.ext hE7;replace D:=D.ext hE7;replace d:=d.ext hE7;replace O:=O.ext hE7;replace Q:=Q.ext hE7;replace J:=J.trans hE7;have sz6:=hE7.size;refine AL [.sq _,.bk _,.bk _] 3 [] (Ar _) (λ_=>sP 42 C (λh6=>?_) (λh6=>?_));refine Gh C C ?_;obtain⟨c2,hc2⟩:=K2 (show j+1<src.length by have:=dT h6;omega);refine AT [.bk _,.bk _] 3 [] (Ar _) (λ_=>Cg C (Ax vH C C) (T6 _ b src (j+1) (adv c q) sl Q c2 hc2 oM hp1) ?_ (λcc wp hc1=>aI C (let ⟨e,he,hcc,hE⟩:=hc1;⟨e,hm.trans (Zv U h2 h4 h5 (by have:=dT h6;omega) he),hcc,J.trans2 hE⟩)));rintro _ w11 ⟨c1,i1,p1,hesc,rfl,hb8,hE8,hi1,hi2,hp1⟩;replace h:=h.exb hE8 oM;replace D:=D.exb hE8 oM;replace d:=BX.exb d hE8 (λe=>by have:=G _ e;omega);replace O:=O.exb hE8 oM;replace J:=J.trans2 hE8;have sz7:=hE8.size;refine Ch C C nI zr5 C C C C C λb5 w12 hb9 hE9 hs5 hz5=>?_;replace h:=h.ext hE9;replace D:=D.ext hE9;replace d:=d.ext hE9;replace O:=O.ext hE9;replace hb8:=hb8.ext hE9;replace J:=J.trans hE9;refine Bb C uE C C C C d hb9 C C oM oM λY rc2 w13 hr2 hG=>?_;have Z:∀x,rb Y=some x→w.heap.size≤x∧x≠b1∧x≠b2:=BU hG G oM;replace h:=h.grow hG (λe=>by have:=G _ e.symm;have:=K _ e.symm;omega);replace D:=D.grow hG (λe=>by have:=G _ e.symm;have:=K _ e.symm;omega);replace hb8:=hb8.grow hG (λe=>by have:=G _ e.symm;have:=K _ e.symm;omega);replace J:=J.grow hG (λx hx=>(G x hx).1);have sz8:=hG.size;refine AL [.bk _,.bk _] 4 [] (Ar _) (λ_=>?_);have hl2:acc.length+1=(acc++[c1]).length:=by simp
 refine HF (src.length-(i1)) (E4 0 (pB b) 3 (pB b1) 4 (pB b2) 5 (.slice Y (acc++[c1]).length rc2)) (by have:=Cj U;omega) (lu4 C C C (hl2▸rfl)) ⟨i1,p1,acc++[c1],Y,rc2,F,C,C,C,oM,by have:=Cj U;omega,hp1,oM,hm.trans (Y6 U h2 h4 h5 (by have:=dT h6;omega) hesc),by rw[← hl2];omega,hb8,h,D,by rw[← hl2,bC_app];exact hr2,Z,J⟩;refine AT [.bk _,.bk _] 4 [] (Ar _) (λ_=>HF (src.length-(j+1)) (E4 0 (pB b) 3 (pB b1) 4 (pB b2) 5 (.slice ra acc.length rc)) (by have:=Cj U;omega) lE ⟨j+1,adv c q,acc,ra,rc,F,C,C,C,oM,by have:=Cj U;omega,hp1,oM,hm.trans ?_,oM,Q,h,D,d,G,J⟩);have hno:¬j+1<src.length:=by have:=h6;simp at this;omega
 rw[YJ U h2 h4 h5 hno,Uj (by have:=Cj U;omega) hno];exact AT [.sq _] 3 [] (Ar _) (λ_=>OJ<|K5 [.bk _,.sq _] 5 [0,0] (kB h (Ar _)) (y2<|λ_=>Ab C (BR C Gs)<|Cl (BE C) (aI C<|⟨start,hm.trans (Uj oM (by have:=h1;simp at this;omega)),C,J⟩)))
theorem CJ(w:wO)(s:lU)(hlen:s.length≤100000)(l:lU)(F:l.length<4294967281)(d:l.all (λc=>decide (c.toNat<128))=true) :
  Bq prog 107 #[S s,S l] w λv w'=>v=.bool (HV s l)∧AU w w':=by
 have D:=AU.refl w;refine enter func107 C C C<|AT [] 9 [] (Ar _) (λ_=>A4 C (Ax cJ C C) (QA _ s l oM F d) ?_);rintro _ J ⟨rfl,h⟩;replace D:=D.trans h;have G:=h.size;exact AL [.sq _] 5 [] (Ar _) (λ_=>Bp (AE C (Ah C))<|⟨C,D⟩)
theorem JO(w:wO)(s:lU)(hlen:s.length≤100000) :
  Bq prog 126 #[S s] w λv w'=>v=.bool (EF s)∧AU w w':=by
 have h:=AU.refl w;refine enter func126 C C C<|AT [] 10 [] (Ar _) (λ_=>sL 5 C (λD=>?_) (λD=>?_));refine AL [.sq _] 1 [] (Ar _) (λ_=>B7 C C C<|A4 C (Ax cJ C C) (QA _ s Gy oM dC dC) ?_);rintro _ G ⟨rfl,d⟩;replace h:=h.trans d;have F:=d.size;exact AL [.sq _] 6 [] (Ar _) (λ_=>Bp (AE C (Ah C))<|⟨by rw[EF,D];rfl,h⟩);exact AL [.sq _] 8 [] (Ar _) (λ_=>Bp (AE C (Ah C))<|⟨by rw[EF,D];rfl,h⟩)
theorem Ke(n:Nat)(c:UInt8)(l:lU):CQ n (c::l)=CQ (n*10+(c.toNat-48)) l:=by conv=>lhs;unfold CQ
theorem Nl:∀(l:lU)(n:Nat),n≤CQ n l
 | [],n=>Nat.le_refl _
 |c::l,n=>by
  have:=Nl l (n*10+(c.toNat-48));rw[Ke];omega
theorem mY:sS prog 9 44=some 5:=kR
theorem JR(w:wO)(s:lU)(hlen:s.length≤100000)(hne:(s==[])=false)(hd:∀c∈s,48≤c.toNat∧c.toNat≤57) :
  Bq prog 165 #[S s,iV 10,iV 63] w λv w'=>((CQ 0 s≤9223372036854775807∧v=.tuple #[.int .u64 (CQ 0 s:Int),.nilIface])∨(9223372036854775807<CQ 0 s∧v=.tuple #[.int .u64 9223372036854775807,.iface 258 (iV 1)]))∧AU w w':=by
 have d:=AU.refl w;refine enter func165 C C C<|AT [] 13 [] (Ar _) (λ_=>sP 19 C (λQ=>?_) (λQ=>?_))
 ·
  exfalso;rw[hne] at Q;contradiction
 refine AT [.sq _] 81 [] (Ar _) (λ_=>Ab C (BJ (m:=63) C L3 dC)<|Ab C (Ka (9223372036854775808) C C dC dC)<|Ab C (Gi (9223372036854775807) C C dC)<|AL [.sq _] 17 [] (Ar _) (λ_=>nH C C mY λU bc w1 h K=>?_));replace d:=d.trans K;have sz1:=K.size;refine AL [.sq _,.sq _] 5 [] (Ar _) (λ_=>?_);refine DU (λk σ ds w'=>∃(i n:Nat),k=s.length-i∧ds=[]∧σ=(yC 0 (S s) 1 (iV 10) 8 (.bool (10==0)) 9 (S s) 10 (.int .u64 1844674407370955162) 11 (.int .u64 9223372036854775807) 12 (.bool false) 13 (.int .u64 (n:Int)) 99 (.slice (some ⟨U,0,none⟩) s.length bc) 100 (iV (s.length:Int)) 101 (iV (i:Int)))∧i≤s.length∧n≤9223372036854775807∧CQ 0 s=CQ n (s.drop i)∧xW w' U (bC s)∧AU w w') s.length (yC 0 (S s) 1 (iV 10) 8 (.bool (10==0)) 9 (S s) 10 (.int .u64 1844674407370955162) 11 (.int .u64 9223372036854775807) 12 (.bool false) 13 (.int .u64 ((0:Nat):Int)) 99 (.slice (some ⟨U,0,none⟩) s.length bc) 100 (iV (s.length:Int)) 101 (iV ((0:Nat):Int))) lE ⟨0,0,C,C,C,Nat.zero_le _,Nat.zero_le _,C,h,d⟩ ?_;rintro _ _ _ wl ⟨i,n,rfl,rfl,rfl,hi,hn,hm,h,d⟩;refine AT [] 6 [] (Ar _) (λ_=>sP 102 C (λG=>?_) (λG=>?_));refine AT [.sq _] 7 [] (Ar _) (λ_=>?_);have L:i<s.length:=by have:=dT G;omega
 obtain⟨c,J⟩:=K2 L;obtain⟨hc1,hc2⟩:=hd c (List.mem_of_getElem? J);have D:(bC s)[0+i*1]?=some (.int .u8 c.toNat):=by simp[bC,J]
 refine Ab C (KL (i:=i) C C nI L)<|Ab C (cZ C ti5 h D)<|AL [.sq _,.bk _,.sq _] 15 [] (Ar _) (λ_=>sL 109 C (λY=>?_) (λY=>?_))
 ·
  exfalso;have:=(beq_iff_eq).1 Y;omega
 refine AL [.sq _,.bk _,.sq _,.bk _,.sq _] 11 [] (Ar _) (λ_=>sL 115 C (λh4=>?_) (λh4=>?_));refine AL [.sq _,.bk _,.sq _,.bk _,.sq _] 6 [] (Ar _) (λ_=>sP 112 C (λh5=>?_) (λh5=>?_));refine AT [.bk _,.sq _,.bk _,.sq _] 3 [] (Ar _) (λ_=>Ab C (Gi ((c.toNat:Int)-48) C C (Xq ⟨oM,oM⟩))<|AL [.bk _,.sq _,.bk _,.sq _] 9 [] (Ar _) (λ_=>Ab C (BJ (m:=10) C pZ dC)<|AL [.sq _,.sq _,.bk _,.sq _] 3 [] (Ar _) (λ_=>sP 137 C (λZ=>?_) (λZ=>?_))))
 ·
  exfalso;have:=dT Z;omega
 refine AT [.sq _,.bk _,.sq _] 11 [] (Ar _) (λ_=>sP 141 C (λF=>?_) (λF=>?_));exact AT [.sq _,.bk _,.sq _] 4 [] (Ar _) (λ_=>Ab C (BR C LH)<|AL [.sq _,.sq _,.bk _,.sq _] 8 [] (Ar _) (λ_=>Yw<|K5 [.bk _,.sq _] 2 [] (Ar _) (λ_=>Bp (Cn C (Ah C) (Ah C))<|⟨.inr ⟨by rw[hm,Bc J,Ke];have:=Nl (s.drop (i+1)) (n*10+(c.toNat-48));have q4:=dT h5;have q5:=dF Z;have q6:=dT F;omega,C⟩,d⟩)));refine AT [.sq _,.bk _,.sq _] 7 [] (Ar _) (λ_=>Ab C (BJ (m:=10) C tE dC)<|Ab C (Rp ((n:Int)*10) C C (GL ⟨oM,by have:=dF F;omega⟩))<|AL [.sq _,.bk _,.sq _] 7 [] (Ar _) (λ_=>Ab C (BJ (m:=(c.toNat:Int)-48) C VZ (GL ⟨oM,oM⟩))<|Ab C (Nn (((n:Int)*10+((c.toNat:Int)-48)) % 18446744073709551616) C C (IntKind.wrap_u64 _))<|AL [.sq _,.bk _,.sq _] 10 [] (Ar _) (λ_=>sL 155 C (λO=>?_) (λO=>?_))));exact AL [.sq _,.sq _,.bk _,.sq _] 10 [] (Ar _) (λ_=>Ab C (BR C LH)<|AL [.sq _,.sq _,.bk _,.sq _] 8 [] (Ar _) (λ_=>Yw<|K5 [.bk _,.sq _] 2 [] (Ar _) (λ_=>Bp (Cn C (Ah C) (Ah C))<|⟨.inr ⟨by rw[hm,Bc J,Ke];have:=Nl (s.drop (i+1)) (n*10+(c.toNat-48));have q5:=dF Z;have q6:=dF F;have q7:=dT O;omega,C⟩,d⟩)));refine AL [.sq _,.sq _,.bk _,.sq _] 6 [] (Ar _) (λ_=>sP 159 C (λh9=>?_) (λh9=>?_));exact AT [.sq _,.bk _,.sq _] 4 [] (Ar _) (λ_=>Ab C (BR C LH)<|AL [.sq _,.sq _,.bk _,.sq _] 8 [] (Ar _) (λ_=>Yw<|K5 [.bk _,.sq _] 2 [] (Ar _) (λ_=>Bp (Cn C (Ah C) (Ah C))<|⟨.inr ⟨by rw[hm,Bc J,Ke];have:=Nl (s.drop (i+1)) (n*10+(c.toNat-48));have q6:=dF F;have q7:=dF O;have q8:=dT h9;omega,C⟩,d⟩)));refine AT [.sq _,.bk _,.sq _] 13 [] (Ar _) (aI ⟨oM,oM⟩<|λ_=>?_);have hN:(((n:Int)*10+((c.toNat:Int)-48)) % 18446744073709551616)=((n*10+(c.toNat-48):Nat):Int):=by have Q:=dF F;have G:=dF O;have Y:=dF h9;omega
 refine HF (s.length-(i+1)) (yC 0 (S s) 1 (iV 10) 8 (.bool (10==0)) 9 (S s) 10 (.int .u64 1844674407370955162) 11 (.int .u64 9223372036854775807) 12 (.bool false) 13 (.int .u64 ((n*10+(c.toNat-48):Nat):Int)) 99 (.slice (some ⟨U,0,none⟩) s.length bc) 100 (iV (s.length:Int)) 101 (iV ((i+1:Nat):Int))) oM (lu11 C C C C C C C (by rw[← hN];rfl) C C C) ⟨i+1,n*10+(c.toNat-48),C,C,C,oM,by have Q:=dF F;have G:=dF O;have Y:=dF h9;omega,by rw[hm,Bc J];rfl,h,d⟩
 ·
  exfalso;have:=dF h5;omega
 ·
  exfalso;have:=dF h4;omega
 exact AT [.sq _] 3 [] (Ar _) (λ_=>OJ<|K5 [.bk _,.sq _] 24 [] (Ar _) (λ_=>Bp (Cn C (Ah C) (Ah C))<|⟨.inl ⟨by rw[hm,J6 (by have:=dF G;omega)];exact hn,by rw[hm,J6 (by have:=dF G;omega)];rfl⟩,d⟩))
end Go.Proofs.YtelmolopaolbcaaGreatDoor
