/- What it rests on, part 3. -/
import Derived.Test.YtnojaendcldjpaaGreatDoorGt2
import Derived.RangeFuncNested
import Derived.RangeFuncCalls
import Derived.RangeFuncLeaves
set_option linter.unusedVariables false
set_option linter.unusedSimpArgs false
namespace Go.Proofs.YtnojaendcldjpaaGreatDoor
open Go.SW Go.SP Go.RowKit Go.Proofs.Tryz
def Dm(w:wO)(f:Fq):Prop:=∀w' f',HF w f w' f'→Gl w'
theorem Dm.mono:EI (λw f=>Dm w f):=λ_ _ _ _ h D w' f' d=>h w' f' (D.trans d)
variable {f:Fq}{w:wO}
theorem Dm.gl(h:Dm w f):Gl w:=h w f (HF.refl _ _)
theorem GL(h:Nat)(he:Bi prog h)(m:Aq→Fo→R N)(D:Aq→Fo→Prop)(hm:∀ (w:wO) (f:Fq) (_:Vl w f) (_:Dm w f) (t:Aq) (k:Fo) (a:oA) (c:Nat),D t k→Bq w f k a c→BV prog h #[fV t a k.len c] w (H7 (m t k) w f) (HX 74 (m t k) w f))(w:wO)(f:Fq)(hv:Vl w f)(hJ:Dm w f)(l:Fo)(K:oA)(lc:Nat)(hD:l.all D)(hlen:l.len≤100000)(hL:Bq w f l K lc) :
  BV prog 24 #[.slice K l.len lc,.func (.func h) #[] #[]] w (ZN (α:=Nd×lV) 101 6 (λx=>x.1.len) (λx=>x.2) (λx=>AL m l=.ok x.1) (λx=>[λw f=>BH w f x.1 x.2]) w f) (RZ 74 (λe=>AL m l=.error e) w f):=by
 refine TV (X:=X0 w f) (H:=[]) (R:=[]) (B:=[]) (Fs:=[λw f=>Bq w f l K lc,λw f=>Dm w f]) (f:=f) func24 C C C (Be hv ⟨hL,hJ,tQ⟩ ⟨Bq.mono,Dm.mono,tQ⟩)<|Aa 19 (λ_=>LY 101 6 ?_);refine DK (α:=Nat×Fo×Nd×lV×oA×Nat) (λx=>x.2.1.len) (λx=>x.1+x.2.1.len=l.len∧x.2.2.1.len=x.1∧(AL m l=match AL m x.2.1 with|.error e=>.error e|.ok b=>.ok (x.2.2.1.app b))∧x.2.1.all D) (λx=>(E5 1 (.func (.func h) #[] #[]) 5 (.slice x.2.2.2.2.1 x.1 x.2.2.2.2.2) 8 (.slice K l.len lc) 9 (iV (l.len:Int)) 10 (iV (x.1:Int)))) (λx=>X0 w f) (λx=>[]) (λx=>[⟨101,6,x.2.2.2.2.1,x.2.2.2.2.2,x.1,x.2.2.2.1⟩]) (λx=>[]) (λx=>[λw f=>Bt w f K x.1 x.2.1,λw f=>BH w f x.2.2.1 x.2.2.2.1,λw f=>Dm w f]) (0,l,.nil,[],none,0) ⟨Nat.zero_add _,C,Tk,hD⟩ lE (λw f d=>d.more (B':=[]) (F':=[λw f=>Bt w f K 0 l,λw f=>BH w f .nil []]) nE (AR.mem ⟨Bq.at d.f0,C,tQ⟩) (Au.mem ⟨Bt.mono,BH.mono,tQ⟩) |>.less sR sR nE (mR [0,1,3])) ?_;rintro⟨i,r,L,xs,ra,rc⟩ ⟨Y,G,F,J⟩;dsimp only at Y G F J ⊢;refine Aa 6 (λ_=>Ap 11 C C (λQ=>?_) (λQ=>?_));refine Aa 6 (λ_=>?_);have hil:i<l.len:=by have:=dT Q;omega
 obtain⟨t,k,r,rfl⟩:=Fo.cases1 r oM;have hi2:i+(r.len+1)=l.len:=Y;refine Hr 0 C ?_;rintro⟨eb,eo,ka,kc⟩ rfl;refine Ae 11 [100,0,0,0] (aI oM<|y2<|λb1=>y<|y<|λ_=>?_);refine JA C C (eC he C C) (λw f d=>hm w f d.vl d.f4 t k ka kc J.1 d.f0) (λ_=>⟨Bc.mono,tQ⟩) (λe w2 f2 he hE=>⟨C,e,f2,C,(by rw[F];exact Xh he),hE⟩) ?_;rintro⟨nd,Z,nc⟩ O;dsimp only at O ⊢;exact Aa 1 (λb2=>λ_=>Dd 0 0 C C Pn C C C C C C C C (λ_ _=>C) oM oM λU W=>Aa 8 (aI ⟨oM,oM⟩<|λ_=>Ce ((i+1,r,L.app nd.one,xs++GQ nd.op nd.ln nd.co nd.tx nd.nm Z nd.kids.len nc,U,W)) (show r.len<r.len+1 from Nat.lt_succ_self _) ⟨show i+1+r.len=_ by omega,show (L.app nd.one).len=i+1 by rw[Nd.app_len,G];rfl,F.trans (V7 O),J.2⟩ lE (λw f d=>⟨_,(d.more (B':=[]) (F':=[λw f=>BH w f (L.app nd.one) (xs++GQ nd.op nd.ln nd.co nd.tx nd.nm Z nd.kids.len nc)]) nE (AR.mem ⟨BH.app (BH.one d.f0) d.f4,tQ⟩) (Au.mem ⟨BH.mono,tQ⟩)).less (sD (sD sZ)) sR nE (mR [3,0,6])⟩)));refine Aa 3 (λ_=>Df<|Aa 3 (λ_=>?_));obtain rfl:r=.nil:=Fo.len0 (by have:=dF Q;omega);subst G;exact Aa 6 (λ_=>A5 (Cb C C) (λw f d=>⟨(L,xs),ra,rc,f,C,(by rw[F];show (Except.ok (L.app .nil):R Nd)=_;rw[Nd.app_nil]),d.exm,d.row _ (.head _),(λb hb=>⟨d.rnw _ (.head _) b hb,(d.own b (List.mem_append.2 (.inr (List.mem_filterMap.2 ⟨_,.head _,hb⟩)))).1⟩),⟨d.f1,tQ⟩⟩))
variable {Q:AV}{af:Array Edge}{σ:Ba}{X:Cx}{Fs:List (wO→Fq→Prop)}{ds:List Deferred}{B:List FB}{fs:List Fr}{H:List HB}{r:List Oper}{d n:Nat}{g:Option (Nat×Bool)}{ty:tI}
theorem AZ{R:List RB}{all:List Oper}{pos:String}{op:Op}{t:Aq}{O:Value}{b:Bool}
  (U:gd all σ g=some true) (hd:Nat.blt d n=true) (he:∀w,SW.Enters prog σ op ty w 41 #[.agg #[iV t.k,iV t.ln,iV t.co,iV t.nm,S t.tx,O],.bool b]) (W:∀w' f',b=false→C9 X.M X.w0 X.f0 w' f'→Q.p (RG 74 (t.ln,t.co)) σ ds w')
  (h:b=true→A1 prog n Q ds X R B Fs (.ops all r) fs (AI σ d (.tuple #[])) H):A1 prog n Q ds X R B Fs (.ops all (⟨some d,op,ty,pos,af,g⟩::r)) fs σ H :=
 JA (α:=Unit) (val:=λ_=>.tuple #[]) (q:=λ_=>b=true) (F':=λ_=>[]) (pe:=λe=>b=false∧e=(t.ln,t.co)) (T:=74) U hd he (λw f L=>(UE w t _ _).mono (λ_ F ⟨D,G,J⟩=>⟨(),f,G,D,C9.of_ext J L.vl,tQ⟩) λ_ F ⟨D,G,J⟩=>⟨_,f,G,⟨D,C⟩,C9.of_ext J L.vl⟩) (λ_=>trivial) (λe F f2 ⟨he,K⟩ Y=>by subst K;exact W F f2 he Y) (λ_ D=>h D)
theorem B8(F:Nat)(he:Bi prog F)(m:Aq→Fo→R N)(D:Aq→Fo→Prop)(hm:∀ (w:wO) (f:Fq) (_:Vl w f) (_:Dm w f) (t:Aq) (k:Fo) (a:oA) (c:Nat),D t k→Bq w f k a c→BV prog F #[fV t a k.len c] w (H7 (m t k) w f) (HX 74 (m t k) w f))(w:wO)(f:Fq)(J:Vl w f)(K:Dm w f)(l:Fo)(G:oA)(lc:Nat)(L:l.all D)(hlen:l.len≤100000)(O:Bq w f l G lc) :
  BV prog 24 #[.slice G l.len lc,.func (.func F) #[] #[]] w (AU (α:=(Nd×lV)×oA×Nat) (λy=>.slice y.2.1 y.1.1.len y.2.2) (λy=>AL m l=.ok y.1.1) (λy=>[λw f=>Bc w f y.1.1 y.2.1 y.2.2]) w f) (RZ 74 (λe=>AL m l=.error e) w f) :=
 (GL F he m D hm w f J K l G lc L hlen O).mono (λ_ _ h=>ZN.fro J h) λ_ _ h=>h
theorem TN(w:wO)(f:Fq)(O:Vl w f)(U:Dm w f)(l:Fo)(J:oA)(lc:Nat)(W:l.all (λt _=>t.ok))(hlen:l.len≤100000)(Y:Bq w f l J lc) :
  AX prog 121 #[.slice J l.len lc] w (AU (α:=Unit) (λ_=>.bool (K8 l)) (λ_=>True) (λ_=>[]) w f):=by
 refine Ed [λw f=>Bq w f l J lc,λw f=>Dm w f] func121 C C C (Be O ⟨Y,U,tQ⟩ ⟨Bq.mono,Dm.mono,tQ⟩)<|Aa 14 (λ_=>?_);refine DK (α:=Nat×Fo) (λx=>x.2.len) (λx=>x.1+x.2.len=l.len∧K8 l=K8 x.2∧x.2.all (λt _=>t.ok)) (λx=>(E3 5 (.slice J l.len lc) 6 (iV (l.len:Int)) 7 (iV (x.1:Int)))) (λx=>X0 w f) (λx=>[]) (λx=>[]) (λx=>[]) (λx=>[λw f=>Bt w f J x.1 x.2,λw f=>Dm w f]) (0,l) ⟨Nat.zero_add _,C,W⟩ lE (λw f h=>h.more (B':=[]) (F':=[λw f=>Bt w f J 0 l]) nE (AR.mem ⟨Bq.at h.f0,tQ⟩) (Au.mem ⟨Bt.mono,tQ⟩) |>.less sR sR nE (mR [0,2])) ?_;rintro⟨i,r⟩ ⟨L,D,F⟩;dsimp only at L D F ⊢;refine Aa 6 (λ_=>Ap 8 C C (λK=>?_) (λK=>?_));refine Aa 6 (λ_=>?_);have Z:i<l.len:=by have:=dT K;omega
 obtain⟨t,k,r,rfl⟩:=Fo.cases1 r oM;have hi2:i+(r.len+1)=l.len:=L;refine Hr 0 C ?_;rintro⟨eb,eo,ka,kc⟩ rfl;refine Ae 10 [100,0,0,0] (aI oM<|y2<|λb1=>y<|y<|λ_=>Dn C C (eC QC C C) (λw f h=>IC _ (Dm.gl h.f3) t _ F.1.1 F.1.2)<|Aa 3 (λ_=>Ap 13 C C (λG=>?_) (λG=>?_)));replace G:=B5 G;exact Aa 9 (λ_=>Hf<|Aa 2 (λ_=>A5 (Cb C C) (λw f h=>⟨(),f,(by rw[D];show _=Value.bool (t.isHole&&K8 r);rw[G];rfl),tQ,h.exm,tQ⟩)));replace G:=B3 G;exact Aa 8 (aI ⟨oM,oM⟩<|λ_=>Ce ((i+1,r)) (show r.len<r.len+1 from Nat.lt_succ_self _) ⟨show i+1+r.len=_ by omega,D.trans (by show (t.isHole&&K8 r)=_;rw[G];rfl),F.2⟩ lE (λw f h=>⟨_,h.less (sD sZ) sR nE (mR [1,3])⟩));refine Aa 3 (λ_=>Df<|Aa 3 (λ_=>?_));obtain rfl:r=.nil:=Fo.len0 (by have:=dF K;omega);exact Aa 5 (λ_=>A5 (Cb C C) (λw f h=>⟨(),f,(by rw[D];rfl),tQ,h.exm,tQ⟩))
theorem NP(w:wO)(f:Fq)(F:Vl w f)(G:Dm w f)(t:Aq)(k:Fo)(ka:oA)(kc:Nat) :
  AX prog 122 #[fV t ka k.len kc] w (H7 (JS t k) w f):=by
 refine Ed [λw f=>Dm w f] func122 C C C (Be F ⟨G,tQ⟩ ⟨Dm.mono,tQ⟩)<|Ae 10 [1] (λb1=>λb2=>y<|λ_=>Dn C C (eC Kd C C) (λw f h=>Dz _ t _ _)<|Aa 2 (λ_=>Ap 4 C C (λD=>?_) (λD=>?_)));exact Ae 4 [1] (y<|λ_=>Dn C C (eC Bj C C) (λw f h=>A9 _ t _ _ _ _ _ _)<|Ae 5 [0] (y<|λ_=>A5 (λw f h=>Ao C (Ab C Bb h.k0 C)) (λw f h=>⟨(⟨21,t.ln,t.co,[],0,.nil⟩,none,0),f,C,(by simp[JS,A3,D]),h.exm,⟨⟨Nat.zero_le _,.inl C⟩,tQ⟩⟩)));exact Ae 9 [1,1] (y<|y<|λ_=>Dn C C (eC Bj C C) (λw f h=>A9 _ t _ _ _ _ _ _)<|Ae 4 [0] (y<|λ_=>A5 (λw f h=>Ao C (Ab C Bb h.k0 C)) (λw f h=>⟨(⟨22,t.ln,t.co,t.tx,0,.nil⟩,none,0),f,C,(by simp[JS,A3,D]),h.exm,⟨⟨Nat.zero_le _,.inl C⟩,tQ⟩⟩)))
theorem Sf(n:Nat)(ih:∀n',n=n'+1→∀ (w:wO) (f:Fq) (_:Vl w f) (_:Dm w f) (t:Aq) (k:Fo) (a:oA) (c:Nat),DP n' t k→Bq w f k a c→BV prog 152 #[fV t a k.len c] w (H7 (D7 (n'+1) t k) w f) (HX 74 (D7 (n'+1) t k) w f))(w:wO)(f:Fq)(hv:Vl w f)(hJ:Dm w f)(t:Aq)(k:Fo)(ka:oA)(kc:Nat)(hp:DP n t k)(hL:Bq w f k ka kc) :
  BV prog 152 #[fV t ka k.len kc] w (H7 (D7 (n+1) t k) w f) (HX 74 (D7 (n+1) t k) w f):=by
 refine TV (X:=X0 w f) (H:=[]) (R:=[]) (B:=[]) (Fs:=[λw f=>Bq w f k ka kc,λw f=>Dm w f]) (f:=f) func152 C C C (Be hv ⟨hL,hJ,tQ⟩ ⟨Bq.mono,Dm.mono,tQ⟩)<|Ae 21 [1] (λb1=>λb2=>y<|λ_=>Ap 8 C C (λG=>?_) (λG=>?_));exact Ae 16 [1,1,0] (y<|y<|y<|λ_=>A5 (λw f d=>Ao C (Ab C Bb d.k0 C)) (λw f d=>⟨(⟨23,t.ln,t.co,[],t.nm,.nil⟩,none,0),f,C,(by unfold D7;simp[SP.need,A3,G]),d.exm,⟨⟨Nat.zero_le _,.inl C⟩,tQ⟩⟩));refine Aa 7 (λ_=>Ap 17 C C (λJ=>?_) (λJ=>?_));exact Ae 7 [1,1] (y<|y<|λ_=>Dn C C (eC Bj C C) (λw f d=>A9 _ t _ _ _ _ _ _)<|Ae 6 [0] (y<|λ_=>A5 (λw f d=>Ao C (Ab C Bb d.k0 C)) (λw f d=>⟨(⟨24,t.ln,t.co,t.tx,0,.nil⟩,none,0),f,C,(by unfold D7;simp[SP.need,A3,G,J]),d.exm,⟨⟨Nat.zero_le _,.inl C⟩,tQ⟩⟩)));refine Aa 7 (λ_=>Ap 24 C C (λO=>?_) (λO=>?_));exact Ae 7 [1,1] (y<|y<|λ_=>Dn C C (eC Bj C C) (λw f d=>A9 _ t _ _ _ _ _ _)<|Ae 6 [0] (y<|λ_=>A5 (λw f d=>Ao C (Ab C Bb d.k0 C)) (λw f d=>⟨(⟨26,t.ln,t.co,t.tx,0,.nil⟩,none,0),f,C,(by unfold D7;simp[SP.need,A3,G,J,O]),d.exm,⟨⟨Nat.zero_le _,.inl C⟩,tQ⟩⟩)));refine Aa 7 (λ_=>Ap 31 C C (λU=>?_) (λU=>?_));refine Aa 2 (λ_=>Cq [0,1] Aj (.rd 0 (.rd 1 (.br 2 (.br 3 .fin .fin) .fin))) C kR<|By 2 [1,1] (y<|y<|λ_=>Ak C<|Dn C C (eC QC C C) (λw f d=>IC _ (Dm.gl d.f1) t _ hp.1.1 hp.1.2)<|Aa 1 (λ_=>Ar [0,1] C<|Ak C<|AZ C C (eC AE C C) (λw2 f2 he Q=>⟨C,_,f2,C,(by unfold D7;simp[SP.need,A3,he,G,J,O,U]),Q⟩) λF=>Aa 1 (λ_=>?_))));refine Ar [0,1] C<|BG<|Ae 4 [1] (y<|λ_=>CR C C (eC WH C C) (λw f d=>NP w f d.vl d.f1 t _ _ _) (λ_=>⟨Bc.mono,tQ⟩) ?_);rintro⟨nd1,and1,cnd1⟩ hnd1;dsimp only at hnd1 ⊢;exact Ae 6 [0] (y<|λ_=>A5 (λw f d=>Ao C (Ab C Bb d.k0 C)) (λw f d=>⟨(nd1,and1,cnd1),f,C,(by unfold D7;simp[SP.need,A3,G,J,O,U,F,hnd1]),d.exm,⟨d.f0,tQ⟩⟩));refine Aa 7 (λ_=>Ap 39 C C (λZ=>?_) (λZ=>?_));exact Ae 3 [1] (y<|λ_=>wD C C (eC UO C C) (pe:=λe=>e=(t.ln,t.co)) (T:=74) (λw f d=>(Ig w t _).mono (λ_ _ h=>h.elim) λ_ w2 ⟨G,J⟩=>⟨_,f,G,C,C9.of_ext J d.vl⟩) (λe w2 f2 he Q=>by subst he;exact⟨C,_,f2,C,(by unfold D7;simp[SP.need,A3,G,J,O,U,Z]),Q⟩));refine Ae 13 [1] (y<|λ_=>Ap 46 C C (λW=>?_) (λW=>?_));refine Aa 2 (λ_=>?_);obtain rfl:k=.nil:=Fo.len0 (by have h9:((k.len:Int)==0)=true:=W;have:=beq_iff_eq.1 h9;omega);exact Ae 2 [1] (y<|λ_=>Dn C C (eC Bj C C) (λw f d=>A9 _ t _ _ _ _ _ _)<|Ae 5 [0] (y<|λ_=>A5 (λw f d=>Ao C (Ab C Bb d.k0 C)) (λw f d=>⟨(⟨25,t.ln,t.co,[],0,.nil⟩,none,0),f,C,(by unfold D7;simp[SP.need,A3,G,J,O,U,Z,W]),d.exm,⟨⟨Nat.zero_le _,.inl C⟩,tQ⟩⟩)));refine Aa 4 (λ_=>?_);obtain⟨h,hk,r,rfl⟩:=Fo.cases1 k (by have h9:((k.len:Int)==0)=false:=W;have:=beq_eq_false_iff_ne.1 h9;omega);obtain⟨hto,hko,hkl,hdp⟩:=hp;have hkl2:r.len+1≤100000:=hkl
 obtain⟨n,rfl⟩:∃q,n=q+1:=by cases n with|zero=>exact absurd hdp (by simp[Fo.deep])|succ q=>exact⟨q,C⟩
 simp only[Fo.deep,Bool.and_eq_true] at hdp;refine cW 0 C<|JN 1 C<|Hr 0 C ?_;rintro⟨eb,eo,hka,hkc⟩ rfl;refine Cq [0,1] Aj (rd [0,1,2,3,4,5,6] (.br 7 (.br 8 (.rd 9 .fin) .fin) .fin)) C kR<|By 6 [1,100,0,1] (y<|aI (by simp only[Fo.len];omega)<|y2<|y<|λ_=>Iz C C C (λw hK=>Cd C C C KR)<|Ak C<|Aa 2 (λb3=>λ_=>Ar [1,2] C<|Ak C<|Ae 2 [0] (y<|λ_=>Ar [1,2] C<|Bf 1 (λ_=>?_))));refine BG<|Ae 10 [0] (y<|λ_=>Ap 59 C C (λh7=>?_) (λh7=>?_));refine Aa 2 (λ_=>Cq [0,1,2] Aj (rd [0,1,2] (.br 3 (.br 4 .fin .fin) .fin)) C kR<|By 3 [2] (y<|λ_=>Ak C<|Dn C C (eC Ic C C) (λw f d=>CY _ _ _ _)<|Aa 1 (λ_=>Ar [0,1,2] C<|Ak C<|AZ C C (eC AE C C) (λw2 f2 he Q=>⟨C,_,f2,C,(by unfold D7;simp[SP.need,A3,he,G,J,O,U,Z,W,h7]),Q⟩) λF=>Aa 1 (λ_=>?_))));refine Ar [0,1,2] C<|BG<|Aa 2 (λ_=>Cq [0,2] Aj (rd [0,1,2,3,4] (.br 5 (.br 6 (.br 7 .fin .fin) .fin) .fin)) C kR<|By 5 [1,0] (y<|y<|λ_=>Ak C ?_));refine JA C C (eC De C C) (λw f d=>B8 152 Qo (D7 (n+1)) (DP n) (λw f hv hJ t k a c hd hT=>ih n C w f hv hJ t k a c hd hT) w f d.vl d.f5 r _ _ (HJ n r hko.2.2.2 hdp.2) oM d.f3) (λ_=>⟨Bc.mono,tQ⟩) (λe w2 f2 he Q=>⟨C,e,f2,C,(by unfold D7;simp[SP.need,A3,he,G,J,O,U,Z,W,h7,F]),Q⟩) ?_;rintro⟨⟨Y,xnds1⟩,K,L⟩ D;dsimp only at D ⊢;refine Aa 1 (λ_=>Ar [0,2] C<|Ak C<|Dn C C (eC Bj C C) (λw f d=>A9 _ t _ _ _ _ _ _)<|Aa 1 (λ_=>Ar [0,2] C<|Ak C<|Ae 2 [1] (y<|λ_=>Ar [0,2] C<|BG ?_)));exact Aa 3 (λ_=>A5 (λw f d=>Ao C (Ab C Bb d.k1 C)) (λw f d=>⟨(⟨26,t.ln,t.co,h.tx,0,Y⟩,K,L),f,C,(by unfold D7;simp[SP.need,A3,G,J,O,U,Z,W,h7,F,D]),d.exm,⟨d.f0,tQ⟩⟩));refine Aa 4 (λ_=>Cq [0,1,2] Aj (.rd 0 (.rd 1 (.br 2 (rd [3,4,5] (.br 6 (.rd 7 (.br 8 .fin .fin)) .fin)) .fin))) C kR<|By 2 [2,0] (y<|y<|λ_=>Ak C<|Dn C C (eC Kd C C) (λw f d=>Dz _ h _ _)<|Aa 1 (λ_=>Ar [0,1,2] C<|Bf 1 (λ_=>Iy 75 C (λh8=>?_) (λh8=>?_)))));refine Bf 2 (λ_=>Ak C<|Dn C C (eC Ic C C) (λw f d=>CY _ _ _ _)<|Aa 1 (λ_=>Ar [0,1,2] C<|Bf 1 (λ_=>Ak C<|AZ C C (eC AE C C) (λw2 f2 he Q=>⟨C,_,f2,C,(by unfold D7;simp[SP.need,A3,he,G,J,O,U,Z,W,h7,h8]),Q⟩) λF=>Aa 1 (λ_=>Ar [0,1,2] C ?_))));refine BG<|Aa 2 (λ_=>Cq [0,2] Aj (.rd 0 (.rd 1 (.br 2 (.br 3 (.br 4 .fin .fin) .fin) .fin))) C kR<|By 2 [1] (y<|λ_=>Ak C ?_));refine JA C C (eC De C C) (λw f d=>B8 152 Qo (D7 (n+1)) (DP n) (λw f hv hJ t k a c hd hT=>ih n C w f hv hJ t k a c hd hT) w f d.vl d.f5 r _ _ (HJ n r hko.2.2.2 hdp.2) oM d.f3) (λ_=>⟨Bc.mono,tQ⟩) (λe w2 f2 he Q=>⟨C,e,f2,C,(by unfold D7;simp[SP.need,A3,he,G,J,O,U,Z,W,h7,h8,F]),Q⟩) ?_;rintro⟨⟨Y,xnds1⟩,K,L⟩ D;dsimp only at D ⊢
 refine Aa 1 (λ_=>Ar [0,2] C<|Ak C<|Dn C C (eC Bj C C) (λw f d=>A9 _ t _ _ _ _ _ _)<|Aa 1 (λ_=>Ar [0,2] C<|Ak C<|Ae 2 [1] (y<|λ_=>Ar [0,2] C<|BG ?_)));exact Aa 2 (λ_=>A5 (λw f d=>Ao C (Ab C Bb d.k1 C)) (λw f d=>⟨(⟨27,t.ln,t.co,[],0,Y⟩,K,L),f,C,(by unfold D7;simp[SP.need,A3,G,J,O,U,Z,W,h7,h8,F,D]),d.exm,⟨d.f0,tQ⟩⟩));refine Bf 2 (λ_=>Ak C<|Aa 2 (λ_=>Ar [0,1,2] C<|Bf 1 (λ_=>Ak C<|AZ C C (eC AE C C) (λw2 f2 he Q=>⟨C,_,f2,C,(by unfold D7;simp[SP.need,A3,he,G,J,O,U,Z,W,h7,h8]),Q⟩) λF=>?_)))
 cases F
theorem Qe:∀n,∀(w:wO)(f:Fq)(_:Vl w f)(_:Dm w f)(t:Aq)(k:Fo)(a:oA)(c:Nat),DP n t k→Bq w f k a c→BV prog 152 #[fV t a k.len c] w (H7 (D7 (n+1) t k) w f) (HX 74 (D7 (n+1) t k) w f)
 |0=>Sf 0 (λ_ d=>by cases d)
 |n+1=>Sf (n+1) (λn' h=>by cases h;exact Qe n)
theorem Nw(w:wO)(f:Fq)(G:Vl w f)(t:Aq)(k:Fo)(ka:oA)(kc:Nat)(J:Bq w f k ka kc) :
  AX prog 51 #[fV t ka k.len kc] w (AU (α:=Unit) (λ_=>.bool (S6 t k)) (λ_=>True) (λ_=>[]) w f):=by
 refine Ed [λw f=>Bq w f k ka kc] func51 C C C (Be G ⟨J,tQ⟩ ⟨Bq.mono,tQ⟩)<|Aa 7 (λb1=>λ_=>?_)
 cases k with
 |nil =>
  refine Ae 2 [0] (y<|λ_=>Dn C C (eC GK C C) (λw f d=>Cp _ t _)<|Aa 1 (λ_=>Ap 5 C C (λD=>?_) (λD=>?_)));refine Ae 6 [0] (y<|λ_=>Ap 11 C C (λF=>?_) (λF=>?_));simp[Fo.len] at F;exact Aa 10 (λ_=>A5 (Cb C C) (λw f d=>⟨(),f,(by simp[S6,D]),tQ,d.exm,tQ⟩));exact Aa 16 (λ_=>A5 (Cb C C) (λw f d=>⟨(),f,(by simp[S6,D]),tQ,d.exm,tQ⟩))
 |cons h Q r =>
  refine JN 0 C<|Hr 0 C ?_;rintro⟨U,W,K,L⟩ rfl;refine Ae 2 [0] (y<|λ_=>Dn C C (eC GK C C) (λw f d=>Cp _ t _)<|Aa 1 (λ_=>Ap 5 C C (λD=>?_) (λD=>?_)));refine Ae 6 [0] (y<|λ_=>Ap 11 C C (λF=>?_) (λF=>?_));exact Ae 4 [0,100,0] (y<|aI (by simp only[Fo.len];omega)<|y2<|λ_=>Dn C C (eC Kd C C) (λw f d=>Dz _ h _ _)<|Aa 5 (λ_=>A5 (Cb C C) (λw f d=>⟨(),f,(by simp[S6,D]),tQ,d.exm,tQ⟩)));have O:=dF F;simp only[Fo.len] at O;omega;exact Aa 16 (λ_=>A5 (Cb C C) (λw f d=>⟨(),f,(by simp[S6,D]),tQ,d.exm,tQ⟩))
set_option maxHeartbeats 1000000 in
theorem XN(n:Nat)(ihx:∀ (w:wO) (f:Fq) (_:Vl w f) (_:Dm w f) (t:Aq) (k:Fo) (a:oA) (c:Nat),DP n t k→Bq w f k a c→BV prog 50 #[fV t a k.len c] w (H7 (BB (n+1) t k) w f) (HX 74 (BB (n+1) t k) w f))(iha:∀ (w:wO) (f:Fq) (_:Vl w f) (_:Dm w f) (t:Aq) (k:Fo) (a:oA) (c:Nat),DP n t k→Bq w f k a c→BV prog 124 #[fV t a k.len c] w (H7 (Hd (n+1) (BB (n+1)) t k) w f) (HX 74 (Hd (n+1) (BB (n+1)) t k) w f))(w:wO)(f:Fq)(hv:Vl w f)(hJ:Dm w f)(t:Aq)(k:Fo)(ka:oA)(kc:Nat)(wd:lU)(l:Fo)(la:oA)(lc:Nat)(K:l.all (DP n))(hlen:l.len≤100000)(hL:Bq w f l la lc) :
  BV prog 87 #[fV t ka k.len kc,S wd,.slice la l.len lc] w (H7 (Bo (n+1) (BB (n+1)) t wd l) w f) (HX 74 (Bo (n+1) (BB (n+1)) t wd l) w f):=by
 refine TV (X:=X0 w f) (H:=[]) (R:=[]) (B:=[]) (Fs:=[λw f=>Bq w f l la lc,λw f=>Dm w f]) (f:=f) func87 C C C (Be hv ⟨hL,hJ,tQ⟩ ⟨Bq.mono,Dm.mono,tQ⟩)<|Aa 26 (λb1=>λb2=>λ_=>?_)
 ·
  refine Ap 13 C C (λh1=>?_) (λh1=>?_);obtain rfl:=beq_iff_eq.1 h1;refine Aa 2 (λ_=>?_);rcases Fo.two l with ⟨p,pk,b,bk,rfl⟩|hne
  refine JN 0 C<|Hr 0 C ?_;rintro⟨eb0,eo0,k0a,k0c⟩ rfl;refine MY 1 C ?_;rintro⟨k1a,k1c⟩;refine Cq [0,1] Aj (rd [0,1,2,3,4,5,6] (.br 7 (rd [8,9,10,11,12,13,14] (.br 15 (rd [16,17,18,19,20,21] (.br 22 (.rd 23 (.br 24 .fin .fin)) .fin)) .fin)) .fin)) C kR<|By 4 [1] (y<|λ_=>Iy 18 C (λW=>?_) (λW=>?_));refine By 3 [101,0] (aI (by simp only[Fo.len];omega)<|y2<|λ_=>Ak C<|Dn C C (eC GK C C) (λw f d=>Cp _ p _)<|Aa 1 (λ_=>Ar [0,1] C<|Bf 2 (λ_=>Iy 24 C (λY=>?_) (λY=>?_))));refine By 5 [101,5] (aI (by simp only[Fo.len];omega)<|y2<|λ_=>Ak C<|Dn C C (eC Ic C C) (λw f d=>CY _ _ _ _)<|Aa 1 (λ_=>Ar [0,1] C<|Bf 2 (λ_=>Iy 32 C (λh4=>?_) (λh4=>?_))));refine By 4 [101,5] (aI (by simp only[Fo.len];omega)<|y2<|λ_=>Ak C<|BO C C (eC mV C C) (λw f d=>TN w f d.vl d.f6 pk _ _ (Fo.ok.all K.1.2.1) K.1.2.2.1 d.f2)<|Aa 1 (λ_=>Ar [0,1] C<|Bf 1 (λ_=>Ak C<|AZ C C (eC AE C C) (λw2 f2 he L=>⟨C,_,f2,C,(by simp[Bo,SP.need,A3,he,W,Y,h4]),L⟩) λD=>Aa 1 (λ_=>Ar [0,1] C ?_))));refine BG<|Aa 2 (λ_=>Cq [1] Aj (rd [0,1,2,3,4,6,7,8] (.br 5 (.br 9 (.br 10 (.br 11 (.br 12 (.br 13 .fin .fin) .fin) .fin) .fin) .fin) .fin)) C kR<|By 8 [0,101,5,100,0] (y<|aI (by simp only[Fo.len];omega)<|y2<|aI (by simp only[Fo.len];omega)<|y2<|λ_=>Ak C<|XT C C (eC De C C) (λw f d=>GL 122 WH JS (λ_ _=>True) (λw f hv hJ t k a c hd hT=>(NP w f hv hJ t k a c).retP) w f d.vl d.f6 pk _ _ (Fo.all_true _) K.1.2.2.1 d.f2) (λ_=>⟨BH.mono,tQ⟩) (λe w2 f2 he L=>⟨C,e,f2,C,(by simp[Bo,SP.need,A3,he,W,Y,h4,D]),L⟩) ?_));rintro⟨O,Q⟩ U Z F;dsimp only at F ⊢;have hnl:=CE F;have hpl:=K.1.2.2.1;refine Aa 1 (λ_=>Ar [1] C<|Ak C ?_);refine JA C C (eC Dp C C) (λw f d=>ihx w f d.vl d.f7 b bk _ _ K.2.1 d.f1) (λ_=>⟨Bc.mono,tQ⟩) (λe w2 f2 he L=>⟨C,e,f2,C,(by simp[Bo,SP.need,A3,he,W,Y,h4,D,F]),L⟩) ?_;rintro⟨G,and1,cnd1⟩ J;dsimp only at J ⊢;refine Aa 1 (λ_=>Ar [1] C<|Ak C<|Aa 2 (λb3=>λ_=>Ar [2] C<|Ak C<|Dd 0 0 C C Pn C C C C C C C C (λ_ _=>C) oM oM λands2 cnds2=>BI (λw f=>BH w f (O.app G.one) (Q++GQ G.op G.ln G.co G.tx G.nm and1 G.kids.len cnd1)) (λw f d=>BH.app (BH.one d.f0) d.f1) BH.mono<|Xg (λw f=>Bc w f (O.app G.one) ands2 cnds2) Bc.mono (λw f d=>G8 d d.f0)<|Aa 1 (λ_=>?_)));refine Ar [2] C<|Ak C<|Dn C C (eC Bj C C) (λw f d=>A9 _ t _ _ _ _ _ _)<|Aa 1 (λ_=>Ar [2] C<|Ak C<|Ae 2 [1] (y<|λ_=>Ar [2] C<|BG<|Aa 4 (λ_=>?_)));exact A5 (λw f d=>Ao C (Ab C Bb d.k1 C)) (λw f d=>⟨(⟨7,t.ln,t.co,[],0,(O.app G.one)⟩,ands2,cnds2),f,(by simp[nV,Nd.app_len,N.one,N.cons,Nd.len,Nat.add_comm]),(by simp[Bo,SP.need,A3,W,Y,h4,D,F,J]),d.exm,⟨d.f0,tQ⟩⟩)
  refine Bf 4 (λ_=>Ak C<|Aa 2 (λ_=>Ar [0,1] C<|Bf 1 (λ_=>Ak C<|AZ C C (eC AE C C) (λw2 f2 he L=>⟨C,_,f2,C,(by simp[Bo,SP.need,A3,he,W,Y,h4]),L⟩) λD=>?_)))
  cases D
  refine Bf 5 (λ_=>Ak C<|Aa 2 (λ_=>Ar [0,1] C<|Bf 6 (λ_=>Ak C<|Aa 2 (λ_=>Ar [0,1] C<|Bf 1 (λ_=>Ak C ?_)))));refine AZ C C (eC AE C C) (λw2 f2 he L=>⟨C,_,f2,C,(by simp[Bo,SP.need,A3,he,W,Y]),L⟩) λD=>?_
  cases D
  simp[Fo.len] at W;refine Cq [0,1] Aj (rd [0,1,2,3,4,5,6] (.br 7 (rd [8,9,10,11,12,13,14] (.br 15 (rd [16,17,18,19,20,21] (.br 22 (.rd 23 (.br 24 .fin .fin)) .fin)) .fin)) .fin)) C kR<|By 4 [1] (y<|λ_=>Iy 18 C (λW=>?_) (λW=>?_));exact absurd (by have h9:=beq_iff_eq.1 W;omega) hne;refine Bf 3 (λ_=>Ak C<|Aa 2 (λ_=>Ar [0,1] C<|Bf 7 (λ_=>Ak C<|Aa 2 (λ_=>Ar [0,1] C<|Bf 6 (λ_=>Ak C ?_)))));refine Aa 2 (λ_=>Ar [0,1] C<|Bf 1 (λ_=>Ak C<|AZ C C (eC AE C C) (λw2 f2 he L=>⟨C,_,f2,C,(by rw[fm_fn hne]),L⟩) λD=>?_))
  cases D
  refine Aa 7 (λ_=>Ap 53 C C (λW=>?_) (λW=>?_));obtain rfl:=beq_iff_eq.1 W;refine Aa 2 (λ_=>?_);rcases Fo.three l with ⟨p,pk,b,bk,c,ck,rfl⟩|hne
  refine JN 0 C<|Hr 0 C ?_;rintro⟨eb0,eo0,k0a,k0c⟩ rfl;refine MY 1 C ?_;rintro⟨k1a,k1c⟩;refine MY 1 C ?_;rintro⟨k2a,k2c⟩;refine Cq [0,1] Aj (rd [0,1,2,3,4,5,6] (.br 7 (.rd 8 (.br 9 .fin .fin)) .fin)) C kR<|By 4 [1] (y<|λ_=>Iy 58 C (λY=>?_) (λY=>?_));refine By 3 [102,0] (aI (by simp only[Fo.len];omega)<|y2<|λ_=>Ak C<|Dn C C (eC QC C C) (λw f d=>IC _ (Dm.gl d.f8) p _ K.1.1.1 K.1.1.2)<|Aa 1 (λ_=>Ar [0,1] C<|Bf 1 (λ_=>Ak C<|AZ C C (eC AE C C) (λw2 f2 he L=>⟨C,_,f2,C,(by simp[Bo,SP.need,A3,he,h1,Y]),L⟩) λD=>Aa 1 (λ_=>Ar [0,1] C ?_))));refine BG<|Aa 2 (λ_=>Cq [1] Aj (rd [0,1,2,3,4,5,6,7,8,10,11,12] (.br 9 (.br 13 (.br 14 (.br 15 (.br 16 .fin .fin) .fin) .fin) .fin) .fin)) C kR<|By 12 [0,102,4,101,0,100,0] (y<|aI (by simp only[Fo.len];omega)<|y2<|aI (by simp only[Fo.len];omega)<|y2<|aI (by simp only[Fo.len];omega)<|y2<|λ_=>Ak C ?_));refine JA C C (eC Dp C C) (λw f d=>ihx w f d.vl d.f8 b bk _ _ K.2.1 d.f2) (λ_=>⟨Bc.mono,tQ⟩) (λe w2 f2 he L=>⟨C,e,f2,C,(by simp[Bo,SP.need,A3,he,h1,Y,D]),L⟩) ?_;rintro⟨G,and1,cnd1⟩ J;dsimp only at J ⊢;refine Aa 1 (λ_=>Ar [1] C<|Ak C ?_);refine JA C C (eC Dp C C) (λw f d=>ihx w f d.vl d.f9 c ck _ _ K.2.2.1 d.f1) (λ_=>⟨Bc.mono,tQ⟩) (λe w2 f2 he L=>⟨C,e,f2,C,(by simp[Bo,SP.need,A3,he,h1,Y,D,J]),L⟩) ?_;rintro⟨nd2,and2,cnd2⟩ hnd2;dsimp only at hnd2 ⊢;refine Aa 1 (λ_=>Ar [1] C<|Ak C<|Aa 2 (λb3=>λ_=>Ar [2] C<|Ak C<|Di 0 C C<|BI (λw f=>Bc w f (G.cons (nd2.one)) (some ⟨b3,0,none⟩) 2) (λw f d=>BH.toF (BH.cons' d.f1 (BH.cons' d.f0 (show BH _ _ .nil [] from C))) d.b0 (Nat.le_refl _)) Bc.mono<|Dn C C (eC Bj C C) (λw f d=>A9 _ t _ _ _ _ _ _)<|Aa 1 (λ_=>?_)));exact Bv [1] Ef C (λ_ h=>.tail _ h)<|Ak C<|Ae 2 [0] (y<|λ_=>Bv [1] Ef C (λ_ h=>.tail _ h)<|BG<|Aa 4 (λ_=>A5 (λw f d=>Ao C (Ab C Bb d.k0 C)) (λw f d=>⟨(⟨9,t.ln,t.co,p.tx,0,(G.cons (nd2.one))⟩,(some ⟨b3,0,none⟩),2),f,C,(by simp[Bo,SP.need,A3,h1,Y,D,J,hnd2]),d.exm,⟨d.f0,tQ⟩⟩)));simp[Fo.len] at Y;refine Cq [0,1] Aj (rd [0,1,2,3,4,5,6] (.br 7 (.rd 8 (.br 9 .fin .fin)) .fin)) C kR<|By 4 [1] (y<|λ_=>Iy 58 C (λY=>?_) (λY=>?_));exact absurd (by have h9:=beq_iff_eq.1 Y;omega) hne;refine Bf 3 (λ_=>Ak C<|Aa 2 (λ_=>Ar [0,1] C<|Bf 1 (λ_=>Ak C<|AZ C C (eC AE C C) (λw2 f2 he L=>⟨C,_,f2,C,(by rw[uR hne]),L⟩) λD=>?_)))
  cases D
  refine Aa 7 (λ_=>Ap 81 C C (λY=>?_) (λY=>?_));obtain rfl:=beq_iff_eq.1 Y;refine Aa 2 (λ_=>?_);rcases Fo.three l with ⟨p,pk,b,bk,c,ck,rfl⟩|hne
  refine JN 0 C<|Hr 0 C ?_;rintro⟨eb0,eo0,k0a,k0c⟩ rfl;refine MY 1 C ?_;rintro⟨k1a,k1c⟩;refine MY 1 C ?_;rintro⟨k2a,k2c⟩;refine Cq [0,1] Aj (rd [0,1,2,3,4,5,6] (.br 7 (rd [8,9,10,11,12] (.br 13 (.rd 14 (.br 15 .fin .fin)) .fin)) .fin)) C kR<|By 4 [1] (y<|λ_=>Iy 86 C (λh4=>?_) (λh4=>?_));refine By 3 [102,0] (aI (by simp only[Fo.len];omega)<|y2<|λ_=>Ak C<|Dn C C (eC O0 C C) (λw f d=>Ej _ (Dm.gl d.f8) p _ K.1.1.1 K.1.1.2)<|Aa 1 (λ_=>Ar [0,1] C<|Bf 2 (λ_=>Iy 92 C (λh5=>?_) (λh5=>?_))));refine By 3 [101,0] (aI (by simp only[Fo.len];omega)<|y2<|λ_=>Ak C<|BO C C (eC bD C C) (λw f d=>Nw w f d.vl b bk _ _ d.f2)<|Aa 1 (λ_=>Ar [0,1] C<|Bf 1 (λ_=>Ak C<|AZ C C (eC AE C C) (λw2 f2 he L=>⟨C,_,f2,C,(by simp[Bo,SP.need,A3,he,h1,W,h4,h5]),L⟩) λD=>Aa 1 (λ_=>Ar [0,1] C ?_))));refine BG<|Aa 2 (λ_=>Cq [1] Aj (rd [0,1,2,3,4,5,6,7,8,10,11,12] (.br 9 (.br 13 (.br 14 (.br 15 (.br 16 .fin .fin) .fin) .fin) .fin) .fin)) C kR<|By 12 [0,102,4,101,0,100,0] (y<|aI (by simp only[Fo.len];omega)<|y2<|aI (by simp only[Fo.len];omega)<|y2<|aI (by simp only[Fo.len];omega)<|y2<|λ_=>Ak C ?_));refine JA C C (eC Dp C C) (λw f d=>ihx w f d.vl d.f8 b bk _ _ K.2.1 d.f2) (λ_=>⟨Bc.mono,tQ⟩) (λe w2 f2 he L=>⟨C,e,f2,C,(by simp[Bo,SP.need,A3,he,h1,W,h4,h5,D]),L⟩) ?_;rintro⟨G,and1,cnd1⟩ J;dsimp only at J ⊢;refine Aa 1 (λ_=>Ar [1] C<|Ak C ?_);refine JA C C (eC Dp C C) (λw f d=>ihx w f d.vl d.f9 c ck _ _ K.2.2.1 d.f1) (λ_=>⟨Bc.mono,tQ⟩) (λe w2 f2 he L=>⟨C,e,f2,C,(by simp[Bo,SP.need,A3,he,h1,W,h4,h5,D,J]),L⟩) ?_;rintro⟨nd2,and2,cnd2⟩ hnd2;dsimp only at hnd2 ⊢;refine Aa 1 (λ_=>Ar [1] C<|Ak C<|Aa 2 (λb3=>λ_=>Ar [2] C<|Ak C<|Di 0 C C<|BI (λw f=>Bc w f (G.cons (nd2.one)) (some ⟨b3,0,none⟩) 2) (λw f d=>BH.toF (BH.cons' d.f1 (BH.cons' d.f0 (show BH _ _ .nil [] from C))) d.b0 (Nat.le_refl _)) Bc.mono<|Dn C C (eC Bj C C) (λw f d=>A9 _ t _ _ _ _ _ _)<|Aa 1 (λ_=>?_)));exact Bv [1] Ef C (λ_ h=>.tail _ h)<|Ak C<|Ae 2 [0] (y<|λ_=>Bv [1] Ef C (λ_ h=>.tail _ h)<|BG<|Aa 4 (λ_=>A5 (λw f d=>Ao C (Ab C Bb d.k0 C)) (λw f d=>⟨(⟨10,t.ln,t.co,p.tx,0,(G.cons (nd2.one))⟩,(some ⟨b3,0,none⟩),2),f,C,(by simp[Bo,SP.need,A3,h1,W,h4,h5,D,J,hnd2]),d.exm,⟨d.f0,tQ⟩⟩)));refine Bf 3 (λ_=>Ak C<|Aa 2 (λ_=>Ar [0,1] C<|Bf 1 (λ_=>Ak C<|AZ C C (eC AE C C) (λw2 f2 he L=>⟨C,_,f2,C,(by simp[Bo,SP.need,A3,he,h1,W,h4,h5]),L⟩) λD=>?_)))
  cases D
  simp[Fo.len] at h4;refine Cq [0,1] Aj (rd [0,1,2,3,4,5,6] (.br 7 (rd [8,9,10,11,12] (.br 13 (.rd 14 (.br 15 .fin .fin)) .fin)) .fin)) C kR<|By 4 [1] (y<|λ_=>Iy 86 C (λh4=>?_) (λh4=>?_));exact absurd (by have h9:=beq_iff_eq.1 h4;omega) hne;refine Bf 3 (λ_=>Ak C<|Aa 2 (λ_=>Ar [0,1] C<|Bf 5 (λ_=>Ak C<|Aa 2 (λ_=>Ar [0,1] C<|Bf 1 (λ_=>Ak C ?_)))));refine AZ C C (eC AE C C) (λw2 f2 he L=>⟨C,_,f2,C,(by rw[xH hne]),L⟩) λD=>?_
  cases D
  refine Aa 7 (λ_=>Ap 115 C C (λh4=>?_) (λh4=>?_));obtain rfl:=beq_iff_eq.1 h4;refine Ae 6 [1] (y<|λ_=>AZ C C (eC AE C C) (λw2 f2 he L=>⟨C,_,f2,C,(by simp[Bo,SP.need,A3,he,h1,W,Y]),L⟩) λD=>Aa 3 (λ_=>Cq [1] Aj (.rd 0 (.rd 1 (.br 2 (.br 3 (.br 4 .fin .fin) .fin) .fin))) C kR<|By 2 [0] (y<|λ_=>Ak C ?_)));refine JA C C (eC De C C) (λw f d=>B8 50 Dp (BB (n+1)) (DP n) (λw f hv hJ t k a c hd hT=>ihx w f hv hJ t k a c hd hT) w f d.vl d.f1 l _ _ K hlen d.f0) (λ_=>⟨Bc.mono,tQ⟩) (λe w2 f2 he L=>⟨C,e,f2,C,(by simp[Bo,SP.need,A3,he,h1,W,Y,D]),L⟩) ?_;rintro⟨⟨O,Q⟩,U,Z⟩ F;dsimp only at F ⊢;refine Aa 1 (λ_=>Ar [1] C<|Ak C<|Dn C C (eC Bj C C) (λw f d=>A9 _ t _ _ _ _ _ _)<|Aa 1 (λ_=>Ar [1] C<|Ak C<|Ae 2 [0] (y<|λ_=>Ar [1] C<|BG ?_)));exact Aa 4 (λ_=>A5 (λw f d=>Ao C (Ab C Bb d.k0 C)) (λw f d=>⟨(⟨11,t.ln,t.co,[],0,O⟩,U,Z),f,C,(by simp[Bo,SP.need,A3,h1,W,Y,D,F]),d.exm,⟨d.f0,tQ⟩⟩));refine Aa 7 (λ_=>Ap 125 C C (λh5=>?_) (λh5=>?_));obtain rfl:=beq_iff_eq.1 h5;refine Ae 6 [1] (y<|λ_=>AZ C C (eC AE C C) (λw2 f2 he L=>⟨C,_,f2,C,(by simp[Bo,SP.need,A3,he,h1,W,Y,h4]),L⟩) λD=>Aa 3 (λ_=>Cq [1] Aj (.rd 0 (.rd 1 (.br 2 (.br 3 (.br 4 .fin .fin) .fin) .fin))) C kR<|By 2 [0] (y<|λ_=>Ak C ?_)));refine JA C C (eC De C C) (λw f d=>B8 50 Dp (BB (n+1)) (DP n) (λw f hv hJ t k a c hd hT=>ihx w f hv hJ t k a c hd hT) w f d.vl d.f1 l _ _ K hlen d.f0) (λ_=>⟨Bc.mono,tQ⟩) (λe w2 f2 he L=>⟨C,e,f2,C,(by simp[Bo,SP.need,A3,he,h1,W,Y,h4,D]),L⟩) ?_;rintro⟨⟨O,Q⟩,U,Z⟩ F;dsimp only at F ⊢;refine Aa 1 (λ_=>Ar [1] C<|Ak C<|Dn C C (eC Bj C C) (λw f d=>A9 _ t _ _ _ _ _ _)<|Aa 1 (λ_=>Ar [1] C<|Ak C<|Ae 2 [0] (y<|λ_=>Ar [1] C<|BG ?_)));exact Aa 4 (λ_=>A5 (λw f d=>Ao C (Ab C Bb d.k0 C)) (λw f d=>⟨(⟨12,t.ln,t.co,[],0,O⟩,U,Z),f,C,(by simp[Bo,SP.need,A3,h1,W,Y,h4,D,F]),d.exm,⟨d.f0,tQ⟩⟩));refine Aa 7 (λ_=>Ap 135 C C (λh6=>?_) (λh6=>?_));obtain rfl:=beq_iff_eq.1 h6;refine Aa 2 (λ_=>Cq [0,1] Aj (.rd 0 (.rd 1 (.br 2 (.br 3 .fin .fin) .fin))) C kR<|By 2 [1] (y<|λ_=>Ak C<|Dn C C (eC Ic C C) (λw f d=>CY _ _ _ _)<|Aa 1 (λ_=>Ar [0,1] C<|Ak C<|AZ C C (eC AE C C) (λw2 f2 he L=>⟨C,_,f2,C,(by simp[Bo,SP.need,A3,he,h1,W,Y,h4,h5]),L⟩) λD=>Aa 1 (λ_=>?_))));refine Ar [0,1] C<|BG<|Aa 2 (λ_=>Cq [1] Aj (.rd 0 (.rd 1 (.br 2 (.br 3 (.br 4 .fin .fin) .fin) .fin))) C kR<|By 2 [0] (y<|λ_=>Ak C ?_));refine JA C C (eC De C C) (λw f d=>B8 50 Dp (BB (n+1)) (DP n) (λw f hv hJ t k a c hd hT=>ihx w f hv hJ t k a c hd hT) w f d.vl d.f1 l _ _ K hlen d.f0) (λ_=>⟨Bc.mono,tQ⟩) (λe w2 f2 he L=>⟨C,e,f2,C,(by simp[Bo,SP.need,A3,he,h1,W,Y,h4,h5,D]),L⟩) ?_;rintro⟨⟨O,Q⟩,U,Z⟩ F
  dsimp only at F ⊢;refine Aa 1 (λ_=>Ar [1] C<|Ak C<|Dn C C (eC Bj C C) (λw f d=>A9 _ t _ _ _ _ _ _)<|Aa 1 (λ_=>Ar [1] C<|Ak C<|Ae 2 [0] (y<|λ_=>Ar [1] C<|BG ?_)));exact Aa 4 (λ_=>A5 (λw f d=>Ao C (Ab C Bb d.k0 C)) (λw f d=>⟨(⟨13,t.ln,t.co,[],0,O⟩,U,Z),f,C,(by simp[Bo,SP.need,A3,h1,W,Y,h4,h5,D,F]),d.exm,⟨d.f0,tQ⟩⟩));refine Aa 8 (λ_=>Ap 145 C C (λh7=>?_) (λh7=>?_));obtain rfl:=beq_iff_eq.1 h7;refine Aa 5 (λ_=>Ae 4 [1] (y<|λ_=>AZ C C (eC AE C C) (λw2 f2 he L=>⟨C,_,f2,C,(by simp[Bo,SP.need,A3,he,h1,W,Y,h4,h5,h6]),L⟩) λD=>Aa 18 (λ_=>?_)));obtain⟨p,pk,r,rfl⟩:=Fo.cases1 l (by have:=dT D;omega);have hge:0<r.len:=by have h9:=dT D;simp only[Fo.len] at h9;omega
  have hlr:r.len+1≤100000:=hlen;refine cW 0 C<|JN 1 C<|Hr 0 C ?_;rintro⟨eb0,eo0,k0a,k0c⟩ rfl;refine Cq [1] Aj (rd [0,1,2,3,4,7,8] (.br 5 (.br 6 (.br 9 (.br 10 (.br 11 (.br 12 .fin .fin) .fin) .fin) .fin) (.br 9 (.br 6 (.br 10 (.br 11 (.br 12 .fin .fin) .fin) .fin) .fin) .fin)) .fin)) C kR<|By 6 [0,100,0] (y<|aI (by simp only[Fo.len];omega)<|y2<|λ_=>Iz C C C (λw hK=>Cd C C C KR)<|Ak C ?_);refine JA C C (eC Dp C C) (λw f d=>ihx w f d.vl d.f5 p pk _ _ K.1 d.f0) (λ_=>⟨Bc.mono,tQ⟩) (λe w2 f2 he L=>⟨C,e,f2,C,(by simp[Bo,SP.need,A3,he,h1,W,Y,h4,h5,h6,D]),L⟩) ?_;rintro⟨G,and1,cnd1⟩ J;dsimp only at J ⊢;refine Aa 1 (λ_=>Ar [1] C ?_)
  ·
   refine Cl C ?_ ?_;refine Aa 2 (λb3=>λ_=>Ar [2] C<|Ak C<|XT C C (eC De C C) (λw f d=>GL 124 MN (Hd (n+1) (BB (n+1))) (DP n) (λw f hv hJ t k a c hd hT=>iha w f hv hJ t k a c hd hT) w f d.vl d.f6 r _ _ K.2 oM d.f4) (λ_=>⟨BH.mono,tQ⟩) (λe w2 f2 he L=>⟨C,e,f2,C,(by simp[Bo,SP.need,A3,he,h1,W,Y,h4,h5,h6,D,J]),L⟩) ?_);rintro⟨O,Q⟩ U Z F;dsimp only at F ⊢;have hnl:=CE F;refine Kz (p:=∃rb,U=some ⟨rb,0,none⟩) (λw f d=>by rcases (d.row _ (.head _)).2 with ⟨_,_,h9⟩|⟨ob,_,h9,_⟩;(dsimp only at h9;omega);exact⟨ob,h9⟩) λhob=>?_;obtain⟨rb,rfl⟩:=hob;refine bE 0 C C<|Aa 1 (λ_=>?_)
   rotate_left
   refine Ak C<|XT C C (eC De C C) (λw f d=>GL 124 MN (Hd (n+1) (BB (n+1))) (DP n) (λw f hv hJ t k a c hd hT=>iha w f hv hJ t k a c hd hT) w f d.vl d.f6 r _ _ K.2 oM d.f4) (λ_=>⟨BH.mono,tQ⟩) (λe w2 f2 he L=>⟨C,e,f2,C,(by simp[Bo,SP.need,A3,he,h1,W,Y,h4,h5,h6,D,J]),L⟩) ?_;rintro⟨O,Q⟩ U Z F;dsimp only at F ⊢;have hnl:=CE F;refine Kz (p:=∃rb,U=some ⟨rb,0,none⟩) (λw f d=>by rcases (d.row _ (.head _)).2 with ⟨_,_,h9⟩|⟨ob,_,h9,_⟩;(dsimp only at h9;omega);exact⟨ob,h9⟩) λhob=>?_;obtain⟨rb,rfl⟩:=hob;refine bE 0 C C<|Aa 1 (λ_=>Bv [1] Ef C (λ_ h=>.tail _ h)<|Ak C<|Aa 2 (λb3=>λ_=>?_))
   all_goals
    refine Bv [2] Ef C (λ_ h=>.tail _ h)<|Ak C<|yT 0 6 1 C C C dC<|Kz (p:=Q.length=O.len*6∧∀v∈Q,v.oneCell'=true) (λw f d=>⟨BH.len d.f0,BH.one' d.f0⟩) λ⟨hxl,hx1⟩=>nK 0 0 C C Pn C C C C C C hxl hx1 oM (λ_ _=>C) oM oM λands2 cnds2=>BI (λw f=>BH w f (G.cons O) (GQ G.op G.ln G.co G.tx G.nm and1 G.kids.len cnd1++Q)) (λw f d=>BH.cons' d.f1 d.f0) BH.mono<|Xg (λw f=>Bc w f (G.cons O) ands2 cnds2) Bc.mono (λw f d=>G8 d d.f0)<|Aa 1 (λ_=>Bv [1] Ef C (λ_ h=>.tail _ h)<|Ak C ?_);exact Dn C C (eC Bj C C) (λw f d=>A9 _ t _ _ _ _ _ _)<|Aa 1 (λ_=>Bv [1] Ef C (λ_ h=>.tail _ h)<|Ak C<|Ae 2 [0] (y<|λ_=>Bv [1] Ef C (λ_ h=>.tail _ h)<|BG<|Aa 4 (λ_=>A5 (λw f d=>Ao C (Ab C Bb d.k0 C)) (λw f d=>⟨(⟨14,t.ln,t.co,[],0,(G.cons O)⟩,ands2,cnds2),f,(by simp[nV,Nd.app_len,N.one,N.cons,Nd.len,Nat.add_comm]),(by simp[Bo,SP.need,A3,h1,W,Y,h4,h5,h6,D,J,F]),d.exm,⟨d.f0,tQ⟩⟩))))
  refine Aa 6 (λ_=>Ap 145 C C (λh8=>?_) (λh8=>?_));obtain rfl:=beq_iff_eq.1 h8;refine Aa 2 (λ_=>Ae 4 [1] (y<|λ_=>AZ C C (eC AE C C) (λw2 f2 he L=>⟨C,_,f2,C,(by simp[Bo,SP.need,A3,he,h1,W,Y,h4,h5,h6,h7]),L⟩) λD=>Aa 20 (λ_=>?_)));obtain⟨p,pk,r,rfl⟩:=Fo.cases1 l (by have:=dT D;omega);have hge:0<r.len:=by have h9:=dT D;simp only[Fo.len] at h9;omega
  have hlr:r.len+1≤100000:=hlen;refine cW 0 C<|JN 1 C<|Hr 0 C ?_;rintro⟨eb0,eo0,k0a,k0c⟩ rfl;refine Cq [1] Aj (rd [0,1,2,3,4,7,8] (.br 5 (.br 6 (.br 9 (.br 10 (.br 11 (.br 12 .fin .fin) .fin) .fin) .fin) (.br 9 (.br 6 (.br 10 (.br 11 (.br 12 .fin .fin) .fin) .fin) .fin) .fin)) .fin)) C kR<|By 6 [0,100,0] (y<|aI (by simp only[Fo.len];omega)<|y2<|λ_=>Iz C C C (λw hK=>Cd C C C KR)<|Ak C ?_);refine JA C C (eC Dp C C) (λw f d=>ihx w f d.vl d.f5 p pk _ _ K.1 d.f0) (λ_=>⟨Bc.mono,tQ⟩) (λe w2 f2 he L=>⟨C,e,f2,C,(by simp[Bo,SP.need,A3,he,h1,W,Y,h4,h5,h6,h7,D]),L⟩) ?_;rintro⟨G,and1,cnd1⟩ J;dsimp only at J ⊢;refine Aa 1 (λ_=>Ar [1] C<|Cl C ?_ ?_);refine Aa 2 (λb3=>λ_=>Ar [2] C<|Ak C<|XT C C (eC De C C) (λw f d=>GL 124 MN (Hd (n+1) (BB (n+1))) (DP n) (λw f hv hJ t k a c hd hT=>iha w f hv hJ t k a c hd hT) w f d.vl d.f6 r _ _ K.2 oM d.f4) (λ_=>⟨BH.mono,tQ⟩) (λe w2 f2 he L=>⟨C,e,f2,C,(by simp[Bo,SP.need,A3,he,h1,W,Y,h4,h5,h6,h7,D,J]),L⟩) ?_);rintro⟨O,Q⟩ U Z F;dsimp only at F ⊢;have hnl:=CE F;refine Kz (p:=∃rb,U=some ⟨rb,0,none⟩) (λw f d=>by rcases (d.row _ (.head _)).2 with ⟨_,_,h9⟩|⟨ob,_,h9,_⟩;(dsimp only at h9;omega);exact⟨ob,h9⟩) λhob=>?_;obtain⟨rb,rfl⟩:=hob;refine bE 0 C C<|Aa 1 (λ_=>?_)
  rotate_left
  refine Ak C<|XT C C (eC De C C) (λw f d=>GL 124 MN (Hd (n+1) (BB (n+1))) (DP n) (λw f hv hJ t k a c hd hT=>iha w f hv hJ t k a c hd hT) w f d.vl d.f6 r _ _ K.2 oM d.f4) (λ_=>⟨BH.mono,tQ⟩) (λe w2 f2 he L=>⟨C,e,f2,C,(by simp[Bo,SP.need,A3,he,h1,W,Y,h4,h5,h6,h7,D,J]),L⟩) ?_;rintro⟨O,Q⟩ U Z F;dsimp only at F ⊢;have hnl:=CE F;refine Kz (p:=∃rb,U=some ⟨rb,0,none⟩) (λw f d=>by rcases (d.row _ (.head _)).2 with ⟨_,_,h9⟩|⟨ob,_,h9,_⟩;(dsimp only at h9;omega);exact⟨ob,h9⟩) λhob=>?_;obtain⟨rb,rfl⟩:=hob;refine bE 0 C C<|Aa 1 (λ_=>Bv [1] Ef C (λ_ h=>.tail _ h)<|Ak C<|Aa 2 (λb3=>λ_=>?_))
  rotate_left
  refine Aa 8 (λ_=>Ap 166 C C (λh9=>?_) (λh9=>?_));obtain rfl:=beq_iff_eq.1 h9;refine Aa 5 (λ_=>?_);rcases Fo.single l with ⟨p,pk,rfl⟩|hne
  refine JN 0 C<|Hr 0 C ?_;rintro⟨eb0,eo0,k0a,k0c⟩ rfl;refine Ae 4 [1] (y<|λ_=>AZ C C (eC AE C C) (λw2 f2 he L=>⟨C,_,f2,C,(by simp[Fo.len] at he),L⟩) λD=>Aa 18 (λ_=>Cq [1] Aj (rd [0,1,2,3,4] (.br 5 (.br 6 (.br 7 (.br 8 .fin .fin) .fin) .fin) .fin)) C kR<|By 5 [0,100,0] (y<|aI (by simp only[Fo.len];omega)<|y2<|λ_=>Ak C ?_)));refine JA C C (eC Dp C C) (λw f d=>ihx w f d.vl d.f4 p pk _ _ K.1 d.f0) (λ_=>⟨Bc.mono,tQ⟩) (λe w2 f2 he L=>⟨C,e,f2,C,(by simp[Bo,SP.need,A3,he,h1,W,Y,h4,h5,h6,h7,h8,D]),L⟩) ?_;rintro⟨G,and1,cnd1⟩ J;dsimp only at J ⊢;refine Aa 1 (λ_=>Ar [1] C<|Ak C<|Aa 2 (λb3=>λ_=>Ar [2] C<|Ak C<|Di 0 C C<|BI (λw f=>Bc w f (G.one) (some ⟨b3,0,none⟩) 1) (λw f d=>BH.toF (BH.cons' d.f0 (show BH _ _ .nil [] from C)) d.b0 (Nat.le_refl _)) Bc.mono<|Dn C C (eC Bj C C) (λw f d=>A9 _ t _ _ _ _ _ _)<|Aa 1 (λ_=>?_)));exact Bv [1] Ef C (λ_ h=>.tail _ h)<|Ak C<|Ae 2 [0] (y<|λ_=>Bv [1] Ef C (λ_ h=>.tail _ h)<|BG<|Aa 4 (λ_=>A5 (λw f d=>Ao C (Ab C Bb d.k0 C)) (λw f d=>⟨(⟨16,t.ln,t.co,[],0,(G.one)⟩,(some ⟨b3,0,none⟩),1),f,C,(by simp[Bo,SP.need,A3,h1,W,Y,h4,h5,h6,h7,h8,D,J]),d.exm,⟨d.f0,tQ⟩⟩)));exact Ae 4 [1] (y<|λ_=>AZ C C (eC AE C C) (λw2 f2 he L=>⟨C,_,f2,C,(by rw[cA (.inl C) hne]),L⟩) λD=>absurd (by have h9:=beq_iff_eq.1 D;omega) hne);refine Aa 6 (λ_=>Ap 166 C C (λh10=>?_) (λh10=>?_));obtain rfl:=beq_iff_eq.1 h10;refine Aa 2 (λ_=>?_);rcases Fo.single l with ⟨p,pk,rfl⟩|hne
  refine JN 0 C<|Hr 0 C ?_;rintro⟨eb0,eo0,k0a,k0c⟩ rfl;refine Ae 4 [1] (y<|λ_=>AZ C C (eC AE C C) (λw2 f2 he L=>⟨C,_,f2,C,(by simp[Fo.len] at he),L⟩) λD=>Aa 20 (λ_=>Cq [1] Aj (rd [0,1,2,3,4] (.br 5 (.br 6 (.br 7 (.br 8 .fin .fin) .fin) .fin) .fin)) C kR<|By 5 [0,100,0] (y<|aI (by simp only[Fo.len];omega)<|y2<|λ_=>Ak C ?_)));refine JA C C (eC Dp C C) (λw f d=>ihx w f d.vl d.f4 p pk _ _ K.1 d.f0) (λ_=>⟨Bc.mono,tQ⟩) (λe w2 f2 he L=>⟨C,e,f2,C,(by simp[Bo,SP.need,A3,he,h1,W,Y,h4,h5,h6,h7,h8,h9,D]),L⟩) ?_;rintro⟨G,and1,cnd1⟩ J;dsimp only at J ⊢;refine Aa 1 (λ_=>Ar [1] C<|Ak C<|Aa 2 (λb3=>λ_=>Ar [2] C<|Ak C<|Di 0 C C<|BI (λw f=>Bc w f (G.one) (some ⟨b3,0,none⟩) 1) (λw f d=>BH.toF (BH.cons' d.f0 (show BH _ _ .nil [] from C)) d.b0 (Nat.le_refl _)) Bc.mono<|Dn C C (eC Bj C C) (λw f d=>A9 _ t _ _ _ _ _ _)<|Aa 1 (λ_=>?_)));exact Bv [1] Ef C (λ_ h=>.tail _ h)<|Ak C<|Ae 2 [0] (y<|λ_=>Bv [1] Ef C (λ_ h=>.tail _ h)<|BG<|Aa 4 (λ_=>A5 (λw f d=>Ao C (Ab C Bb d.k0 C)) (λw f d=>⟨(⟨17,t.ln,t.co,[],0,(G.one)⟩,(some ⟨b3,0,none⟩),1),f,C,(by simp[Bo,SP.need,A3,h1,W,Y,h4,h5,h6,h7,h8,h9,D,J]),d.exm,⟨d.f0,tQ⟩⟩)));exact Ae 4 [1] (y<|λ_=>AZ C C (eC AE C C) (λw2 f2 he L=>⟨C,_,f2,C,(by rw[cA (.inr C) hne]),L⟩) λD=>absurd (by have h9:=beq_iff_eq.1 D;omega) hne);exact Ae 7 [1] (y<|λ_=>wD C C (eC UO C C) (pe:=λe=>e=(t.ln,t.co)) (T:=74) (λw f d=>(Ig w t _).mono (λ_ _ h=>h.elim) λ_ w2 ⟨h1,W⟩=>⟨_,f,h1,C,C9.of_ext W d.vl⟩) (λe w2 f2 he L=>by subst he;exact⟨C,_,f2,C,(by simp[Bo,SP.need,A3,h1,W,Y,h4,h5,h6,h7,h8,h9,h10]),L⟩))
  all_goals
   refine Bv [2] Ef C (λ_ h=>.tail _ h)<|Ak C<|yT 0 6 1 C C C dC<|Kz (p:=Q.length=O.len*6∧∀v∈Q,v.oneCell'=true) (λw f d=>⟨BH.len d.f0,BH.one' d.f0⟩) λ⟨hxl,hx1⟩=>nK 0 0 C C Pn C C C C C C hxl hx1 oM (λ_ _=>C) oM oM λands2 cnds2=>BI (λw f=>BH w f (G.cons O) (GQ G.op G.ln G.co G.tx G.nm and1 G.kids.len cnd1++Q)) (λw f d=>BH.cons' d.f1 d.f0) BH.mono<|Xg (λw f=>Bc w f (G.cons O) ands2 cnds2) Bc.mono (λw f d=>G8 d d.f0)<|Aa 1 (λ_=>Bv [1] Ef C (λ_ h=>.tail _ h)<|Ak C ?_);exact Dn C C (eC Bj C C) (λw f d=>A9 _ t _ _ _ _ _ _)<|Aa 1 (λ_=>Bv [1] Ef C (λ_ h=>.tail _ h)<|Ak C<|Ae 2 [0] (y<|λ_=>Bv [1] Ef C (λ_ h=>.tail _ h)<|BG<|Aa 4 (λ_=>A5 (λw f d=>Ao C (Ab C Bb d.k0 C)) (λw f d=>⟨(⟨15,t.ln,t.co,[],0,(G.cons O)⟩,ands2,cnds2),f,(by simp[nV,Nd.app_len,N.one,N.cons,Nd.len,Nat.add_comm]),(by simp[Bo,SP.need,A3,h1,W,Y,h4,h5,h6,h7,D,J,F]),d.exm,⟨d.f0,tQ⟩⟩))))

theorem Ui(w:wO)(d:Gl w)(tx:lU):AX prog 84 #[S pL,S ([32]++tx++[32])] w λv w'=>v=.bool (My tx)∧AW w w':=He w d _ _ dC
theorem Ss(n:Nat)(ih:∀n',n=n'+1→∀ (w:wO) (f:Fq) (_:Vl w f) (_:Dm w f) (t:Aq) (k:Fo) (a:oA) (c:Nat),DP n' t k→Bq w f k a c→BV prog 50 #[fV t a k.len c] w (H7 (BB (n'+1) t k) w f) (HX 74 (BB (n'+1) t k) w f))(iha:∀n',n=n'+1→∀ (w:wO) (f:Fq) (_:Vl w f) (_:Dm w f) (t:Aq) (k:Fo) (a:oA) (c:Nat),DP n' t k→Bq w f k a c→BV prog 124 #[fV t a k.len c] w (H7 (Hd (n'+1) (BB (n'+1)) t k) w f) (HX 74 (Hd (n'+1) (BB (n'+1)) t k) w f))(w:wO)(f:Fq)(hv:Vl w f)(hJ:Dm w f)(t:Aq)(k:Fo)(ka:oA)(kc:Nat)(hp:DP n t k)(hL:Bq w f k ka kc) :
  BV prog 50 #[fV t ka k.len kc] w (H7 (BB (n+1) t k) w f) (HX 74 (BB (n+1) t k) w f):=by
 refine TV (X:=X0 w f) (H:=[]) (R:=[]) (B:=[]) (Fs:=[λw f=>Bq w f k ka kc,λw f=>Dm w f]) (f:=f) func50 C C C (Be hv ⟨hL,hJ,tQ⟩ ⟨Bq.mono,Dm.mono,tQ⟩)<|Ae 21 [1] (λb1=>λb2=>y<|λ_=>Ap 8 C C (λK=>?_) (λK=>?_));exact Ae 16 [1,1,0] (y<|y<|y<|λ_=>A5 (λw f d=>Ao C (Ab C Bb d.k0 C)) (λw f d=>⟨(⟨1,t.ln,t.co,[],t.nm,.nil⟩,none,0),f,C,(by unfold BB;simp[SP.need,A3,K]),d.exm,⟨⟨Nat.zero_le _,.inl C⟩,tQ⟩⟩));refine Aa 7 (λ_=>Ap 17 C C (λL=>?_) (λL=>?_));exact Ae 7 [1,1] (y<|y<|λ_=>Dn C C (eC Bj C C) (λw f d=>A9 _ t _ _ _ _ _ _)<|Ae 6 [0] (y<|λ_=>A5 (λw f d=>Ao C (Ab C Bb d.k0 C)) (λw f d=>⟨(⟨2,t.ln,t.co,t.tx,0,.nil⟩,none,0),f,C,(by unfold BB;simp[SP.need,A3,K,L]),d.exm,⟨⟨Nat.zero_le _,.inl C⟩,tQ⟩⟩)));refine Aa 7 (λ_=>Ap 24 C C (λO=>?_) (λO=>?_));exact Ae 7 [1,1] (y<|y<|λ_=>Dn C C (eC Bj C C) (λw f d=>A9 _ t _ _ _ _ _ _)<|Ae 6 [0] (y<|λ_=>A5 (λw f d=>Ao C (Ab C Bb d.k0 C)) (λw f d=>⟨(⟨3,t.ln,t.co,t.tx,0,.nil⟩,none,0),f,C,(by unfold BB;simp[SP.need,A3,K,L,O]),d.exm,⟨⟨Nat.zero_le _,.inl C⟩,tQ⟩⟩)));refine Aa 7 (λ_=>Ap 31 C C (λU=>?_) (λU=>?_));exact Ae 7 [1,1] (y<|y<|λ_=>Dn C C (eC Bj C C) (λw f d=>A9 _ t _ _ _ _ _ _)<|Ae 6 [0] (y<|λ_=>A5 (λw f d=>Ao C (Ab C Bb d.k0 C)) (λw f d=>⟨(⟨6,t.ln,t.co,t.tx,0,.nil⟩,none,0),f,C,(by unfold BB;simp[SP.need,A3,K,L,O,U]),d.exm,⟨⟨Nat.zero_le _,.inl C⟩,tQ⟩⟩)));refine Aa 7 (λ_=>Ap 38 C C (λW=>?_) (λW=>?_));refine Aa 2 (λ_=>Cq [0,1] Aj (.rd 0 (.rd 1 (.br 2 (.br 3 .fin .fin) .fin))) C kR<|By 2 [1,1] (y<|y<|λ_=>Ak C<|Dn C C (eC O0 C C) (λw f d=>Ej _ (Dm.gl d.f1) t _ hp.1.1 hp.1.2)<|Aa 1 (λ_=>Ar [0,1] C<|Ak C<|AZ C C (eC AE C C) (λw2 f2 he Y=>⟨C,_,f2,C,(by unfold BB;simp[SP.need,A3,he,K,L,O,U,W]),Y⟩) λJ=>Aa 1 (λ_=>?_))));exact Ar [0,1] C<|BG<|Ae 7 [1,1] (y<|y<|λ_=>Dn C C (eC Bj C C) (λw f d=>A9 _ t _ _ _ _ _ _)<|Ae 6 [0] (y<|λ_=>A5 (λw f d=>Ao C (Ab C Bb d.k0 C)) (λw f d=>⟨(⟨5,t.ln,t.co,t.tx,0,.nil⟩,none,0),f,C,(by unfold BB;simp[SP.need,A3,K,L,O,U,W,J]),d.exm,⟨⟨Nat.zero_le _,.inl C⟩,tQ⟩⟩)));refine Ae 13 [1] (y<|λ_=>Ap 52 C C (λZ=>?_) (λZ=>?_));refine Aa 2 (λ_=>?_);obtain rfl:k=.nil:=Fo.len0 (by have h9:((k.len:Int)==0)=true:=Z;have:=beq_iff_eq.1 h9;omega);exact Ae 2 [1] (y<|λ_=>Dn C C (eC Bj C C) (λw f d=>A9 _ t _ _ _ _ _ _)<|Ae 5 [0] (y<|λ_=>A5 (λw f d=>Ao C (Ab C Bb d.k0 C)) (λw f d=>⟨(⟨4,t.ln,t.co,[],0,.nil⟩,none,0),f,C,(by unfold BB;simp[SP.need,A3,K,L,O,U,W,Z]),d.exm,⟨⟨Nat.zero_le _,.inl C⟩,tQ⟩⟩)));refine Aa 4 (λ_=>?_);obtain⟨h,hk,r,rfl⟩:=Fo.cases1 k (by have h9:((k.len:Int)==0)=false:=Z;have:=beq_eq_false_iff_ne.1 h9;omega);have hp0:=hp;obtain⟨hto,hko,hkl,hdp⟩:=hp;have hkl2:r.len+1≤100000:=hkl
 obtain⟨n,rfl⟩:∃q,n=q+1:=by cases n with|zero=>exact absurd hdp (by simp[Fo.deep])|succ q=>exact⟨q,C⟩
 have htl:=hko.1.2;refine cW 0 C<|JN 1 C<|Hr 0 C ?_;rintro⟨eb,eo,hka,hkc⟩ rfl;refine Cq [0,1] Aj (rd [0,1,2,3,4,5,6] (.br 7 (.br 8 (.rd 9 .fin) .fin) .fin)) C kR<|By 6 [1,100,0,1] (y<|aI (by simp only[Fo.len];omega)<|y2<|y<|λ_=>Iz C C C (λw hK=>Cd C C C KR)<|Ak C<|Aa 2 (λb3=>λ_=>Ar [1,2] C<|Ak C<|Ae 2 [0] (y<|λ_=>Ar [1,2] C<|Bf 1 (λ_=>?_))));refine BG<|Ae 12 [0] (y<|λ_=>Ap 62 C C (λh7=>?_) (λh7=>?_));refine Aa 2 (λ_=>Cq [0,1,2] Aj (rd [0,1,2] (.br 3 (.br 4 .fin .fin) .fin)) C kR<|By 3 [2] (y<|λ_=>Ak C<|Dn C C (eC Ic C C) (λw f d=>CY _ _ _ _)<|Aa 1 (λ_=>Ar [0,1,2] C<|Ak C<|AZ C C (eC AE C C) (λw2 f2 he Y=>⟨C,_,f2,C,(by unfold BB;simp[SP.need,A3,he,K,L,O,U,W,Z,h7]),Y⟩) λJ=>Aa 1 (λ_=>?_))));refine Ar [0,1,2] C<|BG<|Aa 2 (λ_=>Cq [0,2] Aj (rd [0,1,2,3,4] (.br 5 (.br 6 (.br 7 .fin .fin) .fin) .fin)) C kR<|By 5 [1,0] (y<|y<|λ_=>Ak C ?_));refine JA C C (eC De C C) (λw f d=>B8 50 Dp (BB (n+1)) (DP n) (λw f hv hJ t k a c hd hT=>ih n C w f hv hJ t k a c hd hT) w f d.vl d.f5 r _ _ (Du hp0).2 oM d.f3) (λ_=>⟨Bc.mono,tQ⟩) (λe w2 f2 he Y=>⟨C,e,f2,C,(by unfold BB;simp[SP.need,A3,he,K,L,O,U,W,Z,h7,J]),Y⟩) ?_;rintro⟨⟨Q,xnds1⟩,F,G⟩ D;dsimp only at D ⊢;refine Aa 1 (λ_=>Ar [0,2] C<|Ak C<|Dn C C (eC Bj C C) (λw f d=>A9 _ t _ _ _ _ _ _)<|Aa 1 (λ_=>Ar [0,2] C<|Ak C<|Ae 2 [1] (y<|λ_=>Ar [0,2] C<|BG ?_)));exact Aa 4 (λ_=>A5 (λw f d=>Ao C (Ab C Bb d.k1 C)) (λw f d=>⟨(⟨6,t.ln,t.co,h.tx,0,Q⟩,F,G),f,C,(by unfold BB;simp[SP.need,A3,K,L,O,U,W,Z,h7,J,D]),d.exm,⟨d.f0,tQ⟩⟩));refine Ae 4 [0] (y<|λ_=>Dn C C (eC YH C C) (λw f d=>FA _ h _)<|Aa 1 (λ_=>Ap 82 C C (λh8=>?_) (λh8=>?_)));refine Ae 5 [0] (y<|aI (by simp <;> omega)<|aI (by simp <;> omega)<|λ_=>Dn C C (eC xA C C) (λw f d=>Ui _ (Dm.gl d.f5) h.tx)<|Aa 4 (λ_=>Ap 79 C C (λh9=>?_) (λh9=>?_)));refine Ae 8 [2,0] (y<|y<|λ_=>?_);refine JA C C (eC qQ C C) (λw f d=>XN n (ih n C) (iha n C) w f d.vl d.f5 t (.cons h hk r) _ _ h.tx r _ _ (Du hp0).2 oM d.f3) (λ_=>⟨Bc.mono,tQ⟩) (λe w2 f2 he Y=>⟨C,e,f2,C,(by unfold BB;simp[SP.need,A3,he,K,L,O,U,W,Z,h7,h8,h9]),Y⟩) ?_;rintro⟨nd1,and1,cnd1⟩ hnd1;dsimp only at hnd1 ⊢;exact Ae 6 [1] (y<|λ_=>A5 (λw f d=>Ao C (Ab C Bb d.k1 C)) (λw f d=>⟨(nd1,and1,cnd1),f,C,(by unfold BB;simp[SP.need,A3,K,L,O,U,W,Z,h7,h8,h9,hnd1]),d.exm,⟨d.f0,tQ⟩⟩));refine Aa 5 (λ_=>Cq [0,1,2] Aj (rd [0,1,2] (.br 3 (.br 4 .fin .fin) .fin)) C kR<|By 3 [2] (y<|λ_=>Ak C<|Dn C C (eC Ic C C) (λw f d=>CY _ _ _ _)<|Aa 1 (λ_=>Ar [0,1,2] C<|Ak C<|AZ C C (eC AE C C) (λw2 f2 he Y=>⟨C,_,f2,C,(by unfold BB;simp[SP.need,A3,he,K,L,O,U,W,Z,h7,h8,h9]),Y⟩) λJ=>Aa 1 (λ_=>?_))))
 refine Ar [0,1,2] C<|BG<|Aa 2 (λ_=>Cq [0,2] Aj (rd [0,1,2] (.br 3 (.br 4 (.br 5 .fin .fin) .fin) .fin)) C kR<|By 3 [1,1] (y<|y<|λ_=>Ak C ?_));refine JA C C (eC De C C) (λw f d=>B8 50 Dp (BB (n+1)) (DP n) (λw f hv hJ t k a c hd hT=>ih n C w f hv hJ t k a c hd hT) w f d.vl d.f5 (.cons h hk r) _ _ (Du hp0) hkl d.f4) (λ_=>⟨Bc.mono,tQ⟩) (λe w2 f2 he Y=>⟨C,e,f2,C,(by unfold BB;simp[SP.need,A3,he,K,L,O,U,W,Z,h7,h8,h9,J]),Y⟩) ?_;rintro⟨⟨Q,xnds1⟩,F,G⟩ D;dsimp only at D ⊢;refine Aa 1 (λ_=>Ar [0,2] C<|Ak C<|Dn C C (eC Bj C C) (λw f d=>A9 _ t _ _ _ _ _ _)<|Aa 1 (λ_=>Ar [0,2] C<|Ak C<|Ae 2 [1] (y<|λ_=>Ar [0,2] C<|BG ?_)));exact Aa 2 (λ_=>A5 (λw f d=>Ao C (Ab C Bb d.k1 C)) (λw f d=>⟨(⟨8,t.ln,t.co,[],0,Q⟩,F,G),f,C,(by unfold BB;simp[SP.need,A3,K,L,O,U,W,Z,h7,h8,h9,J,D]),d.exm,⟨d.f0,tQ⟩⟩));refine Aa 15 (λ_=>Cq [0,1,2] Aj (rd [0,1,2] (.br 3 (.br 4 .fin .fin) .fin)) C kR<|By 3 [2] (y<|λ_=>Ak C<|Dn C C (eC Ic C C) (λw f d=>CY _ _ _ _)<|Aa 1 (λ_=>Ar [0,1,2] C<|Ak C<|AZ C C (eC AE C C) (λw2 f2 he Y=>⟨C,_,f2,C,(by unfold BB;simp[SP.need,A3,he,K,L,O,U,W,Z,h7,h8]),Y⟩) λJ=>Aa 1 (λ_=>?_))));refine Ar [0,1,2] C<|BG<|Aa 2 (λ_=>Cq [0,2] Aj (rd [0,1,2] (.br 3 (.br 4 (.br 5 .fin .fin) .fin) .fin)) C kR<|By 3 [1,1] (y<|y<|λ_=>Ak C ?_));refine JA C C (eC De C C) (λw f d=>B8 50 Dp (BB (n+1)) (DP n) (λw f hv hJ t k a c hd hT=>ih n C w f hv hJ t k a c hd hT) w f d.vl d.f5 (.cons h hk r) _ _ (Du hp0) hkl d.f4) (λ_=>⟨Bc.mono,tQ⟩) (λe w2 f2 he Y=>⟨C,e,f2,C,(by unfold BB;simp[SP.need,A3,he,K,L,O,U,W,Z,h7,h8,J]),Y⟩) ?_;rintro⟨⟨Q,xnds1⟩,F,G⟩ D;dsimp only at D ⊢;refine Aa 1 (λ_=>Ar [0,2] C<|Ak C<|Dn C C (eC Bj C C) (λw f d=>A9 _ t _ _ _ _ _ _)<|Aa 1 (λ_=>Ar [0,2] C<|Ak C<|Ae 2 [1] (y<|λ_=>Ar [0,2] C<|BG ?_)));exact Aa 2 (λ_=>A5 (λw f d=>Ao C (Ab C Bb d.k1 C)) (λw f d=>⟨(⟨8,t.ln,t.co,[],0,Q⟩,F,G),f,C,(by unfold BB;simp[SP.need,A3,K,L,O,U,W,Z,h7,h8,J,D]),d.exm,⟨d.f0,tQ⟩⟩))
end Go.Proofs.YtnojaendcldjpaaGreatDoor
namespace Go.SP
open Go.SW Go.RowKit
def Mz(l:List lU):List (lU×Value):=l.map λk=>(k,.bool true)
theorem WO(n:lU):∀l:List lU,Gu (Mz l) n=if l.contains n then some (.bool true) else none
 | []=>rfl
 |k::l=>by
   have:=WO n l;simp only[Mz,List.map,Gu,List.contains_cons] at this ⊢
   by_cases hk:n=k
   · subst hk;simp
   · have e:(n==k)=false:=by simpa using hk
     rw[e,this];simp
theorem lkSD(n:lU)(l:List lU):(Gu (Mz l) n).getD (.bool false)=.bool (l.contains n):=by rw[WO];cases l.contains n <;> rfl
theorem lkS0{n:lU}{l:List lU}(h:l.contains n=false):Gu (Mz l) n=none:=by rw[WO,h];rfl
theorem tM:∀{l:List lU},l.Nodup→M5 (Mz l)
 | [],_=>trivial
 |k::l,h=>⟨by
     have d:=List.nodup_cons.1 h;show Gu (Mz l) k=none;rw[WO,if_neg];simpa using d.1,tM (List.nodup_cons.1 h).2⟩
abbrev JO(m:Nat)(l:List lU):wO→Fq→Prop:=λw _=>CW JB w m (Mz l)
variable {m:Nat}
theorem I3{l:List lU}:ED (λb=>b=m) (JO m l):=λ_ _ _ _ h _ d=>h.heap (d m C)
section
variable{s s0 s2:List lU}{op ln co nm:Int}{tx:lU}{k k0 r:Nd}
theorem WJ(h:(op==22)=false):B1 s (.cons op ln co tx nm k .nil)=B1 s k:=by
 simp only[B1,h];show (match B1 s k with|none=>none|some s2=>some s2)=_
 cases B1 s k <;> rfl
theorem Tv(h:(op==22)=true)(d:s.contains tx=false):B1 s (.cons op ln co tx nm k .nil)=B1 (tx::s) k:=by
 simp only[B1,h,d];show (match B1 (tx::s) k with|none=>none|some s2=>some s2)=_
 cases B1 (tx::s) k <;> rfl
theorem bK(h:(op==22)=true)(d:s.contains tx=true):B1 s (.cons op ln co tx nm k .nil)=none:=by
 simp only[B1,h,d];rfl
theorem PG(hk:B1 s0 k0=B1 s (.cons op ln co tx nm k r))(h:(B1 s (.cons op ln co tx nm k .nil)).isSome=true)(D:∀s',B1 s (.cons op ln co tx nm k .nil)=some s'→s'=s2):B1 s0 k0=B1 s2 r:=by
 obtain⟨s',d⟩:=Option.isSome_iff_exists.1 h;obtain rfl:=D s' d;rw[hk,O5,d]
theorem SI(hk:B1 s0 k0=B1 s (.cons op ln co tx nm k r))(h:(B1 s (.cons op ln co tx nm k .nil)).isSome=false):B1 s0 k0=none:=by
 rw[hk,O5]
 cases d:B1 s (.cons op ln co tx nm k .nil) with
 |none=>rfl
 |some _=>rw[d] at h;cases h
end
def qD(P:Program)(d:FuncId)(n:Nat):Prop:=∀(w:wO)(f:Fq)(_:Vl w f)(m:Nat)(seen:List lU),JO m seen w f→f m=0→seen.Nodup→∀(op ln co nm:Int)(tx:lU)(kids:Nd)(D:oA)(nc:Nat),kids.size<n→kids.len≤100000∧kids.ok→Bc w f kids D nc →
 AX P d #[.agg #[.int .i64 op,.int .i64 ln,.int .i64 co,S tx,.int .i64 nm,.slice D kids.len nc],.map (some m)] w (Ny (α:=List lU) (λ_=>.bool (B1 seen (.cons op ln co tx nm kids .nil)).isSome) (λs=>(∀s',B1 seen (.cons op ln co tx nm kids .nil)=some s'→s'=s)∧s.Nodup) (λb=>b=m) (λ_ b=>b=m) (λs=>JO m s) (λ_=>[]) w f)
theorem Fo.all_imp{p q:Aq→Fo→Prop}(h:∀t k,p t k→q t k):∀{d:Fo},d.all p→d.all q
 |.nil,_=>trivial
 |.cons _ _ _,D=>⟨h _ _ D.1,Fo.all_imp h D.2⟩
theorem MK:∀{n:Nat}{t:Aq}{k:Fo},DP n t k→k.all (DP n)
 |0,_,.nil,_=>trivial
 |0,_,.cons _ _ _,h=>absurd h.2.2.2 (by simp[Fo.deep])
 |_+1,_,_,h=>Fo.all_imp (λ_ _ h=>RQ h) (Du h)
theorem VV{n:Nat}{ex:Aq→Fo→R N}{t:Aq}{k:Fo}(h:k.len≠2):Hd n ex t k=.error (t.ln,t.co):=by
 unfold Hd
 split
 · simp[Fo.len] at h
 · rfl
end Go.SP
namespace Go.SP
open Go.SW Go.RowKit
theorem Nd.getN(i:Nat)(x:Nd)(h:i<x.len):∃q:N,x.drop i=q.cons (x.drop (i+1)) :=
 let ⟨op,ln,co,tx,nm,k,e⟩:=Nd.drop_lt i x h
 ⟨⟨op,ln,co,tx,nm,k⟩,e⟩
variable {f:Fq}{i:Nat}{a:oA}{w:wO}
theorem Ct.elem{q:N}:∀{i:Nat}{k:Nd}{j:Nat},Ct w f a j k→k.drop i=q.cons (k.drop (i+1))→∃b off ka kc,a=some ⟨b,off,none⟩∧Cs w f b (off+(j+i)*6) (GQ q.op q.ln q.co q.tx q.nm ka q.kids.len kc)∧Bc w f q.kids ka kc
 |0,k,j,h,e=>by
   have e:k=q.cons (k.drop 1):=e;rw[e] at h;obtain⟨b,off,ka,kc,d,D,F,-⟩:=Ct.head h;exact⟨b,off,ka,kc,d,D,F⟩
 |_+1,.nil,_,_,e=>by cases e
 |i+1,.cons _ _ _ _ _ _ r,j,h,e=>by
   obtain⟨_,_,_,_,_,_,_,G⟩:=Ct.head h;have:=Ct.elem (i:=i) (k:=r) G e;rwa[show j+1+i=j+(i+1) by omega] at this
theorem Bc.elem{q:N}{c:Nat}{k:Nd}(h:Bc w f k a c)(e:k.drop i=q.cons (k.drop (i+1))):∃b off ka kc,a=some ⟨b,off,none⟩∧Cs w f b (off+i*6) (GQ q.op q.ln q.co q.tx q.nm ka q.kids.len kc)∧Bc w f q.kids ka kc:=by
 have:=Ct.elem (Bc.at h) e;rwa[Nat.zero_add] at this
end Go.SP
namespace Go.SP
theorem Fo.nc:∀k:Fo,k=.nil∨∃h hk r,k=.cons h hk r
 |.nil=>.inl C
 |.cons h hk r=>.inr ⟨h,hk,r,C⟩
theorem Fo.most:∀l:Fo,(∃a d b bk c D r,l=.cons a d (.cons b bk (.cons c D r)))∨l.len<3
 |.nil=>.inr (by simp[Fo.len])
 |.cons _ _ .nil=>.inr (by simp[Fo.len])
 |.cons _ _ (.cons _ _ .nil)=>.inr (by simp[Fo.len])
 |.cons a d (.cons b bk (.cons c D r))=>.inl ⟨a,d,b,bk,c,D,r,C⟩
section
variable{n:Nat}{t h:Aq}{hk l:Fo}{b:Bool}{X:R N}
theorem Hu(d:X=.error (t.ln,t.co)):SP.need t b X=.error (t.ln,t.co):=by subst d;cases b <;> rfl
theorem jK(hw:h.tx=[100,97,116,97])(d:l.len<3):C5 n t (.cons h hk l)=.error (t.ln,t.co):=by
 unfold C5;refine Hu ?_;rw[if_pos (by rw[hw];decide)]
 split
 · simp[Fo.len] at d;omega
 · rfl
theorem iW(hw:h.tx=[114,111,111,116])(d:l.len≠3):C5 n t (.cons h hk l)=.error (t.ln,t.co):=by
 unfold C5;refine Hu ?_;rw[if_neg (by rw[hw];decide),if_pos (by rw[hw];decide)]
 split
 · simp[Fo.len] at d
 · rfl
theorem uM(hw:h.tx=[100,101,102])(d:l.len≠2):C5 n t (.cons h hk l)=.error (t.ln,t.co):=by
 unfold C5;refine Hu ?_;rw[if_neg (by rw[hw];decide),if_neg (by rw[hw];decide),if_pos (by rw[hw];decide)]
 split
 · simp[Fo.len] at d
 · rfl
theorem wI(hw:h.tx=[114,101,99])(d:l.len≠2):C5 n t (.cons h hk l)=.error (t.ln,t.co):=by
 unfold C5;refine Hu ?_;rw[if_neg (by rw[hw];decide),if_neg (by rw[hw];decide),if_neg (by rw[hw];decide),if_pos (by rw[hw];decide)]
 split
 · simp[Fo.len] at d
 · rfl
theorem tm_do(hw:h.tx=[100,111])(d:l.len≠1):C5 n t (.cons h hk l)=.error (t.ln,t.co):=by
 unfold C5;refine Hu ?_;rw[if_neg (by rw[hw];decide),if_neg (by rw[hw];decide),if_neg (by rw[hw];decide),if_neg (by rw[hw];decide),if_pos (by rw[hw];decide)]
 split
 · simp[Fo.len] at d
 · rfl
theorem U6(d:(h.tx==[100,97,116,97])=false)(D:(h.tx==[114,111,111,116])=false)(F:(h.tx==[100,101,102])=false)(G:(h.tx==[114,101,99])=false)(J:(h.tx==[100,111])=false):C5 n t (.cons h hk l)=.error (t.ln,t.co):=by
 unfold C5;refine Hu ?_;simp only[d,D,F,G,J];rfl
end
end Go.SP
namespace Go.SP
open Go.SW Go.RowKit
variable {σ:Ba}{f:Fq}{i o off:Nat}{lo x:Operand}{P:Program}{T e ty:tI}{w:wO}
theorem Bt.toF{b c:Nat}{k:Fo}(h:Bt w f (some ⟨b,o,none⟩) i k)(d:k.len≤c):Bq w f k (some ⟨b,o+i*6,none⟩) c:=⟨d,h.imp id λ⟨_,_,D,F⟩=>⟨b,o+i*6,C,by cases D;exact F⟩⟩
theorem Z2{k len b c:Nat}(m:Nat)(D:len=m+2)(F:ev σ x=some (.slice (some ⟨b,off,none⟩) len c))(d:ev σ lo=some (.int .i64 2))(G:c≠2)(J:Hj P T=some (e,k)):AK P σ (.slice T x (some lo) none none) ty w (.slice (some ⟨b,off+2*k,none⟩) m (c-2)) w:=by
 subst D;exact ZA F d J G
section
variable{bk q vk:Fo}{v:Aq}{vs:Nd}
theorem lS(h:Bx bk=match Bx (.cons v vk q) with|none=>none|some x=>some (vs.app x))(D:v.isTypeVar=true):Bx bk=match Bx q with|none=>none|some x=>some ((vs.app (A3 v 31 v.tx .nil).one).app x):=by
 rw[h]
 cases d:Bx q with
 |none=>rw[SN d]
 |some x=>rw[U3 D d];simp only[Nd.app_assoc];rfl
theorem rN(h:Bx bk=match Bx (.cons v vk q) with|none=>none|some x=>some (vs.app x))(d:v.isTypeVar=false):Bx bk=none:=by rw[h,Vy d]
theorem YN:Bx bk=match Bx bk with|none=>none|some x=>some (Nd.nil.app x):=by cases Bx bk <;> rfl
theorem rE(h:Bx bk=match Bx .nil with|none=>none|some x=>some (vs.app x)):Bx bk=some vs:=by rw[h];show some (vs.app .nil)=_;rw[Nd.app_nil]
end
end Go.SP
namespace Go.Proofs.YtnojaendcldjpaaGreatDoor
open Go.SW Go.SP Go.RowKit Go.Proofs.Tryz
theorem XK(n:Nat)(ih:qD prog 153 n)(w:wO)(f:Fq)(hv:Vl w f)(m:Nat)(seen:List lU)(hS:JO m seen w f)(hf:f m=0)(Z:seen.Nodup)(op ln co nm:Int)(tx:lU)(kids:Nd)(na:oA)(nc:Nat)(hm:kids.size<n+1)(hok:kids.len≤100000∧kids.ok)(hN:Bc w f kids na nc) :
  AX prog 153 #[.agg #[iV op,iV ln,iV co,S tx,iV nm,.slice na kids.len nc],.map (some m)] w (Ny (α:=List lU) (λ_=>.bool (B1 seen (.cons op ln co tx nm kids .nil)).isSome) (λs=>(∀s',B1 seen (.cons op ln co tx nm kids .nil)=some s'→s'=s)∧s.Nodup) (λb=>b=m) (λ_ b=>b=m) (λs=>JO m s) (λ_=>[]) w f):=by
 have hkl:=hok.1;refine Gb (X:=⟨λb=>b=m,λb=>b=m,JO m seen,w,f⟩) (H:=[]) (R:=[]) (B:=[]) (Fs:=[λw f=>Bc w f kids na nc]) (f:=f) func153 C C C (JF (M:=λb=>b=m) hv hS I3 (λb hb=>by subst hb;exact⟨CW.lt hS,hf⟩) ⟨hN,tQ⟩ ⟨Bc.mono,tQ⟩)<|Ae 14 [0] (λb1=>y<|λ_=>?_)
 ·
  refine Ap 9 C C (λh1=>?_) (λh1=>?_);refine Ae 7 [0] (y<|λ_=>BN C C (λw f d=>RE (K:=JB) (a:=tx) C C ZW LM rF d.res (tM Z) (lkSD tx seen))<|Aa 2 (λ_=>Ap 13 C C (λh2=>?_) (λh2=>?_)));refine Aa 9 (λ_=>?_);have D:=bK (ln:=ln) (co:=co) (nm:=nm) (k:=kids) h1 h2;exact A5 (Cb C C) (λw f d=>⟨seen,f,(by rw[D];rfl),⟨(λs' h=>by rw[D] at h;cases h <;> rfl),Z⟩,d.exm,(λb h=>.inl h),d.res,tQ⟩);refine Ae 7 [0] (y<|λ_=>yJ (K:=JB) (a:=tx) (l:=Mz seen) (I':=JO m (tx::seen)) C C C C ZW LM C (tM Z) (lkS0 h2) (λw f h=>h) (λw f w2 h d hC hm=>hm) I3<|Ae 12 [0] (y<|λ_=>?_));refine DK (α:=Nat×Nd×List lU) (λx=>x.2.1.len) (λx=>x.1+x.2.1.len=kids.len∧B1 (tx::seen) kids=B1 x.2.2 x.2.1∧x.2.2.Nodup∧x.2.1.ok∧x.2.1.size≤kids.size) (λx=>(E4 1 (.map (some m)) 18 (.slice na kids.len nc) 19 (iV (kids.len:Int)) 20 (iV (x.1:Int)))) (λx=>⟨λb=>b=m,λb=>b=m,JO m x.2.2,w,f⟩) (λx=>[]) (λx=>[]) (λx=>[]) (λx=>[λw f=>Ct w f na x.1 x.2.1]) (0,kids,(tx::seen)) ⟨Nat.zero_add _,C,(List.nodup_cons.2 ⟨by simpa using h2,Z⟩),hok.2,Nat.le_refl _⟩ lE (λw f d=>d.more (B':=[]) (F':=[λw f=>Ct w f na 0 kids]) nE (AR.mem ⟨Bc.at d.f0,tQ⟩) (Au.mem ⟨Ct.mono,tQ⟩) |>.less (.cons _ sR) sR nE (mR [0])) ?_;rintro⟨i,r,s⟩ ⟨hi,hk,G,F,J⟩;dsimp only at hi hk G F J ⊢;refine Aa 6 (λ_=>Ap 21 C C (λh3=>?_) (λh3=>?_));refine Aa 6 (λ_=>?_);have hil:i<kids.len:=by have:=dT h3;omega
  obtain⟨L,O,Q,U,W,k2,r,rfl⟩:=Nd.cases1 r oM;have hi2:i+(r.len+1)=kids.len:=hi;refine Yy 0 C ?_;rintro⟨eb,eo,ka,kc⟩ rfl;refine Ae 11 [100,0,0,0] (aI oM<|y2<|λb2=>y<|y<|λ_=>fN (α:=List lU) (XX:=λ_ _=>False) C C (eC QI C C) (λw f d=>(ih w f d.vl m s d.res (d.mi m C).2.1 G L O Q W U k2 ka kc (by have D:(Nd.cons L O Q U W k2 r).size≤kids.size:=J;simp only[Nd.size] at D;omega) ⟨F.1,F.2.1⟩ d.f0).retP) (λ_=>I3) (λ_=>trivial) (λ_ _ _ _ _ h=>h.elim) ?_);rintro s2 ⟨hs2,Y⟩;refine Aa 3 (λ_=>Ap 27 C C (λh4=>?_) (λh4=>?_));replace h4:=B5 h4;refine Aa 9 (λ_=>Hf<|Aa 2 (λ_=>?_));have D:=(Tv (ln:=ln) (co:=co) (nm:=nm) (k:=kids) h1 h2).trans (SI hk h4)
  rotate_left
  replace h4:=B3 h4;exact Aa 8 (aI ⟨oM,oM⟩<|λ_=>Ce ((i+1,r,s2)) (show r.len<r.len+1 from Nat.lt_succ_self _) ⟨show i+1+r.len=_ by omega,PG hk h4 hs2,Y,F.2.2,show r.size≤kids.size by have D:(Nd.cons L O Q U W k2 r).size≤kids.size:=J;simp only[Nd.size] at D;omega⟩ lE (λw f d=>⟨_,d.less (.cons _ sR) sR nE (mR [1])⟩));refine Aa 3 (λ_=>Df<|Aa 8 (λ_=>?_));obtain rfl:r=.nil:=Nd.len0 (by have:=dF h3;omega);have D:=(Tv (ln:=ln) (co:=co) (nm:=nm) (k:=kids) h1 h2).trans (hk.trans (show B1 s .nil=some s from C));exact A5 (Cb C C) (λw f d=>⟨s,f,(by rw[D];rfl),⟨(λs' h=>by rw[D] at h;cases h <;> rfl),G⟩,d.exm,(λb h=>.inl h),d.res,tQ⟩);refine Ae 13 [0] (y<|λ_=>?_);refine DK (α:=Nat×Nd×List lU) (λx=>x.2.1.len) (λx=>x.1+x.2.1.len=kids.len∧B1 seen kids=B1 x.2.2 x.2.1∧x.2.2.Nodup∧x.2.1.ok∧x.2.1.size≤kids.size) (λx=>(E4 1 (.map (some m)) 18 (.slice na kids.len nc) 19 (iV (kids.len:Int)) 20 (iV (x.1:Int)))) (λx=>⟨λb=>b=m,λb=>b=m,JO m x.2.2,w,f⟩) (λx=>[]) (λx=>[]) (λx=>[]) (λx=>[λw f=>Ct w f na x.1 x.2.1]) (0,kids,seen) ⟨Nat.zero_add _,C,Z,hok.2,Nat.le_refl _⟩ lE (λw f d=>d.more (B':=[]) (F':=[λw f=>Ct w f na 0 kids]) nE (AR.mem ⟨Bc.at d.f0,tQ⟩) (Au.mem ⟨Ct.mono,tQ⟩) |>.less (.cons _ sR) sR nE (mR [0])) ?_;rintro⟨i,r,s⟩ ⟨hi,hk,G,F,J⟩;dsimp only at hi hk G F J ⊢;refine Aa 6 (λ_=>Ap 21 C C (λh2=>?_) (λh2=>?_));refine Aa 6 (λ_=>?_);have hil:i<kids.len:=by have:=dT h2;omega
  obtain⟨L,O,Q,U,W,k2,r,rfl⟩:=Nd.cases1 r oM;have hi2:i+(r.len+1)=kids.len:=hi;refine Yy 0 C ?_;rintro⟨eb,eo,ka,kc⟩ rfl;refine Ae 11 [100,0,0,0] (aI oM<|y2<|λb2=>y<|y<|λ_=>fN (α:=List lU) (XX:=λ_ _=>False) C C (eC QI C C) (λw f d=>(ih w f d.vl m s d.res (d.mi m C).2.1 G L O Q W U k2 ka kc (by have D:(Nd.cons L O Q U W k2 r).size≤kids.size:=J;simp only[Nd.size] at D;omega) ⟨F.1,F.2.1⟩ d.f0).retP) (λ_=>I3) (λ_=>trivial) (λ_ _ _ _ _ h=>h.elim) ?_);rintro s2 ⟨hs2,Y⟩;refine Aa 3 (λ_=>Ap 27 C C (λh3=>?_) (λh3=>?_));replace h3:=B5 h3;refine Aa 9 (λ_=>Hf<|Aa 2 (λ_=>?_));have D:=(WJ (ln:=ln) (co:=co) (nm:=nm) (tx:=tx) (k:=kids) h1).trans (SI hk h3)
  rotate_left
  replace h3:=B3 h3;exact Aa 8 (aI ⟨oM,oM⟩<|λ_=>Ce ((i+1,r,s2)) (show r.len<r.len+1 from Nat.lt_succ_self _) ⟨show i+1+r.len=_ by omega,PG hk h3 hs2,Y,F.2.2,show r.size≤kids.size by have D:(Nd.cons L O Q U W k2 r).size≤kids.size:=J;simp only[Nd.size] at D;omega⟩ lE (λw f d=>⟨_,d.less (.cons _ sR) sR nE (mR [1])⟩));refine Aa 3 (λ_=>Df<|Aa 8 (λ_=>?_));obtain rfl:r=.nil:=Nd.len0 (by have:=dF h2;omega);have D:=(WJ (ln:=ln) (co:=co) (nm:=nm) (tx:=tx) (k:=kids) h1).trans (hk.trans (show B1 s .nil=some s from C));exact A5 (Cb C C) (λw f d=>⟨s,f,(by rw[D];rfl),⟨(λs' h=>by rw[D] at h;cases h <;> rfl),G⟩,d.exm,(λb h=>.inl h),d.res,tQ⟩)
  all_goals
   exact A5 (Cb C C) (λw f d=>⟨s2,f,(by rw[D];rfl),⟨(λs' h=>by rw[D] at h;cases h <;> rfl),Y⟩,d.exm,(λb h=>.inl h),d.res,tQ⟩)

theorem Pc:∀n,qD prog 153 n
 |0=>λw f d m seen D F G op ln co nm tx kids J nc h=>by omega
 |n+1=>λw f d m seen D F G op ln co nm tx kids J nc K L O=>XK n (Pc n) w f d m seen D F G op ln co nm tx kids J nc K L O
theorem X1(n:Nat)(ihx:∀ (w:wO) (f:Fq) (_:Vl w f) (_:Dm w f) (t:Aq) (k:Fo) (a:oA) (c:Nat),DP n t k→Bq w f k a c→BV prog 50 #[fV t a k.len c] w (H7 (BB (n+1) t k) w f) (HX 74 (BB (n+1) t k) w f))(w:wO)(f:Fq)(hv:Vl w f)(hJ:Dm w f)(t:Aq)(k:Fo)(ka:oA)(kc:Nat)(hp:DP n t k)(hL:Bq w f k ka kc) :
  BV prog 124 #[fV t ka k.len kc] w (H7 (Hd (n+1) (BB (n+1)) t k) w f) (HX 74 (Hd (n+1) (BB (n+1)) t k) w f):=by
 refine TV (X:=X0 w f) (H:=[]) (R:=[]) (B:=[]) (Fs:=[λw f=>Bq w f k ka kc,λw f=>Dm w f]) (f:=f) func124 C C C (Be hv ⟨hL,hJ,tQ⟩ ⟨Bq.mono,Dm.mono,tQ⟩)<|Aa 7 (λb1=>λb2=>λ_=>?_);have L:=MK hp;rcases Fo.two k with ⟨p,pk,b,bk,rfl⟩|U
 refine JN 0 C<|Hr 0 C ?_;rintro⟨eb0,eo0,k0a,k0c⟩ rfl;refine MY 1 C ?_;rintro⟨k1a,k1c⟩;refine Cq [0,1] Aj (.rd 0 (.rd 1 (.br 2 (rd [3,4,5,6,7,8] (.br 9 .fin .fin)) .fin))) C kR<|By 2 [1,1] (y<|y<|λ_=>Ak C<|Dn C C (eC GK C C) (λw f d=>Cp _ t _)<|Aa 1 (λ_=>Ar [0,1] C<|Bf 1 (λ_=>Iy 7 C (λO=>?_) (λO=>?_))));refine By 5 [1] (y<|λ_=>Ak C<|AZ C C (eC AE C C) (λW f2 he J=>⟨C,_,f2,C,(by simp[Fo.len] at he),J⟩) λF=>Aa 1 (λ_=>Ar [0,1] C<|BG<|Ae 7 [1,101,0] (y<|aI (by simp only[Fo.len];omega)<|y2<|λ_=>?_)));refine JA C C (eC Qo C C) (λw f d=>Qe n w f d.vl d.f6 p pk _ _ L.1 d.f2) (λ_=>⟨Bc.mono,tQ⟩) (λe W f2 he J=>⟨C,e,f2,C,(by simp[Hd,SP.need,A3,he,O,F]),J⟩) ?_;rintro⟨D,Y,Z⟩ G;dsimp only at G ⊢;refine Ae 5 [0] (λb3=>y<|λ_=>Cq [0,1,2] Aj (rd [0,1,2,3,4] (.br 5 (.br 6 (.br 7 .fin .fin) .fin) .fin)) C kR<|By 5 [2,101,0,0] (y<|aI (by simp only[Fo.len];omega)<|y2<|y<|λ_=>Ak C<|mmp (K:=JB) C C λm=>Aa 1 (λ_=>Ar [0,1,2] C<|Ak C<|fN (α:=List lU) (val:=λ_=>.bool (B1 [] D.one).isSome) (q:=λ_=>True) (MI':=λ_ b=>b=m) (I':=λs=>JO m s) (F':=λ_=>[]) (XX:=λ_ _=>False) C C (eC QI C C) (λw f d=>((Pc (D.kids.size+1) w f d.vl m [] d.res.2 (d.mi m (.inr C)).2.1 List.nodup_nil D.op D.ln D.co D.nm D.tx D.kids Y Z (Nat.lt_succ_self _) (YC n p pk D L.1 G) d.f0).mono λv W ⟨x,f2,O,h2,h3,h4,h5,h6⟩=>⟨x,f2,O,tQ,h3.mono (λb hb=>.inr hb),(λb hb=>(h4 b hb).imp .inr id),h5,h6⟩).retP) (λ_=>I3) (λ_=>trivial) (λ_ _ _ _ _ h=>h.elim) ?_)));rintro s1 -;refine Aa 1 (λ_=>Ar [0,1,2] C<|Ak C<|AZ C C (eC AE C C) (λW f2 he J=>⟨C,_,f2,C,(by simp[Hd,SP.need,A3,he,O,F,G]),J⟩) λhn2=>Aa 1 (λ_=>Ar [0,1,2] C<|BG<|Aa 2 (λ_=>Cq [0,2] Aj (rd [0,1,2,3,4,5] (.br 6 (.br 7 (.br 8 (.br 9 .fin .fin) .fin) .fin) .fin)) C kR<|By 6 [1,0,1,100,0] (y<|y<|y<|aI (by simp only[Fo.len];omega)<|y2<|λ_=>?_))));refine Ak C ?_;refine JA C C (eC Dp C C) (λw f d=>ihx w f d.vl d.f7 b bk _ _ L.2.1 d.f1) (λ_=>⟨Bc.mono,tQ⟩) (λe W f2 he J=>⟨C,e,f2,C,(by simp[Hd,SP.need,A3,he,O,F,hn2,G]),J⟩) ?_;rintro⟨nd2,and2,cnd2⟩ Q;dsimp only at Q ⊢;refine Aa 1 (λ_=>Ar [0,2] C<|Ak C<|Aa 2 (λb4=>λ_=>Ar [1,3] C<|Ak C<|Di 0 C C<|BI (λw f=>Bc w f (D.cons (nd2.one)) (some ⟨b4,0,none⟩) 2) (λw f d=>BH.toF (BH.cons' d.f1 (BH.cons' d.f0 (show BH _ _ .nil [] from C))) d.b0 (Nat.le_refl _)) Bc.mono<|Dn C C (eC Bj C C) (λw f d=>A9 _ t _ _ _ _ _ _)<|Aa 1 (λ_=>?_)));exact Bv [0,2] Ef C (λ_ h=>.tail _ h)<|Ak C<|Ae 2 [1] (y<|λ_=>Bv [0,2] Ef C (λ_ h=>.tail _ h)<|BG<|Aa 2 (λ_=>A5 (λw f d=>Ao C (Ab C Bb d.k1 C)) (λw f d=>⟨(⟨18,t.ln,t.co,[],0,(D.cons (nd2.one))⟩,(some ⟨b4,0,none⟩),2),f,C,(by simp[Hd,SP.need,A3,O,F,hn2,G,Q]),d.exm,⟨d.f0,tQ⟩⟩)))
 refine Bf 5 (λ_=>Ak C<|AZ C C (eC AE C C) (λW f2 he J=>⟨C,_,f2,C,(by simp[Hd,SP.need,O]),J⟩) λF=>?_)
 cases F
 refine Cq [0,1] Aj (.rd 0 (.rd 1 (.br 2 (rd [3,4,5,6,7,8] (.br 9 .fin .fin)) .fin))) C kR<|By 2 [1,1] (y<|y<|λ_=>Ak C<|Dn C C (eC GK C C) (λw f d=>Cp _ t _)<|Aa 1 (λ_=>Ar [0,1] C<|Bf 1 (λ_=>Iy 7 C (λO=>?_) (λO=>?_))));exact By 5 [1] (y<|λ_=>Ak C<|AZ C C (eC AE C C) (λW f2 he J=>⟨C,_,f2,C,(by exact VV U),J⟩) λF=>absurd (by simp at F;omega) U);refine Bf 5 (λ_=>Ak C<|AZ C C (eC AE C C) (λW f2 he J=>⟨C,_,f2,C,(by exact VV U),J⟩) λF=>?_)
 cases F
theorem Mf:∀n,∀(w:wO)(f:Fq)(_:Vl w f)(_:Dm w f)(t:Aq)(k:Fo)(a:oA)(c:Nat),DP n t k→Bq w f k a c→BV prog 50 #[fV t a k.len c] w (H7 (BB (n+1) t k) w f) (HX 74 (BB (n+1) t k) w f)
 |0=>Ss 0 (λ_ d=>by cases d) (λ_ d=>by cases d)
 |n+1=>Ss (n+1) (λn' h=>by cases h;exact Mf n) (λn' h=>by cases h;exact X1 n (Mf n))
theorem Sg(n:Nat)(ih:∀n',n=n'+1→∀ (w:wO) (f:Fq) (_:Vl w f) (_:Dm w f) (t:Aq) (k:Fo) (a:oA) (c:Nat),DP n' t k→Bq w f k a c→BV prog 49 #[fV t a k.len c] w (H7 (CN (n'+1) t k) w f) (HX 74 (CN (n'+1) t k) w f))(w:wO)(f:Fq)(hv:Vl w f)(hJ:Dm w f)(t:Aq)(k:Fo)(ka:oA)(kc:Nat)(hp:DP n t k)(hL:Bq w f k ka kc) :
  BV prog 49 #[fV t ka k.len kc] w (H7 (CN (n+1) t k) w f) (HX 74 (CN (n+1) t k) w f):=by
 refine TV (X:=X0 w f) (H:=[]) (R:=[]) (B:=[]) (Fs:=[λw f=>Bq w f k ka kc,λw f=>Dm w f]) (f:=f) func49 C C C (Be hv ⟨hL,hJ,tQ⟩ ⟨Bq.mono,Dm.mono,tQ⟩)<|Ae 10 [1] (λb1=>λb2=>y<|λ_=>Dn C C (eC GK C C) (λw f d=>Cp _ t _)<|Aa 3 (λ_=>Ap 11 C C (λO=>?_) (λO=>?_)));replace O:=B5 O;refine Ae 5 [1] (y<|λ_=>Dn C C (eC YW C C) (λw f d=>IX _ t _ hp.1.1)<|Aa 2 (λ_=>Ap 13 C C (λQ=>?_) (λQ=>?_)));exact Ae 7 [1,1] (y<|y<|λ_=>Dn C C (eC Bj C C) (λw f d=>A9 _ t _ _ _ _ _ _)<|Ae 6 [0] (y<|λ_=>A5 (λw f d=>Ao C (Ab C Bb d.k0 C)) (λw f d=>⟨(⟨31,t.ln,t.co,t.tx,0,.nil⟩,none,0),f,C,(by unfold CN;simp[SP.need,A3,O,Q]),d.exm,⟨⟨Nat.zero_le _,.inl C⟩,tQ⟩⟩)));refine Aa 4 (λ_=>Cq [0,1] Aj (.rd 0 (.rd 1 (.br 2 (.br 3 .fin .fin) .fin))) C kR<|By 2 [1,1] (y<|y<|λ_=>Ak C<|Dn C C (eC V9 C C) (λw f d=>FO _ (Dm.gl d.f1) t _ hp.1.1 hp.1.2)<|Aa 1 (λ_=>Ar [0,1] C<|Ak C<|AZ C C (eC AE C C) (λZ f2 he U=>⟨C,_,f2,C,(by unfold CN;simp[SP.need,A3,he,O,Q]),U⟩) λJ=>Aa 1 (λ_=>?_))));exact Ar [0,1] C<|BG<|Ae 7 [1,1] (y<|y<|λ_=>Dn C C (eC Bj C C) (λw f d=>A9 _ t _ _ _ _ _ _)<|Ae 5 [0] (y<|λ_=>A5 (λw f d=>Ao C (Ab C Bb d.k0 C)) (λw f d=>⟨(⟨32,t.ln,t.co,t.tx,0,.nil⟩,none,0),f,C,(by unfold CN;simp[SP.need,A3,O,Q,J]),d.exm,⟨⟨Nat.zero_le _,.inl C⟩,tQ⟩⟩)));replace O:=B3 O;refine Ae 10 [1,1] (y<|y<|λ_=>AZ C C (eC AE C C) (λZ f2 he U=>⟨C,_,f2,C,(by obtain rfl:k=.nil:=Fo.len0 (by have:=dF he;omega);unfold CN;simp[O]),U⟩) λJ=>Aa 3 (λ_=>?_));obtain⟨h,hk,r,rfl⟩:=Fo.cases1 k (by have:=dT J;omega);have hp0:=hp;obtain⟨hto,hko,hkl,hdp⟩:=hp;have hkl2:r.len+1≤100000:=hkl;obtain⟨n,rfl⟩:∃q,n=q+1:=by cases n with|zero=>exact absurd hdp (by simp[Fo.deep])|succ q=>exact⟨q,C⟩
 refine cW 0 C<|JN 1 C<|Hr 0 C ?_;rintro⟨eb,eo,hka,hkc⟩ rfl;refine Cq [0,1] Aj (rd [0,1,2,3,4,5,6] (.br 7 (.br 8 (.rd 9 .fin) .fin) .fin)) C kR<|By 6 [1,100,0,1] (y<|aI (by first|(simp only[Fo.len];omega)|(dsimp only;omega)|omega)<|y2<|y<|λ_=>Iz C C C (λw hK=>Cd C C C KR)<|Ak C<|Aa 2 (λb3=>λ_=>Ar [1,2] C<|Ak C<|Ae 2 [0] (y<|λ_=>Ar [1,2] C<|Bf 1 (λ_=>?_))));refine BG<|Ae 13 [0] (y<|λ_=>Dn C C (eC Kd C C) (λw f d=>Dz _ h _ _)<|Aa 3 (λ_=>Ap 51 C C (λQ=>?_) (λQ=>?_)));refine Ae 6 [2] (y<|λ_=>AZ C C (eC AE C C) (λZ f2 he U=>⟨C,_,f2,C,(by unfold CN;simp[SP.need,A3,he,O,J,Q]),U⟩) λL=>Aa 5 (λ_=>?_));refine JA C C (eC De C C) (λw f d=>B8 49 Kk (CN (n+1)) (DP n) (λw f hv hJ t k a c hd hT=>ih n C w f hv hJ t k a c hd hT) w f d.vl d.f5 r _ _ (Du hp0).2 oM d.f3) (λ_=>⟨Bc.mono,tQ⟩) (λe Z f2 he U=>⟨C,e,f2,C,(by unfold CN;simp[SP.need,A3,he,O,J,Q,L]),U⟩) ?_;rintro⟨⟨F,Y⟩,K,G⟩ D;dsimp only at D ⊢;refine Aa 4 (λ_=>?_);have hnl:=CE D;have hge:2≤r.len:=by have:=dT L;omega
 obtain⟨q,hq⟩:=Nd.getN (r.len-1) F oM;refine Hh (α:=Nat×Nat×oA×Nat) (λx=>K=some ⟨x.1,x.2.1,none⟩) (λx=>[⟨x.1,x.2.1+((r.len:Int)-1).toNat*6,GQ q.op q.ln q.co q.tx q.nm x.2.2.1 q.kids.len x.2.2.2⟩]) (λx=>[λw f=>Bc w f q.kids x.2.2.1 x.2.2.2]) (λw f d=>let ⟨b,off,ka,kc,O,Q,W⟩:=Bc.elem d.f0 hq;⟨(b,off,ka,kc),O,(λe he=>by cases he with|head=>(rw[show ((r.len:Int)-1).toNat=r.len-1 by omega];exact Q)|tail _ h=>cases h),AR.mem ⟨W,tQ⟩⟩) (λx=>Au.mem ⟨Bc.mono,tQ⟩) ?_;rintro⟨eb5,eo5,qa,qc⟩ rfl;refine Ae 19 [100,0,0] (aI ⟨oM,oM⟩<|aI (by first|(simp only[Fo.len];omega)|(dsimp only;omega)|omega)<|y2<|λb4=>y<|aI ⟨oM,oM⟩<|λ_=>?_);refine DK (α:=Nat×N×oA×Nat) (λx=>x.1) (λx=>x.1+1≤F.len∧Hq t (F.drop x.1)=some x.2.1) (λx=>(E5 1 (pB b1) 2 (pB b2) 6 (.slice (some (⟨eb5,eo5,none⟩:Addr)) F.len G) 7 (pB b4) 8 (iV ((x.1:Int)-1)))) (λx=>X0 w f) (λx=>[⟨b4,[iV x.2.1.op,iV x.2.1.ln,iV x.2.1.co,S x.2.1.tx,iV x.2.1.nm,.slice x.2.2.1 x.2.1.kids.len x.2.2.2],101,true⟩,⟨b2,zN,101,true⟩,⟨b1,[iV t.k,iV t.ln,iV t.co,iV t.nm,S t.tx,.slice (some (⟨eb,eo,none⟩:Addr)) (Fo.cons h hk r).len kc],119,true⟩]) (λx=>[]) (λx=>[]) (λx=>[λw f=>Bc w f F (some (⟨eb5,eo5,none⟩:Addr)) G,λw f=>Bc w f x.2.1.kids x.2.2.1 x.2.2.2]) (r.len-1,q,qa,qc) ⟨show r.len-1+1≤F.len by omega,TB hq oM⟩ (lu5 C C C C (Eq.trans (b:=some (Value.int .i64 ((r.len:Int)-2))) C (by dsimp only;rw[show ((r.len:Int)-2)=((r.len-1:Nat):Int)-1 by omega]))) (λw f d=>d.less (sK (sD (sK (sK sZ)))) sR nE (mR [1,0])) ?_;rintro⟨j,o,oa,oc⟩ ⟨hj,har⟩;dsimp only at hj har ⊢;refine Aa 7 (λ_=>Ap 68 C C (λW=>?_) (λW=>?_));refine Aa 5 (λ_=>?_);obtain⟨j,rfl⟩:∃q,j=q+1:=⟨j-1,by have:=dT W;omega⟩;obtain⟨q2,hq2⟩:=Nd.getN j F oM;refine Hh (α:=Nat×Nat×oA×Nat) (λx=>(some (⟨eb5,eo5,none⟩:Addr))=some ⟨x.1,x.2.1,none⟩) (λx=>[⟨x.1,x.2.1+(((j+1:Nat):Int)-1).toNat*6,GQ q2.op q2.ln q2.co q2.tx q2.nm x.2.2.1 q2.kids.len x.2.2.2⟩]) (λx=>[λw f=>Bc w f q2.kids x.2.2.1 x.2.2.2]) (λw f d=>let ⟨b,off,ka,kc,O,Q,W⟩:=Bc.elem d.f0 hq2;⟨(b,off,ka,kc),O,(λe he=>by cases he with|head=>(rw[show (((j+1:Nat):Int)-1).toNat=j by omega];exact Q)|tail _ h=>cases h),AR.mem ⟨W,tQ⟩⟩) (λx=>Au.mem ⟨Bc.mono,tQ⟩) ?_;rintro⟨eb6,eo6,qa2,qc2⟩ h44;obtain⟨rfl,rfl⟩:eb5=eb6∧eo5=eo6:=by cases h44;exact⟨C,C⟩
 refine Cq [1,2] Aj (rd [0,1,2,3,4] (.br 5 (.br 6 (.br 7 (.br 8 .fin .fin) .fin) .fin) .fin)) C kR<|By 5 [1,100,0] (y<|aI (by first|(simp only[Fo.len];omega)|(dsimp only;omega)|omega)<|y2<|λ_=>Ak C<|Ae 2 [0] (y<|λ_=>Ar [1,2] C<|Ak C<|Aa 2 (λb5=>λ_=>Ar [2,3] C<|Ak C<|Di 0 C C ?_)));exact BI (λw f=>Bc w f (q2.cons (o.one)) (some ⟨b5,0,none⟩) 2) (λw f d=>BH.toF (BH.cons' d.f0 (BH.cons' d.f2 (show BH _ _ .nil [] from C))) d.b0 (Nat.le_refl _)) Bc.mono<|Dn C C (eC Bj C C) (λw f d=>A9 _ t _ _ _ _ _ _)<|Aa 1 (λ_=>Bv [1,2] Ef C (λ_ h=>.tail _ h)<|Ak C<|Ae 2 [0] (y<|λ_=>Bv [1,2] Ef C (λ_ h=>.tail _ h)<|BG<|Aa 7 (aI ⟨oM,oM⟩<|λ_=>Ce ((j,A3 t 32 [45,62] (q2.cons o.one),(some ⟨b5,0,none⟩),2)) (Nat.lt_succ_self _) ⟨show j+1≤F.len by omega,Tw hq2 har⟩ (lu5 C C C C (Eq.trans (b:=some (Value.int .i64 ((((j+1:Nat):Int)-1)-1))) C (by dsimp only;rw[show ((((j+1:Nat):Int)-1)-1)=(j:Int)-1 by omega]))) (λw f d=>⟨_,d.less (sK (sK (sK sZ))) sR nE (mR [2,0])⟩))));refine Aa 3 (λ_=>Df<|Ae 11 [0,1] (y<|y<|λ_=>?_));obtain rfl:j=0:=by have:=dF W;omega
 have har2:Hq t F=some o:=har;exact A5 (λw f d=>Ao C (Ab C Bb d.k1 C)) (λw f d=>⟨(o,oa,oc),f,C,(by unfold CN;simp[SP.need,O,J,Q,L,D,har2]),d.exm,⟨d.f1,tQ⟩⟩);refine Ae 4 [0] (y<|λ_=>Dn C C (eC Kd C C) (λw f d=>Dz _ h _ _)<|Aa 3 (λ_=>Ap 80 C C (λW=>?_) (λW=>?_)));refine Aa 1 (λ_=>Cq [0,1,2] Aj (.rd 0 (.rd 1 (.br 2 (.br 3 .fin .fin) .fin))) C kR<|By 2 [2] (y<|λ_=>Ak C<|Dn C C (eC Ic C C) (λw f d=>CY _ _ _ _)<|Aa 1 (λ_=>Ar [0,1,2] C<|Ak C<|AZ C C (eC AE C C) (λZ f2 he U=>⟨C,_,f2,C,(by unfold CN;simp[SP.need,A3,he,O,J,Q,W]),U⟩) λL=>Aa 1 (λ_=>?_))));refine Ar [0,1,2] C<|BG<|Aa 3 (λ_=>Cq [0,2] Aj (rd [0,1,2,3,4] (.br 5 (.br 6 (.br 7 .fin .fin) .fin) .fin)) C kR<|By 5 [1,0] (y<|y<|λ_=>Ak C ?_));refine JA C C (eC De C C) (λw f d=>B8 49 Kk (CN (n+1)) (DP n) (λw f hv hJ t k a c hd hT=>ih n C w f hv hJ t k a c hd hT) w f d.vl d.f5 r _ _ (Du hp0).2 oM d.f3) (λ_=>⟨Bc.mono,tQ⟩) (λe Z f2 he U=>⟨C,e,f2,C,(by unfold CN;simp[SP.need,A3,he,O,J,Q,W,L]),U⟩) ?_;rintro⟨⟨F,Y⟩,K,G⟩ D;dsimp only at D ⊢;refine Aa 1 (λ_=>Ar [0,2] C<|Ak C<|Dn C C (eC Bj C C) (λw f d=>A9 _ t _ _ _ _ _ _)<|Aa 1 (λ_=>Ar [0,2] C<|Ak C<|Ae 2 [1] (y<|λ_=>Ar [0,2] C<|BG ?_)));exact Aa 2 (λ_=>A5 (λw f d=>Ao C (Ab C Bb d.k1 C)) (λw f d=>⟨(⟨32,t.ln,t.co,h.tx,0,F⟩,K,G),f,C,(by unfold CN;simp[SP.need,A3,O,J,Q,W,L,D]),d.exm,⟨d.f0,tQ⟩⟩));refine Ae 4 [0] (y<|λ_=>Dn C C (eC Kd C C) (λw f d=>Dz _ h _ _)<|Aa 1 (λ_=>Ap 90 C C (λh4=>?_) (λh4=>?_)));refine Ae 11 [2] (y<|λ_=>AZ C C (eC AE C C) (λZ f2 he U=>⟨C,_,f2,C,(by unfold CN;simp[SP.need,A3,he,O,J,Q,W,h4]),U⟩) λL=>Aa 4 (λ_=>Cq [0,2] Aj (rd [0,1,2,3,4] (.br 5 (.br 6 (.br 7 .fin .fin) .fin) .fin)) C kR<|By 5 [1,0] (y<|y<|λ_=>Ak C ?_)));refine JA C C (eC De C C) (λw f d=>B8 49 Kk (CN (n+1)) (DP n) (λw f hv hJ t k a c hd hT=>ih n C w f hv hJ t k a c hd hT) w f d.vl d.f5 r _ _ (Du hp0).2 oM d.f3) (λ_=>⟨Bc.mono,tQ⟩) (λe Z f2 he U=>⟨C,e,f2,C,(by unfold CN;simp[SP.need,A3,he,O,J,Q,W,h4,L]),U⟩) ?_;rintro⟨⟨F,Y⟩,K,G⟩ D;dsimp only at D ⊢;refine Aa 1 (λ_=>Ar [0,2] C<|Ak C<|Dn C C (eC Bj C C) (λw f d=>A9 _ t _ _ _ _ _ _)<|Aa 1 (λ_=>Ar [0,2] C<|Ak C<|Ae 2 [1] (y<|λ_=>Ar [0,2] C<|BG ?_)));exact Aa 2 (λ_=>A5 (λw f d=>Ao C (Ab C Bb d.k1 C)) (λw f d=>⟨(⟨32,t.ln,t.co,h.tx,0,F⟩,K,G),f,C,(by unfold CN;simp[SP.need,A3,O,J,Q,W,h4,L,D]),d.exm,⟨d.f0,tQ⟩⟩));refine Ae 1 [0] (y<|λ_=>Dn C C (eC Kd C C) (λw f d=>Dz _ h _ _)<|Aa 4 (λ_=>Ap 87 C C (λh5=>?_) (λh5=>?_)))
 refine Ae 5 [2] (y<|λ_=>AZ C C (eC AE C C) (λZ f2 he U=>⟨C,_,f2,C,(by unfold CN;simp[SP.need,A3,he,O,J,Q,W,h4,h5]),U⟩) λL=>Aa 4 (λ_=>Cq [0,2] Aj (rd [0,1,2,3,4] (.br 5 (.br 6 (.br 7 .fin .fin) .fin) .fin)) C kR<|By 5 [1,0] (y<|y<|λ_=>Ak C ?_)));refine JA C C (eC De C C) (λw f d=>B8 49 Kk (CN (n+1)) (DP n) (λw f hv hJ t k a c hd hT=>ih n C w f hv hJ t k a c hd hT) w f d.vl d.f5 r _ _ (Du hp0).2 oM d.f3) (λ_=>⟨Bc.mono,tQ⟩) (λe Z f2 he U=>⟨C,e,f2,C,(by unfold CN;simp[SP.need,A3,he,O,J,Q,W,h4,h5,L]),U⟩) ?_;rintro⟨⟨F,Y⟩,K,G⟩ D;dsimp only at D ⊢;refine Aa 1 (λ_=>Ar [0,2] C<|Ak C<|Dn C C (eC Bj C C) (λw f d=>A9 _ t _ _ _ _ _ _)<|Aa 1 (λ_=>Ar [0,2] C<|Ak C<|Ae 2 [1] (y<|λ_=>Ar [0,2] C<|BG ?_)));exact Aa 2 (λ_=>A5 (λw f d=>Ao C (Ab C Bb d.k1 C)) (λw f d=>⟨(⟨32,t.ln,t.co,h.tx,0,F⟩,K,G),f,C,(by unfold CN;simp[SP.need,A3,O,J,Q,W,h4,h5,L,D]),d.exm,⟨d.f0,tQ⟩⟩));refine Aa 1 (λ_=>Cq [0,1,2] Aj (.rd 0 (.rd 1 (.br 2 (.rd 3 (.rd 4 (.br 5 (.rd 6 (.br 7 .fin .fin)) .fin))) .fin))) C kR<|By 2 [2,0] (y<|y<|λ_=>Ak C<|Dn C C (eC V9 C C) (λw f d=>FO _ (Dm.gl d.f5) h _ hko.1.1 hko.1.2)<|Aa 1 (λ_=>Ar [0,1,2] C<|Bf 1 (λ_=>Iy 46 C (λh6=>?_) (λh6=>?_)))));refine Bf 1 (λ_=>Ak C<|Dn C C (eC Ic C C) (λw f d=>CY _ _ _ _)<|Aa 1 (λ_=>Ar [0,1,2] C<|Bf 1 (λ_=>Ak C<|AZ C C (eC AE C C) (λZ f2 he U=>⟨C,_,f2,C,(by unfold CN;simp[SP.need,A3,he,O,J,Q,W,h4,h5,h6]),U⟩) λL=>Aa 1 (λ_=>Ar [0,1,2] C ?_))));refine BG<|Aa 3 (λ_=>Cq [0,2] Aj (rd [0,1,2,3,4] (.br 5 (.br 6 (.br 7 .fin .fin) .fin) .fin)) C kR<|By 5 [1,0] (y<|y<|λ_=>Ak C ?_));refine JA C C (eC De C C) (λw f d=>B8 49 Kk (CN (n+1)) (DP n) (λw f hv hJ t k a c hd hT=>ih n C w f hv hJ t k a c hd hT) w f d.vl d.f5 r _ _ (Du hp0).2 oM d.f3) (λ_=>⟨Bc.mono,tQ⟩) (λe Z f2 he U=>⟨C,e,f2,C,(by unfold CN;simp[SP.need,A3,he,O,J,Q,W,h4,h5,h6,L]),U⟩) ?_;rintro⟨⟨F,Y⟩,K,G⟩ D;dsimp only at D ⊢;refine Aa 1 (λ_=>Ar [0,2] C<|Ak C<|Dn C C (eC Bj C C) (λw f d=>A9 _ t _ _ _ _ _ _)<|Aa 1 (λ_=>Ar [0,2] C<|Ak C<|Ae 2 [1] (y<|λ_=>Ar [0,2] C<|BG ?_)));exact Aa 2 (λ_=>A5 (λw f d=>Ao C (Ab C Bb d.k1 C)) (λw f d=>⟨(⟨32,t.ln,t.co,h.tx,0,F⟩,K,G),f,C,(by unfold CN;simp[SP.need,A3,O,J,Q,W,h4,h5,h6,L,D]),d.exm,⟨d.f0,tQ⟩⟩));refine Bf 1 (λ_=>Ak C<|Aa 2 (λ_=>Ar [0,1,2] C<|Bf 1 (λ_=>Ak C<|AZ C C (eC AE C C) (λZ f2 he U=>⟨C,_,f2,C,(by unfold CN;simp[SP.need,A3,he,O,J,Q,W,h4,h5,h6]),U⟩) λL=>?_)))
 cases L
theorem LK:∀n,∀(w:wO)(f:Fq)(_:Vl w f)(_:Dm w f)(t:Aq)(k:Fo)(a:oA)(c:Nat),DP n t k→Bq w f k a c→BV prog 49 #[fV t a k.len c] w (H7 (CN (n+1) t k) w f) (HX 74 (CN (n+1) t k) w f)
 |0=>Sg 0 (λ_ d=>by cases d)
 |n+1=>Sg (n+1) (λn' h=>by cases h;exact LK n)
theorem UB(n:Nat)(w:wO)(f:Fq)(Y:Vl w f)(Z:Dm w f)(t:Aq)(k:Fo)(ka:oA)(kc:Nat)(hp:DP (n+1) t k)(hL:Bq w f k ka kc) :
  BV prog 47 #[fV t ka k.len kc] w (H7 (G2 (n+1) t k) w f) (HX 74 (G2 (n+1) t k) w f):=by
 refine TV (X:=X0 w f) (H:=[]) (R:=[]) (B:=[]) (Fs:=[λw f=>Bq w f k ka kc,λw f=>Dm w f]) (f:=f) func47 C C C (Be Y ⟨hL,Z,tQ⟩ ⟨Bq.mono,Dm.mono,tQ⟩)<|Aa 7 (λb1=>λb2=>λ_=>?_)
 ·
  rcases Fo.nc k with rfl|⟨h,hk,r,rfl⟩
  refine Cq [0,1] Aj (.rd 0 (.rd 1 (.br 2 (rd [3,4,5,6,7,8,9,10,11,12,13,14,15,16,17,18,19,20,21,22,23] (.br 24 .fin .fin)) .fin))) C kR<|By 2 [1,1] (y<|y<|λ_=>Ak C<|Dn C C (eC GK C C) (λw f D=>Cp _ t _)<|Aa 1 (λ_=>Ar [0,1] C<|Bf 1 (λ_=>Iy 6 C (λK=>?_) (λK=>?_))));refine By 6 [1] (y<|λ_=>Iy 12 C (λG=>?_) (λG=>?_));simp[Fo.len] at G;refine Bf 14 (λ_=>?_)
  rotate_left
  refine Bf 20 (λ_=>?_)
  rotate_left
  have hkl:=hp.2.2.1;have hkl2:r.len+1≤100000:=hkl;refine cW 0 C<|JN 1 C<|Hr 0 C ?_;rintro⟨eb,eo,hka,hkc⟩ rfl;refine Cq [0,1] Aj (.rd 0 (.rd 1 (.br 2 (rd [3,4,5,6,7,8,9,10,11,12,13,14,15,16,17,18,19,20,21,22,23] (.br 24 .fin .fin)) .fin))) C kR<|By 2 [1,1] (y<|y<|λ_=>Ak C<|Dn C C (eC GK C C) (λw f D=>Cp _ t _)<|Aa 1 (λ_=>Ar [0,1] C<|Bf 1 (λ_=>Iy 6 C (λK=>?_) (λK=>?_))));refine By 6 [1] (y<|λ_=>Iy 12 C (λG=>?_) (λG=>?_));refine By 9 [1,100,0] (y<|aI (by first|(simp only[Fo.len];omega)|omega)<|y2<|λ_=>Iy 21 C (λQ=>?_) (λQ=>?_));refine By 5 [1] (y<|λ_=>Ak C<|AZ C C (eC AE C C) (λW f2 he J=>⟨C,_,f2,C,(by simp[G2,SP.need,A3,he,K,G,Q]),J⟩) λd=>Aa 1 (λ_=>Ar [0,1] C<|BG<|Aa 2 (λ_=>Cq [1] Aj (rd [0,1,2,3,4,5,6,7,8,9] (.br 10 (.br 11 (.br 12 .fin .fin) .fin) .fin)) C kR<|By 9 [0,0,100,4,0] (y<|y<|aI (by first|(simp only[Fo.len];omega)|omega)<|y2<|y<|λ_=>Iz C C C (λw hK=>Cd C C C KR) ?_))));refine Ak C ?_;refine JA C C (eC De C C) (λw f D=>B8 49 Kk (CN (n+1)) (DP n) (λw f Y Z t k a c hd hT=>LK n w f Y Z t k a c hd hT) w f D.vl D.f5 r _ _ (Du hp).2 oM D.f3) (λ_=>⟨Bc.mono,tQ⟩) (λe W f2 he J=>⟨C,e,f2,C,(by simp[G2,SP.need,A3,he,K,G,Q,d]),J⟩) ?_;rintro⟨⟨U,xnds1⟩,L,O⟩ F;dsimp only at F ⊢;refine Aa 1 (λ_=>Ar [1] C<|Ak C<|Dn C C (eC Bj C C) (λw f D=>A9 _ t _ _ _ _ _ _)<|Aa 1 (λ_=>Ar [1] C<|Ak C<|Ae 2 [0] (y<|λ_=>Ar [1] C<|BG ?_)));exact Aa 2 (λ_=>A5 (λw f D=>Ao C (Ab C Bb D.k0 C)) (λw f D=>⟨(⟨42,t.ln,t.co,h.tx,0,U⟩,L,O),f,C,(by simp[G2,SP.need,A3,K,G,Q,d,F]),D.exm,⟨D.f0,tQ⟩⟩));refine Bf 5 (λ_=>Ak C<|AZ C C (eC AE C C) (λW f2 he J=>⟨C,_,f2,C,(by simp[G2,SP.need,A3,he,K,G,Q]),J⟩) λd=>?_)
  cases d
  have h9:=dF G;simp only[Fo.len] at h9;omega;refine Bf 20 (λ_=>Ak C<|AZ C C (eC AE C C) (λW f2 he J=>⟨C,_,f2,C,(by simp[G2,SP.need,A3,he,K]),J⟩) λd=>?_)
  cases d
  all_goals
   refine Ak C<|AZ C C (eC AE C C) (λW f2 he J=>⟨C,_,f2,C,(by simp[G2]),J⟩) λd=>?_
   cases d

set_option maxHeartbeats 1000000 in
theorem Xy(n:Nat)(w:wO)(f:Fq)(hv:Vl w f)(hJ:Dm w f)(t:Aq)(k:Fo)(ka:oA)(kc:Nat)(hp:DP (n+1) t k)(hL:Bq w f k ka kc) :
  BV prog 26 #[fV t ka k.len kc] w (H7 (C5 (n+1) t k) w f) (HX 74 (C5 (n+1) t k) w f):=by
 have ihx:=Mf n;refine TV (X:=X0 w f) (H:=[]) (R:=[]) (B:=[]) (Fs:=[λw f=>Bq w f k ka kc,λw f=>Dm w f]) (f:=f) func26 C C C (Be hv ⟨hL,hJ,tQ⟩ ⟨Bq.mono,Dm.mono,tQ⟩)<|Aa 7 (λb1=>λb2=>λ_=>?_);rcases Fo.nc k with rfl|⟨h,hk,r,rfl⟩
 refine Cq [0,1] Aj (.rd 0 (.rd 1 (.br 2 (rd [3,4,5,6,7,8,9,10,11,12,13] (.br 14 (.rd 15 (.br 16 .fin .fin)) .fin)) .fin))) C kR<|By 2 [1,1] (y<|y<|λ_=>Ak C<|Dn C C (eC GK C C) (λw f d=>Cp _ t _)<|Aa 1 (λ_=>Ar [0,1] C<|Bf 1 (λ_=>?_)))
 ·
  refine Iy 11 C (λW=>?_) (λW=>?_);refine By 6 [1] (y<|λ_=>Iy 17 C (λQ=>?_) (λQ=>?_));simp[Fo.len] at Q;refine Bf 4 (λ_=>?_)
  rotate_left
  refine Bf 10 (λ_=>?_)
  all_goals
   refine Ak C<|Aa 2 (λ_=>Ar [0,1] C<|Bf 1 (λ_=>Ak C<|AZ C C (eC AE C C) (λZ f2 he G=>⟨C,_,f2,C,(by simp[C5]),G⟩) λJ=>?_))
   cases J
 have hkl:=hp.2.2.1;have hkl2:r.len+1≤100000:=hkl;have F:=(Du hp).2;refine cW 0 C<|JN 1 C<|Hr 0 C ?_;rintro⟨eb,eo,hka,hkc⟩ rfl;refine Cq [0,1] Aj (.rd 0 (.rd 1 (.br 2 (rd [3,4,5,6,7,8,9,10,11,12,13] (.br 14 (.rd 15 (.br 16 .fin .fin)) .fin)) .fin))) C kR<|By 2 [1,1] (y<|y<|λ_=>Ak C<|Dn C C (eC GK C C) (λw f d=>Cp _ t _)<|Aa 1 (λ_=>Ar [0,1] C<|Bf 1 (λ_=>Iy 11 C (λW=>?_) (λW=>?_))));refine By 6 [1] (y<|λ_=>Iy 17 C (λQ=>?_) (λQ=>?_));refine By 4 [1,100,0] (y<|aI (by first|(simp only[Fo.len];omega)|(dsimp only;omega)|omega)<|y2<|λ_=>Ak C<|Dn C C (eC YH C C) (λw f d=>FA _ h _)<|Aa 1 (λ_=>Ar [0,1] C<|Bf 1 (λ_=>Ak C<|AZ C C (eC AE C C) (λZ f2 he G=>⟨C,_,f2,C,(by simp[C5,SP.need,A3,he,W,Q]),G⟩) λJ=>Aa 1 (λ_=>Ar [0,1] C ?_))));refine BG<|Ae 5 [1] (y<|λ_=>BN C C (λw f d=>Cd C C C KR)<|Aa 4 (λ_=>?_));generalize hla:DL (some (⟨eb,eo,none⟩:Addr)) kc 6=la;refine Ae 24 [1,100,4] (y<|aI (by first|(simp only[Fo.len];omega)|(dsimp only;omega)|omega)<|y2<|λ_=>Ap 36 C C (λh3=>?_) (λh3=>?_));refine Aa 2 (λ_=>?_);rcases Fo.most r with ⟨a,ak,b,bk,c,ck,r2,rfl⟩|U
 refine Kz (p:=(Fo.cons a ak (.cons b bk (.cons c ck r2))).len≤kc-1) (λw f d=>d.f3.1) λhcap=>?_;have hcap2:r2.len+3≤kc-1:=hcap;have hkl3:r2.len+3+1≤100000:=hkl2;have hbl:bk.len≤100000:=F.2.1.2.2.1;refine JN 3 C<|Hr 0 C ?_;rintro⟨eb0,eo0,k0a,k0c⟩ rfl;refine MY 1 C ?_;rintro⟨k1a,k1c⟩;refine Cq [0,1] Aj (rd [0,1,2,3,4,5,6] (.br 7 (rd [8,9,10,11,12] (.br 13 (rd [14,15,16,17,18,19,20,21,22] (.br 23 .fin .fin)) .fin)) .fin)) C kR<|By 4 [1] (y<|λ_=>Iy 41 C (λO=>?_) (λO=>?_));refine By 3 [101,0] (aI (by first|(simp only[Fo.len];omega)|(dsimp only;omega)|omega)<|y2<|λ_=>Ak C<|Dn C C (eC V9 C C) (λw f d=>FO _ (Dm.gl d.f10) a _ F.1.1.1 F.1.1.2)<|Aa 1 (λ_=>Ar [0,1] C<|Bf 2 (λ_=>Iy 47 C (λL=>?_) (λL=>?_))));refine By 3 [100,0] (aI (by first|(simp only[Fo.len];omega)|(dsimp only;omega)|omega)<|y2<|λ_=>Ak C<|Dn C C (eC GK C C) (λw f d=>Cp _ b _)<|Aa 1 (λ_=>Ar [0,1] C<|Bf 2 (λ_=>Iy 53 C (λY=>?_) (λY=>?_))));refine By 7 [100,5] (aI (by first|(simp only[Fo.len];omega)|(dsimp only;omega)|omega)<|y2<|λ_=>Ak C<|AZ C C (eC AE C C) (λZ f2 he G=>⟨C,_,f2,C,(by simp[C5,SP.need,A3,he,W,Q,J,h3,O,L,Y]),G⟩) λD=>Aa 1 (λ_=>Ar [0,1] C<|BG<|Ae 18 [100,5] (aI (by first|(simp only[Fo.len];omega)|(dsimp only;omega)|omega)<|y2<|λ_=>BI (λw f=>Bq w f (.cons c ck r2) (some ⟨eb0,eo0+2*6,none⟩) (kc-1-2)) (λw f d=>Bt.toF d.f1 (by show r2.len+1≤_;omega)) Bq.mono<|LY 101 6 ?_)));refine DK (α:=Nat×Fo×Nd×lV×oA×Nat) (λx=>x.2.1.len) (λx=>x.1+x.2.1.len=bk.len∧x.2.2.1.len=x.1∧(Bx bk=match Bx x.2.1 with|none=>none|some y=>some (x.2.2.1.app y))∧x.2.1.all (λt _=>t.ok)) (λx=>(E7 1 (pB b1) 2 (pB b2) 3 (.slice (some (⟨eb0,eo0,none⟩:Addr)) (Fo.cons a ak (.cons b bk (.cons c ck r2))).len (kc-1)) 5 (.slice x.2.2.2.2.1 x.1 x.2.2.2.2.2) 65 (.slice k1a bk.len k1c) 66 (iV (bk.len:Int)) 67 (iV (x.1:Int)))) (λx=>X0 w f) (λx=>[⟨b2,zN,101,true⟩,⟨b1,[iV t.k,iV t.ln,iV t.co,iV t.nm,S t.tx,.slice (some (⟨eb,eo,none⟩:Addr)) (Fo.cons h hk (Fo.cons a ak (.cons b bk (.cons c ck r2)))).len kc],119,true⟩]) (λx=>[⟨101,6,x.2.2.2.2.1,x.2.2.2.2.2,x.1,x.2.2.2.1⟩]) (λx=>[]) (λx=>[λw f=>Bt w f k1a x.1 x.2.1,λw f=>BH w f x.2.2.1 x.2.2.2.1,λw f=>Bt w f (some (⟨eb0,eo0,none⟩:Addr)) 0 (Fo.cons a ak (.cons b bk (.cons c ck r2))),λw f=>Bq w f (.cons c ck r2) (some ⟨eb0,eo0+2*6,none⟩) (kc-1-2),λw f=>Dm w f]) (0,bk,.nil,[],none,0) ⟨Nat.zero_add _,C,YN,Fo.ok.all F.2.1.2.1⟩ lE (λw f d=>d.more (B':=[]) (F':=[λw f=>Bt w f k1a 0 bk,λw f=>BH w f .nil []]) nE (AR.mem ⟨Bq.at d.f1,C,tQ⟩) (Au.mem ⟨Bt.mono,BH.mono,tQ⟩) |>.less (sK (sK sZ)) sR nE (mR [0,1,7,2,13])) ?_;rintro⟨i,q,vs,xs,ra,rc⟩ ⟨hi,hvl,htv,hqo⟩;dsimp only at hi hvl htv hqo ⊢;refine Aa 6 (λ_=>Ap 68 C C (λh7=>?_) (λh7=>?_));refine Aa 6 (λ_=>?_);have hil:i<bk.len:=by have:=dT h7;omega
 obtain⟨v,vk,q,rfl⟩:=Fo.cases1 q oM;have hi2:i+(q.len+1)=bk.len:=hi;refine Hr 0 C ?_;rintro⟨vb,vo,vka,vkc⟩ rfl;refine Ae 8 [100,0,0] (aI (by first|(simp only[Fo.len];omega)|(dsimp only;omega)|omega)<|y2<|λb3=>y<|λ_=>Cq [0,1,2] Aj (.rd 0 (.rd 1 (.br 2 (.br 3 .fin .fin) .fin))) C kR<|By 2 [2,0] (y<|y<|λ_=>Ak C<|Dn C C (eC YW C C) (λw f d=>IX _ v _ hqo.1.1)<|Aa 1 (λ_=>Ar [0,1,2] C<|Ak C<|AZ C C (eC AE C C) (λZ f2 he G=>⟨C,_,f2,C,(by have h9:=rN htv he;simp[C5,SP.need,h9,W,Q,J,h3,O,L,Y,D]),G⟩) λhn3=>Aa 1 (λ_=>?_))));exact Ar [0,1,2] C<|BG<|Ae 7 [0,0] (y<|y<|λ_=>Dn C C (eC Bj C C) (λw f d=>A9 _ v _ _ _ _ _ _)<|Aa 1 (λb4=>λ_=>Dd 0 0 C C Pn C C C C C C C C (λ_ _=>C) oM oM λra2 rc2=>Aa 8 (aI ⟨oM,oM⟩<|λ_=>Ce ((i+1,q,(vs.app (A3 v 31 v.tx .nil).one),(xs++GQ 31 v.ln v.co v.tx 0 none 0 0),ra2,rc2)) (show q.len<q.len+1 from Nat.lt_succ_self _) ⟨show i+1+q.len=_ by omega,show (vs.app (A3 v 31 v.tx .nil).one).len=i+1 by rw[Nd.app_len,hvl];rfl,lS htv hn3,hqo.2⟩ lE (λw f d=>⟨_,(d.more (B':=[]) (F':=[λw f=>BH w f (vs.app (A3 v 31 v.tx .nil).one) (xs++GQ 31 v.ln v.co v.tx 0 none 0 0)]) nE (AR.mem ⟨BH.app (BH.one (k:=.nil) ⟨Nat.zero_le _,.inl C⟩) d.f3,tQ⟩) (Au.mem ⟨BH.mono,tQ⟩)).less (sD (sD (sK (sK sZ)))) sR nE (mR [2,0,5,6,7])⟩))));refine Aa 3 (λ_=>Df<|Aa 3 (λ_=>?_));obtain rfl:q=.nil:=Fo.len0 (by have:=dF h7;omega);have htv2:=rE htv;have hie:i=bk.len:=by have h9:i+0=bk.len:=hi;omega
 subst hvl;refine MY 2 C ?_;rintro⟨k9a,k9c⟩;refine Cq [1] Aj (rd [0,1,2,3,4,5,6,7,8] (.br 9 (.br 10 (.br 11 (.br 12 .fin .fin) .fin) .fin) .fin)) C kR<|By 8 [0,100,4] (y<|aI (by first|(simp only[Fo.len];omega)|(dsimp only;omega)|omega)<|y2<|λ_=>Iz C C C (λw hK=>Z2 (Fo.cons c ck r2).len C C C oM KR)<|Ak C<|XT C C (eC De C C) (λw f d=>GL 47 vM (G2 (n+1)) (DP (n+1)) (λw f hv hJ t k a c hd hT=>UB n w f hv hJ t k a c hd hT) w f d.vl d.f6 (.cons c ck r2) _ _ (Fo.all_imp (λ_ _ h=>RQ h) F.2.2) (by show r2.len+1≤_;omega) d.f5) (λ_=>⟨BH.mono,tQ⟩) (λe Z f2 he G=>⟨C,e,f2,C,(by simp[C5,SP.need,A3,he,W,Q,J,h3,O,L,Y,D,htv2]),G⟩) ?_);rintro⟨nds1,xnds1⟩ ands1 cnds1 hnds1;dsimp only at hnds1 ⊢;have hnl:=CE hnds1;have hnl2:nds1.len=r2.len+1:=hnl;refine Kz (p:=∃rb,ands1=some ⟨rb,0,none⟩) (λw f d=>by rcases (d.row _ (.head _)).2 with ⟨_,_,h9⟩|⟨ob,_,h9,_⟩;(dsimp only at h9;omega);exact⟨ob,h9⟩) λhob=>?_;obtain⟨rb,rfl⟩:=hob;refine bE 0 C C<|Aa 1 (λ_=>Bv [1] Ef C (λ_ h=>.tail _ h)<|Ak C<|Kz (p:=xnds1.length=nds1.len*6∧∀v∈xnds1,v.oneCell'=true) (λw f d=>⟨BH.len d.f0,BH.one' d.f0⟩) λ⟨hxl,hx1⟩=>nK 0 0 C C Pn C C C C C C hxl hx1 oM (λ_ _=>C) oM oM λands2 cnds2=>BI (λw f=>BH w f (vs.app nds1) (xs++xnds1)) (λw f d=>BH.app d.f0 d.f4) BH.mono<|Xg (λw f=>Bc w f (vs.app nds1) ands2 cnds2) Bc.mono (λw f d=>G8 d d.f0)<|Aa 1 (λ_=>Bv [1] Ef C (λ_ h=>.tail _ h) ?_));exact Ak C<|Dn C C (eC Bj C C) (λw f d=>A9 _ t _ _ _ _ _ _)<|Aa 1 (λ_=>Bv [1] Ef C (λ_ h=>.tail _ h)<|Ak C<|Ae 2 [0] (y<|λ_=>Bv [1] Ef C (λ_ h=>.tail _ h)<|BG<|Aa 4 (λ_=>A5 (λw f d=>Ao C (Ab C Bb d.k0 C)) (λw f d=>⟨(⟨41,t.ln,t.co,a.tx,0,(vs.app nds1)⟩,ands2,cnds2),f,(by simp[nV,Nd.app_len,N.one,N.cons,Nd.len,Nat.add_comm]),(by simp[C5,SP.need,A3,W,Q,J,h3,O,L,Y,D,htv2,hnds1]),d.exm,⟨d.f0,tQ⟩⟩))));refine Bf 7 (λ_=>Ak C<|AZ C C (eC AE C C) (λZ f2 he G=>⟨C,_,f2,C,(by simp[C5,SP.need,A3,he,W,Q,J,h3,O,L,Y]),G⟩) λD=>?_)
 cases D
 refine Bf 3 (λ_=>Ak C<|Aa 2 (λ_=>Ar [0,1] C<|Bf 9 (λ_=>Ak C<|AZ C C (eC AE C C) (λZ f2 he G=>⟨C,_,f2,C,(by simp[C5,SP.need,A3,he,W,Q,J,h3,O,L]),G⟩) λD=>?_)))
 cases D
 have h9:=dF O;simp only[Fo.len] at h9;omega;refine Cq [0,1] Aj (rd [0,1,2,3,4,5,6] (.br 7 (rd [8,9,10,11,12] (.br 13 (rd [14,15,16,17,18,19,20,21,22] (.br 23 .fin .fin)) .fin)) .fin)) C kR<|By 4 [1] (y<|λ_=>Iy 41 C (λO=>?_) (λO=>?_));have h9:=dT O;omega;refine Bf 3 (λ_=>Ak C<|Aa 2 (λ_=>Ar [0,1] C<|Bf 5 (λ_=>Ak C<|Aa 2 (λ_=>Ar [0,1] C<|Bf 9 (λ_=>Ak C ?_)))));refine AZ C C (eC AE C C) (λZ f2 he G=>⟨C,_,f2,C,(by exact jK (beq_iff_eq.1 h3) U),G⟩) λD=>?_
 cases D
 refine Aa 7 (λ_=>Ap 96 C C (λO=>?_) (λO=>?_));refine Aa 2 (λ_=>?_);rcases Fo.three r with ⟨a,ak,b,bk,c,ck,rfl⟩|U
 refine JN 3 C<|Hr 0 C ?_;rintro⟨eb0,eo0,k0a,k0c⟩ rfl;refine MY 1 C ?_;rintro⟨k1a,k1c⟩;refine MY 1 C ?_;rintro⟨k2a,k2c⟩;refine Cq [0,1] Aj (rd [0,1,2,3,4,5,6] (.br 7 (.rd 8 (.br 9 .fin .fin)) .fin)) C kR<|By 4 [1] (y<|λ_=>Iy 101 C (λL=>?_) (λL=>?_));refine By 3 [102,0] (aI (by first|(simp only[Fo.len];omega)|(dsimp only;omega)|omega)<|y2<|λ_=>Ak C<|Dn C C (eC O0 C C) (λw f d=>Ej _ (Dm.gl d.f12) a _ F.1.1.1 F.1.1.2)<|Aa 1 (λ_=>Ar [0,1] C<|Bf 1 (λ_=>Ak C<|AZ C C (eC AE C C) (λZ f2 he G=>⟨C,_,f2,C,(by simp[C5,SP.need,A3,he,W,Q,J,h3,O,L]),G⟩) λD=>Aa 1 (λ_=>Ar [0,1] C ?_))));refine BG<|Aa 2 (λ_=>Cq [1] Aj (rd [0,1,2,3,4,5,6,7,8,10,11,12] (.br 9 (.br 13 (.br 14 (.br 15 (.br 16 .fin .fin) .fin) .fin) .fin) .fin)) C kR<|By 12 [0,102,4,101,0,100,0] (y<|aI (by first|(simp only[Fo.len];omega)|(dsimp only;omega)|omega)<|y2<|aI (by first|(simp only[Fo.len];omega)|(dsimp only;omega)|omega)<|y2<|aI (by first|(simp only[Fo.len];omega)|(dsimp only;omega)|omega)<|y2<|λ_=>Ak C ?_));refine JA C C (eC Kk C C) (λw f d=>LK n w f d.vl d.f12 b bk _ _ F.2.1 d.f2) (λ_=>⟨Bc.mono,tQ⟩) (λe Z f2 he G=>⟨C,e,f2,C,(by simp[C5,SP.need,A3,he,W,Q,J,h3,O,L,D]),G⟩) ?_;rintro⟨nd1,and1,cnd1⟩ K;dsimp only at K ⊢;refine Aa 1 (λ_=>Ar [1] C<|Ak C ?_);refine JA C C (eC Dp C C) (λw f d=>ihx w f d.vl d.f13 c ck _ _ F.2.2.1 d.f1) (λ_=>⟨Bc.mono,tQ⟩) (λe Z f2 he G=>⟨C,e,f2,C,(by simp[C5,SP.need,A3,he,W,Q,J,h3,O,L,D,K]),G⟩) ?_;rintro⟨nd2,and2,cnd2⟩ hnd2;dsimp only at hnd2 ⊢;refine Aa 1 (λ_=>Ar [1] C<|Ak C<|Aa 2 (λb3=>λ_=>Ar [2] C<|Ak C<|Di 0 C C<|BI (λw f=>Bc w f (nd1.cons (nd2.one)) (some ⟨b3,0,none⟩) 2) (λw f d=>BH.toF (BH.cons' d.f1 (BH.cons' d.f0 (show BH _ _ .nil [] from C))) d.b0 (Nat.le_refl _)) Bc.mono<|Dn C C (eC Bj C C) (λw f d=>A9 _ t _ _ _ _ _ _)<|Aa 1 (λ_=>?_)));exact Bv [1] Ef C (λ_ h=>.tail _ h)<|Ak C<|Ae 2 [0] (y<|λ_=>Bv [1] Ef C (λ_ h=>.tail _ h)<|BG<|Aa 4 (λ_=>A5 (λw f d=>Ao C (Ab C Bb d.k0 C)) (λw f d=>⟨(⟨43,t.ln,t.co,a.tx,0,(nd1.cons (nd2.one))⟩,(some ⟨b3,0,none⟩),2),f,C,(by simp[C5,SP.need,A3,W,Q,J,h3,O,L,D,K,hnd2]),d.exm,⟨d.f0,tQ⟩⟩)));simp[Fo.len] at L;refine Cq [0,1] Aj (rd [0,1,2,3,4,5,6] (.br 7 (.rd 8 (.br 9 .fin .fin)) .fin)) C kR<|By 4 [1] (y<|λ_=>Iy 101 C (λL=>?_) (λL=>?_));exact absurd (by have h9:=beq_iff_eq.1 L;omega) U;refine Bf 3 (λ_=>Ak C<|Aa 2 (λ_=>Ar [0,1] C<|Bf 1 (λ_=>Ak C<|AZ C C (eC AE C C) (λZ f2 he G=>⟨C,_,f2,C,(by exact iW (beq_iff_eq.1 O) U),G⟩) λD=>?_)))
 cases D
 refine Aa 7 (λ_=>Ap 124 C C (λL=>?_) (λL=>?_));refine Aa 2 (λ_=>?_);rcases Fo.two r with ⟨a,ak,b,bk,rfl⟩|U
 refine JN 3 C<|Hr 0 C ?_;rintro⟨eb0,eo0,k0a,k0c⟩ rfl;refine MY 1 C ?_;rintro⟨k1a,k1c⟩;refine Cq [0,1] Aj (rd [0,1,2,3,4,5,6] (.br 7 (.rd 8 (.br 9 .fin .fin)) .fin)) C kR<|By 4 [1] (y<|λ_=>Iy 129 C (λY=>?_) (λY=>?_));refine By 3 [101,0] (aI (by first|(simp only[Fo.len];omega)|(dsimp only;omega)|omega)<|y2<|λ_=>Ak C<|Dn C C (eC O0 C C) (λw f d=>Ej _ (Dm.gl d.f10) a _ F.1.1.1 F.1.1.2)<|Aa 1 (λ_=>Ar [0,1] C<|Bf 1 (λ_=>Ak C<|AZ C C (eC AE C C) (λZ f2 he G=>⟨C,_,f2,C,(by simp[C5,SP.need,A3,he,W,Q,J,h3,O,L,Y]),G⟩) λD=>Aa 1 (λ_=>Ar [0,1] C ?_))));refine BG<|Aa 2 (λ_=>Cq [1] Aj (rd [0,1,2,3,4,5,6,7,8] (.br 9 (.br 10 (.br 11 (.br 12 .fin .fin) .fin) .fin) .fin)) C kR<|By 9 [0,101,4,100,0] (y<|aI (by first|(simp only[Fo.len];omega)|(dsimp only;omega)|omega)<|y2<|aI (by first|(simp only[Fo.len];omega)|(dsimp only;omega)|omega)<|y2<|λ_=>Ak C ?_));refine JA C C (eC Dp C C) (λw f d=>ihx w f d.vl d.f10 b bk _ _ F.2.1 d.f0) (λ_=>⟨Bc.mono,tQ⟩) (λe Z f2 he G=>⟨C,e,f2,C,(by simp[C5,SP.need,A3,he,W,Q,J,h3,O,L,Y,D]),G⟩) ?_;rintro⟨nd1,and1,cnd1⟩ K;dsimp only at K ⊢;refine Aa 1 (λ_=>Ar [1] C<|Ak C<|Aa 2 (λb3=>λ_=>Ar [2] C<|Ak C<|Di 0 C C<|BI (λw f=>Bc w f (nd1.one) (some ⟨b3,0,none⟩) 1) (λw f d=>BH.toF (BH.cons' d.f0 (show BH _ _ .nil [] from C)) d.b0 (Nat.le_refl _)) Bc.mono<|Dn C C (eC Bj C C) (λw f d=>A9 _ t _ _ _ _ _ _)<|Aa 1 (λ_=>?_)));exact Bv [1] Ef C (λ_ h=>.tail _ h)<|Ak C<|Ae 2 [0] (y<|λ_=>Bv [1] Ef C (λ_ h=>.tail _ h)<|BG<|Aa 4 (λ_=>A5 (λw f d=>Ao C (Ab C Bb d.k0 C)) (λw f d=>⟨(⟨44,t.ln,t.co,a.tx,0,(nd1.one)⟩,(some ⟨b3,0,none⟩),1),f,C,(by simp[C5,SP.need,A3,W,Q,J,h3,O,L,Y,D,K]),d.exm,⟨d.f0,tQ⟩⟩)));simp[Fo.len] at Y;refine Cq [0,1] Aj (rd [0,1,2,3,4,5,6] (.br 7 (.rd 8 (.br 9 .fin .fin)) .fin)) C kR<|By 4 [1] (y<|λ_=>Iy 129 C (λY=>?_) (λY=>?_));exact absurd (by have h9:=beq_iff_eq.1 Y;omega) U;refine Bf 3 (λ_=>Ak C<|Aa 2 (λ_=>Ar [0,1] C<|Bf 1 (λ_=>Ak C<|AZ C C (eC AE C C) (λZ f2 he G=>⟨C,_,f2,C,(by exact uM (beq_iff_eq.1 L) U),G⟩) λD=>?_)))
 cases D
 refine Aa 7 (λ_=>Ap 148 C C (λY=>?_) (λY=>?_));refine Aa 2 (λ_=>?_);rcases Fo.two r with ⟨a,ak,b,bk,rfl⟩|U
 refine JN 3 C<|Hr 0 C ?_;rintro⟨eb0,eo0,k0a,k0c⟩ rfl;refine MY 1 C ?_;rintro⟨k1a,k1c⟩;refine Cq [0,1] Aj (rd [0,1,2,3,4,5,6] (.br 7 (rd [8,9,10,11,12] (.br 13 (.rd 14 (.br 15 .fin .fin)) .fin)) .fin)) C kR<|By 4 [1] (y<|λ_=>Iy 153 C (λh7=>?_) (λh7=>?_));refine By 3 [101,0] (aI (by first|(simp only[Fo.len];omega)|(dsimp only;omega)|omega)<|y2<|λ_=>Ak C<|Dn C C (eC O0 C C) (λw f d=>Ej _ (Dm.gl d.f10) a _ F.1.1.1 F.1.1.2)<|Aa 1 (λ_=>Ar [0,1] C<|Bf 2 (λ_=>Iy 159 C (λh8=>?_) (λh8=>?_))));refine By 3 [100,0] (aI (by first|(simp only[Fo.len];omega)|(dsimp only;omega)|omega)<|y2<|λ_=>Ak C<|BO C C (eC bD C C) (λw f d=>Nw w f d.vl b bk _ _ d.f0)<|Aa 1 (λ_=>Ar [0,1] C<|Bf 1 (λ_=>Ak C<|AZ C C (eC AE C C) (λZ f2 he G=>⟨C,_,f2,C,(by simp[C5,SP.need,A3,he,W,Q,J,h3,O,L,Y,h7,h8]),G⟩) λD=>Aa 1 (λ_=>Ar [0,1] C ?_))));refine BG<|Aa 2 (λ_=>Cq [1] Aj (rd [0,1,2,3,4,5,6,7,8] (.br 9 (.br 10 (.br 11 (.br 12 .fin .fin) .fin) .fin) .fin)) C kR<|By 9 [0,101,4,100,0] (y<|aI (by first|(simp only[Fo.len];omega)|(dsimp only;omega)|omega)<|y2<|aI (by first|(simp only[Fo.len];omega)|(dsimp only;omega)|omega)<|y2<|λ_=>Ak C ?_));refine JA C C (eC Dp C C) (λw f d=>ihx w f d.vl d.f10 b bk _ _ F.2.1 d.f0) (λ_=>⟨Bc.mono,tQ⟩) (λe Z f2 he G=>⟨C,e,f2,C,(by simp[C5,SP.need,A3,he,W,Q,J,h3,O,L,Y,h7,h8,D]),G⟩) ?_;rintro⟨nd1,and1,cnd1⟩ K;dsimp only at K ⊢;refine Aa 1 (λ_=>Ar [1] C<|Ak C<|Aa 2 (λb3=>λ_=>Ar [2] C<|Ak C<|Di 0 C C<|BI (λw f=>Bc w f (nd1.one) (some ⟨b3,0,none⟩) 1) (λw f d=>BH.toF (BH.cons' d.f0 (show BH _ _ .nil [] from C)) d.b0 (Nat.le_refl _)) Bc.mono<|Dn C C (eC Bj C C) (λw f d=>A9 _ t _ _ _ _ _ _)<|Aa 1 (λ_=>?_)));exact Bv [1] Ef C (λ_ h=>.tail _ h)<|Ak C<|Ae 2 [0] (y<|λ_=>Bv [1] Ef C (λ_ h=>.tail _ h)<|BG<|Aa 4 (λ_=>A5 (λw f d=>Ao C (Ab C Bb d.k0 C)) (λw f d=>⟨(⟨45,t.ln,t.co,a.tx,0,(nd1.one)⟩,(some ⟨b3,0,none⟩),1),f,C,(by simp[C5,SP.need,A3,W,Q,J,h3,O,L,Y,h7,h8,D,K]),d.exm,⟨d.f0,tQ⟩⟩)));refine Bf 3 (λ_=>Ak C<|Aa 2 (λ_=>Ar [0,1] C<|Bf 1 (λ_=>Ak C<|AZ C C (eC AE C C) (λZ f2 he G=>⟨C,_,f2,C,(by simp[C5,SP.need,A3,he,W,Q,J,h3,O,L,Y,h7,h8]),G⟩) λD=>?_)))
 cases D
 simp[Fo.len] at h7;refine Cq [0,1] Aj (rd [0,1,2,3,4,5,6] (.br 7 (rd [8,9,10,11,12] (.br 13 (.rd 14 (.br 15 .fin .fin)) .fin)) .fin)) C kR<|By 4 [1] (y<|λ_=>Iy 153 C (λh7=>?_) (λh7=>?_));exact absurd (by have h9:=beq_iff_eq.1 h7;omega) U;refine Bf 3 (λ_=>Ak C<|Aa 2 (λ_=>Ar [0,1] C<|Bf 5 (λ_=>Ak C<|Aa 2 (λ_=>Ar [0,1] C<|Bf 1 (λ_=>Ak C ?_)))));refine AZ C C (eC AE C C) (λZ f2 he G=>⟨C,_,f2,C,(by exact wI (beq_iff_eq.1 Y) U),G⟩) λD=>?_
 cases D
 refine Aa 7 (λ_=>Ap 178 C C (λh7=>?_) (λh7=>?_));refine Aa 2 (λ_=>?_);rcases Fo.single r with ⟨a,ak,rfl⟩|U
 refine JN 3 C<|Hr 0 C ?_;rintro⟨eb0,eo0,k0a,k0c⟩ rfl;refine Ae 4 [1] (y<|λ_=>AZ C C (eC AE C C) (λZ f2 he G=>⟨C,_,f2,C,(by simp[Fo.len] at he),G⟩) λD=>Aa 3 (λ_=>Cq [1] Aj (rd [0,1,2,3] (.br 4 (.br 5 (.br 6 (.br 7 .fin .fin) .fin) .fin) .fin)) C kR<|By 4 [0,100,0] (y<|aI (by first|(simp only[Fo.len];omega)|(dsimp only;omega)|omega)<|y2<|λ_=>Ak C ?_)));refine JA C C (eC Dp C C) (λw f d=>ihx w f d.vl d.f8 a ak _ _ F.1 d.f0) (λ_=>⟨Bc.mono,tQ⟩) (λe Z f2 he G=>⟨C,e,f2,C,(by simp[C5,SP.need,A3,he,W,Q,J,h3,O,L,Y,h7,D]),G⟩) ?_;rintro⟨nd1,and1,cnd1⟩ K;dsimp only at K ⊢;refine Aa 1 (λ_=>Ar [1] C<|Ak C<|Aa 2 (λb3=>λ_=>Ar [2] C<|Ak C<|Di 0 C C<|BI (λw f=>Bc w f (nd1.one) (some ⟨b3,0,none⟩) 1) (λw f d=>BH.toF (BH.cons' d.f0 (show BH _ _ .nil [] from C)) d.b0 (Nat.le_refl _)) Bc.mono<|Dn C C (eC Bj C C) (λw f d=>A9 _ t _ _ _ _ _ _)<|Aa 1 (λ_=>?_)));exact Bv [1] Ef C (λ_ h=>.tail _ h)<|Ak C<|Ae 2 [0] (y<|λ_=>Bv [1] Ef C (λ_ h=>.tail _ h)<|BG<|Aa 4 (λ_=>A5 (λw f d=>Ao C (Ab C Bb d.k0 C)) (λw f d=>⟨(⟨46,t.ln,t.co,[],0,(nd1.one)⟩,(some ⟨b3,0,none⟩),1),f,C,(by simp[C5,SP.need,A3,W,Q,J,h3,O,L,Y,h7,D,K]),d.exm,⟨d.f0,tQ⟩⟩)));exact Ae 4 [1] (y<|λ_=>AZ C C (eC AE C C) (λZ f2 he G=>⟨C,_,f2,C,(by exact tm_do (beq_iff_eq.1 h7) U),G⟩) λD=>absurd (by have h9:=beq_iff_eq.1 D;omega) U);exact Ae 7 [1] (y<|λ_=>wD C C (eC UO C C) (pe:=λe=>e=(t.ln,t.co)) (T:=74) (λw f d=>(Ig w t _).mono (λ_ _ h=>h.elim) λ_ Z ⟨W,Q⟩=>⟨_,f,W,C,C9.of_ext Q d.vl⟩) (λe Z f2 he G=>by subst he;exact⟨C,_,f2,C,(by exact U6 h3 O L Y h7),G⟩));have h9:=dF Q;simp only[Fo.len] at h9;omega;refine Bf 10 (λ_=>Ak C<|Aa 2 (λ_=>Ar [0,1] C<|Bf 1 (λ_=>Ak C<|AZ C C (eC AE C C) (λZ f2 he G=>⟨C,_,f2,C,(by simp[C5,SP.need,A3,he,W]),G⟩) λJ=>?_)))
 cases J

end Go.Proofs.YtnojaendcldjpaaGreatDoor
namespace Go.SP
open Go.SW Go.RowKit
theorem EP(n:Int):(T1.var n).bnd:=⟨⟨Nat.zero_le _,Nat.zero_le _⟩,tQ⟩
theorem GJ{tx:lU}(h:tx.length≤1000000):(c0 tx).bnd:=⟨⟨Nat.zero_le _,h⟩,tQ⟩
theorem F4{tx:lU}{k:Ty}(h:tx.length≤1000000)(d:k.len≤200000)(D:k.bnd):(T1.con tx k).bnd:=⟨⟨d,h⟩,D⟩
theorem Ty.bnd_app:∀{x y:Ty},x.bnd→y.bnd→(x.app y).bnd
 |.nil,_,_,h=>h
 |.var _ r,_,h,d=>Ty.bnd_app (x:=r) h d
 |.con _ _ r,_,h,d=>⟨h.1,h.2.1,Ty.bnd_app (x:=r) h.2.2 d⟩
theorem Ty.bnd_snoc{x:Ty}{t:T1}(h:x.bnd)(d:t.bnd):(x.snoc t).bnd:=Ty.bnd_app h (GX d)
end Go.SP
namespace Go.SW
open Go.RowKit
def X4:List Oper→Bool
 | []=>true
 |o::l=>(match o.op with|.defer _=>false|_=>true)&&X4 l
abbrev GF(ro:Option Nat):Fence:={Fence.wide with round:=ro}
section
variable{P:Program}{n:Nat}{Q:AV}{σ:Ba}{ds:List Deferred}{w:World}
variable {l vs:List Value}{i m:Nat}{ro:Option Nat}{w':World}
theorem XE{o:Oper}{a:Act}{next next':Act→World→Prop}{Q:Exit→Act→World→Prop}(hn:∀a w,next a w→next' a w):∀r:Result Next,o.upon P a next Q r→o.uponIn (GF ro) m P a next' Q r
 |.ok (.value _) _,h=>hn _ _ h
 |.ok .skip _,h=>hn _ _ h
 |.ok (.defer _) _,h=>hn _ _ h
 |.ok (.enter f args) w',h=>by
   refine⟨λe=>(by cases e),?_⟩
   have G:Calls P f args w' _:=Calls.mono (R':=λe D=>match e,D with|.returned v,D=>next' (a.put o.dst v) D | .panicked chain,D=>Q (.panic chain) a D | .outgrown,_=>LetsOut Q) h λe D F=>by
     cases e with
     |returned v=>exact hn _ _ F
     |panicked c=>exact F
     |outgrown=>exact F
   exact (callsIn_wide (n:=m-1)).2 G
 |.ok (.row row args) w',h=>⟨λe=>(by cases e),λc cs _=>let ⟨v,J,F,K⟩:=h c cs;⟨v,J,hn _ _ F,stepsIn_wide.2 K⟩⟩
 |.halt (.panic _) _,h=>h
theorem LC{ops:Array Oper}{Q:Exit→Act→World→Prop}(D:¬LetsOut Q):∀(l:List Oper)(a:Act)(w:World),X4 l=true→wpList P ops Q l a w→wpListIn (GF ro) m P ops Q l a w
 | [],_,_,_,h=>h
 |o::l,a,w,hd,h=>by
   unfold X4 at hd;simp only[Bool.and_eq_true] at hd;have F:∀c,o.op≠.defer c:=λc e=>by rw[e] at hd;exact absurd hd.1 (by simp)
   unfold wpList at h;unfold wpListIn
   split
   · rename_i hw
     rw[if_pos hw] at h;rcases h with h|h
     · refine⟨λ_ _=>trivial,?_⟩
       rw[Oper.semAt_eq _ _ _ F];exact XE (λa w=>LC D l a w hd.2) _ h
     · exact absurd h.2 D
   · rename_i hw
     rw[if_neg hw] at h;exact⟨λ_ _=>trivial,LC D l _ w hd.2 h⟩
theorem nP{l:List Oper}{a:Act}(D:X4 l=true)(F:¬LetsOut (Q.up n))(G:St n σ ds a)(h:Gd P n l.toArray Q l σ ds w):(Code.region i l.toArray false).wpIn (GF ro) m P (Q.up n) a w :=
 wpIn_region_lit (LC F l a w D (h a G))
theorem ZX:¬LetsOut (Q.up n):=λh=>by
 obtain⟨a,w,h⟩:=h;exact h
def Xv(P:Program)(n:Nat)(ops:Array Oper)(Q:AV)(l:List Oper)(σ:Ba)(ds:List Deferred)(w:World):Prop :=
 ∀a,St n σ ds a→wpListIn Fence.wide 3 P ops (Q.up n) l a w
theorem Z0{l:List Oper}(h:Xv P n l.toArray Q l σ ds w):GP P n (.region i l.toArray false) Q σ ds w:=λa D=>wpIn_wide.1 (wpIn_region_lit (h a D))
variable{ops:Array Oper}{op:Op}{ty:TypeId}{pos:String}{af:Array Edge}{rest:List Oper}{d:Nat}
theorem RU(h:Q.q .normal σ ds w):Xv P n ops Q [] σ ds w:=λ_ D=>wpListIn_nil ⟨σ,ds,D,h⟩
theorem FI{v:Value}(hd:Nat.blt d n=true)(F:AK P σ op ty w v w')(h:Xv P n ops Q rest (AI σ d v) ds w') :
   Xv P n ops Q (⟨some d,op,ty,pos,af,none⟩::rest) σ ds w:=λa D =>
 wpListIn_plain C λK G=>⟨λ_ _=>trivial,by
   show Oper.uponIn _ _ _ _ _ _ _ ((Oper.semAt none _ _).run P w);rw[Oper.semAt_none,F a.eval _ _ _ _ D.ev];exact G _ _ (h _ (D.put hd v))⟩
theorem UD{D:Nat}{g:Operand}{args:List Operand}{G:Array TypeId}{R:Ending→World→Prop}(hd:Nat.blt d n=true)(L:ev σ g=some (.func (.yield D) #[] #[]))(O:Ii σ args=some vs)(U:YieldAt Fence.wide m P D vs.toArray w R)
   (h:∀e w',R e w'→∃v,e=.returned v∧Xv P n ops Q rest (AI σ d v) ds w'):Xv P n ops Q (⟨some d,.call {callee:=.value g,args:=args.toArray,argTypes:=G},ty,pos,af,none⟩::rest) σ ds w:=λa F =>
 wpListIn_plain C λK W=>⟨λ_ _=>trivial,by
   obtain⟨fn,tmps,assign,body,Y,J⟩:=U;have Z:=Em F.ev O
   have he:(execOp a.eval ⟨some d,.call {callee:=.value g,args:=args.toArray,argTypes:=G},ty,pos,af,none⟩).run P w=.ok (.round D fn tmps assign body) w:=by
     simp[execOp,resolve,F.ev _ _ L,Deferred.ofValue,invoke,Z,Y]
   show Oper.uponIn _ _ _ _ _ _ _ ((Oper.semAt none _ _).run P w);rw[Oper.semAt_none,he];refine⟨λe=>(by cases e),J.1,λc cs _=>?_⟩;obtain⟨e,w',hr,hc⟩:=J.2 c cs (room_wide _);obtain⟨v,rfl,hv⟩:=h e w' hr;exact⟨.returned v,w',W _ _ (hv _ (F.put hd v)),hc⟩⟩
def WV(P:Program)(fn:Func)(R:Value→World→Prop):AV :=
 {q:=λe σ ds w=>match e with|.normal|.ret=>∃D,ds=[{target:=.collected D,args:=#[]}]∧w.heap[D]?=some (.deferred (some []))∧∃v,Um P fn σ (w.putObj D (.deferred none)) v∧R v (w.putObj D (.deferred none))|_=>False,p:=λ_ _ _ _=>False}
theorem wT{f:FuncId}{fn:Func}{c:Code}{R:Value→World→Prop}(O:P.funcs[f]?=some fn)(U:fn.body=some c)
   (W:fn.ntmps=n) (Y:Nat.ble l.length n=true) (h:GP P n c (WV P fn R) (GU l 0) [] w):AX P f l.toArray w R:=by
 refine (callsIn_wide (n:=3)).1 (callsIn_of_wp_marks O U tQ (wpIn_wide.2 ?_));have L:=h _ (IN Y);rw[← W] at L;intro b k cs;obtain⟨e,a',w',J,K⟩:=L b k cs;refine⟨e,a',w',?_,K⟩
 have key:∀σ ds,St fn.ntmps σ ds a'→(∃D,ds=[{target:=.collected D,args:=#[]}]∧w'.heap[D]?=some (.deferred (some []))∧∃v,Um P fn σ (w'.putObj D (.deferred none)) v∧R v (w'.putObj D (.deferred none)))→LeavesInM Fence.wide 3 P fn a'.tmps (λe w'=>∃v,e=.returned v∧R v w') a'.defers .returning w':=λσ ds F ⟨D,Z,hw,v,hv,hR⟩=>by
   rw[F.defs,Z];exact⟨by simp,.inl ⟨D,_,C,run_takeDeferred hw,v,hv a'.tmps F.val,v,C,hR⟩⟩
 cases e with
 |normal=>obtain⟨σ,ds,F,G⟩:=J;exact key σ ds F G
 |ret=>obtain⟨σ,ds,F,G⟩:=J;exact key σ ds F G
 |exit i=>obtain⟨σ,ds,F,G⟩:=J;exact G.elim
 |goto i=>obtain⟨σ,ds,F,G⟩:=J;exact G.elim
 |panic c=>obtain⟨σ,ds,F,G⟩:=J;exact G.elim
 |outgrown=>exact J.elim
end
variable {X:Cx}{f:Fq}{fid:FuncId}{Fs:List (World→Fq→Prop)}{B:List FB}{H:List HB}{l:List Value}{R0:Value→World→Prop}
theorem menM{P:Program}{n:Nat}{R:List RB}{fn:Func}{c:Code}{w:World}(D:P.funcs[fid]?=some fn)(F:fn.body=some c)(G:fn.ntmps=n)(J:Nat.ble l.length n=true)(K:AO X w f H R B Fs)
   (h:A1 P n (WV P fn R0) [] X R B Fs (.code c) [] (GU l 0) H):AX P fid l.toArray w R0:=wT D F G J (h w f K)
end Go.SW
namespace Go.SP
open Go.SW Go.RowKit
def Ty.list:Ty→List T1
 |.nil=>[]
 |.var n r=>.var n::r.list
 |.con tx k r=>.con tx k::r.list
theorem Ty.list_cons(t:T1)(r:Ty):(t.cons r).list=t::r.list:=by cases t <;> rfl
theorem Ty.list_len:∀k:Ty,k.list.length=k.len
 |.nil=>rfl
 |.var _ r=>congrArg (· + 1) (Ty.list_len r)
 |.con _ _ r=>congrArg (· + 1) (Ty.list_len r)
theorem Ty.list_get:∀(k:Ty)(i:Nat),k.list[i]?=k.get i
 |.nil,_=>by simp[Ty.list,Ty.get]
 |.var _ _,0=>rfl
 |.con _ _ _,0=>rfl
 |.var _ r,i+1=>by simpa[Ty.list,Ty.get] using Ty.list_get r i
 |.con _ _ r,i+1=>by simpa[Ty.list,Ty.get] using Ty.list_get r i
def oI(t:T1)(l:List T1):T1:=l.foldl (λt x=>.con Ga (x.cons t.one)) t
theorem TA(t:T1)(l:List T1)(x:T1):oI t (l++[x])=.con Ga (x.cons (oI t l).one):=by simp[oI]
theorem KY(t u:T1)(r:Ty):GC (t.cons (u.cons r))=.con Ga (t.cons (GC (u.cons r)).one):=by cases t <;> cases u <;> rfl
theorem Nh(t:T1):GC t.one=t:=by cases t <;> rfl
theorem fX:∀(n:Nat)(k:Ty)(t:T1),k.len=n+1→k.get n=some t→oI t (k.list.take n).reverse=GC k:=by
 intro n
 induction n with
 |zero =>
   intro k t D d;obtain⟨u,r,rfl⟩:=Ty.cases1 k oM;rw[T1.len_cons] at D;obtain rfl:=Ty.len0 (k:=r) oM;have:u=t:=by cases u <;> (simp[T1.cons,Ty.get] at d;exact d)
   subst this;rw[show (List.take 0 (u.cons Ty.nil).list).reverse=[] by simp];exact (Nh u).symm
 |succ n G =>
   intro k t D d;obtain⟨u,r,rfl⟩:=Ty.cases1 k oM;rw[T1.len_cons] at D;have F:r.get n=some t:=by cases u <;> exact d
   have h:=G r t oM F;obtain⟨v,r,rfl⟩:=Ty.cases1 r oM;rw[KY,Ty.list_cons,List.take_succ_cons,List.reverse_cons,TA,h]
abbrev ElB(w:wO)(f:Fq)(k:Ty):={x:Nat×T1×oA×Nat // k.get x.1=some x.2.1∧Al w f x.2.1.kids x.2.2.1 x.2.2.2}
def encB{w:wO}{f:Fq}{k:Ty}(x:ElB w f k):Array Value:=#[.int .i64 (x.1.1:Int),tV x.1.2.1 x.1.2.2.1 x.1.2.2.2]
def fJ{w:wO}{f:Fq}{k:Ty}(l:List (ElB w f k)):List T1:=l.map λx=>x.1.2.1
def wR(n0 b3:Nat)(W d:wO):Prop:=∀k,k<n0→k≠b3→d.heap[k]?=W.heap[k]?
def iv(i:Nat):Int:=(i:Int)-1
theorem mL(i:Nat):iv (i+1)=(i:Int):=by unfold iv;omega
def nrm(n0:Nat)(V:wO)(f:Fq):Fq:=λb=>if b<n0 then f b else if (match V.heap[b]? with|some o=>o.isCells|none=>false) then f b else 0
variable {σ:Ba}{l:lV}{b i k n0 off:Nat}{M:Nat→Prop}{hi x:Operand}{P:Program}{T e ty:tI}
theorem Cs.nrm{V:wO}{f:Fq}(h:Cs V f b off l):Cs V (nrm n0 V f) b off l:=λj v G=>by
 obtain⟨d,D⟩:=h j v G;refine⟨?_,D⟩;obtain⟨o,F,J⟩:=cells_of_cell D;unfold SP.nrm
 split
 · exact d
 · simp only at F
   rw[F];simp only;rw[if_pos J];exact d
theorem Ix.nrm{V:wO}{f:Fq}:∀(k:Ty)(b off:Nat),Ix V f k b off→Ix V (nrm n0 V f) k b off
 |.nil,_,_,_=>trivial
 |.var _ r,b,off,⟨⟨a,c,h⟩,D⟩=>⟨⟨a,c,Cs.nrm h⟩,Ix.nrm r b _ D⟩
 |.con _ k r,b,off,⟨⟨a,c,h,J,F⟩,D⟩=>⟨⟨a,c,Cs.nrm h,J,F.imp id λ⟨G,d,e,F⟩=>⟨G,d,e,Ix.nrm k G d F⟩⟩,Ix.nrm r b _ D⟩
theorem Al.nrm{V:wO}{f:Fq}{k:Ty}{a:oA}{c:Nat}(h:Al V f k a c):Al V (nrm n0 V f) k a c:=⟨h.1,h.2.imp id λ⟨b,off,e,d⟩=>⟨b,off,e,Ix.nrm k b off d⟩⟩
theorem gJ{V:wO}{f:Fq}(h:b<n0):nrm n0 V f b=f b:=if_pos h
theorem IQ{V:wO}{f:Fq}(h:f b=0):nrm n0 V f b=0:=by
 unfold nrm;simp[h]
structure VC(w:wO)(f:Fq)(b2 b3:Nat)(z:lV)(TT:tI)(t:T1)(V:wO)(f2:Fq)(a:oA)(c:Nat):Prop where
 exm:C9 (λ_=>False) w f V f2
 k3:AS V b3 (tC t a c) TT
 k2:AS V b2 z TT
 ty:Al V f2 t.kids a c
 bnd:t.bnd
 z3:f2 b3=0∧f2 b2=0
 hz:∀r o,V.heap[r]?=some o→o.isCells=false→w.heap.size≤r→f2 r=0
theorem W1{w V:wO}{f f2:Fq}(h:C9 M w f V f2):C9 M w f V (nrm w.heap.size V f2):=⟨h.stp,λb d=>(gJ d).trans (h.old b d),λb d=>IQ (h.val b d)⟩
theorem Za{w V:wO}{f2:Fq}:∀r o,V.heap[r]?=some o→o.isCells=false→w.heap.size≤r→nrm w.heap.size V f2 r=0:=λr o d h D=>by
 unfold nrm;rw[if_neg (by omega),d];simp[h]
theorem C9.trans0{w V V':wO}{f f2 f3:Fq}(h:C9 (λ_=>False) w f V f2)(d:C9 M V f2 V' f3)(G:∀b,M b→w.heap.size≤b):C9 (λ_=>False) w f V' f3 :=
 ⟨⟨d.stp.os.trans h.stp.os,d.stp.tape.trans h.stp.tape,d.stp.output.trans h.stp.output,Nat.le_trans h.stp.size d.stp.size,λk D _=>(d.stp.block k (Nat.lt_of_lt_of_le D h.stp.size) (λhm=>by have:=G k hm;omega)).trans (h.stp.block k D (λh=>h))⟩,
   λb F=>(d.old b (Nat.lt_of_lt_of_le F h.stp.size)).trans (h.old b F),d.val⟩
section
variable{w V V':wO}{f f2 f3:Fq}{b2 b3:Nat}{z:lV}{TT:tI}{t t':T1}{a a':oA}{c c':Nat}
theorem VC.step(h:VC w f b2 b3 z TT t V f2 a c)(G:w.heap.size≤b3)(D:b2≠b3)(d:C9 (λb=>b=b3) V f2 V' f3)(J:AS V' b3 (tC t' a' c') TT)(K:Al V' f3 t'.kids a' c')(F:t'.bnd):VC w f b2 b3 z TT t' V' (nrm w.heap.size V' f3) a' c' where
 exm:=W1 (C9.trans0 h.exm d λb e=>e▸G)
 k3:=J
 k2:=(d.stp.block b2 h.k2.lt D).trans h.k2
 ty:=Al.nrm K
 bnd:=F
 z3:=⟨IQ ((d.old _ h.k3.lt).trans h.z3.1),IQ ((d.old _ h.k2.lt).trans h.z3.2)⟩
 hz:=Za
theorem H2(h:AS V b l T){o:Obj}(d:V.heap[b]?=some o)(D:o.isCells=false):False:=by
 have F:V.heap[b]?=some (.cells l.toArray T):=h;rw[F] at d;cases d;cases D
theorem VC.own{B:Nat}(Y:w.heap.size≤B){row:Option Nat}(h:VC w f b2 b3 z TT t V f2 a c)(d:V.grownBy V' row)(L:∀r,row=some r→B≤r∧∃o:Obj,V.heap[r]?=some o∧o.isCells=false):VC w f b2 b3 z TT t V' f2 a c:=by
 have G:∀{b:Nat}{l:lV}{T:tI},AS V b l T→some b≠row:=λO e=>by
   obtain⟨_,o,F,J⟩:=L _ e.symm;exact H2 O F J
 have K:∀r,row=some r→f2 r=0:=λr e=>by
   obtain⟨Z,o,F,J⟩:=L r e;exact h.hz r o F J oM
 have W:HF V f2 V' f2:=λb=>⟨Nat.le_refl _,λk Q=>by
   have U:b<V.heap.size:=by
     rcases Nat.lt_or_ge b V.heap.size with D|D
     · exact D
     · have:=h.exm.val b D;omega
   refine DW (d.block b U λe=>?_) k;have:=K b e.symm;omega⟩
 exact {exm:=⟨⟨d.os.trans h.exm.stp.os,d.tape.trans h.exm.stp.tape,d.output.trans h.exm.stp.output,Nat.le_trans h.exm.stp.size d.size,λk Q hm=>(d.block k (Nat.lt_of_lt_of_le Q h.exm.stp.size) (λe=>by have:=(L k e.symm).1;omega)).trans (h.exm.stp.block k Q hm)⟩,h.exm.old,λb O=>h.exm.val b (Nat.le_trans d.size O)⟩,
         k3:=(d.block _ h.k3.lt (G h.k3)).trans h.k3,
         k2:=(d.block _ h.k2.lt (G h.k2)).trans h.k2,
         ty:=Al.mono _ _ _ _ h.ty W,
         bnd:=h.bnd,z3:=h.z3,
         hz:=λr o F J hw=>by
           rcases Nat.lt_or_ge r V.heap.size with D|D
           · by_cases e:some r=row
             · exact K r e.symm
             · rw[d.block r D e] at F;exact h.hz r o F J hw
           · exact h.exm.val r D}
end
theorem KeepsFrom.of_exm{B b3:Nat}{V V':wO}{f2 f3:Fq}(h:C9 (λb=>b=b3) V f2 V' f3)(D:AS V b3 l T):KeepsFrom B V V' :=
 ⟨h.stp.size,λk o _ d F=>(h.stp.block k (Array.getElem?_eq_some_iff.1 d).1 (λe=>by subst e;exact H2 D d F)).trans d⟩
theorem wR.of_exm{b3:Nat}{V V':wO}{f2 f3:Fq}(h:C9 (λb=>b=b3) V f2 V' f3)(D:n0≤V.heap.size):wR n0 b3 V V':=λk F d=>h.stp.block k oM d
theorem VE{w:wO}{f:Fq}{x t:T1}{d D:oA}{F G:Nat}(h:Cs w f b 0 (tC x d F++tC t D G))(K:Al w f x.kids d F)(L:Al w f t.kids D G):Al w f (x.cons t.one) (some ⟨b,0,none⟩) 2:=by
 have O:Cr w f Ty.nil []:=rfl;have J:=Cr.snoc (t:=t) L (Cr.snoc (t:=x) K O)
 have e:(Ty.nil.snoc x).snoc t=x.cons t.one:=by
   show (x.one).app t.one=_;rw[T1.one_app]
 rw[e] at J;exact Cr.toF J h (by simp[T1.len_cons,T1.one,Ty.len])
theorem VC.frz{w V:wO}{f f2:Fq}{b2 b3 b5:Nat}{z:lV}{TT:tI}{t:T1}{a:oA}{c:Nat}(h:VC w f b2 b3 z TT t V f2 a c)(d:AS V b5 l T)(D:b5≠b2)(F:b5≠b3)(hw:w.heap.size≤b5) :
   VC w f b2 b3 z TT t V (λb=>if b=b5 then max l.length (f2 b) else f2 b) a c∧Cs V (λb=>if b=b5 then max l.length (f2 b) else f2 b) b5 0 l:=by
 have Q:HF V f2 V (λb=>if b=b5 then max l.length (f2 b) else f2 b):=λb=>⟨by simp only;split <;> omega,λ_ _=>C⟩
 refine⟨{exm:=⟨h.exm.stp,λb G=>by rw[if_neg (by omega)];exact h.exm.old b G,λb G=>by have:=d.lt;rw[if_neg (by omega)];exact h.exm.val b G⟩,
           k3:=h.k3,k2:=h.k2,ty:=Al.mono _ _ _ _ h.ty Q,bnd:=h.bnd,z3:=by rw[if_neg (Ne.symm F),if_neg (Ne.symm D)];exact h.z3,
           hz:=λr o K L hw=>by
             rw[if_neg (λe=>by subst e;exact H2 d K L)];exact h.hz r o K L hw},λj v O=>?_⟩
 have U:j<l.length:=(List.getElem?_eq_some_iff.1 O).1;refine⟨by simp only[if_true];omega,?_⟩;have J:V.heap[b5]?=some (.cells l.toArray T):=d;simp[World.cell?,J,O]
theorem IH{w:wO}{z:Int}{k1:IntKind}{a:oA}{len cap:Nat}(hz:z=(i:Int))(h:ev σ x=some (.slice a len cap))(d:ev σ hi=some (.int k1 z))(D:Hj P T=some (e,k))(hle:i≤cap):AK P σ (.slice T x none (some hi) none) ty w (.slice a i cap) w:=by
 subst hz;exact Wf h d D hle
theorem VC.fin{w V V':wO}{f f2:Fq}{b2 b3 D:Nat}{z:lV}{TT:tI}{t:T1}{a:oA}{c:Nat}(h:VC w f b2 b3 z TT t V f2 a c)(h2:w.heap.size≤b2)(Q:w.heap.size≤D)(K:V.heap[D]?=some (.deferred (some [])))(F:Hc b2 V V') :
   C9 (λ_=>False) w f (V'.putObj D (.deferred none)) f2∧Al (V'.putObj D (.deferred none)) f2 t.kids a c∧V'.heap[D]?=some (.deferred (some []))∧D≠b2:=by
 have G:D≠b2:=λe=>by subst e;exact H2 h.k2 K C
 have U:f2 D=0:=h.hz D _ K C Q;have d:∀j,j≠D→j≠b2→(V'.putObj D (.deferred none)).heap[j]?=V.heap[j]?:=λj W Y=>(World.putObj_heap_other W).trans (F.block j Y);have J:(V'.putObj D (.deferred none)).heap.size=V.heap.size:=by rw[World.putObj_size,F.size]
 refine⟨⟨⟨F.os.trans h.exm.stp.os,F.tape.trans h.exm.stp.tape,F.output.trans h.exm.stp.output,by rw[J];exact h.exm.stp.size,λj Z hm=>(d j oM oM).trans (h.exm.stp.block j Z hm)⟩,h.exm.old,λb L=>h.exm.val b (by rw[J] at L;exact L)⟩,?_,(F.block D G).trans K,G⟩;refine Al.mono _ _ _ _ h.ty λb=>⟨Nat.le_refl _,λq O=>DW (d b (λe=>?_) (λe=>?_)) q⟩
 · rw[e,U] at O;omega
 · rw[e,h.z3.2] at O;omega
end Go.SP
namespace Go.SW
open Go.RowKit
variable {X:Cx}{f:Fq}{Fs:List (wO→Fq→Prop)}{B:List FB}{H H':List HB}{w:wO}
theorem AO.perm{R:List RB}(h:AO X w f H R B Fs)(F:H'.Perm H):AO X w f H' R B Fs:=by
 have D:(Cf H' R).Perm (Cf H R):=(F.map _).append_right _
 exact {h with
         blk:=λe he=>h.blk e (F.mem_iff.1 he),
         nd:=D.nodup_iff.2 h.nd,
         own:=λb G=>h.own b (D.mem_iff.1 G),
         hnw:=λe he=>h.hnw e (F.mem_iff.1 he)}
end Go.SW
namespace Go.SP
open Go.SW Go.RowKit
abbrev ExpQ(n:Nat)(s:CS)(e:BJ)(op ln co:Int)(tx:lU)(nm:Int)(kids:Nd)(x:(T1×oA×Nat)×CS):Prop:=EH n s e op ln co tx nm kids=.ok (x.1.1,x.2)∧x.1.1.bnd∧Im x.2∧x.2.fresh+1≤s.fresh+200002*(kids.size+1)
def ExpF(P:Program)(h:FuncId)(G T TS:tI)(n:Nat):Prop:=∀(w:wO)(f:Fq)(_:Vl w f)(A:Ad)(_:A.ok)(s:CS)(_:AN T TS A s w f)(_:∀b,Dk A b→f b=0)(_:Im s)(op ln co nm:Int)(tx:lU)(kids:Nd)(D:oA)(nc:Nat)(e:BJ)(F:oA),
 kids.size<n→kids.size≤200000→TU op kids→Bc w f kids D nc→JI e→BC w f e F→s.fresh+200002*(kids.size+1)≤800000000000 →
 BV P h #[.pointer (some ⟨A.cb,0,none⟩),nV op ln co tx nm kids D nc,.pointer F] w (EF (α:=(T1×oA×Nat)×CS) (λx=>tV x.1.1 x.1.2.1 x.1.2.2) (ExpQ n s e op ln co tx nm kids) (Dk A) (λx=>AN T TS A x.2) (λx=>[λw f=>Al w f x.1.1.kids x.1.2.1 x.1.2.2]) w f)
   (PanE G (Dk A) (λer=>EH n s e op ln co tx nm kids=.error er) w f)
section
variable{p:M8}{s s1 s2 s3 s4 s5:CS}{e e5:BJ}{op ln co nm bop bln bco bnm o1 l1 c1 m1:Int}{tx btx x1:lU}{k bk r pk rest:Nd}{d:Ty}{q t t0 rt pt:T1}{n:Nat}
theorem Yo(h:p s e op ln co tx nm k=.ok (q,s5))(D:H3 (AM s5).2 t (.con Ga (q.cons (AM s5).1.one)) ln co=.ok s4):K5 p e s t (.cons op ln co tx nm k r)=K5 p e s4 (AM s5).1 r:=by
 rw[K5,h];simp only;rw[D]
end
variable {m:Nat}
theorem QQ{k:Nd}(h:k.wfm m)(hm:2≤m∧m≤8):∃op ln co tx nm k2 r,k=.cons op ln co tx nm k2 r:=by
 cases k with
 |nil=>rcases h with h|h|h <;> omega
 |cons op ln co tx nm k2 r=>exact⟨op,ln,co,tx,nm,k2,r,C⟩
variable {f:Fq}{m:Nat}{lo x:Operand}{a:oA}{T ty:tI}{w:wO}
theorem Bc.rest{op ln co nm:Int}{tx:lU}{k r:Nd}{c:Nat}(h:Bc w f (.cons op ln co tx nm k r) a c):Bc w f r (DL a c 6) (c-1):=by
 obtain⟨D,F⟩:=h;have D:r.len+1≤c:=D;refine⟨oM,?_⟩;rcases F with F|⟨b,off,G,J⟩
 · cases F
 · cases r with
   |nil=>exact .inl C
   |cons K L c2 O m2 k2 U =>
     simp only[Nd.len] at D;refine .inr ⟨b,off+6,?_,J.2⟩;rw[DL,if_neg (by omega),G];rfl
theorem aO{P:Program}{σ:Ba}{e:tI}{k len c:Nat}(D:len=m+1)(F:ev σ x=some (.slice a len c))(h:ev σ lo=some (.int .i64 1))(G:Hj P T=some (e,k)):AK P σ (.slice T x (some lo) none none) ty w (.slice (DL a c k) m (c-1)) w:=by
 subst D;exact Wj F h G
section
variable{s:CS}{e:BJ}{op ln co nm:Int}{tx:lU}{k r:Nd}{d:Ty}
theorem OF(D:r≠.nil):(d.app (EZ s e (.cons op ln co tx nm k r)).1,(EZ s e (.cons op ln co tx nm k r)).2)=((d.snoc (AM s).1).app (EZ (AM s).2 (if op==22 then ⟨tx,(AM s).1,[]⟩::e else e) r).1,(EZ (AM s).2 (if op==22 then ⟨tx,(AM s).1,[]⟩::e else e) r).2):=by
 cases r with
 |nil=>exact absurd C D
 |cons F G c2 J m2 k2 K =>
   rw[EZ]
   · rw[Ty.snoc_app]
   · intro h;cases h
theorem Nd.last_step(h:r≠.nil):(Nd.cons op ln co tx nm k r).last=r.last:=by
 cases r with
 |nil=>exact absurd C h
 |cons=>rfl
end
theorem Nd.ne_nil{r:Nd}(h:0<r.len):r≠.nil:=λe=>by rw[e] at h;exact absurd h dC
theorem wf7{k:Nd}(h:TU 7 k):k.wfm 4:=by simpa[TU] using h
theorem wf8{k:Nd}(h:TU 8 k):0<k.len∧k.wfm 0:=by simpa[TU] using h
theorem dL:∀(n:Nat)(k:Ty),k.len≤n→k.bnd→(GC k).bnd:=by
 intro n
 induction n with
 |zero=>intro k G _;obtain rfl:=Ty.len0 (k:=k) oM;exact EP 0
 |succ n J =>
   intro k G K
   cases D:k.len with
   |zero=>obtain rfl:=Ty.len0 D;exact EP 0
   |succ m =>
     obtain⟨t,r,rfl⟩:=Ty.cases1 k oM;rw[T1.len_cons] at G;obtain⟨h,F⟩:=T1.bnd_cons.1 K
     cases L:r.len with
     |zero=>obtain rfl:=Ty.len0 L;exact (Nh t).symm▸h
     |succ m2 =>
       have:=J r oM F;obtain⟨u,r,rfl⟩:=Ty.cases1 r oM;rw[KY];exact F4 dC (by simp[T1.len_cons,T1.one,Ty.len]) (T1.bnd_cons.2 ⟨h,GX this⟩)
end Go.SP
namespace Go.SW
open Go.RowKit Go.SP
section
variable{P:Program}{n:Nat}{Q:AV}{ds:List Deferred}{X:Cx}{R:List RB}{B:List FB}{Fs:List (wO→Fq→Prop)}{fs:List Fr}{σ:Ba}{H:List HB}{k:K3}{na:oA}{c:Nat}
theorem mnr{x r:Nd}{op ln co nm:Int}{tx:lU}{q:Nd}(j:Nat)(D:nth Fs j=some (λw f=>Bc w f x na c))(e:x=.cons op ln co tx nm q r)(h:A1 P n Q ds X R B ((λw f=>Bc w f r (DL na c 6) (c-1))::Fs) k fs σ H):A1 P n Q ds X R B Fs k fs σ H:=BI _ (λ_ _ F=>Bc.rest (e▸F.fn D)) Bc.mono h
end
end Go.SW
namespace Go.SP
open Go.SW Go.RowKit
def Nd.txb:Nd→Prop
 |.nil=>True
 |.cons _ _ _ tx _ k r=>tx.length≤100000∧k.txb∧r.txb
section
variable{datas:List (lU×Int)}{vars:List (lU×T1)}{op ln co nm:Int}{tx:lU}{k r:Nd}{d:Ty}{t:T1}{er:Er}
end
theorem Wr{α:Type}(g:α→Value)(n:lU):∀l:List (lU×α),Gu (l.map λp=>(p.1,g p.2)) n=(Eu l n).map g
 | []=>rfl
 |(k,v)::l=>by
   simp only[List.map_cons,Gu,Eu]
   by_cases h:k=n
   · subst h;simp
   · have D:(k==n)=false:=by simpa using h
     have F:(n==k)=false:=by simpa using λe:n=k=>h e.symm
     rw[D,F];simpa using Wr g n l
def aE(v:Value)(vars:List (lU×T1))(w:wO):Prop:=(v=.map none∧vars=[])∨∃m,v=.map (some m)∧CW JB w m (vars.map λp=>(p.1,tV p.2 none 0))∧M5 (vars.map λp=>(p.1,tV p.2 none 0))∧∀n t,Eu vars n=some t→∃q,t=.var q
variable {f f':Fq}{w w':wO}
theorem aE.keep{v:Value}{vars:List (lU×T1)}(h:aE v vars w)(F:C9 (λ_=>False) w f w' f'):aE v vars w' :=
 h.imp id λ⟨m,G,D,J⟩=>⟨m,G,D.heap (F.stp.block m D.lt (λh=>h)),J⟩
section
variable{T TS:tI}{A:Ad}{s:CS}{w w':wO}{f f':Fq}
variable {fr pr:Int}{ac b mb oc sb vc:Nat}{aa oa va:oA}
theorem Bz.chg{so:BP}(h:Bz TS sb mb so fr pr w f)(d:Hc b w w')(D:sb≠b)(F:mb≠b)(G:f b=0):Bz TS sb mb so fr pr w' f :=
 Bz.stab (MI:=λk=>k=sb∨k=mb) (.inl C) (.inr C) _ _ _ _ h (Hc.fle d G) λk J=>d.block k (by rcases J with rfl|rfl;exact D;exact F)
theorem AN.setVars(h:AN T TS A s w f)(d:A.ok)(D:Hc A.cb w w'){v:Int}(G:AS w' A.cb [.pointer (some ⟨A.sb,0,none⟩),.map (some A.km),.map (some A.dm),.map (some A.rm),.int .i64 v] T)(F:f A.cb=0):AN T TS A {s with vars:=v} w' f where
 blk:=G
 sol:=let ⟨pr,J⟩:=h.sol;⟨pr,J.chg D (Ne.symm d.cs) (Ne.symm d.cm.1) F⟩
 cons:=let ⟨es,K,L⟩:=h.cons;⟨es,K.heap (D.block _ (Ne.symm d.cm.2.1)),D0.mono (Hc.fle D F) _ _ L⟩
 datas:=h.datas.heap (D.block _ (Ne.symm d.cm.2.2.1))
 roots:=h.roots.heap (D.block _ (Ne.symm d.cm.2.2.2))
theorem AN.addCons(h:AN T TS A s w f)(D:A.ok){es:List (lU×Value)}(G:D0 w f s.cons es)(d:Hc A.km w w'){k:lU}{m:Mk}(hm:CW JB w' A.km ((k,.agg (mkC m aa ac oa oc va vc).toArray)::es))(F:f A.km=0)
   (J:Al w f m.args aa ac) (K:Al w f m.out.kids oa oc) (L:Cg w f m.vars va vc):AN T TS A {s with cons:=(k,m)::s.cons} w' f where
 blk:=(d.block _ D.cm.2.1).trans h.blk
 sol:=let ⟨pr,O⟩:=h.sol;⟨pr,O.chg d D.sm.2.1 D.mm.1 F⟩
 cons:=⟨_,hm,aa,ac,oa,oc,va,vc,es,C,Al.mono _ _ _ _ J (Hc.fle d F),Al.mono _ _ _ _ K (Hc.fle d F),Cg.mono _ _ _ _ L (Hc.fle d F),D0.mono (Hc.fle d F) _ _ G⟩
 datas:=h.datas.heap (d.block _ (Ne.symm D.mm.2.2.2.1))
 roots:=h.roots.heap (d.block _ (Ne.symm D.mm.2.2.2.2.1))
end
abbrev vEs(vars:List (lU×T1)):List (lU×Value):=vars.map λp=>(p.1,tV p.2 none 0)
def ChkV(T TS:tI)(A:Ad)(s:CS)(vm:Nat)(vars:List (lU×T1))(w:wO)(f:Fq):Prop:=AN T TS A s w f∧CW JB w vm (vEs vars)
section
variable{T TS:tI}{A:Ad}{s:CS}{w w':wO}{f f':Fq}{vm:Nat}{vars:List (lU×T1)}
theorem ChkV.stab:ED (λb=>Dk A b∨b=vm) (ChkV T TS A s vm vars):=λw f w' f' h D d =>
 ⟨AN.stab w f w' f' h.1 D λb hm=>d b (.inl hm),h.2.heap (d _ (.inr C))⟩
end
section
variable{P:Program}{n:Nat}{Q:AV}{ds:List Deferred}{M:Nat→Prop}{w0:wO}{f0:Fq}{T TS:tI}{A:Ad}{s:CS}{vm:Nat}{vars:List (lU×T1)}{R:List RB}{B:List FB}{Fs:List (wO→Fq→Prop)}{fs:List Fr}{σ:Ba}{H:List HB}
variable{all r:List Oper}{ty TM k e:tI}{pos:String}{af:Array Edge}{g:Option (Nat×Bool)}{x y z:Operand}
end
theorem UT{α:Type}{a b:lU}{v:α}{l:List (lU×α)}:Eu ((a,v)::l) b=if a==b then some v else Eu l b:=rfl
theorem aU{α:Type}(g:α→Value){a:lU}{v:α}{l:List (lU×α)}(h:M5 (l.map λp=>(p.1,g p.2)))(d:Eu l a=none):M5 (((a,v)::l).map λp=>(p.1,g p.2)):=⟨by rw[Wr,d];rfl,h⟩
theorem Im.setVars{s:CS}(h:Im s){v:Int}:Im {s with vars:=v}:={h with}
theorem Im.addCons{s:CS}(h:Im s){a:lU}{m:Mk}(D:Eu s.cons a=none)(hm:m.args.len≤200000∧m.args.bnd∧m.out.bnd∧m.vars.length≤200000):Im {s with cons:=(a,m)::s.cons} :=
 {h with
   cons:=λk F d=>by
     rw[UT] at d
     split at d
     · cases d;exact hm
     · exact h.cons k F d,
   dc:=aU (λ_=>Value.bool true) h.dc D}
section
variable{ln co:Int}{op ln2 co2 nm:Int}{tx:lU}{k r:Nd}{v:Int}{m:List (lU×T1)}{self:Ty}{nums:List Int}
variable{datas:List (lU×Int)}{out:T1}{c:List (lU×Mk)}
end
abbrev OX:=lU×Int×T1
def pC(p:OX)(a:oA)(c:Nat):lV:=S p.1::.int .i64 p.2.1::tC p.2.2 a c
def BS(w:wO)(f:Fq):List OX→lV→Prop
 | [],xs=>xs=[]
 |p::l,xs=>∃a c xs',xs=pC p a c++xs'∧Al w f p.2.2.kids a c∧BS w f l xs'
theorem BS.mono'{w w':wO}{f f':Fq}(d:HF w f w' f'):∀(l:List OX)(xs:lV),BS w f l xs→BS w' f' l xs
 | [],_,h=>h
 |_::l,_,⟨a,c,xs',D,F,G⟩=>⟨a,c,xs',D,Al.mono _ _ _ _ F d,BS.mono' d l xs' G⟩
theorem BS.snoc{w:wO}{f:Fq}{p:OX}{a:oA}{c:Nat}(d:Al w f p.2.2.kids a c):∀{l:List OX}{xs:lV},BS w f l xs→BS w f (l++[p]) (xs++pC p a c)
 | [],xs,h=>by
   have h:xs=[]:=h;subst h;exact⟨a,c,[],by simp,d,C⟩
 |q::l,xs,⟨a',c',xs',D,F,G⟩=>⟨a',c',xs'++pC p a c,by rw[D,List.append_assoc],F,BS.snoc d G⟩
theorem BS.len{w:wO}{f:Fq}:∀{l:List OX}{xs:lV},BS w f l xs→xs.length=l.length*6
 | [],xs,h=>by have h:xs=[]:=h;subst h;rfl
 |p::l,xs,⟨a,c,xs',d,F,D⟩=>by
   have:=BS.len D;subst d;simp only[List.length_append,List.length_cons,pC,tC,List.length_nil];omega
theorem BS.mono{l:List OX}{xs:lV}:EI (λw f=>BS w f l xs):=λ_ _ _ _ h d=>BS.mono' d l xs h
def RF(ob:Nat)(a:oA)(b:Nat):Prop:=b=ob∨rb a=some b
structure Fc(T E:tI)(ob:Nat)(sl:Value)(a:oA)(c n:Nat)(xs:lV)(w:wO)(_:Fq):Prop where
 blk:AS w ob [sl] T
 row:BQ w E 6 a c n xs
 ne:rb a≠some ob
section
variable{T E:tI}{ob:Nat}{sl sl':Value}{a a':oA}{c c' n n':Nat}{xs xs':lV}{w w':wO}{f f':Fq}
theorem Fc.stab:ED (RF ob a) (Fc T E ob sl a c n xs):=λw f w' f' h K d=>⟨(d _ (.inl C)).trans h.blk,⟨h.row.1,h.row.2.imp id λ⟨b,l,D,F,G⟩=>⟨b,l,D,(d b (.inr (by rw[D];rfl))).trans F,G⟩⟩,h.ne⟩
variable {b:Nat}
theorem Fc.lt(h:Fc T E ob sl a c n xs w f)(d:RF ob a b):b<w.heap.size:=by
 rcases d with rfl|d
 · exact h.blk.lt
 · exact h.row.lt d
theorem Fc.app(h:Fc T E ob sl a c n xs w f)(D:BQ w' E 6 a' c' n' xs')(d:FE a w a' w'):Fc T E ob sl a' c' n' xs' w' f' :=
 ⟨h.blk.grow d (λe=>h.ne e.symm),D,λe=>d.own.elim (λo=>h.ne (o.symm.trans e)) (λo=>absurd h.blk.lt (by rw[← Option.some.inj (o.symm.trans e)];exact Nat.lt_irrefl _))⟩
theorem Fc.store(h:Fc T E ob sl a c n xs w f)(d:Hc ob w w')(D:AS w' ob [sl'] T):Fc T E ob sl' a c n xs w' f':=⟨D,BQ.chgB h.row d h.ne,h.ne⟩
theorem RF.or(h:RF ob a' b):RF ob a b∨rb a'=some b:=h.elim (λh=>.inl (.inl h)) .inr
end
def No:List (T1×oA×Nat)→Ty
 | []=>.nil
 |t::l=>t.1.cons (No l)
def vE:List (T1×oA×Nat)→lV
 | []=>[]
 |t::l=>tC t.1 t.2.1 t.2.2++vE l
def hoL(w:wO)(f:Fq):List (T1×oA×Nat)→Prop
 | []=>True
 |t::l=>Al w f t.1.kids t.2.1 t.2.2∧hoL w f l
theorem Y9{w:wO}{f:Fq}:∀{l:List (T1×oA×Nat)},hoL w f l→Cr w f (No l) (vE l)
 | [],_=>rfl
 |(.var n,a,c)::l,h=>⟨a,c,vE l,C,Y9 h.2⟩
 |(.con tx k,a,c)::l,h=>⟨a,c,vE l,C,h.1,Y9 h.2⟩
theorem MH:∀l:List (T1×oA×Nat),(No l).len=l.length
 | []=>rfl
 |t::l=>by rw[No,T1.len_cons,MH l];rfl
variable {b:Nat}{M:Nat→Prop}{w0:wO}
theorem BT{w:wO}{f:Fq}{l:List (T1×oA×Nat)}(h:hoL w f l)(d:Cs w f b 0 (vE l)):Al w f (No l) (some ⟨b,0,none⟩) l.length:=Cr.toF (Y9 h) d (by rw[MH];exact Nat.le_refl _)
def IE(w:wO)(f:Fq)(l:List OX)(a:oA)(c:Nat):Prop:=l.length≤c∧∃b xs,a=some ⟨b,0,none⟩∧Cs w f b 0 xs∧BS w f l xs
theorem IE.mono{l:List OX}{a:oA}{c:Nat}:EI (λw f=>IE w f l a c):=λ_ _ _ _ h d=>⟨h.1,let ⟨b,xs,D,F,G⟩:=h.2;⟨b,xs,D,F.mono d,BS.mono' d l xs G⟩⟩
theorem Fc.fin{T E:tI}{ob:Nat}{sl:Value}{a:oA}{c n:Nat}{xs:lV}{w:wO}{f0 f:Fq}{l:List OX}(h:Fc T E ob sl a c n xs w f)(D:C9 M w0 f0 w f)(U:∀b,rb a=some b→w0.heap.size≤b)(W:BS w f l xs)(hl:l.length=n)(h0:0<n):∃f',C9 M w0 f0 w f'∧IE w f' l a c:=by
 rcases h.row.2 with ⟨_,_,hz⟩|⟨b,q,L,O,Y,Z,hq,ht⟩
 · omega
 · have hlt:=O.lt
   refine⟨λk=>if k=b then max xs.length (f k) else f k,?_,oM,b,xs,L,?_,?_⟩
   · refine⟨D.stp,λk F=>?_,λk F=>?_⟩
     · have:=U b (by rw[L];rfl)
       rw[if_neg (by omega)];exact D.old k F
     · rw[if_neg (by omega)];exact D.val k F
   · intro j v d
     have hjl:j<xs.length:=(List.getElem?_eq_some_iff.1 d).1;refine⟨by simp only[if_true];omega,?_⟩;have G:w.heap[b]?=some (.cells q.toArray _):=O
     have K:q[j]?=some v:=by
       rw[← ht] at d;rw[List.getElem?_take] at d
       split at d
       · exact d
       · cases d
     simp[World.cell?,G,K]
   · exact BS.mono' (λk=>⟨by split <;> omega,λ_ _=>C⟩) l xs W
end Go.SP
namespace Go.SW
open Go.RowKit
variable {top:Bool}{fs:List Fr}
theorem mmi{P:Program}{n:Nat}{Q:AV}{ds:List Deferred}{X:Cx}{R:List RB}{B:List FB}{Fs:List (wO→Fq→Prop)}{σ:Ba}{H:List HB}{k:K3}(MI':Nat→Prop)(I':wO→Fq→Prop)(hm:∀b,MI' b→X.MI b)(G:∀w f,X.I w f→I' w f)(F:ED MI' I')
   (h:A1 P n Q ds {X with MI:=MI',I:=I' } R B Fs k fs σ H):A1 P n Q ds X R B Fs k fs σ H:=λw f d =>
 h w f {d with
         res:=G w f d.res,
         stab:=F,
         mi:=λb D=>d.mi b (hm b D),
         own:=λb D=>⟨(d.own b D).1,(d.own b D).2.1,λh=>(d.own b D).2.2 (hm b h)⟩}
section
variable{P:Program}{n:Nat}{Q:AV}{ds:List Deferred}{X:Cx}{R:List RB}{B:List FB}{Fs:List (wO→Fq→Prop)}{l:List Oper}{Hk:List HB}{B0:List FB}{J:wO→Prop}{σ:Ba}{H:List HB}
theorem EY{α:Type}{t:OT}(t':OT)(s':α→Ba)(H':α→List HB)(B':α→List FB)(F':α→List (wO→Fq→Prop))(d:∀x,CK P n Q ds X R (B' x) (F' x) l Hk B0 J true t' (s' x) (H' x))
   (h:(∀x,CK P n Q ds X R (B' x) (F' x) l Hk B0 J true t' (s' x) (H' x))→CK P n Q ds X R B Fs l Hk B0 J top t σ H):CK P n Q ds X R B Fs l Hk B0 J top t σ H:=h d
theorem BL{α:Type}{t:OT}{s':α→Ba}{H':α→List HB}{B':α→List FB}{F':α→List (wO→Fq→Prop)}(h:∀x,CK P n Q ds X R (B' x) (F' x) l Hk B0 J true t (s' x) (H' x))(x:α)(d:Le (s' x) σ)(D:∀w f,AO X w f H R B Fs→AO X w f (H' x) R (B' x) (F' x)):CK P n Q ds X R B Fs l Hk B0 J true t σ H :=
 λw f hm a F=>h x w f (D w f hm) a (F.le d)
end
end Go.SW
namespace Go.SP
open Go.SW Go.RowKit
section
variable{P:Program}{n:Nat}{Q:AV}{ds:List Deferred}{M:Nat→Prop}{w0:wO}{f0:Fq}{T TS:tI}{A:Ad}{s:CS}{R:List RB}{B:List FB}{Fs:List (wO→Fq→Prop)}{fs:List Fr}{σ:Ba}{H:List HB}
variable{all r:List Oper}{ty TM k e:tI}{pos:String}{af:Array Edge}{g:Option (Nat×Bool)}{x y z:Operand}
variable {ag:Bool}{ac oc vc:Nat}{aa oa va:oA}
theorem cSet{v:Int}(d:A.ok)(D:gd all σ g=some true)(F:ev σ x=some (.pointer (some ⟨A.cb,4,none⟩)))(G:ev σ y=some (.int .i64 v))(J:AT P TM=some (ag,1))
   (h:A1 P n Q ds ⟨M,Dk A,AN T TS A {s with vars:=v},w0,f0⟩ R B Fs (.ops all r) fs σ H):A1 P n Q ds ⟨M,Dk A,AN T TS A s,w0,f0⟩ R B Fs (.ops all (⟨none,.store TM x y,ty,pos,af,g⟩::r)) fs σ H :=
 ZZ (b:=A.cb) (I':=AN T TS A {s with vars:=v}) D F G C J C C C (.inl C) (λw f h=>h.blk) (λw f U h K L O=>h.setVars d L O (K.mi _ (.inl C)).2.1) AN.stab h
theorem zP{a:lU}{m:Mk}{i1:Nat}(W:A.ok)(hw:Im s)(Y:gd all σ g=some true)(Z:ev σ x=some (.map (some A.km)))(hy:ev σ y=some (S a)){U:Value}(hz:ev σ z=some U)(F:U=.agg (mkC m aa ac oa oc va vc).toArray)(hT:Iq P TM=some (k,e))(hk:P.underlying k=some .string)(hn:Eu s.cons a=none)
   (G:nth Fs i1=some λw f=>Al w f m.args aa ac) (J:m.out.kids=.nil) (L:m.vars=[])
   (h:A1 P n Q ds ⟨M,Dk A,AN T TS A {s with cons:=(a,m)::s.cons},w0,f0⟩ R B Fs (.ops all r) fs σ H):A1 P n Q ds ⟨M,Dk A,AN T TS A s,w0,f0⟩ R B Fs (.ops all (⟨none,.mapUpdate TM x y z,ty,pos,af,g⟩::r)) fs σ H:=by
 subst F;exact mxk λes=>Kz (λw f d=>(show M5 es from D0.dis d.res.2.2 hw.dc)) λD=>Kz (λw f d=>(show Gu es a=none from (D0.look d.res.2.2).1 hn)) λO=>yJ (K:=JB) (a:=a) (l:=es) (I':=AN T TS A {s with cons:=(a,m)::s.cons}) Y Z hy hz hT hk (.inr (.inr (.inr (.inl C)))) D O (λw f h=>h.2.1) (λw f w2 h d hC hm=>h.1.addCons W h.2.2 hC hm (d.mi _ (.inr (.inr (.inr (.inl C))))).2.1 (d.fact G) (by rw[J];exact Al.nil _ _ _ _) (by rw[L];exact⟨Nat.zero_le _,.inl C⟩)) AN.stab h
end
def Qs:Nat→Ty
 |0=>.nil
 |n+1=>(Qs n).snoc (c0 bS)
theorem Ll:∀n,(Qs n).len=n
 |0=>rfl
 |n+1=>by rw[Qs,Ty.len_snoc,Ll n]
theorem Nx:∀n,(Qs n).bnd
 |0=>trivial
 |n+1=>Ty.bnd_snoc (Nx n) (GJ dC)
def Hs:List (lU×lU×Int×Nat):=[([70,97,108,115,101],bB,0,0),([84,114,117,101],bB,1,0),([68,105,118],bX,0,0),([77,97,116,99,104],bX,1,0),([65,98,111,114,116],bX,2,0),([75,101,101,112],bX,3,0),([79,117,116],bX,4,0),([70,97,105,108],bX,5,1)]
def mkL(p:lU×lU×Int×Nat):lU×Mk:=(p.1,⟨Qs p.2.2.2,c0 p.2.1,[]⟩)
def Yv(i:Nat):List (lU×Mk):=((Hs.take i).map mkL).reverse
variable {f:Fq}{b i:Nat}{w:wO}
theorem Ow{p:lU×lU×Int×Nat}(h:Hs[i]?=some p):Yv (i+1)=mkL p::Yv i:=by
 unfold Yv;rw[CZ h,List.map_append,List.reverse_append];rfl
theorem Om:∀i,i<8→∀p,Hs[i]?=some p→Eu (Yv i) p.1=none:=by
 intro i h p d;have:i=0∨i=1∨i=2∨i=3∨i=4∨i=5∨i=6∨i=7:=oM;rcases this with rfl|rfl|rfl|rfl|rfl|rfl|rfl|rfl <;> (cases d;decide)
def cC(p:lU×lU×Int×Nat):lV:=[S p.1,S p.2.1,.int .i64 p.2.2.1,.int .i64 (p.2.2.2:Int)]
theorem Cs.flat{α:Type}(g:α→lV)(q:Nat)(D:∀x,(g x).length=q):∀(l:List α)(off i:Nat)(x:α),Cs w f b off (l.flatMap g)→l[i]?=some x→Cs w f b (off+i*q) (g x)
 | [],_,_,_,_,h=>by simp at h
 |y::l,off,0,x,d,h=>by
   cases h
   rw[List.flatMap_cons] at d;simpa using Cs.le d
 |y::l,off,i+1,x,d,h=>by
   rw[List.flatMap_cons] at d;have F:=Cs.drop d;rw[D] at F;have:=Cs.flat g q D l (off+q) i x F (by simpa using h);rwa[show off+q+i*q=off+(i+1)*q by rw[Nat.add_mul];omega] at this
theorem BS.get:∀{l:List OX}{xs:lV}{off i:Nat}{p:OX},BS w f l xs→Cs w f b off xs→l[i]?=some p→∃a c,Cs w f b (off+i*6) (pC p a c)∧Al w f p.2.2.kids a c
 | [],_,_,_,_,_,_,h=>by simp at h
 |q::l,xs,off,0,p,⟨a,c,xs',d,F,G⟩,D,h=>by
   cases h
   subst d;exact⟨a,c,by simpa using Cs.le D,F⟩
 |q::l,xs,off,i+1,p,⟨a,c,xs',d,F,G⟩,D,h=>by
   subst d;have J:=Cs.drop D;obtain⟨a',c',K,L⟩:=BS.get G J (by simpa using h);exact⟨a',c',by rwa[show off+(pC q a c).length+i*6=off+(i+1)*6 by simp only[pC,tC,List.length_cons,List.length_nil];omega] at K,L⟩
end Go.SP
namespace Go.SW
open Go.RowKit
def yM(K:List Nat)(Q:AV):Prop:=∀c σ h ds w,(∀k,k∈K→h k=σ k)→Q.p c σ ds w→Q.p c h ds w
def yD(K:List Nat):List Oper→Bool
 | []=>true
 |o::l=>(match o.dst with|some d=>!K.contains d|none=>true)&&yD K l
theorem WS{K:List Nat}:∀{l:List Oper}{i:Nat}{o:Oper}{d:Nat},yD K l=true→l[i]?=some o→o.dst=some d→d∉K
 | [],_,_,_,_,h,_=>by simp at h
 |x::l,0,o,d,D,h,hd=>by
   cases h
   simp only[yD,hd,Bool.and_eq_true] at D;simpa using D.1
 |x::l,i+1,o,d,D,h,hd=>by
   simp only[yD,Bool.and_eq_true] at D;exact WS D.2 (by simpa using h) hd
section
variable{P:Program}{n:Nat}{Q:AV}{S:wO→Prop}{l:List Oper}{K:List Nat}
variable {id:Nat}{w:wO}
theorem fZ(D:yM K Q){c:List PanicEntry}{a:Act}{d:Nat}{v:Value}(hd:d∉K)(h:Q.up n (.panic c) (a.put (some d) v) w):Q.up n (.panic c) a w:=by
 obtain⟨σ,ds,F,L⟩:=h;refine⟨λt=>if t=d then none else σ t,ds,⟨by have:=F.size;simpa[Act.put] using this,F.defs,λt O G=>?_⟩,D _ _ _ _ _ (λk U=>if_neg (c:=k=d) λe=>hd (e▸U)) L⟩
 by_cases e:t=d
 · simp[e] at G
 · simp only[e,if_false] at G
   have J:=F.val t O G;simp only[Act.put,Array.getD_eq_getD_getElem?] at J ⊢;rwa[Array.getElem?_setIfInBounds_ne (λh=>e h.symm)] at J
theorem JV(Y:Region.noSelect l.toArray=true)(G:yM K Q)(J:yD K l=true):∀(m:Nat)(t:OT)(listed:Array Bool)(a:Act)(w:wO),t.even true m=true→t.ok l.toArray true listed=true→S w→eN P l (Q.up n) S true t a w→wpAnyH P .any l.toArray (Q.up n) S m listed a w
 |m,.fin,listed,a,w,D,F,U,h=>by
   simp[OT.even] at D;subst D;exact wpAnyH_done (by simpa[OT.ok] using F) (h C) 0
 |0,.rd _ _,_,_,_,D,_,_,_=>by simp[OT.even] at D
 |0,.br _ _ _,_,_,_,D,_,_,_=>by simp[OT.even] at D
 |m+1,.rd i k,listed,a,w,D,F,U,h=>by
   simp only[OT.ok,Bool.and_eq_true,Bool.true_and] at F;obtain⟨o,v,hi,hy,h'⟩:=h
   exact wpAnyH_take (by simpa using hi) Y F.1.1 F.1.2 (λc a w W=>by
     cases hd:o.dst with
     |none=>rw[hd] at W;exact W
     |some d=>rw[hd] at W;exact fZ G (WS J hi hd) W) hy U (JV Y G J m k _ _ w D F.2 U h')
 |m+1,.br i k o,listed,a,w,D,F,U,h=>by
   have L:(OT.br i k o).ok l.toArray false listed=true:=by
     simp only[OT.ok,Bool.and_eq_true] at F ⊢;exact⟨⟨C,F.1.2⟩,F.2⟩
   have O:(OT.br i k o).even false (m+1)=true:=D
   have Z:Region.ready .any l.toArray listed=(OT.br i k o).alts:=by
     simp only[OT.ok,Bool.and_eq_true,Bool.not_true,Bool.false_or,beq_iff_eq] at F;exact F.1.1
   have hw':eN P l (Q.up n) S false (.br i k o) a w:=h;refine wpAnyH_all Z (by simp[OT.alts]) λj hj=>?_;obtain⟨k',h1,⟨m',hm,h2⟩,h3⟩:=OT.alts_mem (.br i k o) l.toArray listed (m+1) j L O hj;obtain rfl:m=m':=oM;obtain⟨op,hop,hwl⟩:=h3 P l (Q.up n) S a w hw';exact wpOp_mono (λa' w' hk=>⟨hk.1,JV Y G J m k' _ a' w' h2 h1 hk.1 hk.2⟩) (HG (by simpa using hop) (λ_ _ h=>h) hwl)
variable{σ:Ba}{ds:List Deferred}{X:Cx}{R:List RB}{B:List FB}{Fs:List (wO→Fq→Prop)}{fs:List Fr}{H Hk:List HB}
theorem Qw(h:yM K Q):∀fs:List Fr,yM K (Lo P n Q fs)
 | []=>h
 |.sq _::fs=>Qw h fs
 |.bk _::fs=>Qw h fs
theorem xB(K:List Nat)(J:wO→Prop)(Y:∀w f,X.I w f→C9 X.M X.w0 X.f0 w f→J w)(Z:List Nat)(hm:P.follows .mixedOrders=true)(t:OT)(hk:M1 H Z=some Hk)(G:t.ok l.toArray true (Array.replicate l.length false)=true)(L:t.even true l.length=true)(D:Region.noSelect l.toArray=true)(O:yD K l=true)(U:yM K Q)
   (h:CK P n (Lo P n Q fs) ds X R B Fs l Hk B J true t σ H):A1 P n Q ds X R B Fs (.code (.region id l.toArray true)) fs σ H:=λw f W a ha=>by
 refine wp_region_held (S:=Kp Hk B J) hm ?_;have F:AO X w.drew f H R B Fs:=W.call0 (C9.of_ext AW.drew W.val);have:=JV (P:=P) (n:=n) (Q:=Lo P n Q fs) D (Qw U fs) O l.length t (Array.replicate l.length false) a w.drew L G (F.kp (J1 hk) Y) (h w.drew f F a ha);simpa using this
end
variable {args:Array Value}{f:Fq}{fid:FuncId}{cv:lV}{M:Nat→Prop}{x:Operand}{w:wO}
theorem pW{b1 b2 b3:Nat}{J L O:lV}{T1 U W:tI}(Y:Vl w f)(Z:AS w b1 J T1)(h2:AS w b2 L U)(h3:AS w b3 O W)(D:f b1=0∧f b2=0∧f b3=0)(F:b1≠b2∧b1≠b3∧b2≠b3) :
   AO ⟨λb=>b=b1∨b=b2∨b=b3,λ_=>False,λ_ _=>True,w,f⟩ w f [⟨b1,J,T1,false⟩,⟨b2,L,U,false⟩,⟨b3,O,W,false⟩] [] [] [] where
 stp:=MC.refl _ _
 old _ _:=rfl
 val:=Y
 ent:=HF.refl _ _
 res:=trivial
 stab _ _ _ _ _ _ _:=trivial
 mi _ h:=h.elim
 blk e h:=by
   rcases List.mem_cons.1 h with rfl|h
   · exact Z
   rcases List.mem_cons.1 h with rfl|h
   · exact h2
   rcases List.mem_cons.1 h with rfl|h
   · exact h3
   cases h
 row _ h:=by cases h
 nd:=by simp[Cf,F.1,F.2.1,F.2.2]
 own b h:=by
   simp[Cf] at h;rcases h with rfl|rfl|rfl
   · exact⟨D.1,.inr (.inl C),λh=>h⟩
   · exact⟨D.2.1,.inr (.inr (.inl C)),λh=>h⟩
   · exact⟨D.2.2,.inr (.inr (.inr C)),λh=>h⟩
 hnw e h G:=by
   rcases List.mem_cons.1 h with rfl|h
   · cases G
   rcases List.mem_cons.1 h with rfl|h
   · cases G
   rcases List.mem_cons.1 h with rfl|h
   · cases G
   cases h
 rnw _ h:=by cases h
 fro _ h:=by cases h
 fac _ h:=by cases h
 mono _ h:=by cases h
def W5(P:Program)(fn:Func)(K:List Nat)(R:Ending→wO→Prop):AV :=
 {q:=(Wx P fn R).q,
   p:=λc σ ds w=>∀tmps:Array Value,(∀t,t∈K→∀v,σ t=some v→tmps.getD t undef=v)→Leaves P fn tmps R ds (.panicking c) w}
theorem I4{P:Program}{fn:Func}{K:List Nat}{R:Ending→wO→Prop}:yM K (W5 P fn K R):=λ_ _ _ _ _ D h tmps F=>h tmps λt hm v G=>F t hm v ((D t hm).trans G)
theorem vJ{P:Program}{n:Nat}{X:Cx}{H:List HB}{R:List RB}{B:List FB}{Fs:List (wO→Fq→Prop)}{fn:Func}{c:Code}{l:lV}{G:Ending→wO→Prop}{K:List Nat}(J:P.funcs[fid]?=some fn)(L:fn.body=some c)(O:fn.ntmps=n)(U:Nat.ble l.length n=true)(W:AO X w f H R B Fs)
   (h:A1 P n (W5 P fn K G) [] X R B Fs (.code c) [] (GU l 0) H):Calls P fid l.toArray w G:=by
 refine calls_of_wp_defers J L ?_;rw[O];refine wp_mono (h w f W _ (IN U)) λe a w' he=>?_
 cases e with
 |normal=>obtain⟨σ,ds,D,F⟩:=he;show Leaves _ _ _ _ a.defers _ _;rw[D.defs];exact F _ D.val
 |ret=>obtain⟨σ,ds,D,F⟩:=he;show Leaves _ _ _ _ a.defers _ _;rw[D.defs];exact F _ D.val
 |panic c=>obtain⟨σ,ds,D,F⟩:=he;show Leaves _ _ _ _ a.defers _ _;rw[D.defs];exact F _ λt _ v Y=>D.val t v Y
 |outgrown=>exact he.elim
 |exit i=>obtain⟨σ,ds,D,F⟩:=he;exact F.elim
 |goto i=>obtain⟨σ,ds,D,F⟩:=he;exact F.elim
section
variable{P:Program}{n:Nat}{Q:AV}{ds:List Deferred}{X:Cx}{R:List RB}{B:List FB}{Fs:List (wO→Fq→Prop)}{fs:List Fr}{σ:Ba}{H:List HB}
variable{all r:List Oper}{ty T:tI}{pos:String}{af:Array Edge}{g:Option (Nat×Bool)}{d:Nat}
theorem mdf{f:FuncId}{D:Array tI}(F:gd all σ g=some true)(G:ev σ x=some (.func (.func f) #[] cv.toArray))
   (h:A1 P n Q ({target:=.fn (.func f) cv.toArray,args:=#[]}::ds) X R B Fs (.ops all r) fs σ H):A1 P n Q ds X R B Fs (.ops all (⟨none,.defer {callee:=.value x,args:=#[],argTypes:=D},ty,pos,af,g⟩::r)) fs σ H:=λw f J =>
 Bh F (PZ G (h w f J))
theorem mcq{op:Op}{α:Type}{val:α→Value}{q:α→Prop}{I':α→wO→Fq→Prop}{F':α→List (wO→Fq→Prop)}{pe:SP.Er→Prop}
   (U:gd all σ g=some true) (hd:Nat.blt d n=true) (he:∀w,Enters P σ op ty w fid args) (W:∀b,M b→X.MI b)
   (Y:∀w f,AO X w f H R B Fs→BV P fid args w (EF val q X.MI I' F' w f) (SP.PanE T M pe w f)) (F:∀x,ED X.MI (I' x)) (hm:∀x,Au (F' x))
   (Z:∀er w' f',pe er→C9 X.M X.w0 X.f0 w' f'→(∀e,e∈H→AS w' e.b e.l e.T∧f' e.b=0∧(e.nw=true→X.w0.heap.size≤e.b))→Q.p (SP.trI T er) σ ds w')
   (h:∀x,q x→A1 P n Q ds {X with I:=I' x} R B (F' x++Fs) (.ops all r) fs (AI σ d (val x)) H):A1 P n Q ds X R B Fs (.ops all (⟨some d,op,ty,pos,af,g⟩::r)) fs σ H :=
 CI (XX:=λc w'=>∃er f',c=SP.trI T er∧pe er∧C9 X.M X.w0 X.f0 w' f'∧∀e,e∈H→AS w' e.b e.l e.T∧f' e.b=0∧(e.nw=true→X.w0.heap.size≤e.b)) U hd he (λw f O=>(Y w f O).mono (λ_ _ h=>h) λ_ w' ⟨er,f',G,J,L⟩=>by
   have D:=O.callI (I':=λ_ _=>True) (L.mono W) tQ (λ_ _ _ _ _ _ _=>trivial);exact⟨er,f',G,J,D.exm,λe he=>⟨D.blk e he,(D.own e.b (List.mem_append.2 (.inl (List.mem_map.2 ⟨e,he,C⟩)))).1,D.hnw e he⟩⟩) F hm (λ_ _ _ _ _ ⟨er,f',G,J,L,h4⟩=>G▸Z er _ f' J L h4) h
end
open Go.SP (RG)
section
variable{P:Program}{n:Nat}{Q:AV}{ds:List Deferred}{X:Cx}{R:List RB}{B:List FB}{Fs:List (wO→Fq→Prop)}{fs:List Fr}{σ:Ba}{H:List HB}
variable{all r:List Oper}{ty T:tI}{pos:String}{af:Array Edge}{g:Option (Nat×Bool)}{d:Nat}{op:Op}{fid:FuncId}{args:Array Value}{α:Type}
variable {pe:Int×Int→Prop}{xs:lV}{k:Nat}{e:tI}
theorem mclh{val:α→Value}{q:α→Prop}{F':α→List (wO→Fq→Prop)}
   (K:gd all σ g=some true) (hd:Nat.blt d n=true) (he:∀w,Enters P σ op ty w fid args)
   (L:∀w f,AO X w f H R B Fs→BV P fid args w (AU val q F' w f) (RZ T pe w f)) (hm:∀x,Au (F' x))
   (O:∀e w' f',pe e→C9 X.M X.w0 X.f0 w' f'→(∀e,e∈H→AS w' e.b e.l e.T∧f' e.b=0∧(e.nw=true→X.w0.heap.size≤e.b))→Q.p (RG T e) σ ds w')
   (h:∀x,q x→A1 P n Q ds X R B (F' x++Fs) (.ops all r) fs (AI σ d (val x)) H):A1 P n Q ds X R B Fs (.ops all (⟨some d,op,ty,pos,af,g⟩::r)) fs σ H:=λw f F=>by
 refine Bh K (Cc hd (he w) (L w f F) ?_ ?_)
 · rintro v w' ⟨x,f',rfl,G,J,U⟩
   exact h x G w' f' ((F.call0 J).more (B':=[]) (λ_ h=>by cases h) U.mem (hm x).mem)
 · rintro c w' ⟨e,f',rfl,G,J⟩
   rw[M0];have D:=F.call0 J;exact O e w' f' G D.exm λe he=>⟨D.blk e he,(D.own e.b (List.mem_append.2 (.inl (List.mem_map.2 ⟨e,he,C⟩)))).1,D.hnw e he⟩
theorem mct{size:Nat}{val:oA→Nat→Value}(J:gd all σ g=some true)(hd:Nat.blt d n=true)(he:∀w,Enters P σ op ty w fid args)
   (K:∀w f,AO X w f H R B Fs→AX P fid args w λv w'=>∃a c,v=val a c∧(BQ w' e size a c k xs∧∀b,rb a=some b→w.heap.size≤b)∧AW w w')
   (h:∀a c,A1 P n Q ds X (⟨e,size,a,c,k,xs⟩::R) B Fs (.ops all r) fs (AI σ d (val a c)) H):A1 P n Q ds X R B Fs (.ops all (⟨some d,op,ty,pos,af,g⟩::r)) fs σ H:=λw f F=>by
 refine Bh J (Cc hd (he w) (AX.retP (X:=λ_ _=>False) (K w f F)) ?_ (λ_ _ h=>False.elim h));rintro v w' ⟨a,c,rfl,⟨L,G⟩,O⟩;exact h a c w' f (F.addRow (C9.of_ext O F.val) L λb D=>⟨G b D,F.val b (G b D)⟩)
end
end Go.SW
namespace Go.SP
open Go.SW Go.RowKit
def oK(w w':wO)(f:Fq):Fq:=λb=>if b<w.heap.size then f b else match w'.heap[b]? with|some (.cells l _)=>l.size|_=>0
variable {f:Fq}{l:lV}{b off:Nat}{a:oA}{w w':wO}
theorem gE(D:AW w w'):C9 (λ_=>False) w f w' (oK w w' f) where
 stp:=MC.of_ext D
 old b h:=by unfold oK;rw[if_pos h]
 val b h:=by
   unfold oK;rw[if_neg (by have:=D.size;omega),Array.getElem?_eq_none h]
theorem sE{L r:lV}{T:tI}(F:AS w' b L T)(O:w.heap.size≤b)(hd:L.drop off=l++r):Cs w' (oK w w' f) b off l:=λj v G=>by
 have J:L[off+j]?=some v:=by
   rw[← List.getElem?_drop,hd];obtain⟨h,_⟩:=List.getElem?_eq_some_iff.1 G;rw[List.getElem?_append_left h];exact G
 obtain⟨K,_⟩:=List.getElem?_eq_some_iff.1 J;have D:w'.heap[b]?=some (.cells L.toArray T):=F;refine⟨?_,?_⟩
 · unfold oK
   rw[if_neg (by omega),D];simpa using K
 · rw[F.cell,J]
theorem GN.frz:∀(k:Fo)(b off:Nat)(L l:lV)(T:tI),AS w' b L T→w.heap.size≤b→L.drop off=l→GN (λb=>w.heap.size≤b) w' k l→Yj w' (oK w w' f) k b off
 |.nil,_,_,_,_,_,_,_,_,_=>trivial
 |.cons t k r,b,off,L,l,T,J,K,hd,⟨a,n,c,O,W,⟨D,h3,F⟩,Y⟩=>by
   subst W;refine⟨⟨a,c,sE (r:=O) J K (by rw[hd,D];rfl),oM,?_⟩,GN.frz r b (off+6) L O T J K (by rw[← List.drop_drop,hd];rfl) Y⟩;rcases F with F|⟨U,h,Z,T2,hu,ha,G,hc⟩
   · left
     cases k with
     |nil=>rfl
     |cons _ _ _=>rw[F] at D;cases D
   · exact .inr ⟨U,h,ha,GN.frz k U h Z _ T2 G hu C hc⟩
theorem Ee.frz{c:Nat}{k:Fo}(h:Ee (λb=>w.heap.size≤b) w' a k.len c k):Bq w' (oK w w' f) k a c:=by
 obtain⟨L,F,D⟩:=h;refine⟨F,?_⟩;rcases D with D|⟨b,off,l,T,hu,G,J,K⟩
 · left
   cases k with
   |nil=>rfl
   |cons _ _ _=>cases D
 · exact .inr ⟨b,off,G,GN.frz k b off l _ T J hu C K⟩
def S3(p:Nd×Int×Int×Int)(w:wO)(f:Fq)(v:Value)(w':wO):Prop :=
 ∃f' a c,C9 (λ_=>False) w f w' f'∧v=.tuple #[.slice a p.1.len c,.agg #[.int .i64 p.2.1,.int .i64 p.2.2.1],.int .i64 p.2.2.2]∧Bc w' f' p.1 a c
end Go.SP
namespace Go.Proofs.YtnojaendcldjpaaGreatDoor
open Go.SW Go.SP Go.RowKit Go.Proofs.Tryz
theorem V6(w:wO)(ta:oA)(tn tc:Nat)(J:List Aq)(hT:BQ w 117 5 ta tc J.length (EK J))(htn:tn=J.length)(hlen:J.length≤100000) :
  BV prog 25 #[.slice ta tn tc] w (λv w'=>∃fo a c,A7 J [] .nil=.ok fo∧v=.slice a fo.len c∧Ee (λb=>w.heap.size≤b) w' a fo.len c fo∧AW w w') (λc w'=>∃e,A7 J [] .nil=.error e∧c=RG 74 e∧AW w w'):=by
 subst htn;have F:=AW.refl w;refine HZ func25 C C C<|Az [] 7 (λ_=>BU C C G5 zU C C C C C λb1 w1 hb1 hE1 hs1 hz1=>?_);have F:=F.trans hE1;refine Ay [.sq _] 17 (λ_=>?_);refine DM (λk σ ds w'=>∃(i:Nat)(pre rest:List Aq)(st:List (Aq×Fo))(cur:Fo)(u:Nat→Nat)(oa:oA)(oc sb sc:Nat)(a:oA)(c:Nat)(vs:lV),k=rest.length∧ds=[]∧σ=(E5 3 (.slice (some ⟨sb,0,none⟩) (st.length+1) sc) 4 (.slice oa st.length oc) 10 (.slice ta J.length tc) 11 (iV (J.length:Int)) 12 (iV (i:Int)))∧J=pre++rest∧pre.length=i∧A7 J [] .nil=A7 rest st cur∧st.length≤200∧cur.len≤i∧(∀z∈st,z.2.len≤i)∧SV 119 117 76 u w w' st st oa oc (some ⟨sb,0,none⟩) sc (.slice a cur.len c) a c cur vs none 0 0 .nil∧AW w w') J.length (E5 3 (.slice (some ⟨b1,0,none⟩) 1 1) 4 (.slice none 0 0) 10 (.slice ta J.length tc) 11 (iV (J.length:Int)) 12 (iV ((0:Nat):Int))) lE ⟨0,[],J,[],.nil,λ_=>2,none,0,b1,1,none,0,[],C,C,C,C,C,C,by simp,by simp[Fo.len],(λz hz=>by cases hz),SV.start hb1 oM,F⟩ ?_;rintro _ _ _ wl ⟨i,pre,rest,st,cur,u,oa,oc,sb,sc,a,c,vs,rfl,rfl,rfl,htk,hpi,hm,h200,hcl,hsl,Y,F⟩;have szl:=F.size;have hil:i+rest.length=J.length:=by rw[htk,List.length_append,hpi]
 have hslt:sb<wl.heap.size:=Y.slt sb C;have hsge:w.heap.size≤sb:=(Y.sla sb C).1;have htlt:=Y.tlt;have holt:=Y.olt;have hson:=Y.o.n_le;have hssn:=Y.s.n_le;have G:=AW.refl wl;refine Az [] 6 (λ_=>sP 13 C (λh1=>?_) (λh1=>?_));refine Az [.sq _] 7 (λ_=>?_);have hi2:i<J.length:=by simpa using h1
 rcases rest with _|⟨tk,rest⟩
 · simp at hil;omega
 simp only[List.length_cons] at hil;obtain⟨bt,lt,lt2,hta,hbt,hdt⟩:=vF (htk▸hT) hpi
 cases hta
 have hbtl:=hbt.lt;refine Ac C (Me (i:=i) C C GR hi2)<|Ac C (Md 0 C DO (hbt.ext F) hdt oM C)<|CF C DA λb2 w2 hb2 hE2 hs2 hz2=>?_;have F:=F.trans hE2;have G:=G.trans hE2;refine AA C C C DO C hb2 C C λw3 K hC1=>?_;have F:=F.chg hC1 oM;have G:=G.chg hC1 oM;have sz1:=hC1.size;refine K0 [.sq _,.bk _,.sq _] 23 [0,0] (kB K (Fb _)) (aI ⟨oM,oM⟩<|y2<|λ_=>sP 32 C (λh2=>?_) (λh2=>?_));refine Az [.bk _,.bk _,.sq _] 9 (λ_=>sP 36 C (λh3=>?_) (λh3=>?_));exact OV [.sq _,.bk _,.bk _,.sq _] 5 [0,1] (kB K (Fb _)) (y2<|λ_=>Ac C (B7 C nI)<|BX (B2 C) (aI C<|⟨(tk.ln,tk.co),hm.trans (Sz h2 (by have:=h3;simp at this;omega)),C,F⟩));refine OV [.sq _,.bk _,.bk _,.sq _] 7 [0,0] (kB K (Fb _)) (y2<|λ_=>BU C C GR DA C C C C C λb3 w4 hb4 hE3 hs3 hz3=>?_);have K:=K.ext hE3;have F:=F.trans hE3;have G:=G.trans hE3;have D:=(Y.ext G);refine Cm C aT C C C C D.o hb4 C C oM oM λoa2 oc2 w5 hr1 O=>?_;obtain⟨u2,hS1⟩:=D.pushTok tk cur hr1 O oM;have F:=F.grow O (λb hb=>(D.ol b hb).1);have sz2:=O.size;have U:=AW.refl w5;refine Ay [.sq _,.bk _,.bk _,.sq _] 5 (λ_=>BU C C G5 zU C C C C C λb4 w6 W hE4 hs4 hz4=>?_);have F:=F.trans hE4;have U:=U.trans hE4;have D:=(hS1.ext U);refine Cm C zX C C C C D.s W C C oM oM λsa2 sc2 w7 hr2 hG2=>?_;obtain⟨u3,hS2⟩:=D.pushLev C tk hr2 hG2 oM;have F:=F.grow hG2 (λb hb=>(D.sla b hb).1);have sz3:=hG2.size;have hA3:=AW.refl w7;refine Ay [.bk _,.bk _,.sq _] 9 (aI ⟨oM,oM⟩<|λ_=>?_);obtain⟨sb2,_,hes2,-⟩:=(hS2.ext hA3).sblk
 cases hes2
 have hne2:st.length≠200:=by have:=h3;simp at this;omega
 refine GS rest.length (E5 3 (.slice (some ⟨sb2,0,none⟩) (st.length+1+1) sc2) 4 (.slice oa2 (st.length+1) oc2) 10 (.slice (some ⟨bt,0,none⟩) J.length tc) 11 (iV (J.length:Int)) 12 (iV ((i+1:Nat):Int))) (by simp) lE ⟨i+1,pre++[tk],rest,(tk,cur)::st,.nil,_,oa2,oc2,sb2,sc2,none,0,_,C,C,C,by rw[htk];simp,by simp[hpi],hm.trans (Si h2 hne2),by simp only[List.length_cons];omega,by simp[Fo.len],Xb tk hsl hcl,(hS2.ext hA3),F⟩;refine Az [.bk _,.bk _,.sq _] 7 (λ_=>sP 48 C (λh3=>?_) (λh3=>?_));refine Az [.bk _,.bk _,.sq _] 8 (λ_=>sP 51 C (λh4=>?_) (λh4=>?_));refine OV [.sq _,.bk _,.bk _,.sq _] 5 [0,1] (kB K (Fb _)) (y2<|λ_=>Ac C (B7 C nI)<|BX (B2 C) (aI C ?_));rcases st with _|⟨o,s⟩
 · exact⟨(tk.ln,tk.co),hm.trans (TW h2 h3),C,F⟩
 · have h2:=h4;simp at h2 <;> omega
 refine Az [.sq _,.bk _,.bk _,.sq _] 4 (λ_=>?_);rcases st with _|⟨⟨o,q⟩,s⟩
 · simp at h4
 rcases vs with _|⟨y,vs⟩
 · exact Y.lv.elim
 obtain⟨_,ls,hes,Q,L,hsl2,hsw,hsu⟩:=(Y.ext G).sblk
 cases hes
 obtain⟨ob,lo,lo2,hoa,hob,hod⟩:=(Y.ext G).oblk
 cases hoa
 have hobl:ob<wl.heap.size:=holt ob C;have hr1:=Q;have hr2:=(hbt.ext F);have hr3:=K;have hr4:=hob;refine DN mixed (A4 w3 [sb,bt,b2,ob]) [(true,0),(true,1),(true,2),(true,3),(true,4),(true,5),(true,6),(true,7),(true,8),(true,9),(false,10),(false,11)] kR kR C C λw4 hE3 hz3=>?_;have d:A4 w3 [sb,bt,b2,ob] w4:=A4.cons hr1 hE3 (A4.cons hr2 hE3 (A4.cons hr3 hE3 (A4.cons hr4 hE3 (A4.nil _ _))));refine⟨d,?_⟩;have K:=K.ext hE3;have hob:=hob.ext hE3;have Q:=Q.ext hE3;have F:=F.trans hE3;have G:=G.trans hE3;refine Ax C (λ_ Y=>Aw C)<|Ax C (λ_ Y=>Aw C)<|Ax C (λ_ Y=>G0 C C ⟨oM,oM⟩)<|Ax C (λ_ Y=>Ei s.length C C (by simp <;> omega) GR (by simp))<|Ax C (λ_ Y=>Md 0 C DO (hr4.keep Y (.tail _ (.tail _ (.tail _ (.head _))))) hod oM C)<|Ax C (λ_ Y=>Aw C)<|Ax C (λ_ Y=>Aw C)<|Ax C (λ_ Y=>Ei (s.length+1) C C (by simp) G5 (by simp))<|Ax C (λ_ Y=>Ai C JG (hr1.keep Y (.head _)) (by simpa using L))<|Ax C (λ_ Y=>D5 C qC KT C) ?_;refine Eh<|CF C KT λb3 w5 hb4 hE4 hs3 hz4=>?_;have K:=K.ext hE4;have hob:=hob.ext hE4;have Q:=Q.ext hE4;have F:=F.trans hE4;have G:=G.trans hE4;have d:=d.ext hE4;refine Ah (Gx d<|Eh<|AA C C C KB C hb4 C C λw6 W hC2=>?_);have K:=K.chg hC2 oM;have hob:=hob.chg hC2 oM;have Q:=Q.chg hC2 oM;have F:=F.chg hC2 oM;have G:=G.chg hC2 oM;have d:=d.chg hC2 nM;have sz2:=hC2.size;refine Ah (Gx d<|DY<|El [.sq _,.bk _,.bk _,.sq _] 2 (λ_=>?_));have hr5:=(hbt.ext F);have hr6:=K;have hr7:=W;refine DN mixed (A4 w6 [bt,b2,b3]) [(true,0),(true,1),(true,2),(true,3),(true,4),(true,5),(true,6),(true,7),(true,8)] kR kR C C λw7 hE5 hz5=>?_;have d:A4 w6 [bt,b2,b3] w7:=A4.cons hr5 hE5 (A4.cons hr6 hE5 (A4.cons hr7 hE5 (A4.nil _ _)));refine⟨d,?_⟩;have K:=K.ext hE5;have W:=W.ext hE5;have F:=F.trans hE5;have G:=G.trans hE5;refine Ax C (λ_ Y=>Aw C)<|Ax C (λ_ Y=>Aw C)<|Ax C (λ_ Y=>G0 C C ⟨oM,oM⟩)<|Ax C (λ_ Y=>W2 s.length C C (by simp <;> omega) GR (by simp only[List.length_cons] at hson;omega))<|Ax C (λ_ Y=>Aw C)<|Ax C (λ_ Y=>Aw C)<|Ax C (λ_ Y=>W2 (s.length+1) C C (by simp) G5 (by simp only[List.length_cons] at hssn;omega))<|Ax C (λ_ Y=>CV C)<|Ax C (λ_ Y=>CV C)<|DY ?_;refine El [.sq _,.bk _,.bk _,.sq _] 2 (λ_=>?_);obtain⟨u2,a2,c2,hy,hP⟩:=(Y.ext G).pop
 cases hy
 obtain⟨a9,c9,hy9,xs9,hrow9,-⟩:=Y.lv.1
 cases hy9
 have htlt9:∀b,rb a2=some b→b<wl.heap.size:=λb hb=>hrow9.lt hb;have U:=AW.refl w7;have hr8:=(hbt.ext F);have hr9:=K;have hr10:=W;refine DZ mixed (A4 w7 [bt,b2,b3]) (.br 0 (.br 1 (.br 2 (.br 3 .fin .fin) .fin) (.br 2 (.br 1 (.br 3 .fin .fin) .fin) .fin)) .fin) kR kR kR λw8 hE6 hz6=>?_;have d:A4 w7 [bt,b2,b3] w8:=A4.cons hr8 hE6 (A4.cons hr9 hE6 (A4.cons hr10 hE6 (A4.nil _ _)));refine⟨d,?_⟩;have K:=K.ext hE6;have W:=W.ext hE6;have F:=F.trans hE6;have G:=G.trans hE6;have U:=U.trans hE6;refine AH C<|CF C zr4 λb4 w9 hb6 hE7 hs4 hz7=>?_;have K:=K.ext hE7;have W:=W.ext hE7;have F:=F.trans hE7;have G:=G.trans hE7;have U:=U.trans hE7;have d:=d.ext hE7;refine Ah (A6 d<|Bn C ?_ ?_);refine AA C C C vT C hb6 C C λw10 hb7 Z=>?_;have K:=K.chg Z oM;have W:=W.chg Z oM;have F:=F.chg Z oM;have G:=G.chg Z oM;have U:=U.chg Z oM;have d:=d.chg Z nM;have sz3:=Z.size;refine Ah (A6 d<|AH C<|AA C C C vT C hb7 C C λw11 hb8 hC4=>?_);have K:=K.chg hC4 oM;have W:=W.chg hC4 oM;have F:=F.chg hC4 oM;have G:=G.chg hC4 oM;have U:=U.chg hC4 oM;have d:=d.chg hC4 nM;have sz4:=hC4.size;refine Ah (A6 d<|AH C<|Ac C (Ai C vT hb8 C)<|Ah (A6 d<|D1<|El [.sq _,.bk _,.bk _,.sq _] 2 (λ_=>?_)));have hr11:=(hbt.ext F);have hr12:=K;have hr13:=W;have hr14:=hb8;refine DZ mixed (A4 w11 [bt,b2,b3,b4]) (rd [0,1,2,3,4,5,6,8] (.br 7 (.br 9 (.br 10 (.rd 11 (.br 12 .fin .fin)) .fin) .fin) (.br 9 (.br 7 (.br 10 (.rd 11 (.br 12 .fin .fin)) .fin) .fin) .fin))) kR kR kR λw12 hE8 hz8=>?_;have d:A4 w11 [bt,b2,b3,b4] w12:=A4.cons hr11 hE8 (A4.cons hr12 hE8 (A4.cons hr13 hE8 (A4.cons hr14 hE8 (A4.nil _ _))));refine⟨d,?_⟩;have K:=K.ext hE8;have W:=W.ext hE8;have hb8:=hb8.ext hE8;have F:=F.trans hE8;have G:=G.trans hE8;have U:=U.trans hE8;refine A8 C C (λ_ Y=>Aw C)<|A8 C C (λ_ Y=>Aw C)<|A8 C C (λ_ Y=>G0 C C ⟨oM,oM⟩)<|A8 C C (λ_ Y=>Aw C)<|A8 C C (λ_ Y=>Aw C)<|A8 C C (λ_ Y=>G0 C C ⟨oM,oM⟩)<|A8 C C (λ_ Y=>Ei s.length C C (by simp <;> omega) G5 oM)<|A8 C C (λ_ Y=>C4 C KB (hr13.keep Y (.tail _ (.tail _ (.head _)))) C)<|Bn C ?_ ?_;obtain⟨_,ls,hes,Q,L,hsl2,hsw,hsu⟩:=(hP.ext U).sblk
 cases hes
 refine Ac C (Ai C JG Q (by simpa using L))<|Ah (A6 d<|AH C<|BU C C KN KT C C C C C λb5 w13 hb9 hE9 hs5 hz9=>?_);have K:=K.ext hE9;have W:=W.ext hE9;have hb8:=hb8.ext hE9;have F:=F.trans hE9;have G:=G.trans hE9;have U:=U.trans hE9;have d:=d.ext hE9;refine Ah (A6 d<|AH C ?_);have D:=(hP.ext U);obtain⟨xs,hrow,hfc,hla⟩:=D.top;have hql:=hsl (o,q) (.head _);simp only at hql;refine Cm C XL C C C C hrow hb9 C C oM oM λa3 c3 w14 hr15 O=>?_;obtain⟨u3,hS1⟩:=D.app hrow hfc hla o D.kid hr15 O oM;obtain⟨lb,_,he3,-⟩:=hS1.tblk
 cases he3
 have hlo:lb<wl.heap.size∨lb=w13.heap.size:=by
  rcases O.own with h|h
  · exact .inl (htlt9 lb h.symm)
  · exact .inr (Option.some.inj h)
 have hlge:w13.heap.size≤w14.heap.size:=O.size;have F:=F.grow O (λb hb=>(hla b hb).1);have sz5:=O.size;have d:=d.grow O (by simp only[List.mem_cons,List.not_mem_nil,or_false];intro c hc e;have h1:=(hla c e.symm).1;have h2:=htlt9 c e.symm;omega);have hA3:=AW.refl w14;refine Ah (A6 d<|A8 C C (λ_ Y=>Ei s.length C C (by simp <;> omega) G5 oM)<|AH C ?_);have D:=(hS1.ext hA3);obtain⟨_,ls,hes,Q,L,hsl2,hsw,hsu⟩:=D.sblk
 cases hes
 refine BM C C C JG C Q C (by simp <;> omega) λw15 hb10 hC5=>?_;have hS2:=D.cell' C Q hb10 hC5;have F:=F.chg hC5 hsw;have sz6:=hC5.size;have d:=d.chg hC5 nM;have hA4:=AW.refl w15;refine Ah (A6 d<|D1<|El [.bk _,.bk _,.sq _] 7 (aI ⟨oM,oM⟩<|λ_=>GS rest.length (E5 3 (.slice (some ⟨sb,0,none⟩) (s.length+1) sc) 4 (.slice (some ⟨ob,0,none⟩) s.length oc) 10 (.slice (some ⟨bt,0,none⟩) J.length tc) 11 (iV (J.length:Int)) 12 (iV ((i+1:Nat):Int))) (by simp) lE ⟨i+1,pre++[tk],rest,s,q.snoc o cur,_,_,oc,sb,sc,_,_,_,C,C,C,by rw[htk];simp,by simp[hpi],hm.trans (Gi h2 h3),by simp only[List.length_cons] at h200;omega,by rw[Fo.len_snoc];have:=hsl (o,q) (.head _);simp only at this;omega,Lg hsl,(by rw[Fo.len_snoc];exact (hS2.ext hA4).knil),F⟩));refine Bn C ?_ ?_;refine BU C C KN KT C C C C C λb5 w13 hb9 hE9 hs5 hz9=>?_;have K:=K.ext hE9;have W:=W.ext hE9;have hb8:=hb8.ext hE9;have F:=F.trans hE9;have G:=G.trans hE9;have U:=U.trans hE9;have d:=d.ext hE9;refine Ah (A6 d<|AH C ?_);obtain⟨_,ls,hes,Q,L,hsl2,hsw,hsu⟩:=(hP.ext U).sblk
 cases hes
 refine Ac C (Ai C JG Q (by simpa using L))<|Ah (A6 d<|AH C ?_);have D:=(hP.ext U);obtain⟨xs,hrow,hfc,hla⟩:=D.top;have hql:=hsl (o,q) (.head _);simp only at hql;refine Cm C XL C C C C hrow hb9 C C oM oM λa3 c3 w14 hr15 O=>?_;obtain⟨u3,hS1⟩:=D.app hrow hfc hla o D.kid hr15 O oM;obtain⟨lb,_,he3,-⟩:=hS1.tblk
 cases he3
 have hlo:lb<wl.heap.size∨lb=w13.heap.size:=by
  rcases O.own with h|h
  · exact .inl (htlt9 lb h.symm)
  · exact .inr (Option.some.inj h)
 have hlge:w13.heap.size≤w14.heap.size:=O.size;have F:=F.grow O (λb hb=>(hla b hb).1);have sz5:=O.size;have d:=d.grow O (by simp only[List.mem_cons,List.not_mem_nil,or_false];intro c hc e;have h1:=(hla c e.symm).1;have h2:=htlt9 c e.symm;omega);have hA3:=AW.refl w14;refine Ah (A6 d<|A8 C C (λ_ Y=>Ei s.length C C (by simp <;> omega) G5 oM)<|AH C ?_);have D:=(hS1.ext hA3);obtain⟨_,ls,hes,Q,L,hsl2,hsw,hsu⟩:=D.sblk
 cases hes
 refine BM C C C JG C Q C (by simp <;> omega) λw15 hb10 hC5=>?_;have hS2:=D.cell' C Q hb10 hC5;have F:=F.chg hC5 hsw;have sz6:=hC5.size;have d:=d.chg hC5 nM;have hA4:=AW.refl w15;refine Ah (A6 d<|D1<|El [.bk _,.bk _,.sq _] 7 (aI ⟨oM,oM⟩<|λ_=>GS rest.length (E5 3 (.slice (some ⟨sb,0,none⟩) (s.length+1) sc) 4 (.slice (some ⟨ob,0,none⟩) s.length oc) 10 (.slice (some ⟨bt,0,none⟩) J.length tc) 11 (iV (J.length:Int)) 12 (iV ((i+1:Nat):Int))) (by simp) lE ⟨i+1,pre++[tk],rest,s,q.snoc o cur,_,_,oc,sb,sc,_,_,_,C,C,C,by rw[htk];simp,by simp[hpi],hm.trans (Gi h2 h3),by simp only[List.length_cons] at h200;omega,by rw[Fo.len_snoc];have:=hsl (o,q) (.head _);simp only at this;omega,Lg hsl,(by rw[Fo.len_snoc];exact (hS2.ext hA4).knil),F⟩));exact BE;refine Bn C ?_ ?_;refine AA C C C vT C hb6 C C λw10 hb7 Z=>?_;have K:=K.chg Z oM;have W:=W.chg Z oM;have F:=F.chg Z oM;have G:=G.chg Z oM;have U:=U.chg Z oM;have d:=d.chg Z nM;have sz3:=Z.size;refine Ah (A6 d<|AH C<|AA C C C vT C hb7 C C λw11 hb8 hC4=>?_);have K:=K.chg hC4 oM;have W:=W.chg hC4 oM;have F:=F.chg hC4 oM;have G:=G.chg hC4 oM;have U:=U.chg hC4 oM;have d:=d.chg hC4 nM;have sz4:=hC4.size;refine Ah (A6 d<|AH C<|Ac C (Ai C vT hb8 C)<|Ah (A6 d<|D1<|El [.sq _,.bk _,.bk _,.sq _] 3 (λ_=>?_)));have hr11:=(hbt.ext F);have hr12:=K;have hr13:=W;have hr14:=hb8;refine DZ mixed (A4 w11 [bt,b2,b3,b4]) (rd [0,1,2,3,4,5,6,8] (.br 7 (.rd 9 (.br 10 (.br 11 (.rd 12 (.br 13 .fin .fin)) .fin) .fin)) (.br 10 (.br 7 (.rd 9 (.br 11 (.rd 12 (.br 13 .fin .fin)) .fin)) .fin) .fin))) kR kR kR λw12 hE8 hz8=>?_;have d:A4 w11 [bt,b2,b3,b4] w12:=A4.cons hr11 hE8 (A4.cons hr12 hE8 (A4.cons hr13 hE8 (A4.cons hr14 hE8 (A4.nil _ _))));refine⟨d,?_⟩;have K:=K.ext hE8;have W:=W.ext hE8;have hb8:=hb8.ext hE8;have F:=F.trans hE8;have G:=G.trans hE8;have U:=U.trans hE8;refine A8 C C (λ_ Y=>Aw C)<|A8 C C (λ_ Y=>Aw C)<|A8 C C (λ_ Y=>G0 C C ⟨oM,oM⟩)<|A8 C C (λ_ Y=>Aw C)<|A8 C C (λ_ Y=>Aw C)<|A8 C C (λ_ Y=>G0 C C ⟨oM,oM⟩)<|A8 C C (λ_ Y=>Ei s.length C C (by simp <;> omega) G5 oM)<|A8 C C (λ_ Y=>C4 C KB (hr13.keep Y (.tail _ (.tail _ (.head _)))) C)<|Bn C ?_ ?_;obtain⟨_,ls,hes,Q,L,hsl2,hsw,hsu⟩:=(hP.ext U).sblk
 cases hes
 refine Ac C (Ai C JG Q (by simpa using L))<|Ah (A6 d<|A8 C C (λ_ Y=>Mb C KN)<|AH C<|BU C C KN KT C C C C C λb5 w13 hb9 hE9 hs5 hz9=>?_);have K:=K.ext hE9;have W:=W.ext hE9;have hb8:=hb8.ext hE9;have F:=F.trans hE9;have G:=G.trans hE9;have U:=U.trans hE9;have d:=d.ext hE9;refine Ah (A6 d<|AH C ?_);have D:=(hP.ext U);obtain⟨xs,hrow,hfc,hla⟩:=D.top;have hql:=hsl (o,q) (.head _);simp only at hql;refine Cm C XL C C C C hrow hb9 C C oM oM λa3 c3 w14 hr15 O=>?_;obtain⟨u3,hS1⟩:=D.app hrow hfc hla ⟨0,0,0,0,[]⟩ (Ee.nil _ _ none 0) hr15 O oM;obtain⟨lb,_,he3,-⟩:=hS1.tblk
 cases he3
 have hlo:lb<wl.heap.size∨lb=w13.heap.size:=by
  rcases O.own with h|h
  · exact .inl (htlt9 lb h.symm)
  · exact .inr (Option.some.inj h)
 have hlge:w13.heap.size≤w14.heap.size:=O.size;have F:=F.grow O (λb hb=>(hla b hb).1);have sz5:=O.size;have d:=d.grow O (by simp only[List.mem_cons,List.not_mem_nil,or_false];intro c hc e;have h1:=(hla c e.symm).1;have h2:=htlt9 c e.symm;omega);have hA3:=AW.refl w14;refine Ah (A6 d<|A8 C C (λ_ Y=>Ei s.length C C (by simp <;> omega) G5 oM)<|AH C ?_);have D:=(hS1.ext hA3);obtain⟨_,ls,hes,Q,L,hsl2,hsw,hsu⟩:=D.sblk
 cases hes
 refine BM C C C JG C Q C (by simp <;> omega) λw15 hb10 hC5=>?_;have hS2:=D.cell' C Q hb10 hC5;have F:=F.chg hC5 hsw;have sz6:=hC5.size;have d:=d.chg hC5 nM;have hA4:=AW.refl w15;refine Ah (A6 d<|D1<|El [.sq _,.bk _,.bk _,.sq _] 2 (λ_=>Ac C (Ei q.len C C oM KN oM) ?_));have D:=(hS2.ext hA4);obtain⟨_,ll,hel,hlb,hll,hlw,hlu⟩:=D.tblk
 cases hel
 refine BM C C C KB C hlb C (by simp <;> omega) λw16 hb11 hC6=>?_;have hS3:=D.last' C hlb o D.kid hb11 hC6;have F:=F.chg hC6 hlw;have sz7:=hC6.size;have hA5:=AW.refl w16;refine Ay [.bk _,.bk _,.sq _] 8 (aI ⟨oM,oM⟩<|λ_=>GS rest.length (E5 3 (.slice (some ⟨sb,0,none⟩) (s.length+1) sc) 4 (.slice (some ⟨ob,0,none⟩) s.length oc) 10 (.slice (some ⟨bt,0,none⟩) J.length tc) 11 (iV (J.length:Int)) 12 (iV ((i+1:Nat):Int))) (by simp) lE ⟨i+1,pre++[tk],rest,s,q.snoc o cur,_,_,oc,sb,sc,_,_,_,C,C,C,by rw[htk];simp,by simp[hpi],hm.trans (Gi h2 h3),by simp only[List.length_cons] at h200;omega,by rw[Fo.len_snoc];have:=hsl (o,q) (.head _);simp only at this;omega,Lg hsl,(by rw[Fo.len_snoc];exact (hS3.ext hA5).knil),F⟩);refine Bn C ?_ ?_;refine BU C C KN KT C C C C C λb5 w13 hb9 hE9 hs5 hz9=>?_;have K:=K.ext hE9;have W:=W.ext hE9;have hb8:=hb8.ext hE9;have F:=F.trans hE9;have G:=G.trans hE9;have U:=U.trans hE9;have d:=d.ext hE9;refine Ah (A6 d<|AH C ?_);obtain⟨_,ls,hes,Q,L,hsl2,hsw,hsu⟩:=(hP.ext U).sblk
 cases hes
 refine Ac C (Ai C JG Q (by simpa using L))<|Ah (A6 d<|A8 C C (λ_ Y=>Mb C KN)<|AH C ?_);have D:=(hP.ext U);obtain⟨xs,hrow,hfc,hla⟩:=D.top;have hql:=hsl (o,q) (.head _);simp only at hql;refine Cm C XL C C C C hrow hb9 C C oM oM λa3 c3 w14 hr15 O=>?_;obtain⟨u3,hS1⟩:=D.app hrow hfc hla ⟨0,0,0,0,[]⟩ (Ee.nil _ _ none 0) hr15 O oM;obtain⟨lb,_,he3,-⟩:=hS1.tblk
 cases he3
 have hlo:lb<wl.heap.size∨lb=w13.heap.size:=by
  rcases O.own with h|h
  · exact .inl (htlt9 lb h.symm)
  · exact .inr (Option.some.inj h)
 have hlge:w13.heap.size≤w14.heap.size:=O.size;have F:=F.grow O (λb hb=>(hla b hb).1);have sz5:=O.size;have d:=d.grow O (by simp only[List.mem_cons,List.not_mem_nil,or_false];intro c hc e;have h1:=(hla c e.symm).1;have h2:=htlt9 c e.symm;omega);have hA3:=AW.refl w14;refine Ah (A6 d<|A8 C C (λ_ Y=>Ei s.length C C (by simp <;> omega) G5 oM)<|AH C ?_);have D:=(hS1.ext hA3);obtain⟨_,ls,hes,Q,L,hsl2,hsw,hsu⟩:=D.sblk
 cases hes
 refine BM C C C JG C Q C (by simp <;> omega) λw15 hb10 hC5=>?_;have hS2:=D.cell' C Q hb10 hC5;have F:=F.chg hC5 hsw;have sz6:=hC5.size;have d:=d.chg hC5 nM;have hA4:=AW.refl w15;refine Ah (A6 d<|D1<|El [.sq _,.bk _,.bk _,.sq _] 2 (λ_=>Ac C (Ei q.len C C oM KN oM) ?_));have D:=(hS2.ext hA4);obtain⟨_,ll,hel,hlb,hll,hlw,hlu⟩:=D.tblk
 cases hel
 refine BM C C C KB C hlb C (by simp <;> omega) λw16 hb11 hC6=>?_;have hS3:=D.last' C hlb o D.kid hb11 hC6;have F:=F.chg hC6 hlw;have sz7:=hC6.size;have hA5:=AW.refl w16;refine Ay [.bk _,.bk _,.sq _] 8 (aI ⟨oM,oM⟩<|λ_=>GS rest.length (E5 3 (.slice (some ⟨sb,0,none⟩) (s.length+1) sc) 4 (.slice (some ⟨ob,0,none⟩) s.length oc) 10 (.slice (some ⟨bt,0,none⟩) J.length tc) 11 (iV (J.length:Int)) 12 (iV ((i+1:Nat):Int))) (by simp) lE ⟨i+1,pre++[tk],rest,s,q.snoc o cur,_,_,oc,sb,sc,_,_,_,C,C,C,by rw[htk];simp,by simp[hpi],hm.trans (Gi h2 h3),by simp only[List.length_cons] at h200;omega,by rw[Fo.len_snoc];have:=hsl (o,q) (.head _);simp only at this;omega,Lg hsl,(by rw[Fo.len_snoc];exact (hS3.ext hA5).knil),F⟩);exact BE;exact BE;refine J4 C C ?_;have hr1:=(hbt.ext F);have hr2:=K;refine DZ mixed (A4 w3 [bt,b2]) (rd [0,1,2,4,5] (.br 3 (.rd 6 (.br 7 (.br 8 (.rd 9 (.rd 11 (.br 10 (.br 12 .fin .fin) (.br 12 (.br 10 .fin .fin) .fin)))) .fin) .fin)) (.br 7 (.br 3 (.rd 6 (.br 8 (.rd 9 (.rd 11 (.br 10 (.br 12 .fin .fin) (.br 12 (.br 10 .fin .fin) .fin)))) .fin)) .fin) .fin))) kR kR kR λw4 hE3 hz3=>?_;have d:A4 w3 [bt,b2] w4:=A4.cons hr1 hE3 (A4.cons hr2 hE3 (A4.nil _ _));refine⟨d,?_⟩;have K:=K.ext hE3;have F:=F.trans hE3;have G:=G.trans hE3;refine A8 C C (λ_ Y=>Aw C)<|A8 C C (λ_ Y=>Aw C)<|A8 C C (λ_ Y=>Ei st.length C C oM G5 oM)<|A8 C C (λ_ Y=>C4 C DO (hr2.keep Y (.tail _ (.head _))) C)<|A8 C C (λ_ Y=>D5 C qC KT C)<|Bn C ?_ ?_;obtain⟨_,ls,hes,Q,L,hsl2,hsw,hsu⟩:=(Y.ext G).sblk
 cases hes
 refine Ac C (Ai C JG Q (by simpa using L))<|Ah (A6 d<|A8 C C (λ_ Y=>Mb C KN)<|AH C<|BU C C KN KT C C C C C λb3 w5 hb4 hE4 hs3 hz4=>?_);have K:=K.ext hE4;have F:=F.trans hE4;have G:=G.trans hE4;have d:=d.ext hE4;refine Ah (A6 d<|AH C ?_);have D:=(Y.ext G);obtain⟨xs,hrow,hfc,hla⟩:=D.top;refine Cm C XL C C C C hrow hb4 C C oM oM λa3 c3 w6 hr3 O=>?_;obtain⟨u3,hS1⟩:=D.app hrow hfc hla ⟨0,0,0,0,[]⟩ (Ee.nil _ _ none 0) hr3 O oM;obtain⟨lb,_,he3,-⟩:=hS1.tblk
 cases he3
 have hlo:lb<wl.heap.size∨lb=w5.heap.size:=by
  rcases O.own with h|h
  · exact .inl (htlt lb h.symm)
  · exact .inr (Option.some.inj h)
 have hlge:w5.heap.size≤w6.heap.size:=O.size;have F:=F.grow O (λb hb=>(hla b hb).1);have sz2:=O.size;have d:=d.grow O (by simp only[List.mem_cons,List.not_mem_nil,or_false];intro c hc e;have h1:=(hla c e.symm).1;have h2:=htlt c e.symm;omega);have U:=AW.refl w6;refine Ah (A6 d<|A8 C C (λ_ Y=>Ei cur.len C C oM KN oM)<|A8 C C (λ_ Y=>Ei st.length C C oM G5 oM)<|Bn C ?_ ?_);have D:=(hS1.ext U);obtain⟨_,ll,hel,hlb,hll,hlw,hlu⟩:=D.tblk
 cases hel
 refine BM C C C KB C hlb C (by simp <;> omega) λw7 W hC2=>?_;have hS2:=D.last' C hlb tk (Ee.nil _ _ none 0) W hC2;have F:=F.chg hC2 hlw;have sz3:=hC2.size;have d:=d.chg hC2 nM;have hA3:=AW.refl w7;refine Ah (A6 d<|AH C ?_);have D:=(hS2.ext hA3);obtain⟨_,ls,hes,Q,L,hsl2,hsw,hsu⟩:=D.sblk
 cases hes
 refine BM C C C JG C Q C (by simp <;> omega) λw8 hb6 Z=>?_;have hS3:=D.cell' C Q hb6 Z;have F:=F.chg Z hsw;have sz4:=Z.size;have d:=d.chg Z nM;have hA4:=AW.refl w8;refine Ah (A6 d<|D1<|El [.bk _,.bk _,.sq _] 7 (aI ⟨oM,oM⟩<|λ_=>GS rest.length (E5 3 (.slice (some ⟨sb,0,none⟩) (st.length+1) sc) 4 (.slice oa st.length oc) 10 (.slice (some ⟨bt,0,none⟩) J.length tc) 11 (iV (J.length:Int)) 12 (iV ((i+1:Nat):Int))) (by simp) lE ⟨i+1,pre++[tk],rest,st,cur.snoc tk .nil,_,oa,oc,sb,sc,_,_,_,C,C,C,by rw[htk];simp,by simp[hpi],hm.trans (FZ h2 h3),h200,by rw[Fo.len_snoc];omega,Jw hsl,(by rw[Fo.len_snoc];exact (hS3.ext hA4)),F⟩));refine Bn C ?_ ?_;have D:=(hS1.ext U);obtain⟨_,ls,hes,Q,L,hsl2,hsw,hsu⟩:=D.sblk
 cases hes
 refine BM C C C JG C Q C (by simp <;> omega) λw7 W hC2=>?_;have hS2:=D.cell' C Q W hC2;have F:=F.chg hC2 hsw;have sz3:=hC2.size;have d:=d.chg hC2 nM;have hA3:=AW.refl w7;refine Ah (A6 d<|AH C ?_);have D:=(hS2.ext hA3);obtain⟨_,ll,hel,hlb,hll,hlw,hlu⟩:=D.tblk
 cases hel
 refine BM C C C KB C hlb C (by simp <;> omega) λw8 hb6 Z=>?_;have hS3:=D.last' C hlb tk (Ee.nil _ _ none 0) hb6 Z;have F:=F.chg Z hlw;have sz4:=Z.size;have d:=d.chg Z nM;have hA4:=AW.refl w8;refine Ah (A6 d<|D1<|El [.bk _,.bk _,.sq _] 7 (aI ⟨oM,oM⟩<|λ_=>GS rest.length (E5 3 (.slice (some ⟨sb,0,none⟩) (st.length+1) sc) 4 (.slice oa st.length oc) 10 (.slice (some ⟨bt,0,none⟩) J.length tc) 11 (iV (J.length:Int)) 12 (iV ((i+1:Nat):Int))) (by simp) lE ⟨i+1,pre++[tk],rest,st,cur.snoc tk .nil,_,oa,oc,sb,sc,_,_,_,C,C,C,by rw[htk];simp,by simp[hpi],hm.trans (FZ h2 h3),h200,by rw[Fo.len_snoc];omega,Jw hsl,(by rw[Fo.len_snoc];exact (hS3.ext hA4)),F⟩));exact BE;refine Bn C ?_ ?_;refine BU C C KN KT C C C C C λb3 w5 hb4 hE4 hs3 hz4=>?_;have K:=K.ext hE4;have F:=F.trans hE4;have G:=G.trans hE4;have d:=d.ext hE4;refine Ah (A6 d<|AH C ?_);obtain⟨_,ls,hes,Q,L,hsl2,hsw,hsu⟩:=(Y.ext G).sblk
 cases hes
 refine Ac C (Ai C JG Q (by simpa using L))<|Ah (A6 d<|A8 C C (λ_ Y=>Mb C KN)<|AH C ?_);have D:=(Y.ext G);obtain⟨xs,hrow,hfc,hla⟩:=D.top;refine Cm C XL C C C C hrow hb4 C C oM oM λa3 c3 w6 hr3 O=>?_;obtain⟨u3,hS1⟩:=D.app hrow hfc hla ⟨0,0,0,0,[]⟩ (Ee.nil _ _ none 0) hr3 O oM;obtain⟨lb,_,he3,-⟩:=hS1.tblk
 cases he3
 have hlo:lb<wl.heap.size∨lb=w5.heap.size:=by
  rcases O.own with h|h
  · exact .inl (htlt lb h.symm)
  · exact .inr (Option.some.inj h)
 have hlge:w5.heap.size≤w6.heap.size:=O.size;have F:=F.grow O (λb hb=>(hla b hb).1);have sz2:=O.size;have d:=d.grow O (by simp only[List.mem_cons,List.not_mem_nil,or_false];intro c hc e;have h1:=(hla c e.symm).1;have h2:=htlt c e.symm;omega);have U:=AW.refl w6;refine Ah (A6 d<|A8 C C (λ_ Y=>Ei cur.len C C oM KN oM)<|A8 C C (λ_ Y=>Ei st.length C C oM G5 oM)<|Bn C ?_ ?_);have D:=(hS1.ext U);obtain⟨_,ll,hel,hlb,hll,hlw,hlu⟩:=D.tblk
 cases hel
 refine BM C C C KB C hlb C (by simp <;> omega) λw7 W hC2=>?_;have hS2:=D.last' C hlb tk (Ee.nil _ _ none 0) W hC2;have F:=F.chg hC2 hlw;have sz3:=hC2.size;have d:=d.chg hC2 nM;have hA3:=AW.refl w7;refine Ah (A6 d<|AH C ?_);have D:=(hS2.ext hA3);obtain⟨_,ls,hes,Q,L,hsl2,hsw,hsu⟩:=D.sblk
 cases hes
 refine BM C C C JG C Q C (by simp <;> omega) λw8 hb6 Z=>?_;have hS3:=D.cell' C Q hb6 Z;have F:=F.chg Z hsw;have sz4:=Z.size;have d:=d.chg Z nM;have hA4:=AW.refl w8;refine Ah (A6 d<|D1<|El [.bk _,.bk _,.sq _] 7 (aI ⟨oM,oM⟩<|λ_=>GS rest.length (E5 3 (.slice (some ⟨sb,0,none⟩) (st.length+1) sc) 4 (.slice oa st.length oc) 10 (.slice (some ⟨bt,0,none⟩) J.length tc) 11 (iV (J.length:Int)) 12 (iV ((i+1:Nat):Int))) (by simp) lE ⟨i+1,pre++[tk],rest,st,cur.snoc tk .nil,_,oa,oc,sb,sc,_,_,_,C,C,C,by rw[htk];simp,by simp[hpi],hm.trans (FZ h2 h3),h200,by rw[Fo.len_snoc];omega,Jw hsl,(by rw[Fo.len_snoc];exact (hS3.ext hA4)),F⟩));refine Bn C ?_ ?_;have D:=(hS1.ext U);obtain⟨_,ls,hes,Q,L,hsl2,hsw,hsu⟩:=D.sblk
 cases hes
 refine BM C C C JG C Q C (by simp <;> omega) λw7 W hC2=>?_;have hS2:=D.cell' C Q W hC2;have F:=F.chg hC2 hsw;have sz3:=hC2.size;have d:=d.chg hC2 nM;have hA3:=AW.refl w7;refine Ah (A6 d<|AH C ?_);have D:=(hS2.ext hA3);obtain⟨_,ll,hel,hlb,hll,hlw,hlu⟩:=D.tblk
 cases hel
 refine BM C C C KB C hlb C (by simp <;> omega) λw8 hb6 Z=>?_;have hS3:=D.last' C hlb tk (Ee.nil _ _ none 0) hb6 Z;have F:=F.chg Z hlw;have sz4:=Z.size;have d:=d.chg Z nM;have hA4:=AW.refl w8;refine Ah (A6 d<|D1<|El [.bk _,.bk _,.sq _] 7 (aI ⟨oM,oM⟩<|λ_=>GS rest.length (E5 3 (.slice (some ⟨sb,0,none⟩) (st.length+1) sc) 4 (.slice oa st.length oc) 10 (.slice (some ⟨bt,0,none⟩) J.length tc) 11 (iV (J.length:Int)) 12 (iV ((i+1:Nat):Int))) (by simp) lE ⟨i+1,pre++[tk],rest,st,cur.snoc tk .nil,_,oa,oc,sb,sc,_,_,_,C,C,C,by rw[htk];simp,by simp[hpi],hm.trans (FZ h2 h3),h200,by rw[Fo.len_snoc];omega,Jw hsl,(by rw[Fo.len_snoc];exact (hS3.ext hA4)),F⟩));exact BE;exact BE;refine Az [.sq _] 3 (λ_=>Ox<|El [.bk _,.sq _] 4 (λ_=>?_))
 have hrz:rest=[]:=by
  rcases rest with _|⟨t9,rest⟩
  · rfl
  · simp at hil;have:=h1;simp at this;omega
 subst hrz;refine Az [.sq _,.sq _] 6 (λ_=>sP 104 C (λh2=>?_) (λh2=>?_));refine F2 C C ?_;rcases st with _|⟨o,s⟩
 · simp at h2
 obtain⟨ob,lo,lo2,tz,fz,hoa,hob,hoz,hod⟩:=(Y.ext G).oblk0
 cases hoa
 exact Az [.sq _] 2 (λ_=>Ac C (Me (i:=0) C C GR (by simp))<|Ac C (CB C fY)<|Ac C (Md 1 C Iw hob hod oM C)<|Ac C (D5 C pl74 zr74 C)<|Ac C (B7 C nI)<|BX (B2 C) (aI C<|⟨(tz.ln,tz.co),hm.trans (VF hoz),C,F⟩));refine Az [.sq _] 4 (λ_=>?_);rcases st with _|⟨o,s⟩
 rotate_left
 · simp at h2
 refine Az [.sq _] 2 (λ_=>Ac C (Me (i:=0) C C G5 oM) ?_);obtain⟨_,ls,hes,Q,L,hsl2,hsw,hsu⟩:=(Y.ext G).sblk
 cases hes
 exact Ac C (Ai C JG Q (by simpa using L))<|Ay [.sq _] 4 (λ_=>Bp (Ao C (Af C))<|⟨cur,a,c,hm.trans SM,C,(Y.ext G).out,F⟩)
theorem Rp(w:wO)(c2 c3 c4:Nat) :
  CallsD prog 23 [pB c2,pB c3,pB c4].toArray .returning w λr m w'=>∃x,r=.returned x∧m=.returning∧AW w w':=by
 refine Ds (R:=λw'=>AW w w') func23 C C C C NC<|(?_:A1 prog _ (Ek prog _ (λ_ w'=>AW w w') λ_ _=>False) [] (X0 w (λ_=>0)) [] [] [] (.code _) [] _ []) w (λ_=>0) (Be (λ_ _=>C) tQ tQ);exact Aa 3 (λ_=>BN C C (λw f d=>Rs Q9 C)<|Aa 7 (λ_=>kC (λw f d=>Gz C) (λw f d=>d.exm.stp.ext)))
theorem RS(w:wO)(f:Fq)(G:Vl w f)(c2 c3 c4:Nat)(v2 x3 y3 v4:Value)(h:AS w c2 [v2] 39)(D:AS w c3 [x3,y3] 41)(F:AS w c4 [v4] 42)(J:f c2=0∧f c3=0∧f c4=0)(K:c2≠c3∧c2≠c4∧c3≠c4)(er:Int×Int) :
  CallsD prog 23 [pB c2,pB c3,pB c4].toArray (.panicking (RG 74 er)) w λr m w'=>∃x,r=.returned x∧m=.panicking [{v:=.iface 74 (.agg #[iV er.1,iV er.2]),recovered:=true}]∧(∃f',C9 (λb=>b=c2∨b=c3∨b=c4) w f w' f'∧AS w' c2 [.slice none 0 0] 39∧AS w' c3 [iV er.1,iV er.2] 41∧AS w' c4 [iV 10] 42):=by
 refine Ds (R:=λw'=>∃f',C9 (λb=>b=c2∨b=c3∨b=c4) w f w' f'∧AS w' c2 [.slice none 0 0] 39∧AS w' c3 [iV er.1,iV er.2] 41∧AS w' c4 [iV 10] 42) func23 C C C C RD<|(?_:A1 prog _ (Ek prog _ (λ_ w'=>∃f',C9 (λb=>b=c2∨b=c3∨b=c4) w f w' f'∧AS w' c2 [.slice none 0 0] 39∧AS w' c3 [iV er.1,iV er.2] 41∧AS w' c4 [iV 10] 42) λ_ _=>False) [] ⟨λb=>b=c2∨b=c3∨b=c4,λ_=>False,λ_ _=>True,w,f⟩ [] [] [] (.code _) [] _ [⟨c2,[v2],39,false⟩,⟨c3,[x3,y3],41,false⟩,⟨c4,[v4],42,false⟩]) w f (pW G h D F J K);refine Aa 3 (λ_=>BN C C (λw f d=>Q2 Q9 C)<|Aa 5 (λ_=>BN C C (λw f d=>UK C sI)<|Ae 11 [0] (λb1=>y<|λ_=>Cq [0] Aj (.rd 0 (.rd 1 (.br 2 (.br 3 (.br 4 .fin .fin) .fin) .fin))) C kR<|By 2 [0] (y<|λ_=>Ak C<|Ae 2 [1] (y<|λ_=>Ar [0] C ?_)))));exact Ak C<|Ae 2 [2] (y<|λ_=>Ar [0] C<|Ak C<|Ae 2 [3] (y<|λ_=>Ar [0] C<|BG<|Aa 1 (λ_=>kC (λw f d=>Gz C) (λw f d=>⟨f,d.exm,d.blk _ tH,d.blk _ iP,d.blk _ yF⟩))))
variable {σ:Ba}{f f':Fq}{a:oA}{v2 v4 x3 y3:Value}{w w':wO}
theorem yY{p:Nd×Int×Int×Int}{b2 b3 b4:Nat}(K:b2≠b3∧b2≠b4∧b3≠b4){fn:Func}(L:fn.results=#[.cell 2 39,.cell 3 41,.cell 4 42])(O:σ 2=some (pB b2))(Q:σ 3=some (pB b3))(U:σ 4=some (pB b4)){er:Int×Int}(hm:p=(.nil,er.1,er.2,10))(F:C9 (λ_=>False) w f w' f')
  (k2:AS w' b2 [v2] 39∧f' b2=0∧(true=true→w.heap.size≤b2)) (k3:AS w' b3 [x3,y3] 41∧f' b3=0∧(true=true→w.heap.size≤b3)) (k4:AS w' b4 [v4] 42∧f' b4=0∧(true=true→w.heap.size≤b4))
  (tmps:Array Value) (D:∀t,t∈[2,3,4]→∀v,σ t=some v→tmps.getD t undef=v):Leaves prog fn tmps (λe w'=>∃v,e=.returned v∧S3 p w f v w') [{target:=.fn (.func 23) ([pB b2,pB b3,pB b4]:lV).toArray,args:=#[]}] (.panicking (RG 74 er)) w':=by
 refine Ff (by simp) cU (RS w' f' F.val b2 b3 b4 v2 x3 y3 v4 k2.1 k3.1 k4.1 ⟨k2.2.1,k3.2.1,k4.2.1⟩ K er) λwz hz=>?_;rw[Kj];obtain⟨f3,W,z2,z3,z4⟩:=hz;refine DR (σ:=AI (E2 2 (pB b2) 3 (pB b3)) 4 (pB b4)) (λt v d=>?_) (Dy L (Dl C VX z2 C) (Ab C Dx z3 C) (Dl C Pg z4 C)) ⟨_,C,f3,none,0,C9.trans0 F W (λb Y=>?_),by rw[hm];rfl,by rw[hm];exact⟨Nat.zero_le _,.inl C⟩⟩
 ·
  by_cases e4:t=4
  · subst e4;exact D 4 (by simp) v (U.trans d)
  by_cases G:t=3
  · subst G;exact D 3 (by simp) v (Q.trans d)
  by_cases J:t=2
  · subst J;exact D 2 (by simp) v (O.trans d)
  have n4:Nat.beq t 4=false:=by cases h:Nat.beq t 4 with|false=>rfl|true=>exact absurd (Nat.eq_of_beq_eq_true h) e4
  have n3:Nat.beq t 3=false:=by cases h:Nat.beq t 3 with|false=>rfl|true=>exact absurd (Nat.eq_of_beq_eq_true h) G
  have Z:Nat.beq t 2=false:=by cases h:Nat.beq t 2 with|false=>rfl|true=>exact absurd (Nat.eq_of_beq_eq_true h) J
  simp[AI,Go.SW.e0,Z,n3,n4] at d
 ·
  rcases Y with rfl|rfl|rfl
  · exact k2.2.2 C
  · exact k3.2.2 C
  · exact k4.2.2 C
theorem pdone{p:Nd×Int×Int×Int}{b2 b3 b4:Nat}{fn:Func}(F:fn.results=#[.cell 2 39,.cell 3 41,.cell 4 42])(G:σ 2=some (pB b2))(J:σ 3=some (pB b3))(K:σ 4=some (pB b4)){nds:Nd}(hm:p=(nds,0,0,0))(d:C9 (λ_=>False) w f w' f'){c:Nat}(L:Bc w' f' nds a c)
  (k2:AS w' b2 [.slice a nds.len c] 39) (k3:AS w' b3 [iV 0,iV 0] 41) (k4:AS w' b4 [iV 0] 42)
  (tmps:Array Value) (O:∀t v,σ t=some v→tmps.getD t undef=v):Leaves prog fn tmps (λe w'=>∃v,e=.returned v∧S3 p w f v w') [{target:=.fn (.func 23) ([pB b2,pB b3,pB b4]:lV).toArray,args:=#[]}] .returning w':=by
 refine Ff (by simp) cU (Rp w' b2 b3 b4) λU hz=>?_;have D:=C9.of_ext hz d.val;subst hm;exact DR O (Dy F (Dl G VX (k2.ext hz) C) (Ab J Dx (k3.ext hz) C) (Dl K Pg (k4.ext hz) C)) ⟨_,C,f',a,c,C9.trans0 d D (λb Q=>Q.elim),C,Bc.mono _ _ _ _ L (D.fle d.val (λ_ h=>h.elim))⟩
theorem Th(w:wO)(f:Fq)(K:Vl w f)(h:oA)(D:Nat)(d:List Aq)(L:BQ w 117 5 h D d.length (EK d))(hlen:d.length≤100000) :
  BV prog 25 #[.slice h d.length D] w (AU (α:=Fo×oA×Nat) (λx=>.slice x.2.1 x.1.len x.2.2) (λx=>A7 d [] .nil=.ok x.1) (λx=>[λw f=>Bq w f x.1 x.2.1 x.2.2]) w f) (RZ 74 (λe=>A7 d [] .nil=.error e) w f) :=
 (V6 w h _ D d L C hlen).mono (λ_ w' ⟨O,a,c,F,G,J,Q⟩=>⟨(O,a,c),oK w w' f,G,F,gE Q,Ee.frz J,tQ⟩) λ_ w' ⟨e,F,G,J⟩=>⟨e,f,G,F,C9.of_ext J K⟩
set_option maxHeartbeats 1000000 in
theorem Yc(w:wO)(f:Fq)(J:Vl w f)(L:Dm w f)(n:Nat)(src:lU)(e:Int×Int×Int)(D:(e.2.2 != 0)=true)(O:∀F,Gl F→AX prog 22 #[S src] F λv w'=>v=.tuple #[.slice none 0 0,.agg #[iV e.1,iV e.2.1],iV e.2.2]∧AW F w') :
  AX prog 9 #[S src] w (S3 (FX (n+1) (.error e)) w f):=by
 refine vJ (K:=[2,3,4]) (X:=X0 w f) (H:=[]) (R:=[]) (B:=[]) (Fs:=[λw f=>Dm w f]) (f:=f) func9 C C C (Be J ⟨L,tQ⟩ ⟨Dm.mono,tQ⟩)<|Aa 8 (λb1=>λb2=>λb3=>λ_=>Kz (p:=b1≠b2∧b1≠b3∧b2≠b3) (λw f d=>by have h:=d.nd;simp[Cf] at h;exact⟨λe=>h.2 e.symm,λe=>h.1.2 e.symm,λe=>h.1.1 e.symm⟩) λU=>Aa 2 (λ_=>Dn C C (eC Zr C C) (λw f d=>O _ (Dm.gl d.f0))<|Ae 16 [1,0,0] (y<|y<|y<|λ_=>?_)))
 ·
  refine Ap 13 C C (λG=>?_) (λG=>?_);refine Aa 2 (λ_=>xB [2,3,4] (λ_=>True) Ef [] Aj (.br 0 (.br 1 (.br 2 (.br 3 (.br 4 .fin .fin) .fin) .fin) (.br 2 (.br 1 (.br 3 (.br 4 .fin .fin) .fin) (.br 3 (.br 1 (.br 4 .fin .fin) .fin) .fin)) .fin)) (.br 1 (.br 0 (.br 2 (.br 3 (.br 4 .fin .fin) .fin) .fin) (.br 2 (.br 0 (.br 3 (.br 4 .fin .fin) .fin) .fin) .fin)) (.br 2 (.br 0 (.br 1 (.br 3 (.br 4 .fin .fin) .fin) (.br 3 (.br 1 (.br 4 .fin .fin) .fin) .fin)) (.br 1 (.br 0 (.br 3 (.br 4 .fin .fin) .fin) .fin) .fin)) .fin))) C kR kR kR C I4<|Cl C ?_ ?_);refine Ae 2 [1] (y<|λ_=>Ar [] C<|Cl C ?_ ?_);refine Ae 2 [0] (y<|λ_=>Ar [] C<|Ak C<|Ae 2 [2] (y<|λ_=>Ar [] C<|Ak C<|Ae 2 [1] (y<|λ_=>?_)))
  rotate_left
  refine Ak C<|Ae 2 [2] (y<|λ_=>Ar [] C<|Cl C ?_ ?_);refine Ae 2 [0] (y<|λ_=>Ar [] C<|Ak C<|Ae 2 [1] (y<|λ_=>?_))
  rotate_left
  refine Ak C<|Ae 2 [1] (y<|λ_=>Ar [] C<|Ak C<|Ae 2 [0] (y<|λ_=>?_))
  rotate_left
  refine Cl C ?_ ?_;refine Ae 2 [0] (y<|λ_=>Ar [] C<|Cl C ?_ ?_);refine Ae 2 [1] (y<|λ_=>Ar [] C<|Ak C<|Ae 2 [2] (y<|λ_=>Ar [] C<|Ak C<|Ae 2 [1] (y<|λ_=>?_)))
  rotate_left
  refine Ak C<|Ae 2 [2] (y<|λ_=>Ar [] C<|Ak C<|Ae 2 [1] (y<|λ_=>Ar [] C<|Ak C<|Ae 2 [1] (y<|λ_=>?_)))
  rotate_left
  refine Ak C<|Ae 2 [2] (y<|λ_=>Ar [] C<|Cl C ?_ ?_);refine Ae 2 [1] (y<|λ_=>Ar [] C<|Cl C ?_ ?_);refine Ae 2 [0] (y<|λ_=>Ar [] C<|Ak C<|Ae 2 [1] (y<|λ_=>?_))
  rotate_left
  refine Ak C<|Ae 2 [1] (y<|λ_=>Ar [] C<|Ak C<|Ae 2 [0] (y<|λ_=>?_))
  rotate_left
  refine Ak C<|Ae 2 [0] (y<|λ_=>Ar [] C<|Ak C<|Ae 2 [1] (y<|λ_=>Ar [] C<|Ak C<|Ae 2 [1] (y<|λ_=>?_)))
  rotate_left
  exact absurd (D.symm.trans G) dC
  all_goals
   exact Ar [] C<|Ak C<|Ae 2 [0] (y<|λ_=>Ar [] C<|BG<|Aa 3 (λ_=>λW f9 d=>λtmps Q=>DR Q (Dy C (Dl C VX d.k2 C) (Ab C Dx d.k1 C) (Dl C Pg d.k0 C)) ⟨_,C,f9,none,0,d.exm,C,⟨Nat.zero_le _,.inl C⟩⟩))

set_option maxHeartbeats 1000000 in
theorem bV(w:wO)(f:Fq)(Y:Vl w f)(Z:Dm w f)(n:Nat)(src:lU)(d:List Aq)(hlen:d.length≤100000)(hok:∀G,A7 d [] .nil=.ok G→G.all (DP (n+1))∧G.len≤100000)(hs:∀Q,Gl Q→AX prog 22 #[S src] Q λv w'=>∃L U,v=.tuple #[.slice L d.length U,.agg #[iV 0,iV 0],iV 0]∧(BQ w' 117 5 L U d.length (EK d)∧∀b,rb L=some b→Q.heap.size≤b)∧AW Q w') :
  AX prog 9 #[S src] w (S3 (FX (n+1) (.ok d)) w f):=by
 refine vJ (K:=[2,3,4]) (X:=X0 w f) (H:=[]) (R:=[]) (B:=[]) (Fs:=[λw f=>Dm w f]) (f:=f) func9 C C C (Be Y ⟨Z,tQ⟩ ⟨Dm.mono,tQ⟩)<|Aa 8 (λb1=>λb2=>λb3=>λ_=>Kz (p:=b1≠b2∧b1≠b3∧b2≠b3) (λw f h=>by have W:=h.nd;simp[Cf] at W;exact⟨λe=>W.2 e.symm,λe=>W.1.2 e.symm,λe=>W.1.1 e.symm⟩) λhn=>Aa 2 (λ_=>mct (val:=λa c=>.tuple #[.slice a d.length c,.agg #[iV 0,iV 0],iV 0]) C C (eC Zr C C) (λw f h=>hs w (Dm.gl h.f0)) λL U=>Ae 21 [1,0,0] (y<|y<|y<|λ_=>BN C C (λw f h=>Ve C)<|mdf C C<|Aa 5 (λ_=>mclh (pe:=λe=>A7 d [] .nil=.error e) C C (eC vX C C) (λw f h=>Th w f h.vl L U d (h.row _ (.head _)) hlen) (λ_=>⟨Bq.mono,tQ⟩) (λer w2 f2 he hE J=>yY hn C C C C (by rw[FX,he]) hE (J _ iP) (J _ tH) (J _ om0)) ?_))));rintro⟨G,fa,fc⟩ D;dsimp only at D ⊢;obtain⟨O,hfl⟩:=hok G D;refine mclh (pe:=λe=>AL (C5 (n+1)) G=.error e) C C (eC De C C) (λw f h=>B8 26 wV (C5 (n+1)) (DP (n+1)) (λw f Y Z t k a c hd hT=>Xy n w f Y Z t k a c hd hT) w f h.vl h.f1 G _ _ O hfl h.f0) (λ_=>⟨Bc.mono,tQ⟩) (λer w2 f2 he hE J=>yY hn C C C C (by rw[FX,D];simp only[he]) hE (J _ iP) (J _ tH) (J _ om0)) ?_;rintro⟨⟨nds,xnds⟩,na,nc⟩ F;dsimp only at F ⊢;exact Ae 7 [2,1,0] (y<|y<|y<|λ_=>λw9 f9 h=>λtmps ht=>pdone C C C C (show FX (n+1) (.ok d)=(nds,0,0,0) by rw[FX,D];simp only[F]) h.exm h.f0 h.k2 h.k1 h.k0 tmps ht)
theorem H5(w:wO)(b:Nat)(src:lU)(i:Nat)(p:Ps)(sl:Value)(h:AS w b [S src,iV (i:Int),iV p.1,iV p.2,sl] 116) :
  AX prog 39 #[pB b] w λv w'=>v=.bool (decide ((i:Int)<(src.length:Int)))∧AW w w':=by
 have K:=h.lt;have G:=AW.refl w;refine enter func39 C C C<|Az [] 6 (λ_=>?_);have D:=h;refine DN mixed (A4 w [b]) [(true,0),(true,1),(true,2),(true,3),(true,4),(true,5),(true,6),(true,7),(true,8),(true,9),(true,10)] kR kR C C λL F O=>?_;have J:A4 w [b] L:=A4.cons D F (A4.nil _ _);refine⟨J,?_⟩;have h:=h.ext F;have G:=G.trans F;refine Ax C (λ_ d=>Aw C)<|Ax C (λ_ d=>Cj C)<|Ax C (λ_ d=>CB C ER)<|Ax C (λ_ d=>Ai C Ux (D.keep d (.head _)) C)<|Ax C (λ_ d=>Aw C)<|Ax C (λ_ d=>Cj C)<|Ax C (λ_ d=>CB C Ha)<|Ax C (λ_ d=>Ai C Yu (D.keep d (.head _)) C)<|Ax C (λ_ d=>MS C J7)<|Ax C (λ_ d=>UP C C) ?_;exact Ax C (λ_ d=>CV C)<|DY<|El [.sq _] 2 (λ_=>Bp (Ao C (Af C))<|⟨C,G⟩)
theorem Ft(w:wO)(b:Nat)(src:lU)(i:Nat)(p:Ps)(sl:Value)(d:AS w b [S src,iV (i:Int),iV p.1,iV p.2,sl] 116)(c:UInt8)(Z:src[i]?=some c)(hi:i<1000000)(hp:Pk i p) :
  AX prog 80 #[pB b] w λv w'=>v=.int .u8 c.toNat∧AS w' b [S src,iV ((i+1:Nat):Int),iV (adv c p).1,iV (adv c p).2,sl] 116∧K1 b w w':=by
 have hbl:=d.lt;obtain⟨hp1,hp2,hp3,hp4⟩:=hp;have D:=K1.refl b w;refine enter func80 C C C<|Az [] 6 (λ_=>?_);have F:=d;refine DN mixed (A4 w [b]) [(true,0),(true,1),(true,2),(true,3),(true,4),(true,5),(true,6),(true,7),(true,8),(true,9)] kR kR C C λw1 G hz1=>?_;have U:A4 w [b] w1:=A4.cons F G (A4.nil _ _);refine⟨U,?_⟩;have d:=d.ext G;have D:=D.trans G;refine Ax C (λ_ h=>Aw C)<|Ax C (λ_ h=>Cj C)<|Ax C (λ_ h=>CB C Ha)<|Ax C (λ_ h=>Ai C Yu (F.keep h (.head _)) C)<|Ax C (λ_ h=>Aw C)<|Ax C (λ_ h=>Cj C)<|Ax C (λ_ h=>CB C ER)<|Ax C (λ_ h=>Ai C Ux (F.keep h (.head _)) C)<|Ax C (λ_ h=>C1 C C J7 oM (by simpa using Z))<|Ax C (λ_ h=>CV C) ?_;refine DY<|El [.sq _] 4 (λ_=>Ac C (Cj C)<|K0 [.sq _] 3 [0,1] (kB d (Fb _)) (y2<|aI ⟨oM,oM⟩<|λ_=>Ac C (Cj C)<|Ac C (CB C ER)<|AA C C C Ux C d C C λw2 K L=>?_));have D:=D.chg L oM;have sz1:=L.size;refine Ay [.sq _] 5 (λ_=>Ac C (Cj C)<|K0 [.sq _] 4 [0,3] (kB K (Fb _)) (y2<|aI ⟨oM,oM⟩<|λ_=>Ac C (Cj C)<|Ay [.sq _] 2 (λ_=>AA C C C Ux C K C C λw3 J O=>?_)));have D:=D.chg O oM;have sz2:=O.size;refine Ay [.sq _] 9 (λ_=>sP 30 C (λW=>?_) (λW=>?_));refine Az [.sq _] 4 (λ_=>Ac C (Cj C)<|K0 [.sq _] 5 [0,2] (kB J (Fb _)) (y2<|aI ⟨oM,oM⟩<|λ_=>Ac C (Cj C)<|Ac C (CB C Q6)<|AA C C C Iw C J C C λw4 Y Q=>?_));have D:=D.chg Q oM;have sz3:=Q.size;exact Ay [.sq _] 9 (λ_=>Bp (Ao C (Af C))<|⟨C,by simp only[adv,W];exact Y,D⟩);exact Az [.sq _] 10 (λ_=>Bp (Ao C (Af C))<|⟨C,by simp only[adv,W];exact J,D⟩)
theorem SU(w:wO)(b:Nat)(src:lU)(i:Nat)(p:Ps)(sl:Value)(J:AS w b [S src,iV (i:Int),iV p.1,iV p.2,sl] 116)(c:UInt8)(K:src[i]?=some c)(hi:i<100000)(hp:Pk i p) :
  BV prog 114 #[pB b] w (λv w'=>∃(c1:UInt8)(i1:Nat)(p1:Ps),Ge p (src.drop i)=.ok (c1,src.drop i1,p1)∧v=.int .u8 c1.toNat∧AS w' b [S src,iV ((i1:Nat):Int),iV p1.1,iV p1.2,sl] 116∧K1 b w w'∧i<i1∧i1≤src.length∧Pk i1 p1) (λcc w'=>∃e,Ge p (src.drop i)=.error e∧cc=RG 113 e∧K1 b w w'):=by
 have hbl:=J.lt;have F:=K1.refl b w;refine HZ func114 C C C<|Az [] 8 (λ_=>Ac C (Cj C)<|K0 [.sq _] 2 [0,2] (kB J (Fb _)) (y2<|λ_=>CF C Vo λb1 w1 hb1 hE1 hs1 hz1=>?_));have J:=J.ext hE1;have F:=F.trans hE1;refine AA C C C Iw C hb1 C C λw2 d hC1=>?_;have J:=J.chg hC1 oM;have F:=F.chg hC1 oM;have sz1:=hC1.size;refine Ay [.sq _] 6 (λ_=>A0 C (As Ot C C) (Ft _ b src i p sl J c K oM hp) ?_);rintro _ w3 ⟨rfl,D,hE2⟩;have d:=d.exb hE2 oM;have F:=F.trans2 hE2;have sz2:=hE2.size;have L:=Pk.adv (c:=c) hp;refine Ay [.sq _,.sq _] 16 (λ_=>sP 14 C (λh1=>?_) (λh1=>?_));exact Az [.sq _,.bk _,.sq _] 13 (λ_=>Bp (Ao C (Af C))<|⟨c,i+1,adv c p,by rw[AB K];simp[Ge,h1],C,D,F,oM,by have:=Ca K;omega,L⟩);refine Az [.sq _,.bk _,.sq _] 6 (λ_=>sP 14 C (λh2=>?_) (λh2=>?_));exact Az [.bk _,.sq _] 10 (λ_=>Bp (Ao C (Af C))<|⟨c,i+1,adv c p,by rw[AB K];simp[Ge,h1,h2],C,D,F,oM,by have:=Ca K;omega,L⟩);refine Az [.bk _,.sq _] 7 (λ_=>sP 18 C (λh3=>?_) (λh3=>?_));exact Az [.bk _,.sq _] 9 (λ_=>Bp (Ao C (Af C))<|⟨10,i+1,adv c p,by rw[AB K];simp[Ge,h1,h2,h3],C,D,F,oM,by have:=Ca K;omega,L⟩);refine Az [.bk _,.sq _] 7 (λ_=>sP 20 C (λh4=>?_) (λh4=>?_));refine Az [.bk _,.sq _] 2 (λ_=>?_);have hr1:=D;have hr2:=d;refine DN mixed (A4 w3 [b,b1]) [(true,0),(true,1),(true,2),(true,3),(true,4),(true,5),(true,6),(true,7),(true,8),(true,9),(true,10)] kR kR C C λw4 O hz2=>?_;have G:A4 w3 [b,b1] w4:=A4.cons hr1 O (A4.cons hr2 O (A4.nil _ _));refine⟨G,?_⟩;have d:=d.ext O;have D:=D.ext O;have F:=F.trans O;refine Ax C (λ_ h=>Aw C)<|Ax C (λ_ h=>Cj C)<|Ax C (λ_ h=>CB C ER)<|Ax C (λ_ h=>Ai C Ux (hr1.keep h (.head _)) C)<|Ax C (λ_ h=>NQ C C ⟨oM,oM⟩)<|Ax C (λ_ h=>Aw C)<|Ax C (λ_ h=>Cj C)<|Ax C (λ_ h=>CB C Ha)<|Ax C (λ_ h=>Ai C Yu (hr1.keep h (.head _)) C)<|Ax C (λ_ h=>MS C J7) ?_;refine Ax C (λ_ h=>Zq C C)<|DY<|Dr<|sP 32 C (λh5=>?_) (λh5=>?_);refine Az [.bk _,.sq _] 2 (λ_=>?_);have hlt2:i+3≤src.length:=by have:=h5;simp at this;omega
 obtain⟨a1,Q⟩:=G7 (show i+1<src.length by omega);obtain⟨a2,U⟩:=G7 (show i+2<src.length by omega);have W:=D;have hr4:=d;refine DN mixed (A4 w4 [b,b1]) [(true,0),(true,1),(true,2),(true,3),(true,4),(true,5),(true,6),(true,7),(true,8),(true,10),(true,11),(true,12),(true,13),(true,14),(true,15),(true,16),(true,17),(true,18),(true,19),(false,9),(false,20),(true,21),(true,22)] kR kR C C λw5 Y hz3=>?_;have G:A4 w4 [b,b1] w5:=A4.cons W Y (A4.cons hr4 Y (A4.nil _ _));refine⟨G,?_⟩;have d:=d.ext Y;have D:=D.ext Y;have F:=F.trans Y;refine Ax C (λ_ h=>Aw C)<|Ax C (λ_ h=>Cj C)<|Ax C (λ_ h=>CB C Ha)<|Ax C (λ_ h=>Ai C Yu (W.keep h (.head _)) C)<|Ax C (λ_ h=>Aw C)<|Ax C (λ_ h=>Cj C)<|Ax C (λ_ h=>CB C ER)<|Ax C (λ_ h=>Ai C Ux (W.keep h (.head _)) C)<|Ax C (λ_ h=>C1 C C J7 oM (show src[(((i+1:Nat):Int)).toNat]?=some a1 by rw[Int.toNat_natCast];exact Q))<|Ax C (λ_ h=>Aw C) ?_;refine Ax C (λ_ h=>Cj C)<|Ax C (λ_ h=>CB C Ha)<|Ax C (λ_ h=>Ai C Yu (W.keep h (.head _)) C)<|Ax C (λ_ h=>Aw C)<|Ax C (λ_ h=>Cj C)<|Ax C (λ_ h=>CB C ER)<|Ax C (λ_ h=>Ai C Ux (W.keep h (.head _)) C)<|Ax C (λ_ h=>NQ C C ⟨oM,oM⟩)<|Ax C (λ_ h=>C1 C C J7 oM (show src[(((i+1:Nat):Int)+1).toNat]?=some a2 by rw[show (((i+1:Nat):Int)+1).toNat=i+2 by omega];exact U))<|Eh ?_;refine A0 C (As W6 C C) (EC _ Bk _) ?_;rintro _ w6 ⟨rfl,Z⟩;have d:=d.ext Z;have D:=D.ext Z;have F:=F.trans Z;have G:=G.ext Z;have sz3:=Z.size;refine Ah (Gx G<|Eh<|A0 C (As W6 C C) (EC _ Bk _) ?_);rintro _ w7 ⟨rfl,hE6⟩;have d:=d.ext hE6;have D:=D.ext hE6;have F:=F.trans hE6;have G:=G.ext hE6;have sz4:=hE6.size;refine Ah (Gx G<|Ax C (λ_ h=>CV C)<|Ax C (λ_ h=>CV C)<|DY<|El [.sq _,.bk _,.sq _] 6 (λ_=>sL 56 C (λh6=>?_) (λh6=>?_)));refine Ay [.sq _,.bk _,.sq _] 5 (λ_=>sP 59 C (λh7=>?_) (λh7=>?_));refine Az [.bk _,.sq _] 4 (λ_=>A0 C (As Ot C C) (Ft _ b src (i+1) (adv c p) sl D a1 Q oM L) ?_);rintro _ w8 ⟨rfl,hb4,hE7⟩;have d:=d.exb hE7 oM;have F:=F.trans2 hE7;have sz5:=hE7.size;have hp2:=Pk.adv (c:=a1) L;refine Ay [.sq _,.bk _,.sq _] 5 (λ_=>A0 C (As Ot C C) (Ft _ b src ((i+1)+1) (adv a1 (adv c p)) sl hb4 a2 U oM hp2) ?_);rintro _ w9 ⟨rfl,hb5,hE8⟩;have d:=d.exb hE8 oM;have F:=F.trans2 hE8;have sz6:=hE8.size;have hp3:=Pk.adv (c:=a2) hp2;refine Ay [.sq _,.bk _,.sq _] 3 (λ_=>?_);have hx1:0≤Lib.indexByte Bk a1:=by have:=h6;simpa using this
 have hx2:0≤Lib.indexByte Bk a2:=by have:=h7;simpa using this
 have hy1:=QU a1;have hy2:=QU a2;exact Az [.sq _,.bk _,.sq _] 2 (λ_=>Ac C (lY C C ⟨hx1,hy1⟩)<|Ac C (Aw C)<|Ac C (mI C C ⟨hx1,hy1⟩ ⟨hx2,hy2⟩)<|Ac C (BW C pK (Io ⟨oM,oM⟩))<|Ay [.sq _,.bk _,.sq _] 6 (λ_=>Bp (Ao C (Af C))<|⟨UInt8.ofNat ((Lib.indexByte Bk a1).toNat*16+(Lib.indexByte Bk a2).toNat),i+3,adv a2 (adv a1 (adv c p)),by rw[AB K,fC Q U];simp[Ge,h1,h2,h3,h4,hx1,hx2],by rw[hexv ⟨hx1,hy1⟩ ⟨hx2,hy2⟩],hb5,F,oM,oM,hp3⟩));exact OV [.bk _,.sq _] 7 [0,0] (kB d (Fb _)) (y2<|λ_=>Ac C (B7 C FG)<|BX (B2 C) (aI C<|⟨p,by rw[AB K,fC Q U];exact OA h1 h2 h3 h4 (.inr (by have:=h7;simpa using this)),C,F⟩));exact K0 [.sq _,.bk _,.sq _] 12 [0,0] (kB d (Fb _)) (y2<|λ_=>Ac C (B7 C FG)<|BX (B2 C) (aI C<|⟨p,by rw[AB K,fC Q U];exact OA h1 h2 h3 h4 (.inl (by have:=h6;simpa using this)),C,F⟩));exact OV [.bk _,.sq _] 7 [0,0] (kB d (Fb _)) (y2<|λ_=>Ac C (B7 C FG)<|BX (B2 C) (aI C<|⟨p,by rw[AB K];exact T5 h1 h2 h3 (by have:=h5;simp at this;simp;omega),C,F⟩));exact OV [.bk _,.sq _] 7 [0,0] (kB d (Fb _)) (y2<|λ_=>Ac C (B7 C FG)<|BX (B2 C) (aI C<|⟨p,by rw[AB K];simp[Ge,h1,h2,h3,h4],C,F⟩))
theorem RM(w:wO)(b:Nat)(src:lU)(i:Nat)(p:Ps)(sl:Value)(hsc:AS w b [S src,iV (i:Int),iV p.1,iV p.2,sl] 116)(start:Ps)(hile:i≤src.length)(hi:src.length<100000)(hp:Pk i p) :
  BV prog 82 #[pB b,.agg #[iV start.1,iV start.2]] w (λv w'=>∃(tx:lU)(i1:Nat)(p1:Ps),Fp start (src.length+1) p [] (src.drop i)=.ok (tx,src.drop i1,p1)∧v=.agg #[iV 4,iV start.1,iV start.2,iV 0,S tx]∧AS w' b [S src,iV ((i1:Nat):Int),iV p1.1,iV p1.2,sl] 116∧K1 b w w'∧i<i1∧i1≤src.length∧Pk i1 p1) (λcc w'=>∃e,Fp start (src.length+1) p [] (src.drop i)=.error e∧cc=RG 113 e∧K1 b w w'):=by
 have hbl:=hsc.lt;have J:=K1.refl b w;refine HZ func82 C C C<|Az [] 2 (λ_=>DV C C C λb1 w1 hb1 hE1 hs1 hz1=>?_);have hsc:=hsc.ext hE1;have J:=J.trans hE1;refine CF C DA λb2 w2 hb2 hE2 hs2 hz2=>?_;have hsc:=hsc.ext hE2;have hb1:=hb1.ext hE2;have J:=J.trans hE2;refine Ay [.sq _] 9 (λ_=>?_);refine DM (λk σ ds w'=>∃(j:Nat)(q:Ps)(acc:lU)(ra:oA)(rc F:Nat),k=src.length-j∧ds=[]∧σ=(E4 0 (pB b) 3 (pB b1) 4 (pB b2) 5 (.slice ra acc.length rc))∧i≤j∧j≤src.length∧Pk j q∧src.length+1≤F+j∧Fp start (src.length+1) p [] (src.drop i)=Fp start F q acc (src.drop j)∧acc.length≤j∧AS w' b [S src,iV ((j:Nat):Int),iV q.1,iV q.2,sl] 116∧AS w' b1 [iV start.1,iV start.2] 41 ∧ AS w' b2 [iV 0,iV 0,iV 0,iV 0,.string ⟨#[]⟩] 117∧BQ w' 5 1 ra rc acc.length (bC acc)∧(∀x,rb ra=some x→w.heap.size≤x∧x≠b1∧x≠b2)∧K1 b w w') (src.length-i) (E4 0 (pB b) 3 (pB b1) 4 (pB b2) 5 (.slice none 0 0)) lE ⟨i,p,[],none,0,src.length+1,C,C,C,Nat.le_refl _,hile,hp,oM,C,by simp,hsc,hb1,hb2,Fx _ _ _,(λx hx=>by cases hx),J⟩ ?_;rintro _ _ _ wl ⟨j,q,acc,ra,rc,F,rfl,rfl,rfl,hij,hjl,hq,hF,hm,hal,L,h,D,d,G,J⟩;have szl:=J.size;have lt3:=h.lt;have lt4:=D.lt;have lts:=L.lt;have K:∀x,rb ra=some x→x<wl.heap.size:=λx hx=>d.lt hx;refine Az [] 4 (λ_=>A0 C (As S4 C C) (H5 _ b src j q sl L) ?_);rintro _ w3 ⟨rfl,hE3⟩;have L:=L.ext hE3;have h:=h.ext hE3;have D:=D.ext hE3;have d:=d.ext hE3;have J:=J.trans hE3;have sz1:=hE3.size;refine Ay [.sq _,.sq _] 2 (λ_=>sP 9 C (λh1=>?_) (λh1=>?_));refine Az [.sq _] 5 (λ_=>?_);have hjlt:j<src.length:=by have:=h1;simpa using this
 obtain⟨c,Y⟩:=G7 hjlt;obtain⟨F,rfl⟩:∃F1,F=F1+1:=⟨F-1,oM⟩;refine Az [.sq _,.bk _] 2 (λ_=>Ac C (Cj C)<|K0 [.sq _,.bk _] 2 [0,2] (kB L (Fb _)) (y2<|λ_=>CF C Vo λb3 w4 hb3 hE4 hs3 hz3=>?_));have L:=L.ext hE4;have h:=h.ext hE4;have D:=D.ext hE4;have d:=d.ext hE4;have J:=J.trans hE4;refine AA C C C Iw C hb3 C C λw5 Q hC1=>?_;have L:=L.chg hC1 oM;have h:=h.chg hC1 oM;have D:=D.chg hC1 oM;have d:=BQ.chg d hC1 (λe=>by have:=G _ e;have:=K _ e;omega);have J:=J.chg hC1 oM;have sz2:=hC1.size;refine Ay [.sq _,.bk _] 5 (λ_=>A0 C (As Ot C C) (Ft _ b src j q sl L c Y oM hq) ?_);rintro _ w6 ⟨rfl,U,hE5⟩;have h:=h.exb hE5 oM;have D:=D.exb hE5 oM;have d:=BQ.exb d hE5 (λe=>by have:=G _ e;omega);have Q:=Q.exb hE5 oM;have J:=J.trans2 hE5;have sz3:=hE5.size;have hp1:=Pk.adv (c:=c) hq;refine Ay [.sq _,.bk _] 11 (λ_=>sP 16 C (λh2=>?_) (λh2=>?_));refine Az [.bk _,.bk _] 9 (λ_=>sP 21 C (λh3=>?_) (λh3=>?_));exact OV [.sq _,.bk _,.bk _] 4 [0,0] (kB h (Fb _)) (y2<|λ_=>Ac C (B7 C FG)<|BX (B2 C) (aI C<|⟨start,hm.trans (Sa Y h2 h3),C,J⟩));refine OV [.sq _,.bk _,.bk _] 7 [0,0] (kB h (Fb _)) (y2<|λ_=>Ac C (QD C Tb d)<|Ac C (D5 C Tf DA C)<|AA C C C DO C D C C λw7 W hC2=>?_);have h:=h.chg hC2 oM;have d:=BQ.chg d hC2 (λe=>by have:=G _ e;have:=K _ e;omega);have Q:=Q.chg hC2 oM;have U:=U.chg hC2 oM;have J:=J.chg hC2 oM;have sz4:=hC2.size;exact Ay [.sq _,.bk _,.bk _] 5 (λ_=>X8<|El [.bk _,.sq _] 2 (λ_=>Bp (Ao C (Ab C DO W C))<|⟨acc,j+1,adv c q,hm.trans (TJ Y h2 h3),C,U,J,oM,oM,hp1⟩));refine Az [.bk _,.bk _] 8 (λ_=>sP 29 C (λh3=>?_) (λh3=>?_));exact OV [.bk _,.bk _] 4 [0,0] (kB Q (Fb _)) (y2<|λ_=>Ac C (B7 C FG)<|BX (B2 C) (aI C<|⟨q,hm.trans (S5 Y h2 h3),C,J⟩));refine Az [.bk _,.bk _] 8 (λ_=>sP 35 C (λh4=>?_) (λh4=>?_));refine Az [.bk _,.bk _] 4 (λ_=>BU C C Ww zr5 C C C C C λb4 w7 W O hs4 hz4=>?_);have h:=h.ext O;have D:=D.ext O;have d:=d.ext O;have Q:=Q.ext O;have U:=U.ext O;have J:=J.trans O;refine Cm C Z8 C C C C d W C C oM oM λZ rc2 w8 hr2 hG=>?_;have hlow2:∀x,rb Z=some x→w.heap.size≤x∧x≠b1∧x≠b2:=GB hG G oM;have h:=h.grow hG (λe=>by have:=G _ e.symm;have:=K _ e.symm;omega);have D:=D.grow hG (λe=>by have:=G _ e.symm;have:=K _ e.symm;omega);have U:=U.grow hG (λe=>by have:=G _ e.symm;have:=K _ e.symm;omega);have J:=J.grow hG (λx hx=>(G x hx).1);have sz4:=hG.size;refine Ay [.bk _,.bk _] 4 (λ_=>?_);have hl2:acc.length+1=(acc++[c]).length:=by simp
 refine GS (src.length-(j+1)) (E4 0 (pB b) 3 (pB b1) 4 (pB b2) 5 (.slice Z (acc++[c]).length rc2)) (by have:=Ca Y;omega) (yO C C C (hl2▸rfl)) ⟨j+1,adv c q,acc++[c],Z,rc2,F,C,C,C,oM,by have:=Ca Y;omega,hp1,oM,hm.trans (PL Y h2 h3 h4),by rw[← hl2];omega,U,h,D,by rw[← hl2,bC_app];exact hr2,hlow2,J⟩;refine Az [.bk _,.bk _] 4 (λ_=>A0 C (As S4 C C) (H5 _ b src (j+1) (adv c q) sl U) ?_);rintro _ w7 ⟨rfl,O⟩;have h:=h.ext O;have D:=D.ext O;have d:=d.ext O;have Q:=Q.ext O;have U:=U.ext O;have J:=J.trans O;have sz4:=O.size;refine Ay [.sq _,.bk _,.bk _] 3 (λ_=>sP 42 C (λh5=>?_) (λh5=>?_));refine F2 C C ?_;obtain⟨c2,hc2⟩:=G7 (show j+1<src.length by have:=dT h5;omega);refine Az [.bk _,.bk _] 3 (λ_=>Cc C (As rU C C) (SU _ b src (j+1) (adv c q) sl U c2 hc2 oM hp1) ?_ (λcc wp hc1=>aI C (let ⟨e,he,hcc,hE⟩:=hc1;⟨e,hm.trans (Qd Y h2 h3 h4 (by have:=dT h5;omega) he),hcc,J.trans2 hE⟩)));rintro _ w8 ⟨c1,i1,p1,hesc,rfl,W,hE7,hi1,hi2,hp1⟩;have h:=h.exb hE7 oM;have D:=D.exb hE7 oM;have d:=BQ.exb d hE7 (λe=>by have:=G _ e;omega);have Q:=Q.exb hE7 oM;have J:=J.trans2 hE7;have sz5:=hE7.size;refine BU C C Ww zr5 C C C C C λb4 w9 hb7 hE8 hs4 hz4=>?_;have h:=h.ext hE8;have D:=D.ext hE8;have d:=d.ext hE8;have Q:=Q.ext hE8;have W:=W.ext hE8;have J:=J.trans hE8;refine Cm C Z8 C C C C d hb7 C C oM oM λZ rc2 w10 hr2 hG=>?_;have hlow2:∀x,rb Z=some x→w.heap.size≤x∧x≠b1∧x≠b2:=GB hG G oM;have h:=h.grow hG (λe=>by have:=G _ e.symm;have:=K _ e.symm;omega);have D:=D.grow hG (λe=>by have:=G _ e.symm;have:=K _ e.symm;omega);have W:=W.grow hG (λe=>by have:=G _ e.symm;have:=K _ e.symm;omega);have J:=J.grow hG (λx hx=>(G x hx).1);have sz6:=hG.size;refine Ay [.bk _,.bk _] 4 (λ_=>?_);have hl2:acc.length+1=(acc++[c1]).length:=by simp
 refine GS (src.length-(i1)) (E4 0 (pB b) 3 (pB b1) 4 (pB b2) 5 (.slice Z (acc++[c1]).length rc2)) (by have:=Ca Y;omega) (yO C C C (hl2▸rfl)) ⟨i1,p1,acc++[c1],Z,rc2,F,C,C,C,oM,by have:=Ca Y;omega,hp1,oM,hm.trans (LR Y h2 h3 h4 (by have:=dT h5;omega) hesc),by rw[← hl2];omega,W,h,D,by rw[← hl2,bC_app];exact hr2,hlow2,J⟩;refine Az [.bk _,.bk _] 4 (λ_=>GS (src.length-(j+1)) (E4 0 (pB b) 3 (pB b1) 4 (pB b2) 5 (.slice ra acc.length rc)) (by have:=Ca Y;omega) lE ⟨j+1,adv c q,acc,ra,rc,F,C,C,C,oM,by have:=Ca Y;omega,hp1,oM,hm.trans ?_,oM,U,h,D,d,G,J⟩);have hno:¬j+1<src.length:=by have:=h5;simp at this;omega
 rw[PD Y h2 h3 h4 hno,Lq (by have:=Ca Y;omega) hno];exact Az [.sq _] 3 (λ_=>Ox<|ggQ [.bk _,.sq _] 5 [0,0] (kB h (Fb _)) (y2<|λ_=>Ac C (B7 C FG)<|BX (B2 C) (aI C<|⟨start,hm.trans (Lq oM (by have:=h1;simp at this;omega)),C,J⟩)))
theorem CG(w:wO)(s:lU)(hlen:s.length≤100000)(l:lU)(F:l.length<4294967281)(d:l.all (λc=>decide (c.toNat<128))=true) :
  AX prog 119 #[S s,S l] w λv w'=>v=.bool (Ey s l)∧AW w w':=by
 have D:=AW.refl w;refine enter func119 C C C<|Az [] 9 (λ_=>A0 C (As YE C C) (PV _ s l oM F d) ?_);rintro _ J ⟨rfl,h⟩;have D:=D.trans h;have G:=h.size;exact Ay [.sq _] 5 (λ_=>Bp (Ao C (Af C))<|⟨C,D⟩)
theorem Jc(w:wO)(s:lU)(hlen:s.length≤100000) :
  AX prog 144 #[S s] w λv w'=>v=.bool (DJ s)∧AW w w':=by
 have h:=AW.refl w;refine enter func144 C C C<|Az [] 10 (λ_=>sL 5 C (λD=>?_) (λD=>?_));refine Ay [.sq _] 1 (λ_=>Bw C C C<|A0 C (As YE C C) (PV _ s DQ oM dC dC) ?_);rintro _ G ⟨rfl,d⟩;have h:=h.trans d;have F:=d.size;exact Ay [.sq _] 6 (λ_=>Bp (Ao C (Af C))<|⟨by rw[DJ,D];rfl,h⟩);exact Ay [.sq _] 8 (λ_=>Bp (Ao C (Af C))<|⟨by rw[DJ,D];rfl,h⟩)
theorem Jz(n:Nat)(c:UInt8)(l:lU):CH n (c::l)=CH (n*10+(c.toNat-48)) l:=by conv=>lhs;unfold CH
theorem MW:∀(l:lU)(n:Nat),n≤CH n l
 | [],n=>Nat.le_refl _
 |c::l,n=>by
  have:=MW l (n*10+(c.toNat-48));rw[Jz];omega
theorem bY:sF prog 9 127=some 5:=kR
theorem Jd(w:wO)(s:lU)(hlen:s.length≤100000)(hne:(s==[])=false)(hd:∀c∈s,48≤c.toNat∧c.toNat≤57) :
  AX prog 187 #[S s,iV 10,iV 63] w λv w'=>((CH 0 s≤9223372036854775807∧v=.tuple #[.int .u64 (CH 0 s:Int),.nilIface])∨(9223372036854775807<CH 0 s∧v=.tuple #[.int .u64 9223372036854775807,.iface 275 (iV 1)]))∧AW w w':=by
 have d:=AW.refl w;refine enter func187 C C C<|Az [] 13 (λ_=>sP 19 C (λQ=>?_) (λQ=>?_))
 ·
  exfalso;rw[hne] at Q;contradiction
 refine Az [.sq _] 81 (λ_=>Ac C (BW (m:=63) C Lr dC)<|Ac C (Jo (9223372036854775808) C C dC dC)<|Ac C (Ck (9223372036854775807) C C dC)<|Ay [.sq _] 17 (λ_=>lR C C bY λU bc w1 h K=>?_));have d:=d.trans K;have sz1:=K.size;refine Ay [.sq _,.sq _] 5 (λ_=>?_);refine DM (λk σ ds w'=>∃(i n:Nat),k=s.length-i∧ds=[]∧σ=(E11 0 (S s) 1 (iV 10) 8 (.bool (10==0)) 9 (S s) 10 (.int .u64 1844674407370955162) 11 (.int .u64 9223372036854775807) 12 (.bool false) 13 (.int .u64 (n:Int)) 99 (.slice (some ⟨U,0,none⟩) s.length bc) 100 (iV (s.length:Int)) 101 (iV (i:Int)))∧i≤s.length∧n≤9223372036854775807∧CH 0 s=CH n (s.drop i)∧yA w' U (bC s)∧AW w w') s.length (E11 0 (S s) 1 (iV 10) 8 (.bool (10==0)) 9 (S s) 10 (.int .u64 1844674407370955162) 11 (.int .u64 9223372036854775807) 12 (.bool false) 13 (.int .u64 ((0:Nat):Int)) 99 (.slice (some ⟨U,0,none⟩) s.length bc) 100 (iV (s.length:Int)) 101 (iV ((0:Nat):Int))) lE ⟨0,0,C,C,C,Nat.zero_le _,Nat.zero_le _,C,h,d⟩ ?_;rintro _ _ _ wl ⟨i,n,rfl,rfl,rfl,hi,hn,hm,h,d⟩;refine Az [] 6 (λ_=>sP 102 C (λG=>?_) (λG=>?_));refine Az [.sq _] 7 (λ_=>?_);have L:i<s.length:=by have:=dT G;omega
 obtain⟨c,J⟩:=G7 L;obtain⟨hc1,hc2⟩:=hd c (List.mem_of_getElem? J);have D:(bC s)[0+i*1]?=some (.int .u8 c.toNat):=by simp[bC,J]
 refine Ac C (Me (i:=i) C C Ww L)<|Ac C (aL C ti5 h D)<|Ay [.sq _,.bk _,.sq _] 15 (λ_=>sL 109 C (λW=>?_) (λW=>?_))
 ·
  exfalso;have:=(beq_iff_eq).1 W;omega
 refine Ay [.sq _,.bk _,.sq _,.bk _,.sq _] 11 (λ_=>sL 115 C (λh4=>?_) (λh4=>?_));refine Ay [.sq _,.bk _,.sq _,.bk _,.sq _] 6 (λ_=>sP 112 C (λh5=>?_) (λh5=>?_));refine Az [.bk _,.sq _,.bk _,.sq _] 3 (λ_=>Ac C (Ck ((c.toNat:Int)-48) C C (Io ⟨oM,oM⟩))<|Ay [.bk _,.sq _,.bk _,.sq _] 9 (λ_=>Ac C (BW (m:=10) C pK dC)<|Ay [.sq _,.sq _,.bk _,.sq _] 3 (λ_=>sP 137 C (λY=>?_) (λY=>?_))))
 ·
  exfalso;have:=dT Y;omega
 refine Az [.sq _,.bk _,.sq _] 11 (λ_=>sP 141 C (λF=>?_) (λF=>?_));exact Az [.sq _,.bk _,.sq _] 4 (λ_=>Ac C (B7 C KI)<|Ay [.sq _,.sq _,.bk _,.sq _] 8 (λ_=>X8<|El [.bk _,.sq _] 2 (λ_=>Bp (Bl C (Af C) (Af C))<|⟨.inr ⟨by rw[hm,AB J,Jz];have:=MW (s.drop (i+1)) (n*10+(c.toNat-48));have q4:=dT h5;have q5:=dF Y;have q6:=dT F;omega,C⟩,d⟩)));refine Az [.sq _,.bk _,.sq _] 7 (λ_=>Ac C (BW (m:=10) C nD dC)<|Ac C (KS ((n:Int)*10) C C (EB ⟨oM,by have:=dF F;omega⟩))<|Ay [.sq _,.bk _,.sq _] 7 (λ_=>Ac C (BW (m:=(c.toNat:Int)-48) C Ru (EB ⟨oM,oM⟩))<|Ac C (J0 (((n:Int)*10+((c.toNat:Int)-48)) % 18446744073709551616) C C (IntKind.wrap_u64 _))<|Ay [.sq _,.bk _,.sq _] 10 (λ_=>sL 155 C (λO=>?_) (λO=>?_))));exact Ay [.sq _,.sq _,.bk _,.sq _] 10 (λ_=>Ac C (B7 C KI)<|Ay [.sq _,.sq _,.bk _,.sq _] 8 (λ_=>X8<|El [.bk _,.sq _] 2 (λ_=>Bp (Bl C (Af C) (Af C))<|⟨.inr ⟨by rw[hm,AB J,Jz];have:=MW (s.drop (i+1)) (n*10+(c.toNat-48));have q5:=dF Y;have q6:=dF F;have q7:=dT O;omega,C⟩,d⟩)));refine Ay [.sq _,.sq _,.bk _,.sq _] 6 (λ_=>sP 159 C (λZ=>?_) (λZ=>?_));exact Az [.sq _,.bk _,.sq _] 4 (λ_=>Ac C (B7 C KI)<|Ay [.sq _,.sq _,.bk _,.sq _] 8 (λ_=>X8<|El [.bk _,.sq _] 2 (λ_=>Bp (Bl C (Af C) (Af C))<|⟨.inr ⟨by rw[hm,AB J,Jz];have:=MW (s.drop (i+1)) (n*10+(c.toNat-48));have q6:=dF F;have q7:=dF O;have q8:=dT Z;omega,C⟩,d⟩)));refine Az [.sq _,.bk _,.sq _] 13 (aI ⟨oM,oM⟩<|λ_=>?_);have hN:(((n:Int)*10+((c.toNat:Int)-48)) % 18446744073709551616)=((n*10+(c.toNat-48):Nat):Int):=by have Q:=dF F;have G:=dF O;have W:=dF Z;omega
 refine GS (s.length-(i+1)) (E11 0 (S s) 1 (iV 10) 8 (.bool (10==0)) 9 (S s) 10 (.int .u64 1844674407370955162) 11 (.int .u64 9223372036854775807) 12 (.bool false) 13 (.int .u64 ((n*10+(c.toNat-48):Nat):Int)) 99 (.slice (some ⟨U,0,none⟩) s.length bc) 100 (iV (s.length:Int)) 101 (iV ((i+1:Nat):Int))) oM (lu11 C C C C C C C (by rw[← hN];rfl) C C C) ⟨i+1,n*10+(c.toNat-48),C,C,C,oM,by have Q:=dF F;have G:=dF O;have W:=dF Z;omega,by rw[hm,AB J];rfl,h,d⟩
 ·
  exfalso;have:=dF h5;omega
 ·
  exfalso;have:=dF h4;omega
 exact Az [.sq _] 3 (λ_=>Ox<|El [.bk _,.sq _] 24 (λ_=>Bp (Bl C (Af C) (Af C))<|⟨.inl ⟨by rw[hm,IF (by have:=dF G;omega)];exact hn,by rw[hm,IF (by have:=dF G;omega)];rfl⟩,d⟩))
theorem cme:iH prog 275=true:=kR
theorem Qk(w:wO)(s:lU)(hlen:s.length≤100000)(h:(s==[])=false)(hd:∀c∈s,48≤c.toNat∧c.toNat≤57) :
  AX prog 167 #[S s,iV 10,iV 63] w λv w'=>((CH 0 s<4611686018427387904∧v=.tuple #[iV (CH 0 s:Int),.nilIface])∨(4611686018427387904≤CH 0 s∧∃z,v=.tuple #[iV z,.iface 275 (iV 1)]))∧AW w w':=by
 obtain⟨c0,W,D⟩:∃c r,s=c::r:=by
  cases s with
  |nil=>simp at h
  |cons c r=>exact⟨c,r,C⟩
 have F:=AW.refl w;refine enter func167 C C C<|Az [] 13 (λ_=>sP 13 C (λK=>?_) (λK=>?_))
 ·
  exfalso;rw[h] at K;contradiction
 refine Az [.sq _] 12 (λ_=>Ac C (C1 (c:=c0) C C J7 dC (by rw[D];rfl))<|Ay [.sq _,.sq _] 9 (λ_=>sP 17 C (λL=>?_) (λL=>?_)))
 ·
  exfalso;have Q:=hd c0 (D▸List.mem_cons_self);have:=(beq_iff_eq).1 L;omega
 refine Az [.bk _,.sq _] 7 (λ_=>sP 21 C (λO=>?_) (λO=>?_))
 ·
  exfalso;have Q:=hd c0 (D▸List.mem_cons_self);have:=(beq_iff_eq).1 O;omega
 refine Az [.bk _,.sq _] 14 (λ_=>A0 C (As Zg C C) (Jd _ s hlen h hd) ?_);rintro _ Y ⟨(⟨hle,rfl⟩|⟨U,rfl⟩),d⟩;have F:=F.trans d;have J:=d.size;refine Ay [.sq _] 11 (λ_=>Ac C (H6 FN C)<|Ay [.sq _,.sq _] 23 (λ_=>Ac C (Ck (62) C C dC)<|Ac C (BW (m:=62) C Lr dC)<|Ac C (Jo (4611686018427387904) C C dC dC)<|Ay [.sq _] 15 (λ_=>sP 52 C (λG=>?_) (λG=>?_))));exact Az [.sq _] 4 (λ_=>Ac C (Ck (4611686018427387903) C C dC)<|Ac C (BW (m:=4611686018427387903) C Jv dC)<|Ac C (B7 C KI)<|Ay [.sq _,.sq _] 6 (λ_=>Bp (Bl C (Af C) (Af C))<|⟨.inr ⟨by have:=dT G;omega,_,C⟩,F⟩));exact Az [.sq _] 20 (λ_=>Ac C (BW (m:=(CH 0 s:Int)) C Jv (CL ⟨oM,by have:=dF G;omega⟩))<|Ay [.sq _] 20 (λ_=>Bp (Bl C (Af C) (Af C))<|⟨.inl ⟨by have:=dF G;omega,C⟩,F⟩));have F:=F.trans d;have J:=d.size;refine Ay [.sq _] 11 (λ_=>Ac C (Ln FN C)<|Ay [.sq _,.sq _] 2 (λ_=>Bw C C C<|Ac C (B7 C KI)<|Bw C C C<|Ac C (Zu FN cme C C)<|Ay [.sq _,.sq _] 19 (λ_=>Ac C (Ck (62) C C dC)<|Ac C (BW (m:=62) C Lr dC) ?_)));exact Ac C (Jo (4611686018427387904) C C dC dC)<|Ay [.sq _] 19 (λ_=>Ac C (Ck (4611686018427387903) C C dC)<|Ac C (BW (m:=4611686018427387903) C Jv dC)<|Ac C (B7 C KI)<|Ay [.sq _,.sq _] 6 (λ_=>Bp (Bl C (Af C) (Af C))<|⟨.inr ⟨oM,_,C⟩,F⟩))
theorem RA(w:wO)(r:lU)(hlen:(45::r).length≤100000)(G:(r==[])=false)(hd:∀c∈r,48≤c.toNat∧c.toNat≤57) :
  AX prog 167 #[S (45::r),iV 10,iV 63] w λv w'=>((CH 0 r<4611686018427387905∧v=.tuple #[iV (-(CH 0 r:Int)),.nilIface])∨(4611686018427387905≤CH 0 r∧∃z,v=.tuple #[iV z,.iface 275 (iV 1)]))∧AW w w':=by
 have D:((45::r:lU)==[])=false:=rfl;have h:=AW.refl w;refine enter func167 C C C<|Az [] 13 (λ_=>sP 13 C (λK=>?_) (λK=>?_))
 ·
  exfalso;rw[D] at K;contradiction
 refine Az [.sq _] 12 (λ_=>Ac C (C1 (c:=45) C C J7 dC C)<|Ay [.sq _,.sq _] 20 (λ_=>Ac C (Mu C C J7)<|Ay [.sq _,.bk _,.sq _] 18 (λ_=>A0 C (As Zg C C) (Jd _ r (by simp only[List.length_cons] at hlen;omega) G hd) ?_)));rintro _ O ⟨(⟨hle,rfl⟩|⟨L,rfl⟩),d⟩;have h:=h.trans d;have J:=d.size;refine Ay [.sq _] 11 (λ_=>Ac C (H6 FN C)<|Ay [.sq _,.sq _] 23 (λ_=>Ac C (Ck (62) C C dC)<|Ac C (BW (m:=62) C Lr dC)<|Ac C (Jo (4611686018427387904) C C dC dC)<|Ay [.sq _] 29 (λ_=>sP 62 C (λF=>?_) (λF=>?_))));exact Az [.sq _] 4 (λ_=>Ac C (BW (m:=4611686018427387904) C Jv dC)<|Ac C (Lw (-4611686018427387904) C dC)<|Ac C (B7 C KI)<|Ay [.sq _,.sq _] 6 (λ_=>Bp (Bl C (Af C) (Af C))<|⟨.inr ⟨by have:=dT F;omega,_,C⟩,h⟩));exact Az [.sq _] 6 (λ_=>Ac C (BW (m:=(CH 0 r:Int)) C Jv (CL ⟨oM,by have:=dF F;omega⟩))<|Ay [.sq _] 12 (λ_=>Ac C (Lw (-(CH 0 r:Int)) C (by rw[CL ⟨by omega,by have:=dF F;omega⟩];omega))<|Ay [.sq _] 11 (λ_=>Bp (Bl C (Af C) (Af C))<|⟨.inl ⟨by have:=dF F;omega,C⟩,h⟩)));have h:=h.trans d;have J:=d.size;refine Ay [.sq _] 11 (λ_=>Ac C (Ln FN C)<|Ay [.sq _,.sq _] 2 (λ_=>Bw C C C<|Ac C (B7 C KI)<|Bw C C C<|Ac C (Zu FN cme C C)<|Ay [.sq _,.sq _] 19 (λ_=>Ac C (Ck (62) C C dC)<|Ac C (BW (m:=62) C Lr dC) ?_)));exact Ac C (Jo (4611686018427387904) C C dC dC)<|Ay [.sq _] 33 (λ_=>Ac C (BW (m:=4611686018427387904) C Jv dC)<|Ac C (Lw (-4611686018427387904) C dC)<|Ac C (B7 C KI)<|Ay [.sq _,.sq _] 6 (λ_=>Bp (Bl C (Af C) (Af C))<|⟨.inr ⟨oM,_,C⟩,h⟩))
end Go.Proofs.YtnojaendcldjpaaGreatDoor
namespace Go.SP
open Go.SW Go.RowKit
theorem Hg{α:Type}(p:α→Bool):∀(l:List α),l.dropWhile p=[]↔∀x∈l,p x=true
 | []=>by simp
 |a::l=>by
   have d:=Hg p l
   cases h:p a <;> simp[List.dropWhile,h,d]
theorem Ja{α:Type}(p:α→Bool):∀(l:List α)(a:α)(r:List α),l.dropWhile p=a::r→p a=false
 | [],_,_,h=>by simp at h
 |b::l,a,r,h=>by
   cases d:p b with
   |true=>rw[List.dropWhile_cons_of_pos d] at h;exact Ja p l a r h
   |false=>rw[List.dropWhile_cons_of_neg (by simp[d])] at h;cases h;exact d
theorem GG(s l:lU):Ey s l=s.all (l.contains ·):=by
 have key:Lib.trimS s l=[]↔∀x∈s,l.contains x=true:=by
   unfold Lib.trimS Lib.trimLeftS Lib.trimRightS;rw[Hg];constructor
   · intro h
     cases hd:s.reverse.dropWhile (l.contains ·) with
     |nil=>intro x D;exact (Hg _ _).1 hd x (by simpa using D)
     |cons a r =>
       have G:=Ja _ _ _ _ hd;have d:=h a (by rw[hd];simp);rw[G] at d;cases d
   · intro h x D
     exact h x (by have:=(List.dropWhile_suffix (l.contains ·) (l:=s.reverse)).subset (by simpa using D);simpa using this)
 unfold Ey
 cases h:s.all (l.contains ·) with
 |true=>rw[key.2 (by simpa using h)];rfl
 |false =>
   have:¬Lib.trimS s l=[]:=λe=>by
     have:=key.1 e;have d:s.all (l.contains ·)=true:=by simpa using this
     rw[h] at d;cases d
   simp[this]
theorem YK{c:UInt8}(h:DQ.contains c=true):48≤c.toNat∧c.toNat≤57:=by
 simp only[DQ,List.contains_cons,List.contains_nil,Bool.or_false,Bool.or_eq_true,beq_iff_eq] at h;rcases h with rfl|rfl|rfl|rfl|rfl|rfl|rfl|rfl|rfl|rfl <;> decide
theorem Gc{s:lU}(h:DJ s=true):(s==[])=false∧∀c∈s,48≤c.toNat∧c.toNat≤57:=by
 unfold DJ at h;rw[GG,Bool.and_eq_true] at h;exact⟨by simpa using h.1,λc d=>YK (List.all_eq_true.1 h.2 c d)⟩
theorem Fi(r:lU):AG (45::r)=r:=by
 simp[AG,Lib.trimPrefix,Lib.hasPrefix,List.isPrefixOf]
theorem Fg{s:lU}(h:F6 s=false):AG s=s:=by
 unfold AG Lib.trimPrefix
 cases s with
 |nil=>simp
 |cons c r =>
   have:c≠45:=by simpa[F6] using h
   simp[Lib.hasPrefix,List.isPrefixOf,this.symm]
theorem P3{r:lU}(h:DJ r=true):EN (45::r)=if CH 0 r<4611686018427387905 then some (-(CH 0 r:Int)) else none:=by
 unfold EN;rw[Fi,h];simp[F6,Nat.lt_succ_iff]
theorem PQ{s:lU}(d:F6 s=false)(h:DJ s=true):EN s=if CH 0 s<4611686018427387904 then some (CH 0 s:Int) else none:=by
 unfold EN;rw[Fg d,h,d];simp
theorem GD(s:lU):F6 s=false∨∃r,s=45::r:=by
 cases s with
 |nil=>exact .inl C
 |cons c r =>
   by_cases h:c=45
   · exact .inr ⟨r,by rw[h]⟩
   · left;simp[F6,h]
theorem Fh(s:lU):(AG s).length≤s.length:=by
 rcases GD s with h|⟨r,rfl⟩
 · rw[Fg h];exact Nat.le_refl _
 · rw[Fi];simp
end Go.SP
namespace Go.SP
theorem Sd(s t:lU):(Lib.cut s t).1.length≤s.length:=by
 unfold Lib.cut
 split
 · simp only[List.length_take];exact Nat.min_le_right _ _
 · exact Nat.le_refl _
theorem Sr(s t:lU):(Lib.cut s t).2.1.length≤s.length:=by
 unfold Lib.cut
 split
 · simp
 · simp
end Go.SP
namespace Go.SP
def xJ(s:lU)(a b c d e f g:Bool):Option (Int×Int×lU):=if a||(b&&c) then none else if d&&e then some (6,0,s) else if f&&g then some (5,0,s) else none
theorem BZ{s:lU}(d:EN s=none)(h:B4 s=none):D9 s=xJ s (decide ((40:Int)<s.length)) (!(AG s==[])) (Ey (AG s) DQ) (Ey (s.take 1) D3) (Ey s (D3++Dh++DQ)) (Ey (s.take 1) (Dh++CT)) (Ey s (D3++Dh++DQ++CT)):=by
 rw[D9,d];simp only[h];rfl
end Go.SP
namespace Go.SP
variable {j:Nat}
theorem Ju{p:Ps}{src:lU}(h:¬j<src.length∨∃c,src[j]?=some c∧((c.toNat:Int) != 10)=false):L4 p (src.drop j)=(src.drop j,p):=by
 rcases h with h|⟨c,d,h⟩
 · rw[List.drop_eq_nil_of_le (by omega)];rfl
 · rw[AB d,L4,if_neg (by rw[h];decide)]
theorem LO{p:Ps}{src:lU}{c:UInt8}(d:src[j]?=some c)(h:((c.toNat:Int) != 10)=true):L4 p (src.drop j)=L4 (adv c p) (src.drop (j+1)):=by
 rw[AB d,L4,if_pos h]
theorem Kr{p:Ps}{src:lU}(h:¬j<src.length∨∃c,src[j]?=some c∧decide (Lib.indexByte NJ c<0)=false):Co p (src.drop j)=([],src.drop j,p):=by
 rcases h with h|⟨c,d,h⟩
 · rw[List.drop_eq_nil_of_le (by omega)];rfl
 · rw[AB d,Co,if_neg (by rw[h];decide)]
theorem Ke{p:Ps}{src:lU}{c:UInt8}(d:src[j]?=some c)(h:decide (Lib.indexByte NJ c<0)=true) :
   Co p (src.drop j)=(c::(Co (adv c p) (src.drop (j+1))).1,(Co (adv c p) (src.drop (j+1))).2):=by
 rw[AB d,Co,if_pos h]
def Cu(src:lU)(i j:Nat):lU:=(src.take j).drop i
theorem NZ(src:lU)(i:Nat):Cu src i i=[]:=by
 unfold Cu;rw[List.drop_eq_nil_of_le (by simp;omega)]
theorem Od{src:lU}{i:Nat}{c:UInt8}(d:i≤j)(h:src[j]?=some c):Cu src i (j+1)=Cu src i j++[c]:=by
 obtain⟨D,he⟩:=List.getElem?_eq_some_iff.1 h;unfold Cu;rw[List.take_succ_eq_append_getElem D,List.drop_append_of_le_length (by simp;omega),he]
theorem AY{src:lU}{i:Nat}{c:UInt8}(d:i<j)(h:src[i]?=some c):Cu src i j=c::Cu src (i+1) j:=by
 unfold Cu;have:(src.take j)[i]?=some c:=by rw[List.getElem?_take,if_pos d,h]
 exact AB this
theorem DX(src:lU)(i j:Nat):(Cu src i j).length≤src.length:=by
 unfold Cu;simp only[List.length_drop,List.length_take];omega
section
variable{F i:Nat}{p:Ps}{src:lU}{c:UInt8}
theorem D2(r:lU):Dw F p (c::r) =
   (if decide ((0:Int)≤Lib.indexByte EA c) then .ok ([],r,adv c p)
   else if (c.toNat:Int)==59 then .ok ([],L4 (adv c p) r)
   else if (c.toNat:Int)==40 then .ok ([⟨0,p.1,p.2,0,[]⟩],r,adv c p)
   else if (c.toNat:Int)==41 then .ok ([⟨1,p.1,p.2,0,[]⟩],r,adv c p)
   else if (c.toNat:Int)==34 then (match Fp p F (adv c p) [] r with
     |.error e=>.error e
     |.ok (tx,d,h)=>.ok ([⟨4,p.1,p.2,0,tx⟩],d,h))
   else (match D9 (c::(Co (adv c p) r).1) with
     |none=>.error p
     |some (k,nm,tx)=>.ok ([⟨k,p.1,p.2,nm,tx⟩],(Co (adv c p) r).2))):=rfl
theorem M6(d:src[i]?=some c)(h:decide ((0:Int)≤Lib.indexByte EA c)=true):Dw F p (src.drop i)=.ok ([],src.drop (i+1),adv c p):=by rw[AB d,D2,if_pos h]
theorem LN(d:src[i]?=some c)(h:decide ((0:Int)≤Lib.indexByte EA c)=false)(D:((c.toNat:Int)==59)=true):Dw F p (src.drop i)=.ok ([],L4 (adv c p) (src.drop (i+1))):=by
 rw[AB d,D2,if_neg (by rw[h];decide),if_pos D]
theorem SL(d:src[i]?=some c)(h:decide ((0:Int)≤Lib.indexByte EA c)=false)(D:((c.toNat:Int)==59)=false)(G:((c.toNat:Int)==40)=true):Dw F p (src.drop i)=.ok ([⟨0,p.1,p.2,0,[]⟩],src.drop (i+1),adv c p):=by
 rw[AB d,D2,if_neg (by rw[h];decide),if_neg (by rw[D];decide),if_pos G]
theorem Tn(d:src[i]?=some c)(h:decide ((0:Int)≤Lib.indexByte EA c)=false)(D:((c.toNat:Int)==59)=false)(G:((c.toNat:Int)==40)=false)(J:((c.toNat:Int)==41)=true):Dw F p (src.drop i)=.ok ([⟨1,p.1,p.2,0,[]⟩],src.drop (i+1),adv c p):=by
 rw[AB d,D2,if_neg (by rw[h];decide),if_neg (by rw[D];decide),if_neg (by rw[G];decide),if_pos J]
theorem Jr(d:src[i]?=some c)(h:decide ((0:Int)≤Lib.indexByte EA c)=false)(D:((c.toNat:Int)==59)=false)(G:((c.toNat:Int)==40)=false)(J:((c.toNat:Int)==41)=false)(K:((c.toNat:Int)==34)=true) :
   Dw F p (src.drop i)=(match Fp p F (adv c p) [] (src.drop (i+1)) with
     |.error e=>.error e
     |.ok (tx,L,O)=>.ok ([⟨4,p.1,p.2,0,tx⟩],L,O)):=by
 rw[AB d,D2,if_neg (by rw[h];decide),if_neg (by rw[D];decide),if_neg (by rw[G];decide),if_neg (by rw[J];decide),if_pos K]
theorem B9(d:src[i]?=some c)(h:decide ((0:Int)≤Lib.indexByte EA c)=false)(D:((c.toNat:Int)==59)=false)(G:((c.toNat:Int)==40)=false)(J:((c.toNat:Int)==41)=false)(K:((c.toNat:Int)==34)=false) :
   Dw F p (src.drop i)=(match D9 (c::(Co (adv c p) (src.drop (i+1))).1) with
     |none=>.error p
     |some (k,nm,tx)=>.ok ([⟨k,p.1,p.2,nm,tx⟩],(Co (adv c p) (src.drop (i+1))).2)):=by
 rw[AB d,D2,if_neg (by rw[h];decide),if_neg (by rw[D];decide),if_neg (by rw[G];decide),if_neg (by rw[J];decide),if_neg (by rw[K];decide)]
end
end Go.SP
namespace Go.SP
theorem Hz(F n:Nat)(p:Ps):FU F n p []=.ok []:=by cases n <;> rfl
def R2(t:List Aq):Except Ps (List Aq)→Except Ps (List Aq)
 |.error e=>.error e
 |.ok l=>.ok (t++l)
theorem RV(x:Except Ps (List Aq)):R2 [] x=x:=by cases x <;> rfl
theorem Gv(F n:Nat)(p:Ps)(c:UInt8)(r:lU):FU F (n+1) p (c::r)=(match Dw F p (c::r) with
   |.error e=>.error e
   |.ok (t,d,h)=>match FU F n h d with
     |.error e=>.error e
     |.ok l=>.ok (t++l)):=rfl
variable {ot toks:List Aq}{j n:Nat}{p1:Ps}
theorem Pp{F:Nat}{q e:Ps}{src:lU}{c:UInt8}(d:src[j]?=some c)(he:Dw F q (src.drop j)=.error e):FU F (n+1) q (src.drop j)=.error e:=by
 rw[AB d] at he ⊢;rw[Gv,he]
theorem NG{F:Nat}{q:Ps}{src d:lU}{c:UInt8}{x:Except Ps (List Aq)}(D:src[j]?=some c)(h:Dw F q (src.drop j)=.ok (ot,d,p1))
   (hm:x=R2 toks (FU F (n+1) q (src.drop j))):x=R2 (toks++ot) (FU F n p1 d):=by
 rw[AB D] at h hm;rw[hm,Gv,h];simp only[]
 cases FU F n p1 d with
 |error e=>rfl
 |ok l=>simp[R2]
theorem PM{F:Nat}{p:Ps}{l r:lU}(h:Dw F p l=.ok (ot,r,p1)):ot.length≤1:=by
 cases l with
 |nil=>cases h
 |cons c r =>
   rw[D2] at h
   repeat' split at h
   all_goals first
     |(simp only[Except.ok.injEq,Prod.mk.injEq] at h;rw[← h.1];simp)
     |cases h
end Go.SP
namespace Go.Proofs.YtnojaendcldjpaaGreatDoor
open Go.SW Go.SP Go.RowKit Go.Proofs.Tryz
theorem N7(w:wO)(s:lU)(hlen:s.length≤100000)(d:DJ (AG s)=true) :
  AX prog 167 #[S s,iV 10,iV 63] w λv w'=>((∃n,EN s=some n∧v=.tuple #[iV n,.nilIface])∨(EN s=none∧∃z,v=.tuple #[iV z,.iface 275 (iV 1)]))∧AW w w':=by
 rcases GD s with D|⟨r,rfl⟩
 ·
  rw[Fg D] at d;obtain⟨F,G⟩:=Gc d;refine (Qk w s hlen F G).mono ?_;rintro v w' ⟨⟨J,rfl⟩|⟨K,z,rfl⟩,h⟩
  · exact⟨.inl ⟨_,by rw[PQ D d,if_pos J],C⟩,h⟩
  · exact⟨.inr ⟨by rw[PQ D d,if_neg (by omega)],z,C⟩,h⟩
 ·
  rw[Fi] at d;obtain⟨F,G⟩:=Gc d;refine (RA w r hlen F G).mono ?_;rintro v w' ⟨⟨J,rfl⟩|⟨K,z,rfl⟩,h⟩
  · exact⟨.inl ⟨_,by rw[P3 d,if_pos J],C⟩,h⟩
  · exact⟨.inr ⟨by rw[P3 d,if_neg (by omega)],z,C⟩,h⟩
theorem OS(w:wO)(J:Gl w)(s:lU)(hlen:s.length≤100000)(K:DJ (AG s)=true) :
  AX prog 145 #[S s,iV 10,iV 63] w λv w'=>((∃n,EN s=some n∧v=.tuple #[iV n,.nilIface])∨(EN s=none∧∃z T u,v=.tuple #[iV z,.iface T u]))∧AW w w':=by
 have d:=AW.refl w;refine enter func145 C C C<|Az [] 11 (λ_=>A0 C (As tW C C) (N7 _ s hlen K) ?_);rintro _ O ⟨(⟨n,F,rfl⟩|⟨F,z,rfl⟩),h⟩;have d:=d.trans h;have G:=h.size;exact Ay [.sq _] 11 (λ_=>Ac C (H6 FN C)<|Ay [.sq _,.sq _] 13 (λ_=>Bp (Bl C (Af C) (Af C))<|⟨.inl ⟨n,F,C⟩,d⟩));have d:=d.trans h;have G:=h.size;refine Ay [.sq _] 11 (λ_=>Ac C (Ln FN C)<|Ay [.sq _,.sq _] 10 (λ_=>A0 C (As sS C C) (QL _ (J.ext d) _ s _ _ hlen) ?_));rintro _ Q ⟨⟨eT,U,rfl⟩,D⟩;have d:=d.trans D;have L:=D.size;exact Ay [.sq _,.sq _] 6 (λ_=>Bp (Bl C (Af C) (Af C))<|⟨.inr ⟨F,z,_,_,C⟩,d⟩)
theorem Xt(w:wO)(L:Gl w)(s:lU)(hlen:s.length≤100000) :
  AX prog 115 #[S s] w λv w'=>((∃n,EN s=some n∧v=.tuple #[iV n,iV 0])∨(EN s=none∧∃e:Int,(e==0)=false∧v=.tuple #[iV 0,iV e]))∧AW w w':=by
 have d:=AW.refl w;refine enter func115 C C C<|Az [] 10 (λ_=>A0 C (As UY C C) (FQ _ s [45]) ?_);rintro _ U ⟨rfl,F⟩;have d:=d.trans F;have O:=F.size;refine A0 C (As Vx C C) (Jc _ (AG s) (by have:=Fh s;omega)) ?_;rintro _ W ⟨rfl,G⟩;have d:=d.trans G;have Q:=G.size;refine Ay [.sq _,.sq _] 3 (λ_=>sP 9 C (λD=>?_) (λD=>?_));have D:=B5 D;exact Az [.sq _] 9 (λ_=>Bp (Bl C (Af C) (Af C))<|⟨.inr ⟨by rw[EN,D];rfl,2,dC,C⟩,d⟩);have D:=B3 D;refine Az [.sq _] 6 (λ_=>A0 C (As uN C C) (OS _ (L.ext d) s hlen D) ?_);rintro _ Y ⟨(⟨n,J,rfl⟩|⟨J,z,eT,Z,rfl⟩),h⟩;have d:=d.trans h;have K:=h.size;exact Ay [.sq _] 11 (λ_=>Ac C (H6 FN C)<|Ay [.sq _,.sq _] 13 (λ_=>Bp (Bl C (Af C) (Af C))<|⟨.inl ⟨n,J,C⟩,d⟩));have d:=d.trans h;have K:=h.size;exact Ay [.sq _] 11 (λ_=>Ac C (Ln FN C)<|Ay [.sq _,.sq _] 11 (λ_=>Bp (Bl C (Af C) (Af C))<|⟨.inr ⟨J,4,dC,C⟩,d⟩))
def PFS:Prop:=∀(w:wO)(s a b:lU),Gl w→s.length≤100000→Fm s=some (a,b)→AX prog 147 #[S s,iV 64] w λv w'=>v=.tuple #[.float .f64 (Mw (F6 s) a b),.nilIface]∧AW w w'
theorem ZR:Extern.findNext Tryz.f154=none:=kR
theorem dX:Extern.find Tryz.f154=some Extern.MathFloatBits.float64bits:=kR
theorem U0(w:wO)(f:Nat) :
  AX prog 171 #[.float .f64 f] w λv w'=>v=.bool (!(Op.floatEq .f64 f f))∧AW w w':=by
 have d:=AW.refl w;exact enter func171 C C C<|Az [] 9 (λ_=>Ac C (YG C C)<|Ay [.sq _] 4 (λ_=>Bp (Ao C (Af C))<|⟨C,d⟩))
theorem fW(w:wO)(f:Nat) :
  AX prog 148 #[.float .f64 f] w λv w'=>v=.int .u64 ((if Op.floatEq .f64 f f then f else 9221120237041090560:Nat):Int)∧AW w w':=by
 have D:=AW.refl w;refine enter func148 C C C<|Az [] 9 (λ_=>A0 C (As uZ C C) (U0 _ f) ?_);rintro _ J ⟨rfl,d⟩;have D:=D.trans d;have G:=d.size;refine Ay [.sq _,.sq _] 2 (λ_=>sP 4 C (λF=>?_) (λF=>?_));refine Az [.sq _] 8 (λ_=>Bp (Ao C (Af C))<|⟨?_,D⟩);have h:=F;simp at h;simp[h];refine Az [.sq _] 6 (λ_=>Ac C (V3 func154 C C ZR dX C C C)<|Ay [.sq _] 4 (λ_=>Bp (Ao C (Af C))<|⟨?_,D⟩));have h:=F;simp at h;simp[h]
theorem Np(W:PFS)(w:wO)(hG:Gl w)(s:lU)(hlen:s.length≤100000) :
  AX prog 116 #[S s] w λv w'=>((∃x:Nat,B4 s=some x∧v=.tuple #[.int .u64 (x:Int),iV 0])∨(B4 s=none∧∃e:Int,(e==0)=false∧v=.tuple #[.int .u64 0,iV e]))∧AW w w':=by
 have hcl1:=Sd (AG s) [46];have hcl2:=Sr (AG s) [46];have hwl:=Fh s;have d:=AW.refl w;refine enter func116 C C C<|Az [] 9 (λ_=>A0 C (As UY C C) (FQ _ s [45]) ?_);rintro _ w1 ⟨rfl,J⟩;have d:=d.trans J;have sz1:=J.size;refine A0 C (As vB C C) (bG _ (hG.ext d) (AG s) [46] (by have:=Fh s;omega)) ?_;rintro _ w2 ⟨rfl,K⟩;have d:=d.trans K;have sz2:=K.size;refine Ay [.sq _] 16 (λ_=>sL 19 C (λD=>?_) (λD=>?_));have D:=B5 D;refine Ay [.sq _,.bk _,.sq _] 22 (λ_=>Bp (Bl C (Af C) (Af C))<|⟨.inr ⟨?_,2,dC,C⟩,d⟩);rw[B4,Fm,if_neg];simp[D];have D:=B3 D;refine Ay [.sq _,.bk _,.sq _] 1 (λ_=>Bw C C C<|A0 C (As Vx C C) (Jc _ (Lib.cut (AG s) [46]).1 (by have:=Sd (AG s) [46];have:=Fh s;omega)) ?_);rintro _ w3 ⟨rfl,L⟩;have d:=d.trans L;have sz3:=L.size;refine Ay [.sq _,.bk _,.sq _] 3 (λ_=>sL 24 C (λF=>?_) (λF=>?_));have F:=B5 F;refine Ay [.sq _,.bk _,.sq _] 17 (λ_=>Bp (Bl C (Af C) (Af C))<|⟨.inr ⟨?_,2,dC,C⟩,d⟩);rw[B4,Fm,if_neg];simp[D,F];have F:=B3 F;refine Ay [.sq _,.bk _,.sq _] 1 (λ_=>Bw C C C<|A0 C (As Vx C C) (Jc _ (Lib.cut (AG s) [46]).2.1 (by have:=Sr (AG s) [46];have:=Fh s;omega)) ?_);rintro _ w4 ⟨rfl,O⟩;have d:=d.trans O;have sz4:=O.size;refine Ay [.sq _,.bk _,.sq _] 5 (λ_=>sP 16 C (λG=>?_) (λG=>?_));have G:=B5 G;refine Az [.bk _,.sq _] 10 (λ_=>Bp (Bl C (Af C) (Af C))<|⟨.inr ⟨?_,2,dC,C⟩,d⟩);rw[B4,Fm,if_neg];simp[D,F,G];have G:=B3 G;refine Az [.bk _,.sq _] 12 (aI ⟨oM,oM⟩<|λ_=>sP 29 C (λY=>?_) (λY=>?_));refine Az [.bk _,.sq _] 10 (λ_=>Bp (Bl C (Af C) (Af C))<|⟨.inr ⟨?_,4,dC,C⟩,d⟩);rw[B4,Fm,if_neg];have Z:=Y;simp at Z;simp[D,F,G] <;> omega
 refine Az [.bk _,.sq _] 5 (λ_=>?_)
 have h:Fm s=some ((Lib.cut (AG s) [46]).1,(Lib.cut (AG s) [46]).2.1):=by
  unfold Fm;rw[if_pos];have Z:=Y;simp at Z;simp[D,F,G] <;> omega
 refine Az [.sq _] 2 (λ_=>A0 C (As wH C C) (W _ s _ _ (hG.ext d) hlen h) ?_);rintro _ w5 ⟨rfl,Q⟩;have d:=d.trans Q;have sz5:=Q.size;refine Ay [.sq _] 11 (λ_=>Ac C (H6 FN C)<|Ay [.sq _,.sq _] 8 (λ_=>A0 C (As wM C C) (fW _ _) ?_));rintro _ w6 ⟨rfl,U⟩;have d:=d.trans U;have sz6:=U.size;exact Ay [.sq _] 5 (λ_=>Bp (Bl C (Af C) (Af C))<|⟨.inl ⟨_,by rw[B4,h],C⟩,d⟩)
theorem Vz(w:wO)(x:Nat) :
  AX prog 117 #[.int .u64 (x:Int)] w λv w'=>v=S (LP x)∧AW w w':=by
 have h:=AW.refl w;refine enter func117 C C C<|Az [] 17 (λ_=>?_);refine DM (λk σ ds w'=>∃(j:Nat)(acc:lU)(K:oA)(rc:Nat),k=j∧ds=[]∧σ=(E3 0 (.int .u64 (x:Int)) 3 (.slice K acc.length rc) 4 (iV (8*(j:Int)-8)))∧j≤8∧LP x=acc++PA x j∧acc.length+j=8∧BQ w' 5 1 K rc acc.length (bC acc)∧(∀y,rb K=some y→w.heap.size≤y)∧AW w w') 8 (E3 0 (.int .u64 (x:Int)) 3 (.slice none 0 0) 4 (iV (8*((8:Nat):Int)-8))) lE ⟨8,[],none,0,C,C,C,Nat.le_refl _,C,C,Fx _ _ _,(λy Q=>by cases Q),h⟩ ?_;rintro j _ _ wl ⟨_,acc,K,rc,rfl,rfl,rfl,hj,hm,hal,d,D,h⟩;have szl:=h.size;have U:∀y,rb K=some y→y<wl.heap.size:=λy Q=>d.lt Q;refine Az [] 7 (λ_=>sP 6 C (λW=>?_) (λW=>?_));refine Az [.sq _] 9 (λ_=>?_);obtain⟨j,rfl⟩:∃j1,j=j1+1:=⟨j-1,by have:=dT W;omega⟩;refine Ac C (QA ((x / 2 ^ (8*j):Nat):Int) C C oM (by rw[show (8*((j+1:Nat):Int)-8).toNat=8*j by omega,show min (8*j) IntKind.u64.bits=8*j by simp[IntKind.bits];omega];exact S0 _ _))<|Ac C (BW (m:=((UInt8.ofNat (x / 2 ^ (8*j))).toNat:Int)) C kZ (wF _))<|BU C C Ww zr5 C C C C C λb1 w1 Y L hs1 hz1=>?_;have d:=d.ext L;have h:=h.trans L;refine Cm C Z8 C C C C d Y C C oM oM λF O w2 Z hG=>?_;have G:∀y,rb F=some y→w.heap.size≤y:=GB hG D oM;have h:=h.grow hG D;refine Ay [.bk _,.sq _] 9 (aI ⟨oM,oM⟩<|λ_=>?_);have J:acc.length+1=(acc++[UInt8.ofNat (x / 2 ^ (8*j))]).length:=by simp
 refine GS j (E3 0 (.int .u64 (x:Int)) 3 (.slice F (acc++[UInt8.ofNat (x / 2 ^ (8*j))]).length O) 4 (iV (8*(j:Int)-8))) oM (lu3 C (J▸rfl) (congrArg (λz:Int=>some (Value.int .i64 z)) (show (8*((j+1:Nat):Int)-8)-8=8*(j:Int)-8 by omega))) ⟨j,acc++[UInt8.ofNat (x / 2 ^ (8*j))],F,O,C,C,C,oM,by rw[hm];simp[PA],by rw[← J];omega,by rw[← J,bC_app];exact Z,G,h⟩;refine Az [.sq _] 3 (λ_=>Ox<|El [.bk _,.sq _] 5 (λ_=>Ac C (QD C Tb d)<|Ay [.sq _] 4 (λ_=>Bp (Ao C (Af C)) ?_)));have hj0:j=0:=by have:=dF W;omega
 subst hj0;exact⟨by rw[hm];simp[PA],h⟩
end Go.Proofs.YtnojaendcldjpaaGreatDoor
