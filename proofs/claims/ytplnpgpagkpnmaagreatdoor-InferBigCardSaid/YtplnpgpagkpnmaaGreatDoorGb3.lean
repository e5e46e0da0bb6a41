/- What it rests on, part 3. -/
import Derived.Test.YtplnpgpagkpnmaaGreatDoorGb2
import Derived.RangeFuncNested
import Derived.RangeFuncCalls
import Derived.RangeFuncLeaves
set_option linter.unusedVariables false
set_option linter.unusedSimpArgs false
namespace Go.Proofs.YtplnpgpagkpnmaaGreatDoor
open Go.SW Go.SP Go.RowKit Go.Proofs.Tryz
theorem Ji(w:wO)(L:Gl w)(t:AB)(O:Value)(G:t.k=5→t.tx≠[])(hlen:t.tx.length≤100000) :
  AO prog 160 #[.agg #[iV t.k,iV t.ln,iV t.co,iV t.nm,S t.tx,O]] w λv w'=>v=.bool t.isHole∧AT w w':=by
 have h:=AT.refl w;refine enter func160 C C C<|Ay [] 2 (λ_=>DM C C C λb1 Y d J Q U=>?_);have h:=h.trans J;refine KP [.sq _] 6 [0,0] (kB d (Fh _)) (y2<|λ_=>Az C (Ar qZ C C) (Eo _ (L.ext h) ⟨_,_,_,_,_⟩ _ G hlen) ?_);rintro _ Z ⟨rfl,D⟩;have d:=d.ext D;have h:=h.trans D;have HR:=D.size;refine Ab C (As C)<|sL 5 C (λK=>?_) (λK=>?_);exact Ax [.sq _] 7 (λ_=>Bw (A3 C (Ak C))<|⟨by simp[AB.isHole,K],h⟩);refine KP [.sq _] 1 [0,0] (kB d (Fh _)) (y2<|λ_=>B6 C C C<|Az C (Ar yP C C) (Di _ ⟨_,_,_,_,_⟩ _ _) ?_);rintro _ w3 ⟨rfl,F⟩;have d:=d.ext F;have h:=h.trans F;have W:=F.size;exact Ax [.sq _] 5 (λ_=>Bw (A3 C (Ak C))<|⟨by simp[AB.isHole,K],h⟩)
theorem FX(w:wO)(L:Gl w)(t:AB)(O:Value)(G:t.k=5→t.tx≠[])(hlen:t.tx.length≤100000) :
  AO prog 76 #[.agg #[iV t.k,iV t.ln,iV t.co,iV t.nm,S t.tx,O]] w λv w'=>v=.bool t.isTypeName∧AT w w':=by
 have h:=AT.refl w;refine enter func76 C C C<|Ay [] 2 (λ_=>DM C C C λb1 Y d J Q U=>?_);have h:=h.trans J;refine KP [.sq _] 6 [0,0] (kB d (Fh _)) (y2<|λ_=>Az C (Ar qZ C C) (Eo _ (L.ext h) ⟨_,_,_,_,_⟩ _ G hlen) ?_);rintro _ Z ⟨rfl,D⟩;have d:=d.ext D;have h:=h.trans D;have HR:=D.size;refine Ab C (As C)<|sL 5 C (λK=>?_) (λK=>?_);refine KP [.sq _] 3 [0,4] (kB d (Fh _)) (y2<|λ_=>B6 C C C<|Ab C (Ic C C (by simp;omega))<|B6 C C C<|Ab C (Ic C C (by simp;omega))<|B6 C C C<|Az C (Ar pT C C) (Hw _ (L.ext h) _ _ dC) ?_);rintro _ w3 ⟨rfl,F⟩;have d:=d.ext F;have h:=h.trans F;have W:=F.size;refine Ax [.sq _] 6 (λ_=>Bw (A3 C (Ak C))<|⟨?_,h⟩);show _=Value.bool (t.isVar&&!VP t.tx);rw[K];rfl;refine Ax [.sq _] 12 (λ_=>Bw (A3 C (Ak C))<|⟨?_,h⟩);show _=Value.bool (t.isVar&&!VP t.tx);simp[K]
theorem J2(w:wO)(t:AB)(L:Value)(G:t.k=5→t.tx≠[]) :
  AO prog 77 #[.agg #[iV t.k,iV t.ln,iV t.co,iV t.nm,S t.tx,L]] w λv w'=>v=.bool t.isTypeVar∧AT w w':=by
 have h:=AT.refl w;refine enter func77 C C C<|Ay [] 2 (λ_=>DM C C C λb1 U d J O Q=>?_);have h:=h.trans J;refine KP [.sq _] 6 [0,0] (kB d (Fh _)) (y2<|λ_=>Az C (Ar eQ C C) (FG _ ⟨_,_,_,_,_⟩ _) ?_);rintro _ W ⟨rfl,D⟩;have d:=d.ext D;have h:=h.trans D;have HR:=D.size;refine Ab C (As C)<|sL 5 C (λF=>?_) (λF=>?_);refine KP [.sq _] 3 [0,4] (kB d (Fh _)) (y2<|λ_=>B6 C C C<|Ab C (CF C C JW dC (W1 (G (by simpa using F))))<|Ax [.sq _] 3 (λ_=>sL 12 C (λK=>?_) (λK=>?_)));refine KP [.sq _] 10 [0,4] (kB d (Fh _)) (y2<|λ_=>Bw (A3 C (Ak C))<|⟨?_,h⟩);show _=Value.bool (t.k==5&&(((Zs t.tx).toNat:Int)==39&&decide (1<(t.tx.length:Int))));rw[F,K];rfl;refine Ax [.sq _] 10 (λ_=>Bw (A3 C (Ak C))<|⟨?_,h⟩);show _=Value.bool (t.k==5&&(((Zs t.tx).toNat:Int)==39&&decide (1<(t.tx.length:Int))));simp[F,K];refine Ax [.sq _] 17 (λ_=>Bw (A3 C (Ak C))<|⟨?_,h⟩);show _=Value.bool (t.k==5&&(((Zs t.tx).toNat:Int)==39&&decide (1<(t.tx.length:Int))));simp[F]
theorem I6(w:wO)(t:AB)(F:Value) :
  BB prog 84 #[.agg #[iV t.k,iV t.ln,iV t.co,iV t.nm,S t.tx,F]] w (λv w'=>False) (λc w'=>c=RY 108 (t.ln,t.co)∧AT w w'):=by
 have d:=AT.refl w;refine Iw func84 C C C<|Ay [] 2 (λ_=>DM C C C λb1 K h D G J=>?_);have d:=d.trans D;exact KP [.sq _] 7 [0,1] (kB h (Fh _)) (y2<|λ_=>Ab C (BF C Xb)<|Cb (BA C) (aI C<|⟨C,d⟩))
theorem Vg(w:wO)(t:AB)(J:Value)(ok:Bool) :
  BB prog 73 #[.agg #[iV t.k,iV t.ln,iV t.co,iV t.nm,S t.tx,J],.bool ok] w (λv w'=>ok=true∧v=.tuple #[]∧AT w w') (λc w'=>ok=false∧c=RY 108 (t.ln,t.co)∧AT w w'):=by
 have h:=AT.refl w;refine Iw func73 C C C<|Ay [] 2 (λ_=>DM C C C λb1 Q D F K L=>?_);have h:=h.trans F;refine Ax [.sq _] 8 (λ_=>sP 5 C (λd=>?_) (λd=>?_));have d:=Ee d;refine Pr [] 3 [0,0] (kB D (Fh _)) (y2<|λ_=>Cc C (Ar ent84 C C) (I6 _ ⟨_,_,_,_,_⟩ _) (λ_ _ O=>O.elim) (λc wp G=>aI C (⟨d,G.1,h.trans G.2⟩)));have d:=Eh d;exact Ay [] 2 (λ_=>MK (Gp C)<|⟨d,C,h⟩)
theorem A7(w:wO)(t:AB)(L:Value)(op:Int)(tx:lU)(ka:oA)(kn kc:Nat) :
  AO prog 78 #[.agg #[iV t.k,iV t.ln,iV t.co,iV t.nm,S t.tx,L],iV op,S tx,.slice ka kn kc] w λv w'=>v=.agg #[iV op,iV t.ln,iV t.co,S tx,iV 0,.slice ka kn kc]∧AT w w':=by
 have h:=AT.refl w;refine enter func78 C C C<|Ay [] 2 (λ_=>DM C C C λb1 Y d G O Q=>?_);have h:=h.trans G;refine C9 C zJ λb2 Z J F U W=>?_;have d:=d.ext F;have h:=h.trans F;refine KP [.sq _] 11 [0,1] (kB d (Fh _)) (y2<|λ_=>A9 C C C pJ C J C C λw3 K D=>?_);have d:=d.chg D oM;have h:=h.chg D oM;have HR:=D.size;exact Ax [.sq _] 3 (λ_=>Bw (A3 C (Ac C pJ K C))<|⟨C,h⟩)
def Da(w:wO)(f:Fq):Prop:=∀w' f',Hi w f w' f'→Gl w'
theorem Da.mono:Ea (λw f=>Da w f):=λ_ _ _ _ h D w' f' d=>h w' f' (D.trans d)
variable {f:Fq}{w:wO}
theorem Da.gl(h:Da w f):Gl w:=h w f (Hi.refl _ _)
theorem Hb(h:Nat)(he:Be prog h)(m:AB→Fo→R N)(D:AB→Fo→Prop)(hm:∀ (w:wO) (f:Fq) (_:Vl w f) (_:Da w f) (t:AB) (k:Fo) (a:oA) (c:Nat),D t k→Cv w f k a c→BB prog h #[fV t a k.len c] w (HM (m t k) w f) (Iu 108 (m t k) w f))(w:wO)(f:Fq)(hv:Vl w f)(hJ:Da w f)(l:Fo)(K:oA)(lc:Nat)(hD:l.all D)(hlen:l.len≤100000)(hL:Cv w f l K lc) :
  BB prog 32 #[.slice K l.len lc,.func (.func h) #[] #[]] w (cA (α:=Nd×lV) 121 6 (λx=>x.1.len) (λx=>x.2) (λx=>Bi m l=.ok x.1) (λx=>[λw f=>BJ w f x.1 x.2]) w f) (Sr 108 (λe=>Bi m l=.error e) w f):=by
 refine OJ (X:=X0 w f) (H:=[]) (R:=[]) (B:=[]) (Fs:=[λw f=>Cv w f l K lc,λw f=>Da w f]) (f:=f) func32 C C C (AR hv ⟨hL,hJ,tQ⟩ ⟨Cv.mono,Da.mono,tQ⟩)<|Aa 19 (λ_=>KR 121 6 ?_);refine D6 (α:=Nat×Fo×Nd×lV×oA×Nat) (λx=>x.2.1.len) (λx=>x.1+x.2.1.len=l.len∧x.2.2.1.len=x.1∧(Bi m l=match Bi m x.2.1 with|.error e=>.error e|.ok b=>.ok (x.2.2.1.app b))∧x.2.1.all D) (λx=>(E5 1 (.func (.func h) #[] #[]) 5 (.slice x.2.2.2.2.1 x.1 x.2.2.2.2.2) 8 (.slice K l.len lc) 9 (iV (l.len:Int)) 10 (iV (x.1:Int)))) (λx=>X0 w f) (λx=>[]) (λx=>[⟨121,6,x.2.2.2.2.1,x.2.2.2.2.2,x.1,x.2.2.2.1⟩]) (λx=>[]) (λx=>[λw f=>Dj w f K x.1 x.2.1,λw f=>BJ w f x.2.2.1 x.2.2.2.1,λw f=>Da w f]) (0,l,.nil,[],none,0) ⟨Nat.zero_add _,C,Tq,hD⟩ lE (λw f d=>d.more (B':=[]) (F':=[λw f=>Dj w f K 0 l,λw f=>BJ w f .nil []]) nE (AA.mem ⟨Cv.at d.f0,C,tQ⟩) (Ap.mem ⟨Dj.mono,BJ.mono,tQ⟩) |>.less sR sR nE (mR [0,1,3])) ?_;rintro⟨i,r,L,xs,ra,rc⟩ ⟨Y,G,F,J⟩;dsimp only at Y G F J ⊢;refine Aa 6 (λ_=>A6 11 C C (λQ=>?_) (λQ=>?_));refine Aa 6 (λ_=>?_);have hil:i<l.len:=by have:=dT Q;omega
 obtain⟨t,k,r,rfl⟩:=Fo.cases1 r oM;have hi2:i+(r.len+1)=l.len:=Y;refine KO 0 C ?_;rintro⟨eb,eo,ka,kc⟩ rfl;refine Af 11 [100,0,0,0] (aI oM<|y2<|λb1=>y<|y<|λ_=>?_);refine JY C C (eC he C C) (λw f d=>hm w f d.vl d.f4 t k ka kc J.1 d.f0) (λ_=>⟨AJ.mono,tQ⟩) (λe w2 f2 he hE=>⟨C,e,f2,C,(by rw[F];exact XK he),hE⟩) ?_;rintro⟨nd,Z,nc⟩ O;dsimp only at O ⊢;exact Aa 1 (λb2=>λ_=>BW 0 0 C C PA C C C C C C C C (λ_ _=>C) oM oM λU W=>Aa 8 (aI ⟨oM,oM⟩<|λ_=>C0 ((i+1,r,L.app nd.one,xs++Kd nd.op nd.ln nd.co nd.tx nd.nm Z nd.kids.len nc,U,W)) (show r.len<r.len+1 from Nat.lt_succ_self _) ⟨show i+1+r.len=_ by omega,show (L.app nd.one).len=i+1 by rw[Nd.app_len,G];rfl,F.trans (Wq O),J.2⟩ lE (λw f d=>⟨_,(d.more (B':=[]) (F':=[λw f=>BJ w f (L.app nd.one) (xs++Kd nd.op nd.ln nd.co nd.tx nd.nm Z nd.kids.len nc)]) nE (AA.mem ⟨BJ.app (BJ.one d.f0) d.f4,tQ⟩) (Ap.mem ⟨BJ.mono,tQ⟩)).less (sD (sD sZ)) sR nE (mR [3,0,6])⟩)));refine Aa 3 (λ_=>Dl<|Aa 3 (λ_=>?_));obtain rfl:r=.nil:=Fo.len0 (by have:=dF Q;omega);subst G;exact Aa 6 (λ_=>AK (Cy C C) (λw f d=>⟨(L,xs),ra,rc,f,C,(by rw[F];show (Except.ok (L.app .nil):R Nd)=_;rw[Nd.app_nil]),d.exm,d.row _ (.head _),(λb hb=>⟨d.rnw _ (.head _) b hb,(d.own b (List.mem_append.2 (.inr (List.mem_filterMap.2 ⟨_,.head _,hb⟩)))).1⟩),⟨d.f1,tQ⟩⟩))
variable {Q:AQ}{σ:AW}{af:Array Edge}{X:Cx}{Fs:List (wO→Fq→Prop)}{ds:List Deferred}{B:List FB}{fs:List Fr}{H:List HB}{d n:Nat}{g:Option (Nat×Bool)}{pos:String}{ty:tI}
theorem AZ{R:List RB}{all r:List Oper}{op:Op}{t:AB}{O:Value}{b:Bool}
  (U:gd all σ g=some true) (hd:Nat.blt d n=true) (he:∀w,SW.Enters prog σ op ty w 73 #[.agg #[iV t.k,iV t.ln,iV t.co,iV t.nm,S t.tx,O],.bool b]) (W:∀w' f',b=false→C6 X.M X.w0 X.f0 w' f'→Q.p (RY 108 (t.ln,t.co)) σ ds w')
  (h:b=true→Aw prog n Q ds X R B Fs (.ops all r) fs (AD σ d (.tuple #[])) H):Aw prog n Q ds X R B Fs (.ops all (⟨some d,op,ty,pos,af,g⟩::r)) fs σ H :=
 JY (α:=Unit) (val:=λ_=>.tuple #[]) (q:=λ_=>b=true) (F':=λ_=>[]) (pe:=λe=>b=false∧e=(t.ln,t.co)) (T:=108) U hd he (λw f L=>(Vg w t _ _).mono (λ_ F ⟨D,G,J⟩=>⟨(),f,G,D,C6.of_ext J L.vl,tQ⟩) λ_ F ⟨D,G,J⟩=>⟨_,f,G,⟨D,C⟩,C6.of_ext J L.vl⟩) (λ_=>trivial) (λe F f2 ⟨he,K⟩ Y=>by subst K;exact W F f2 he Y) (λ_ D=>h D)
theorem BG(F:Nat)(he:Be prog F)(m:AB→Fo→R N)(D:AB→Fo→Prop)(hm:∀ (w:wO) (f:Fq) (_:Vl w f) (_:Da w f) (t:AB) (k:Fo) (a:oA) (c:Nat),D t k→Cv w f k a c→BB prog F #[fV t a k.len c] w (HM (m t k) w f) (Iu 108 (m t k) w f))(w:wO)(f:Fq)(J:Vl w f)(K:Da w f)(l:Fo)(G:oA)(lc:Nat)(L:l.all D)(hlen:l.len≤100000)(O:Cv w f l G lc) :
  BB prog 32 #[.slice G l.len lc,.func (.func F) #[] #[]] w (AF (α:=(Nd×lV)×oA×Nat) (λy=>.slice y.2.1 y.1.1.len y.2.2) (λy=>Bi m l=.ok y.1.1) (λy=>[λw f=>AJ w f y.1.1 y.2.1 y.2.2]) w f) (Sr 108 (λe=>Bi m l=.error e) w f) :=
 (Hb F he m D hm w f J K l G lc L hlen O).mono (λ_ _ h=>cA.fro J h) λ_ _ h=>h
theorem TW(w:wO)(f:Fq)(O:Vl w f)(U:Da w f)(l:Fo)(J:oA)(lc:Nat)(W:l.all (λt _=>t.ok))(hlen:l.len≤100000)(Y:Cv w f l J lc) :
  AO prog 158 #[.slice J l.len lc] w (AF (α:=Unit) (λ_=>.bool (NB l)) (λ_=>True) (λ_=>[]) w f):=by
 refine Dq [λw f=>Cv w f l J lc,λw f=>Da w f] func158 C C C (AR O ⟨Y,U,tQ⟩ ⟨Cv.mono,Da.mono,tQ⟩)<|Aa 14 (λ_=>?_);refine D6 (α:=Nat×Fo) (λx=>x.2.len) (λx=>x.1+x.2.len=l.len∧NB l=NB x.2∧x.2.all (λt _=>t.ok)) (λx=>(E3 5 (.slice J l.len lc) 6 (iV (l.len:Int)) 7 (iV (x.1:Int)))) (λx=>X0 w f) (λx=>[]) (λx=>[]) (λx=>[]) (λx=>[λw f=>Dj w f J x.1 x.2,λw f=>Da w f]) (0,l) ⟨Nat.zero_add _,C,W⟩ lE (λw f h=>h.more (B':=[]) (F':=[λw f=>Dj w f J 0 l]) nE (AA.mem ⟨Cv.at h.f0,tQ⟩) (Ap.mem ⟨Dj.mono,tQ⟩) |>.less sR sR nE (mR [0,2])) ?_;rintro⟨i,r⟩ ⟨L,D,F⟩;dsimp only at L D F ⊢;refine Aa 6 (λ_=>A6 8 C C (λK=>?_) (λK=>?_));refine Aa 6 (λ_=>?_);have Z:i<l.len:=by have:=dT K;omega
 obtain⟨t,k,r,rfl⟩:=Fo.cases1 r oM;have hi2:i+(r.len+1)=l.len:=L;refine KO 0 C ?_;rintro⟨eb,eo,ka,kc⟩ rfl;refine Af 10 [100,0,0,0] (aI oM<|y2<|λb1=>y<|y<|λ_=>Db C C (eC Rs C C) (λw f h=>Ji _ (Da.gl h.f3) t _ F.1.1 F.1.2)<|Aa 3 (λ_=>A6 13 C C (λG=>?_) (λG=>?_)));replace G:=Ee G;exact Aa 9 (λ_=>So<|Aa 2 (λ_=>AK (Cy C C) (λw f h=>⟨(),f,(by rw[D];show _=Value.bool (t.isHole&&NB r);rw[G];rfl),tQ,h.exm,tQ⟩)));replace G:=Eh G;exact Aa 8 (aI ⟨oM,oM⟩<|λ_=>C0 ((i+1,r)) (show r.len<r.len+1 from Nat.lt_succ_self _) ⟨show i+1+r.len=_ by omega,D.trans (by show (t.isHole&&NB r)=_;rw[G];rfl),F.2⟩ lE (λw f h=>⟨_,h.less (sD sZ) sR nE (mR [1,3])⟩));refine Aa 3 (λ_=>Dl<|Aa 3 (λ_=>?_));obtain rfl:r=.nil:=Fo.len0 (by have:=dF K;omega);exact Aa 5 (λ_=>AK (Cy C C) (λw f h=>⟨(),f,(by rw[D];rfl),tQ,h.exm,tQ⟩))
theorem Of(w:wO)(f:Fq)(F:Vl w f)(G:Da w f)(t:AB)(k:Fo)(ka:oA)(kc:Nat) :
  AO prog 159 #[fV t ka k.len kc] w (HM (J3 t k) w f):=by
 refine Dq [λw f=>Da w f] func159 C C C (AR F ⟨G,tQ⟩ ⟨Da.mono,tQ⟩)<|Af 10 [1] (λb1=>λb2=>y<|λ_=>Db C C (eC Is C C) (λw f h=>Di _ t _ _)<|Aa 2 (λ_=>A6 4 C C (λD=>?_) (λD=>?_)));exact Af 4 [1] (y<|λ_=>Db C C (eC Bm C C) (λw f h=>A7 _ t _ _ _ _ _ _)<|Af 5 [0] (y<|λ_=>AK (λw f h=>A3 C (Ac C Bb h.k0 C)) (λw f h=>⟨(⟨21,t.ln,t.co,[],0,.nil⟩,none,0),f,C,(by simp[J3,Av,D]),h.exm,⟨⟨Nat.zero_le _,.inl C⟩,tQ⟩⟩)));exact Af 9 [1,1] (y<|y<|λ_=>Db C C (eC Bm C C) (λw f h=>A7 _ t _ _ _ _ _ _)<|Af 4 [0] (y<|λ_=>AK (λw f h=>A3 C (Ac C Bb h.k0 C)) (λw f h=>⟨(⟨22,t.ln,t.co,t.tx,0,.nil⟩,none,0),f,C,(by simp[J3,Av,D]),h.exm,⟨⟨Nat.zero_le _,.inl C⟩,tQ⟩⟩)))
theorem Sw(n:Nat)(ih:∀n',n=n'+1→∀ (w:wO) (f:Fq) (_:Vl w f) (_:Da w f) (t:AB) (k:Fo) (a:oA) (c:Nat),Gx n' t k→Cv w f k a c→BB prog 188 #[fV t a k.len c] w (HM (DZ (n'+1) t k) w f) (Iu 108 (DZ (n'+1) t k) w f))(w:wO)(f:Fq)(hv:Vl w f)(hJ:Da w f)(t:AB)(k:Fo)(ka:oA)(kc:Nat)(hp:Gx n t k)(hL:Cv w f k ka kc) :
  BB prog 188 #[fV t ka k.len kc] w (HM (DZ (n+1) t k) w f) (Iu 108 (DZ (n+1) t k) w f):=by
 refine OJ (X:=X0 w f) (H:=[]) (R:=[]) (B:=[]) (Fs:=[λw f=>Cv w f k ka kc,λw f=>Da w f]) (f:=f) func188 C C C (AR hv ⟨hL,hJ,tQ⟩ ⟨Cv.mono,Da.mono,tQ⟩)<|Af 21 [1] (λb1=>λb2=>y<|λ_=>A6 8 C C (λG=>?_) (λG=>?_));exact Af 16 [1,1,0] (y<|y<|y<|λ_=>AK (λw f d=>A3 C (Ac C Bb d.k0 C)) (λw f d=>⟨(⟨23,t.ln,t.co,[],t.nm,.nil⟩,none,0),f,C,(by unfold DZ;simp[SP.need,Av,G]),d.exm,⟨⟨Nat.zero_le _,.inl C⟩,tQ⟩⟩));refine Aa 7 (λ_=>A6 17 C C (λJ=>?_) (λJ=>?_));exact Af 7 [1,1] (y<|y<|λ_=>Db C C (eC Bm C C) (λw f d=>A7 _ t _ _ _ _ _ _)<|Af 6 [0] (y<|λ_=>AK (λw f d=>A3 C (Ac C Bb d.k0 C)) (λw f d=>⟨(⟨24,t.ln,t.co,t.tx,0,.nil⟩,none,0),f,C,(by unfold DZ;simp[SP.need,Av,G,J]),d.exm,⟨⟨Nat.zero_le _,.inl C⟩,tQ⟩⟩)));refine Aa 7 (λ_=>A6 24 C C (λO=>?_) (λO=>?_));exact Af 7 [1,1] (y<|y<|λ_=>Db C C (eC Bm C C) (λw f d=>A7 _ t _ _ _ _ _ _)<|Af 6 [0] (y<|λ_=>AK (λw f d=>A3 C (Ac C Bb d.k0 C)) (λw f d=>⟨(⟨26,t.ln,t.co,t.tx,0,.nil⟩,none,0),f,C,(by unfold DZ;simp[SP.need,Av,G,J,O]),d.exm,⟨⟨Nat.zero_le _,.inl C⟩,tQ⟩⟩)));refine Aa 7 (λ_=>A6 31 C C (λU=>?_) (λU=>?_));refine Aa 2 (λ_=>Ca [0,1] Aj (.rd 0 (.rd 1 (.br 2 (.br 3 .fin .fin) .fin))) C kR<|Bh 2 [1,1] (y<|y<|λ_=>Ah C<|Db C C (eC Rs C C) (λw f d=>Ji _ (Da.gl d.f1) t _ hp.1.1 hp.1.2)<|Aa 1 (λ_=>Am [0,1] C<|Ah C<|AZ C C (eC AG C C) (λw2 f2 he Q=>⟨C,_,f2,C,(by unfold DZ;simp[SP.need,Av,he,G,J,O,U]),Q⟩) λF=>Aa 1 (λ_=>?_))));refine Am [0,1] C<|Bp<|Af 4 [1] (y<|λ_=>BV C C (eC X6 C C) (λw f d=>Of w f d.vl d.f1 t _ _ _) (λ_=>⟨AJ.mono,tQ⟩) ?_);rintro⟨nd1,and1,cnd1⟩ hnd1;dsimp only at hnd1 ⊢;exact Af 6 [0] (y<|λ_=>AK (λw f d=>A3 C (Ac C Bb d.k0 C)) (λw f d=>⟨(nd1,and1,cnd1),f,C,(by unfold DZ;simp[SP.need,Av,G,J,O,U,F,hnd1]),d.exm,⟨d.f0,tQ⟩⟩));refine Aa 7 (λ_=>A6 39 C C (λZ=>?_) (λZ=>?_));exact Af 3 [1] (y<|λ_=>xH C C (eC Wl C C) (pe:=λe=>e=(t.ln,t.co)) (T:=108) (λw f d=>(I6 w t _).mono (λ_ _ h=>h.elim) λ_ w2 ⟨G,J⟩=>⟨_,f,G,C,C6.of_ext J d.vl⟩) (λe w2 f2 he Q=>by subst he;exact⟨C,_,f2,C,(by unfold DZ;simp[SP.need,Av,G,J,O,U,Z]),Q⟩));refine Af 13 [1] (y<|λ_=>A6 46 C C (λW=>?_) (λW=>?_));refine Aa 2 (λ_=>?_);obtain rfl:k=.nil:=Fo.len0 (by have h9:((k.len:Int)==0)=true:=W;have:=beq_iff_eq.1 h9;omega);exact Af 2 [1] (y<|λ_=>Db C C (eC Bm C C) (λw f d=>A7 _ t _ _ _ _ _ _)<|Af 5 [0] (y<|λ_=>AK (λw f d=>A3 C (Ac C Bb d.k0 C)) (λw f d=>⟨(⟨25,t.ln,t.co,[],0,.nil⟩,none,0),f,C,(by unfold DZ;simp[SP.need,Av,G,J,O,U,Z,W]),d.exm,⟨⟨Nat.zero_le _,.inl C⟩,tQ⟩⟩)));refine Aa 4 (λ_=>?_);obtain⟨h,hk,r,rfl⟩:=Fo.cases1 k (by have h9:((k.len:Int)==0)=false:=W;have:=beq_eq_false_iff_ne.1 h9;omega);obtain⟨hto,hko,hkl,hdp⟩:=hp;have hkl2:r.len+1≤100000:=hkl
 obtain⟨n,rfl⟩:∃q,n=q+1:=by cases n with|zero=>exact absurd hdp (by simp[Fo.deep])|succ q=>exact⟨q,C⟩
 simp only[Fo.deep,Bool.and_eq_true] at hdp;refine xL 0 C<|Ng 1 C<|KO 0 C ?_;rintro⟨eb,eo,hka,hkc⟩ rfl;refine Ca [0,1] Aj (rd [0,1,2,3,4,5,6] (.br 7 (.br 8 (.rd 9 .fin) .fin) .fin)) C kR<|Bh 6 [1,100,0,1] (y<|aI (by simp only[Fo.len];omega)<|y2<|y<|λ_=>CP C C C (λw hK=>GZ C C C Im)<|Ah C<|Aa 2 (λb3=>λ_=>Am [1,2] C<|Ah C<|Af 2 [0] (y<|λ_=>Am [1,2] C<|AN 1 (λ_=>?_))));refine Bp<|Af 10 [0] (y<|λ_=>A6 59 C C (λh7=>?_) (λh7=>?_));refine Aa 2 (λ_=>Ca [0,1,2] Aj (rd [0,1,2] (.br 3 (.br 4 .fin .fin) .fin)) C kR<|Bh 3 [2] (y<|λ_=>Ah C<|Db C C (eC Gv C C) (λw f d=>CT _ _ _ _)<|Aa 1 (λ_=>Am [0,1,2] C<|Ah C<|AZ C C (eC AG C C) (λw2 f2 he Q=>⟨C,_,f2,C,(by unfold DZ;simp[SP.need,Av,he,G,J,O,U,Z,W,h7]),Q⟩) λF=>Aa 1 (λ_=>?_))));refine Am [0,1,2] C<|Bp<|Aa 2 (λ_=>Ca [0,2] Aj (rd [0,1,2,3,4] (.br 5 (.br 6 (.br 7 .fin .fin) .fin) .fin)) C kR<|Bh 5 [1,0] (y<|y<|λ_=>Ah C ?_));refine JY C C (eC CV C C) (λw f d=>BG 188 R6 (DZ (n+1)) (Gx n) (λw f hv hJ t k a c hd hT=>ih n C w f hv hJ t k a c hd hT) w f d.vl d.f5 r _ _ (N8 n r hko.2.2.2 hdp.2) oM d.f3) (λ_=>⟨AJ.mono,tQ⟩) (λe w2 f2 he Q=>⟨C,e,f2,C,(by unfold DZ;simp[SP.need,Av,he,G,J,O,U,Z,W,h7,F]),Q⟩) ?_;rintro⟨⟨Y,xnds1⟩,K,L⟩ D;dsimp only at D ⊢;refine Aa 1 (λ_=>Am [0,2] C<|Ah C<|Db C C (eC Bm C C) (λw f d=>A7 _ t _ _ _ _ _ _)<|Aa 1 (λ_=>Am [0,2] C<|Ah C<|Af 2 [1] (y<|λ_=>Am [0,2] C<|Bp ?_)));exact Aa 3 (λ_=>AK (λw f d=>A3 C (Ac C Bb d.k1 C)) (λw f d=>⟨(⟨26,t.ln,t.co,h.tx,0,Y⟩,K,L),f,C,(by unfold DZ;simp[SP.need,Av,G,J,O,U,Z,W,h7,F,D]),d.exm,⟨d.f0,tQ⟩⟩));refine Aa 4 (λ_=>Ca [0,1,2] Aj (.rd 0 (.rd 1 (.br 2 (rd [3,4,5] (.br 6 (.rd 7 (.br 8 .fin .fin)) .fin)) .fin))) C kR<|Bh 2 [2,0] (y<|y<|λ_=>Ah C<|Db C C (eC Is C C) (λw f d=>Di _ h _ _)<|Aa 1 (λ_=>Am [0,1,2] C<|AN 1 (λ_=>JG 75 C (λh8=>?_) (λh8=>?_)))));refine AN 2 (λ_=>Ah C<|Db C C (eC Gv C C) (λw f d=>CT _ _ _ _)<|Aa 1 (λ_=>Am [0,1,2] C<|AN 1 (λ_=>Ah C<|AZ C C (eC AG C C) (λw2 f2 he Q=>⟨C,_,f2,C,(by unfold DZ;simp[SP.need,Av,he,G,J,O,U,Z,W,h7,h8]),Q⟩) λF=>Aa 1 (λ_=>Am [0,1,2] C ?_))));refine Bp<|Aa 2 (λ_=>Ca [0,2] Aj (.rd 0 (.rd 1 (.br 2 (.br 3 (.br 4 .fin .fin) .fin) .fin))) C kR<|Bh 2 [1] (y<|λ_=>Ah C ?_));refine JY C C (eC CV C C) (λw f d=>BG 188 R6 (DZ (n+1)) (Gx n) (λw f hv hJ t k a c hd hT=>ih n C w f hv hJ t k a c hd hT) w f d.vl d.f5 r _ _ (N8 n r hko.2.2.2 hdp.2) oM d.f3) (λ_=>⟨AJ.mono,tQ⟩) (λe w2 f2 he Q=>⟨C,e,f2,C,(by unfold DZ;simp[SP.need,Av,he,G,J,O,U,Z,W,h7,h8,F]),Q⟩) ?_;rintro⟨⟨Y,xnds1⟩,K,L⟩ D;dsimp only at D ⊢
 refine Aa 1 (λ_=>Am [0,2] C<|Ah C<|Db C C (eC Bm C C) (λw f d=>A7 _ t _ _ _ _ _ _)<|Aa 1 (λ_=>Am [0,2] C<|Ah C<|Af 2 [1] (y<|λ_=>Am [0,2] C<|Bp ?_)));exact Aa 2 (λ_=>AK (λw f d=>A3 C (Ac C Bb d.k1 C)) (λw f d=>⟨(⟨27,t.ln,t.co,[],0,Y⟩,K,L),f,C,(by unfold DZ;simp[SP.need,Av,G,J,O,U,Z,W,h7,h8,F,D]),d.exm,⟨d.f0,tQ⟩⟩));refine AN 2 (λ_=>Ah C<|Aa 2 (λ_=>Am [0,1,2] C<|AN 1 (λ_=>Ah C<|AZ C C (eC AG C C) (λw2 f2 he Q=>⟨C,_,f2,C,(by unfold DZ;simp[SP.need,Av,he,G,J,O,U,Z,W,h7,h8]),Q⟩) λF=>?_)))
 cases F
theorem Qw:∀n,∀(w:wO)(f:Fq)(_:Vl w f)(_:Da w f)(t:AB)(k:Fo)(a:oA)(c:Nat),Gx n t k→Cv w f k a c→BB prog 188 #[fV t a k.len c] w (HM (DZ (n+1) t k) w f) (Iu 108 (DZ (n+1) t k) w f)
 |0=>Sw 0 (λ_ d=>by cases d)
 |n+1=>Sw (n+1) (λn' h=>by cases h;exact Qw n)
theorem NC(w:wO)(f:Fq)(G:Vl w f)(t:AB)(k:Fo)(ka:oA)(kc:Nat)(J:Cv w f k ka kc) :
  AO prog 83 #[fV t ka k.len kc] w (AF (α:=Unit) (λ_=>.bool (Vo t k)) (λ_=>True) (λ_=>[]) w f):=by
 refine Dq [λw f=>Cv w f k ka kc] func83 C C C (AR G ⟨J,tQ⟩ ⟨Cv.mono,tQ⟩)<|Aa 7 (λb1=>λ_=>?_)
 cases k with
 |nil =>
  refine Af 2 [0] (y<|λ_=>Db C C (eC Hd C C) (λw f d=>Cp _ t _)<|Aa 1 (λ_=>A6 5 C C (λD=>?_) (λD=>?_)));refine Af 6 [0] (y<|λ_=>A6 11 C C (λF=>?_) (λF=>?_));simp[Fo.len] at F;exact Aa 10 (λ_=>AK (Cy C C) (λw f d=>⟨(),f,(by simp[Vo,D]),tQ,d.exm,tQ⟩));exact Aa 16 (λ_=>AK (Cy C C) (λw f d=>⟨(),f,(by simp[Vo,D]),tQ,d.exm,tQ⟩))
 |cons h Q r =>
  refine Ng 0 C<|KO 0 C ?_;rintro⟨U,W,K,L⟩ rfl;refine Af 2 [0] (y<|λ_=>Db C C (eC Hd C C) (λw f d=>Cp _ t _)<|Aa 1 (λ_=>A6 5 C C (λD=>?_) (λD=>?_)));refine Af 6 [0] (y<|λ_=>A6 11 C C (λF=>?_) (λF=>?_));exact Af 4 [0,100,0] (y<|aI (by simp only[Fo.len];omega)<|y2<|λ_=>Db C C (eC Is C C) (λw f d=>Di _ h _ _)<|Aa 5 (λ_=>AK (Cy C C) (λw f d=>⟨(),f,(by simp[Vo,D]),tQ,d.exm,tQ⟩)));have O:=dF F;simp only[Fo.len] at O;omega;exact Aa 16 (λ_=>AK (Cy C C) (λw f d=>⟨(),f,(by simp[Vo,D]),tQ,d.exm,tQ⟩))
set_option maxHeartbeats 1000000 in
theorem Y6(n:Nat)(ihx:∀ (w:wO) (f:Fq) (_:Vl w f) (_:Da w f) (t:AB) (k:Fo) (a:oA) (c:Nat),Gx n t k→Cv w f k a c→BB prog 82 #[fV t a k.len c] w (HM (BY (n+1) t k) w f) (Iu 108 (BY (n+1) t k) w f))(iha:∀ (w:wO) (f:Fq) (_:Vl w f) (_:Da w f) (t:AB) (k:Fo) (a:oA) (c:Nat),Gx n t k→Cv w f k a c→BB prog 161 #[fV t a k.len c] w (HM (Hj (n+1) (BY (n+1)) t k) w f) (Iu 108 (Hj (n+1) (BY (n+1)) t k) w f))(w:wO)(f:Fq)(hv:Vl w f)(hJ:Da w f)(t:AB)(k:Fo)(ka:oA)(kc:Nat)(wd:lU)(l:Fo)(la:oA)(lc:Nat)(K:l.all (Gx n))(hlen:l.len≤100000)(hL:Cv w f l la lc) :
  BB prog 127 #[fV t ka k.len kc,S wd,.slice la l.len lc] w (HM (Bk (n+1) (BY (n+1)) t wd l) w f) (Iu 108 (Bk (n+1) (BY (n+1)) t wd l) w f):=by
 refine OJ (X:=X0 w f) (H:=[]) (R:=[]) (B:=[]) (Fs:=[λw f=>Cv w f l la lc,λw f=>Da w f]) (f:=f) func127 C C C (AR hv ⟨hL,hJ,tQ⟩ ⟨Cv.mono,Da.mono,tQ⟩)<|Aa 26 (λb1=>λb2=>λ_=>?_)
 ·
  refine A6 13 C C (λh1=>?_) (λh1=>?_);obtain rfl:=beq_iff_eq.1 h1;refine Aa 2 (λ_=>?_);rcases Fo.two l with ⟨p,pk,b,bk,rfl⟩|hne
  refine Ng 0 C<|KO 0 C ?_;rintro⟨eb0,eo0,k0a,k0c⟩ rfl;refine Qc 1 C ?_;rintro⟨k1a,k1c⟩;refine Ca [0,1] Aj (rd [0,1,2,3,4,5,6] (.br 7 (rd [8,9,10,11,12,13,14] (.br 15 (rd [16,17,18,19,20,21] (.br 22 (.rd 23 (.br 24 .fin .fin)) .fin)) .fin)) .fin)) C kR<|Bh 4 [1] (y<|λ_=>JG 18 C (λW=>?_) (λW=>?_));refine Bh 3 [101,0] (aI (by simp only[Fo.len];omega)<|y2<|λ_=>Ah C<|Db C C (eC Hd C C) (λw f d=>Cp _ p _)<|Aa 1 (λ_=>Am [0,1] C<|AN 2 (λ_=>JG 24 C (λY=>?_) (λY=>?_))));refine Bh 5 [101,5] (aI (by simp only[Fo.len];omega)<|y2<|λ_=>Ah C<|Db C C (eC Gv C C) (λw f d=>CT _ _ _ _)<|Aa 1 (λ_=>Am [0,1] C<|AN 2 (λ_=>JG 32 C (λh4=>?_) (λh4=>?_))));refine Bh 4 [101,5] (aI (by simp only[Fo.len];omega)<|y2<|λ_=>Ah C<|B3 C C (eC kN C C) (λw f d=>TW w f d.vl d.f6 pk _ _ (Fo.ok.all K.1.2.1) K.1.2.2.1 d.f2)<|Aa 1 (λ_=>Am [0,1] C<|AN 1 (λ_=>Ah C<|AZ C C (eC AG C C) (λw2 f2 he L=>⟨C,_,f2,C,(by simp[Bk,SP.need,Av,he,W,Y,h4]),L⟩) λD=>Aa 1 (λ_=>Am [0,1] C ?_))));refine Bp<|Aa 2 (λ_=>Ca [1] Aj (rd [0,1,2,3,4,6,7,8] (.br 5 (.br 9 (.br 10 (.br 11 (.br 12 (.br 13 .fin .fin) .fin) .fin) .fin) .fin) .fin)) C kR<|Bh 8 [0,101,5,100,0] (y<|aI (by simp only[Fo.len];omega)<|y2<|aI (by simp only[Fo.len];omega)<|y2<|λ_=>Ah C<|YI C C (eC CV C C) (λw f d=>Hb 159 X6 J3 (λ_ _=>True) (λw f hv hJ t k a c hd hT=>(Of w f hv hJ t k a c).retP) w f d.vl d.f6 pk _ _ (Fo.all_true _) K.1.2.2.1 d.f2) (λ_=>⟨BJ.mono,tQ⟩) (λe w2 f2 he L=>⟨C,e,f2,C,(by simp[Bk,SP.need,Av,he,W,Y,h4,D]),L⟩) ?_));rintro⟨O,Q⟩ U Z F;dsimp only at F ⊢;have hnl:=DL F;have hpl:=K.1.2.2.1;refine Aa 1 (λ_=>Am [1] C<|Ah C ?_);refine JY C C (eC Df C C) (λw f d=>ihx w f d.vl d.f7 b bk _ _ K.2.1 d.f1) (λ_=>⟨AJ.mono,tQ⟩) (λe w2 f2 he L=>⟨C,e,f2,C,(by simp[Bk,SP.need,Av,he,W,Y,h4,D,F]),L⟩) ?_;rintro⟨G,and1,cnd1⟩ J;dsimp only at J ⊢;refine Aa 1 (λ_=>Am [1] C<|Ah C<|Aa 2 (λb3=>λ_=>Am [2] C<|Ah C<|BW 0 0 C C PA C C C C C C C C (λ_ _=>C) oM oM λands2 cnds2=>Cj (λw f=>BJ w f (O.app G.one) (Q++Kd G.op G.ln G.co G.tx G.nm and1 G.kids.len cnd1)) (λw f d=>BJ.app (BJ.one d.f0) d.f1) BJ.mono<|Ud (λw f=>AJ w f (O.app G.one) ands2 cnds2) AJ.mono (λw f d=>K9 d d.f0)<|Aa 1 (λ_=>?_)));refine Am [2] C<|Ah C<|Db C C (eC Bm C C) (λw f d=>A7 _ t _ _ _ _ _ _)<|Aa 1 (λ_=>Am [2] C<|Ah C<|Af 2 [1] (y<|λ_=>Am [2] C<|Bp<|Aa 4 (λ_=>?_)));exact AK (λw f d=>A3 C (Ac C Bb d.k1 C)) (λw f d=>⟨(⟨7,t.ln,t.co,[],0,(O.app G.one)⟩,ands2,cnds2),f,(by simp[nV,Nd.app_len,N.one,N.cons,Nd.len,Nat.add_comm]),(by simp[Bk,SP.need,Av,W,Y,h4,D,F,J]),d.exm,⟨d.f0,tQ⟩⟩)
  refine AN 4 (λ_=>Ah C<|Aa 2 (λ_=>Am [0,1] C<|AN 1 (λ_=>Ah C<|AZ C C (eC AG C C) (λw2 f2 he L=>⟨C,_,f2,C,(by simp[Bk,SP.need,Av,he,W,Y,h4]),L⟩) λD=>?_)))
  cases D
  refine AN 5 (λ_=>Ah C<|Aa 2 (λ_=>Am [0,1] C<|AN 6 (λ_=>Ah C<|Aa 2 (λ_=>Am [0,1] C<|AN 1 (λ_=>Ah C ?_)))));refine AZ C C (eC AG C C) (λw2 f2 he L=>⟨C,_,f2,C,(by simp[Bk,SP.need,Av,he,W,Y]),L⟩) λD=>?_
  cases D
  simp[Fo.len] at W;refine Ca [0,1] Aj (rd [0,1,2,3,4,5,6] (.br 7 (rd [8,9,10,11,12,13,14] (.br 15 (rd [16,17,18,19,20,21] (.br 22 (.rd 23 (.br 24 .fin .fin)) .fin)) .fin)) .fin)) C kR<|Bh 4 [1] (y<|λ_=>JG 18 C (λW=>?_) (λW=>?_));exact absurd (by have h9:=beq_iff_eq.1 W;omega) hne;refine AN 3 (λ_=>Ah C<|Aa 2 (λ_=>Am [0,1] C<|AN 7 (λ_=>Ah C<|Aa 2 (λ_=>Am [0,1] C<|AN 6 (λ_=>Ah C ?_)))));refine Aa 2 (λ_=>Am [0,1] C<|AN 1 (λ_=>Ah C<|AZ C C (eC AG C C) (λw2 f2 he L=>⟨C,_,f2,C,(by rw[fm_fn hne]),L⟩) λD=>?_))
  cases D
  refine Aa 7 (λ_=>A6 53 C C (λW=>?_) (λW=>?_));obtain rfl:=beq_iff_eq.1 W;refine Aa 2 (λ_=>?_);rcases Fo.three l with ⟨p,pk,b,bk,c,ck,rfl⟩|hne
  refine Ng 0 C<|KO 0 C ?_;rintro⟨eb0,eo0,k0a,k0c⟩ rfl;refine Qc 1 C ?_;rintro⟨k1a,k1c⟩;refine Qc 1 C ?_;rintro⟨k2a,k2c⟩;refine Ca [0,1] Aj (rd [0,1,2,3,4,5,6] (.br 7 (.rd 8 (.br 9 .fin .fin)) .fin)) C kR<|Bh 4 [1] (y<|λ_=>JG 58 C (λY=>?_) (λY=>?_));refine Bh 3 [102,0] (aI (by simp only[Fo.len];omega)<|y2<|λ_=>Ah C<|Db C C (eC Rs C C) (λw f d=>Ji _ (Da.gl d.f8) p _ K.1.1.1 K.1.1.2)<|Aa 1 (λ_=>Am [0,1] C<|AN 1 (λ_=>Ah C<|AZ C C (eC AG C C) (λw2 f2 he L=>⟨C,_,f2,C,(by simp[Bk,SP.need,Av,he,h1,Y]),L⟩) λD=>Aa 1 (λ_=>Am [0,1] C ?_))));refine Bp<|Aa 2 (λ_=>Ca [1] Aj (rd [0,1,2,3,4,5,6,7,8,10,11,12] (.br 9 (.br 13 (.br 14 (.br 15 (.br 16 .fin .fin) .fin) .fin) .fin) .fin)) C kR<|Bh 12 [0,102,4,101,0,100,0] (y<|aI (by simp only[Fo.len];omega)<|y2<|aI (by simp only[Fo.len];omega)<|y2<|aI (by simp only[Fo.len];omega)<|y2<|λ_=>Ah C ?_));refine JY C C (eC Df C C) (λw f d=>ihx w f d.vl d.f8 b bk _ _ K.2.1 d.f2) (λ_=>⟨AJ.mono,tQ⟩) (λe w2 f2 he L=>⟨C,e,f2,C,(by simp[Bk,SP.need,Av,he,h1,Y,D]),L⟩) ?_;rintro⟨G,and1,cnd1⟩ J;dsimp only at J ⊢;refine Aa 1 (λ_=>Am [1] C<|Ah C ?_);refine JY C C (eC Df C C) (λw f d=>ihx w f d.vl d.f9 c ck _ _ K.2.2.1 d.f1) (λ_=>⟨AJ.mono,tQ⟩) (λe w2 f2 he L=>⟨C,e,f2,C,(by simp[Bk,SP.need,Av,he,h1,Y,D,J]),L⟩) ?_;rintro⟨nd2,and2,cnd2⟩ hnd2;dsimp only at hnd2 ⊢;refine Aa 1 (λ_=>Am [1] C<|Ah C<|Aa 2 (λb3=>λ_=>Am [2] C<|Ah C<|CJ 0 C C<|Cj (λw f=>AJ w f (G.cons (nd2.one)) (some ⟨b3,0,none⟩) 2) (λw f d=>BJ.toF (BJ.cons' d.f1 (BJ.cons' d.f0 (show BJ _ _ .nil [] from C))) d.b0 (Nat.le_refl _)) AJ.mono<|Db C C (eC Bm C C) (λw f d=>A7 _ t _ _ _ _ _ _)<|Aa 1 (λ_=>?_)));exact AS [1] DG C (λ_ h=>.tail _ h)<|Ah C<|Af 2 [0] (y<|λ_=>AS [1] DG C (λ_ h=>.tail _ h)<|Bp<|Aa 4 (λ_=>AK (λw f d=>A3 C (Ac C Bb d.k0 C)) (λw f d=>⟨(⟨9,t.ln,t.co,p.tx,0,(G.cons (nd2.one))⟩,(some ⟨b3,0,none⟩),2),f,C,(by simp[Bk,SP.need,Av,h1,Y,D,J,hnd2]),d.exm,⟨d.f0,tQ⟩⟩)));simp[Fo.len] at Y;refine Ca [0,1] Aj (rd [0,1,2,3,4,5,6] (.br 7 (.rd 8 (.br 9 .fin .fin)) .fin)) C kR<|Bh 4 [1] (y<|λ_=>JG 58 C (λY=>?_) (λY=>?_));exact absurd (by have h9:=beq_iff_eq.1 Y;omega) hne;refine AN 3 (λ_=>Ah C<|Aa 2 (λ_=>Am [0,1] C<|AN 1 (λ_=>Ah C<|AZ C C (eC AG C C) (λw2 f2 he L=>⟨C,_,f2,C,(by rw[vS hne]),L⟩) λD=>?_)))
  cases D
  refine Aa 7 (λ_=>A6 81 C C (λY=>?_) (λY=>?_));obtain rfl:=beq_iff_eq.1 Y;refine Aa 2 (λ_=>?_);rcases Fo.three l with ⟨p,pk,b,bk,c,ck,rfl⟩|hne
  refine Ng 0 C<|KO 0 C ?_;rintro⟨eb0,eo0,k0a,k0c⟩ rfl;refine Qc 1 C ?_;rintro⟨k1a,k1c⟩;refine Qc 1 C ?_;rintro⟨k2a,k2c⟩;refine Ca [0,1] Aj (rd [0,1,2,3,4,5,6] (.br 7 (rd [8,9,10,11,12] (.br 13 (.rd 14 (.br 15 .fin .fin)) .fin)) .fin)) C kR<|Bh 4 [1] (y<|λ_=>JG 86 C (λh4=>?_) (λh4=>?_));refine Bh 3 [102,0] (aI (by simp only[Fo.len];omega)<|y2<|λ_=>Ah C<|Db C C (eC Ny C C) (λw f d=>Eo _ (Da.gl d.f8) p _ K.1.1.1 K.1.1.2)<|Aa 1 (λ_=>Am [0,1] C<|AN 2 (λ_=>JG 92 C (λh5=>?_) (λh5=>?_))));refine Bh 3 [101,0] (aI (by simp only[Fo.len];omega)<|y2<|λ_=>Ah C<|B3 C C (eC gN C C) (λw f d=>NC w f d.vl b bk _ _ d.f2)<|Aa 1 (λ_=>Am [0,1] C<|AN 1 (λ_=>Ah C<|AZ C C (eC AG C C) (λw2 f2 he L=>⟨C,_,f2,C,(by simp[Bk,SP.need,Av,he,h1,W,h4,h5]),L⟩) λD=>Aa 1 (λ_=>Am [0,1] C ?_))));refine Bp<|Aa 2 (λ_=>Ca [1] Aj (rd [0,1,2,3,4,5,6,7,8,10,11,12] (.br 9 (.br 13 (.br 14 (.br 15 (.br 16 .fin .fin) .fin) .fin) .fin) .fin)) C kR<|Bh 12 [0,102,4,101,0,100,0] (y<|aI (by simp only[Fo.len];omega)<|y2<|aI (by simp only[Fo.len];omega)<|y2<|aI (by simp only[Fo.len];omega)<|y2<|λ_=>Ah C ?_));refine JY C C (eC Df C C) (λw f d=>ihx w f d.vl d.f8 b bk _ _ K.2.1 d.f2) (λ_=>⟨AJ.mono,tQ⟩) (λe w2 f2 he L=>⟨C,e,f2,C,(by simp[Bk,SP.need,Av,he,h1,W,h4,h5,D]),L⟩) ?_;rintro⟨G,and1,cnd1⟩ J;dsimp only at J ⊢;refine Aa 1 (λ_=>Am [1] C<|Ah C ?_);refine JY C C (eC Df C C) (λw f d=>ihx w f d.vl d.f9 c ck _ _ K.2.2.1 d.f1) (λ_=>⟨AJ.mono,tQ⟩) (λe w2 f2 he L=>⟨C,e,f2,C,(by simp[Bk,SP.need,Av,he,h1,W,h4,h5,D,J]),L⟩) ?_;rintro⟨nd2,and2,cnd2⟩ hnd2;dsimp only at hnd2 ⊢;refine Aa 1 (λ_=>Am [1] C<|Ah C<|Aa 2 (λb3=>λ_=>Am [2] C<|Ah C<|CJ 0 C C<|Cj (λw f=>AJ w f (G.cons (nd2.one)) (some ⟨b3,0,none⟩) 2) (λw f d=>BJ.toF (BJ.cons' d.f1 (BJ.cons' d.f0 (show BJ _ _ .nil [] from C))) d.b0 (Nat.le_refl _)) AJ.mono<|Db C C (eC Bm C C) (λw f d=>A7 _ t _ _ _ _ _ _)<|Aa 1 (λ_=>?_)));exact AS [1] DG C (λ_ h=>.tail _ h)<|Ah C<|Af 2 [0] (y<|λ_=>AS [1] DG C (λ_ h=>.tail _ h)<|Bp<|Aa 4 (λ_=>AK (λw f d=>A3 C (Ac C Bb d.k0 C)) (λw f d=>⟨(⟨10,t.ln,t.co,p.tx,0,(G.cons (nd2.one))⟩,(some ⟨b3,0,none⟩),2),f,C,(by simp[Bk,SP.need,Av,h1,W,h4,h5,D,J,hnd2]),d.exm,⟨d.f0,tQ⟩⟩)));refine AN 3 (λ_=>Ah C<|Aa 2 (λ_=>Am [0,1] C<|AN 1 (λ_=>Ah C<|AZ C C (eC AG C C) (λw2 f2 he L=>⟨C,_,f2,C,(by simp[Bk,SP.need,Av,he,h1,W,h4,h5]),L⟩) λD=>?_)))
  cases D
  simp[Fo.len] at h4;refine Ca [0,1] Aj (rd [0,1,2,3,4,5,6] (.br 7 (rd [8,9,10,11,12] (.br 13 (.rd 14 (.br 15 .fin .fin)) .fin)) .fin)) C kR<|Bh 4 [1] (y<|λ_=>JG 86 C (λh4=>?_) (λh4=>?_));exact absurd (by have h9:=beq_iff_eq.1 h4;omega) hne;refine AN 3 (λ_=>Ah C<|Aa 2 (λ_=>Am [0,1] C<|AN 5 (λ_=>Ah C<|Aa 2 (λ_=>Am [0,1] C<|AN 1 (λ_=>Ah C ?_)))));refine AZ C C (eC AG C C) (λw2 f2 he L=>⟨C,_,f2,C,(by rw[yF hne]),L⟩) λD=>?_
  cases D
  refine Aa 7 (λ_=>A6 115 C C (λh4=>?_) (λh4=>?_));obtain rfl:=beq_iff_eq.1 h4;refine Af 6 [1] (y<|λ_=>AZ C C (eC AG C C) (λw2 f2 he L=>⟨C,_,f2,C,(by simp[Bk,SP.need,Av,he,h1,W,Y]),L⟩) λD=>Aa 3 (λ_=>Ca [1] Aj (.rd 0 (.rd 1 (.br 2 (.br 3 (.br 4 .fin .fin) .fin) .fin))) C kR<|Bh 2 [0] (y<|λ_=>Ah C ?_)));refine JY C C (eC CV C C) (λw f d=>BG 82 Df (BY (n+1)) (Gx n) (λw f hv hJ t k a c hd hT=>ihx w f hv hJ t k a c hd hT) w f d.vl d.f1 l _ _ K hlen d.f0) (λ_=>⟨AJ.mono,tQ⟩) (λe w2 f2 he L=>⟨C,e,f2,C,(by simp[Bk,SP.need,Av,he,h1,W,Y,D]),L⟩) ?_;rintro⟨⟨O,Q⟩,U,Z⟩ F;dsimp only at F ⊢;refine Aa 1 (λ_=>Am [1] C<|Ah C<|Db C C (eC Bm C C) (λw f d=>A7 _ t _ _ _ _ _ _)<|Aa 1 (λ_=>Am [1] C<|Ah C<|Af 2 [0] (y<|λ_=>Am [1] C<|Bp ?_)));exact Aa 4 (λ_=>AK (λw f d=>A3 C (Ac C Bb d.k0 C)) (λw f d=>⟨(⟨11,t.ln,t.co,[],0,O⟩,U,Z),f,C,(by simp[Bk,SP.need,Av,h1,W,Y,D,F]),d.exm,⟨d.f0,tQ⟩⟩));refine Aa 7 (λ_=>A6 125 C C (λh5=>?_) (λh5=>?_));obtain rfl:=beq_iff_eq.1 h5;refine Af 6 [1] (y<|λ_=>AZ C C (eC AG C C) (λw2 f2 he L=>⟨C,_,f2,C,(by simp[Bk,SP.need,Av,he,h1,W,Y,h4]),L⟩) λD=>Aa 3 (λ_=>Ca [1] Aj (.rd 0 (.rd 1 (.br 2 (.br 3 (.br 4 .fin .fin) .fin) .fin))) C kR<|Bh 2 [0] (y<|λ_=>Ah C ?_)));refine JY C C (eC CV C C) (λw f d=>BG 82 Df (BY (n+1)) (Gx n) (λw f hv hJ t k a c hd hT=>ihx w f hv hJ t k a c hd hT) w f d.vl d.f1 l _ _ K hlen d.f0) (λ_=>⟨AJ.mono,tQ⟩) (λe w2 f2 he L=>⟨C,e,f2,C,(by simp[Bk,SP.need,Av,he,h1,W,Y,h4,D]),L⟩) ?_;rintro⟨⟨O,Q⟩,U,Z⟩ F;dsimp only at F ⊢;refine Aa 1 (λ_=>Am [1] C<|Ah C<|Db C C (eC Bm C C) (λw f d=>A7 _ t _ _ _ _ _ _)<|Aa 1 (λ_=>Am [1] C<|Ah C<|Af 2 [0] (y<|λ_=>Am [1] C<|Bp ?_)));exact Aa 4 (λ_=>AK (λw f d=>A3 C (Ac C Bb d.k0 C)) (λw f d=>⟨(⟨12,t.ln,t.co,[],0,O⟩,U,Z),f,C,(by simp[Bk,SP.need,Av,h1,W,Y,h4,D,F]),d.exm,⟨d.f0,tQ⟩⟩));refine Aa 7 (λ_=>A6 135 C C (λh6=>?_) (λh6=>?_));obtain rfl:=beq_iff_eq.1 h6;refine Aa 2 (λ_=>Ca [0,1] Aj (.rd 0 (.rd 1 (.br 2 (.br 3 .fin .fin) .fin))) C kR<|Bh 2 [1] (y<|λ_=>Ah C<|Db C C (eC Gv C C) (λw f d=>CT _ _ _ _)<|Aa 1 (λ_=>Am [0,1] C<|Ah C<|AZ C C (eC AG C C) (λw2 f2 he L=>⟨C,_,f2,C,(by simp[Bk,SP.need,Av,he,h1,W,Y,h4,h5]),L⟩) λD=>Aa 1 (λ_=>?_))));refine Am [0,1] C<|Bp<|Aa 2 (λ_=>Ca [1] Aj (.rd 0 (.rd 1 (.br 2 (.br 3 (.br 4 .fin .fin) .fin) .fin))) C kR<|Bh 2 [0] (y<|λ_=>Ah C ?_));refine JY C C (eC CV C C) (λw f d=>BG 82 Df (BY (n+1)) (Gx n) (λw f hv hJ t k a c hd hT=>ihx w f hv hJ t k a c hd hT) w f d.vl d.f1 l _ _ K hlen d.f0) (λ_=>⟨AJ.mono,tQ⟩) (λe w2 f2 he L=>⟨C,e,f2,C,(by simp[Bk,SP.need,Av,he,h1,W,Y,h4,h5,D]),L⟩) ?_;rintro⟨⟨O,Q⟩,U,Z⟩ F
  dsimp only at F ⊢;refine Aa 1 (λ_=>Am [1] C<|Ah C<|Db C C (eC Bm C C) (λw f d=>A7 _ t _ _ _ _ _ _)<|Aa 1 (λ_=>Am [1] C<|Ah C<|Af 2 [0] (y<|λ_=>Am [1] C<|Bp ?_)));exact Aa 4 (λ_=>AK (λw f d=>A3 C (Ac C Bb d.k0 C)) (λw f d=>⟨(⟨13,t.ln,t.co,[],0,O⟩,U,Z),f,C,(by simp[Bk,SP.need,Av,h1,W,Y,h4,h5,D,F]),d.exm,⟨d.f0,tQ⟩⟩));refine Aa 8 (λ_=>A6 145 C C (λh7=>?_) (λh7=>?_));obtain rfl:=beq_iff_eq.1 h7;refine Aa 5 (λ_=>Af 4 [1] (y<|λ_=>AZ C C (eC AG C C) (λw2 f2 he L=>⟨C,_,f2,C,(by simp[Bk,SP.need,Av,he,h1,W,Y,h4,h5,h6]),L⟩) λD=>Aa 18 (λ_=>?_)));obtain⟨p,pk,r,rfl⟩:=Fo.cases1 l (by have:=dT D;omega);have hge:0<r.len:=by have h9:=dT D;simp only[Fo.len] at h9;omega
  have hlr:r.len+1≤100000:=hlen;refine xL 0 C<|Ng 1 C<|KO 0 C ?_;rintro⟨eb0,eo0,k0a,k0c⟩ rfl;refine Ca [1] Aj (rd [0,1,2,3,4,7,8] (.br 5 (.br 6 (.br 9 (.br 10 (.br 11 (.br 12 .fin .fin) .fin) .fin) .fin) (.br 9 (.br 6 (.br 10 (.br 11 (.br 12 .fin .fin) .fin) .fin) .fin) .fin)) .fin)) C kR<|Bh 6 [0,100,0] (y<|aI (by simp only[Fo.len];omega)<|y2<|λ_=>CP C C C (λw hK=>GZ C C C Im)<|Ah C ?_);refine JY C C (eC Df C C) (λw f d=>ihx w f d.vl d.f5 p pk _ _ K.1 d.f0) (λ_=>⟨AJ.mono,tQ⟩) (λe w2 f2 he L=>⟨C,e,f2,C,(by simp[Bk,SP.need,Av,he,h1,W,Y,h4,h5,h6,D]),L⟩) ?_;rintro⟨G,and1,cnd1⟩ J;dsimp only at J ⊢;refine Aa 1 (λ_=>Am [1] C ?_)
  ·
   refine Bj C ?_ ?_;refine Aa 2 (λb3=>λ_=>Am [2] C<|Ah C<|YI C C (eC CV C C) (λw f d=>Hb 161 Nl (Hj (n+1) (BY (n+1))) (Gx n) (λw f hv hJ t k a c hd hT=>iha w f hv hJ t k a c hd hT) w f d.vl d.f6 r _ _ K.2 oM d.f4) (λ_=>⟨BJ.mono,tQ⟩) (λe w2 f2 he L=>⟨C,e,f2,C,(by simp[Bk,SP.need,Av,he,h1,W,Y,h4,h5,h6,D,J]),L⟩) ?_);rintro⟨O,Q⟩ U Z F;dsimp only at F ⊢;have hnl:=DL F;refine IF (p:=∃rb,U=some ⟨rb,0,none⟩) (λw f d=>by rcases (d.row _ (.head _)).2 with ⟨_,_,h9⟩|⟨ob,_,h9,_⟩;(dsimp only at h9;omega);exact⟨ob,h9⟩) λhob=>?_;obtain⟨rb,rfl⟩:=hob;refine nA 0 C C<|Aa 1 (λ_=>?_)
   rotate_left
   refine Ah C<|YI C C (eC CV C C) (λw f d=>Hb 161 Nl (Hj (n+1) (BY (n+1))) (Gx n) (λw f hv hJ t k a c hd hT=>iha w f hv hJ t k a c hd hT) w f d.vl d.f6 r _ _ K.2 oM d.f4) (λ_=>⟨BJ.mono,tQ⟩) (λe w2 f2 he L=>⟨C,e,f2,C,(by simp[Bk,SP.need,Av,he,h1,W,Y,h4,h5,h6,D,J]),L⟩) ?_;rintro⟨O,Q⟩ U Z F;dsimp only at F ⊢;have hnl:=DL F;refine IF (p:=∃rb,U=some ⟨rb,0,none⟩) (λw f d=>by rcases (d.row _ (.head _)).2 with ⟨_,_,h9⟩|⟨ob,_,h9,_⟩;(dsimp only at h9;omega);exact⟨ob,h9⟩) λhob=>?_;obtain⟨rb,rfl⟩:=hob;refine nA 0 C C<|Aa 1 (λ_=>AS [1] DG C (λ_ h=>.tail _ h)<|Ah C<|Aa 2 (λb3=>λ_=>?_))
   all_goals
    refine AS [2] DG C (λ_ h=>.tail _ h)<|Ah C<|iP 0 6 1 C C C dC<|IF (p:=Q.length=O.len*6∧∀v∈Q,v.oneCell'=true) (λw f d=>⟨BJ.len d.f0,BJ.one' d.f0⟩) λ⟨hxl,hx1⟩=>pD 0 0 C C PA C C C C C C hxl hx1 oM (λ_ _=>C) oM oM λands2 cnds2=>Cj (λw f=>BJ w f (G.cons O) (Kd G.op G.ln G.co G.tx G.nm and1 G.kids.len cnd1++Q)) (λw f d=>BJ.cons' d.f1 d.f0) BJ.mono<|Ud (λw f=>AJ w f (G.cons O) ands2 cnds2) AJ.mono (λw f d=>K9 d d.f0)<|Aa 1 (λ_=>AS [1] DG C (λ_ h=>.tail _ h)<|Ah C ?_);exact Db C C (eC Bm C C) (λw f d=>A7 _ t _ _ _ _ _ _)<|Aa 1 (λ_=>AS [1] DG C (λ_ h=>.tail _ h)<|Ah C<|Af 2 [0] (y<|λ_=>AS [1] DG C (λ_ h=>.tail _ h)<|Bp<|Aa 4 (λ_=>AK (λw f d=>A3 C (Ac C Bb d.k0 C)) (λw f d=>⟨(⟨14,t.ln,t.co,[],0,(G.cons O)⟩,ands2,cnds2),f,(by simp[nV,Nd.app_len,N.one,N.cons,Nd.len,Nat.add_comm]),(by simp[Bk,SP.need,Av,h1,W,Y,h4,h5,h6,D,J,F]),d.exm,⟨d.f0,tQ⟩⟩))))
  refine Aa 6 (λ_=>A6 145 C C (λh8=>?_) (λh8=>?_));obtain rfl:=beq_iff_eq.1 h8;refine Aa 2 (λ_=>Af 4 [1] (y<|λ_=>AZ C C (eC AG C C) (λw2 f2 he L=>⟨C,_,f2,C,(by simp[Bk,SP.need,Av,he,h1,W,Y,h4,h5,h6,h7]),L⟩) λD=>Aa 20 (λ_=>?_)));obtain⟨p,pk,r,rfl⟩:=Fo.cases1 l (by have:=dT D;omega);have hge:0<r.len:=by have h9:=dT D;simp only[Fo.len] at h9;omega
  have hlr:r.len+1≤100000:=hlen;refine xL 0 C<|Ng 1 C<|KO 0 C ?_;rintro⟨eb0,eo0,k0a,k0c⟩ rfl;refine Ca [1] Aj (rd [0,1,2,3,4,7,8] (.br 5 (.br 6 (.br 9 (.br 10 (.br 11 (.br 12 .fin .fin) .fin) .fin) .fin) (.br 9 (.br 6 (.br 10 (.br 11 (.br 12 .fin .fin) .fin) .fin) .fin) .fin)) .fin)) C kR<|Bh 6 [0,100,0] (y<|aI (by simp only[Fo.len];omega)<|y2<|λ_=>CP C C C (λw hK=>GZ C C C Im)<|Ah C ?_);refine JY C C (eC Df C C) (λw f d=>ihx w f d.vl d.f5 p pk _ _ K.1 d.f0) (λ_=>⟨AJ.mono,tQ⟩) (λe w2 f2 he L=>⟨C,e,f2,C,(by simp[Bk,SP.need,Av,he,h1,W,Y,h4,h5,h6,h7,D]),L⟩) ?_;rintro⟨G,and1,cnd1⟩ J;dsimp only at J ⊢;refine Aa 1 (λ_=>Am [1] C<|Bj C ?_ ?_);refine Aa 2 (λb3=>λ_=>Am [2] C<|Ah C<|YI C C (eC CV C C) (λw f d=>Hb 161 Nl (Hj (n+1) (BY (n+1))) (Gx n) (λw f hv hJ t k a c hd hT=>iha w f hv hJ t k a c hd hT) w f d.vl d.f6 r _ _ K.2 oM d.f4) (λ_=>⟨BJ.mono,tQ⟩) (λe w2 f2 he L=>⟨C,e,f2,C,(by simp[Bk,SP.need,Av,he,h1,W,Y,h4,h5,h6,h7,D,J]),L⟩) ?_);rintro⟨O,Q⟩ U Z F;dsimp only at F ⊢;have hnl:=DL F;refine IF (p:=∃rb,U=some ⟨rb,0,none⟩) (λw f d=>by rcases (d.row _ (.head _)).2 with ⟨_,_,h9⟩|⟨ob,_,h9,_⟩;(dsimp only at h9;omega);exact⟨ob,h9⟩) λhob=>?_;obtain⟨rb,rfl⟩:=hob;refine nA 0 C C<|Aa 1 (λ_=>?_)
  rotate_left
  refine Ah C<|YI C C (eC CV C C) (λw f d=>Hb 161 Nl (Hj (n+1) (BY (n+1))) (Gx n) (λw f hv hJ t k a c hd hT=>iha w f hv hJ t k a c hd hT) w f d.vl d.f6 r _ _ K.2 oM d.f4) (λ_=>⟨BJ.mono,tQ⟩) (λe w2 f2 he L=>⟨C,e,f2,C,(by simp[Bk,SP.need,Av,he,h1,W,Y,h4,h5,h6,h7,D,J]),L⟩) ?_;rintro⟨O,Q⟩ U Z F;dsimp only at F ⊢;have hnl:=DL F;refine IF (p:=∃rb,U=some ⟨rb,0,none⟩) (λw f d=>by rcases (d.row _ (.head _)).2 with ⟨_,_,h9⟩|⟨ob,_,h9,_⟩;(dsimp only at h9;omega);exact⟨ob,h9⟩) λhob=>?_;obtain⟨rb,rfl⟩:=hob;refine nA 0 C C<|Aa 1 (λ_=>AS [1] DG C (λ_ h=>.tail _ h)<|Ah C<|Aa 2 (λb3=>λ_=>?_))
  rotate_left
  refine Aa 8 (λ_=>A6 166 C C (λh9=>?_) (λh9=>?_));obtain rfl:=beq_iff_eq.1 h9;refine Aa 5 (λ_=>?_);rcases Fo.single l with ⟨p,pk,rfl⟩|hne
  refine Ng 0 C<|KO 0 C ?_;rintro⟨eb0,eo0,k0a,k0c⟩ rfl;refine Af 4 [1] (y<|λ_=>AZ C C (eC AG C C) (λw2 f2 he L=>⟨C,_,f2,C,(by simp[Fo.len] at he),L⟩) λD=>Aa 18 (λ_=>Ca [1] Aj (rd [0,1,2,3,4] (.br 5 (.br 6 (.br 7 (.br 8 .fin .fin) .fin) .fin) .fin)) C kR<|Bh 5 [0,100,0] (y<|aI (by simp only[Fo.len];omega)<|y2<|λ_=>Ah C ?_)));refine JY C C (eC Df C C) (λw f d=>ihx w f d.vl d.f4 p pk _ _ K.1 d.f0) (λ_=>⟨AJ.mono,tQ⟩) (λe w2 f2 he L=>⟨C,e,f2,C,(by simp[Bk,SP.need,Av,he,h1,W,Y,h4,h5,h6,h7,h8,D]),L⟩) ?_;rintro⟨G,and1,cnd1⟩ J;dsimp only at J ⊢;refine Aa 1 (λ_=>Am [1] C<|Ah C<|Aa 2 (λb3=>λ_=>Am [2] C<|Ah C<|CJ 0 C C<|Cj (λw f=>AJ w f (G.one) (some ⟨b3,0,none⟩) 1) (λw f d=>BJ.toF (BJ.cons' d.f0 (show BJ _ _ .nil [] from C)) d.b0 (Nat.le_refl _)) AJ.mono<|Db C C (eC Bm C C) (λw f d=>A7 _ t _ _ _ _ _ _)<|Aa 1 (λ_=>?_)));exact AS [1] DG C (λ_ h=>.tail _ h)<|Ah C<|Af 2 [0] (y<|λ_=>AS [1] DG C (λ_ h=>.tail _ h)<|Bp<|Aa 4 (λ_=>AK (λw f d=>A3 C (Ac C Bb d.k0 C)) (λw f d=>⟨(⟨16,t.ln,t.co,[],0,(G.one)⟩,(some ⟨b3,0,none⟩),1),f,C,(by simp[Bk,SP.need,Av,h1,W,Y,h4,h5,h6,h7,h8,D,J]),d.exm,⟨d.f0,tQ⟩⟩)));exact Af 4 [1] (y<|λ_=>AZ C C (eC AG C C) (λw2 f2 he L=>⟨C,_,f2,C,(by rw[eA (.inl C) hne]),L⟩) λD=>absurd (by have h9:=beq_iff_eq.1 D;omega) hne);refine Aa 6 (λ_=>A6 166 C C (λh10=>?_) (λh10=>?_));obtain rfl:=beq_iff_eq.1 h10;refine Aa 2 (λ_=>?_);rcases Fo.single l with ⟨p,pk,rfl⟩|hne
  refine Ng 0 C<|KO 0 C ?_;rintro⟨eb0,eo0,k0a,k0c⟩ rfl;refine Af 4 [1] (y<|λ_=>AZ C C (eC AG C C) (λw2 f2 he L=>⟨C,_,f2,C,(by simp[Fo.len] at he),L⟩) λD=>Aa 20 (λ_=>Ca [1] Aj (rd [0,1,2,3,4] (.br 5 (.br 6 (.br 7 (.br 8 .fin .fin) .fin) .fin) .fin)) C kR<|Bh 5 [0,100,0] (y<|aI (by simp only[Fo.len];omega)<|y2<|λ_=>Ah C ?_)));refine JY C C (eC Df C C) (λw f d=>ihx w f d.vl d.f4 p pk _ _ K.1 d.f0) (λ_=>⟨AJ.mono,tQ⟩) (λe w2 f2 he L=>⟨C,e,f2,C,(by simp[Bk,SP.need,Av,he,h1,W,Y,h4,h5,h6,h7,h8,h9,D]),L⟩) ?_;rintro⟨G,and1,cnd1⟩ J;dsimp only at J ⊢;refine Aa 1 (λ_=>Am [1] C<|Ah C<|Aa 2 (λb3=>λ_=>Am [2] C<|Ah C<|CJ 0 C C<|Cj (λw f=>AJ w f (G.one) (some ⟨b3,0,none⟩) 1) (λw f d=>BJ.toF (BJ.cons' d.f0 (show BJ _ _ .nil [] from C)) d.b0 (Nat.le_refl _)) AJ.mono<|Db C C (eC Bm C C) (λw f d=>A7 _ t _ _ _ _ _ _)<|Aa 1 (λ_=>?_)));exact AS [1] DG C (λ_ h=>.tail _ h)<|Ah C<|Af 2 [0] (y<|λ_=>AS [1] DG C (λ_ h=>.tail _ h)<|Bp<|Aa 4 (λ_=>AK (λw f d=>A3 C (Ac C Bb d.k0 C)) (λw f d=>⟨(⟨17,t.ln,t.co,[],0,(G.one)⟩,(some ⟨b3,0,none⟩),1),f,C,(by simp[Bk,SP.need,Av,h1,W,Y,h4,h5,h6,h7,h8,h9,D,J]),d.exm,⟨d.f0,tQ⟩⟩)));exact Af 4 [1] (y<|λ_=>AZ C C (eC AG C C) (λw2 f2 he L=>⟨C,_,f2,C,(by rw[eA (.inr C) hne]),L⟩) λD=>absurd (by have h9:=beq_iff_eq.1 D;omega) hne);exact Af 7 [1] (y<|λ_=>xH C C (eC Wl C C) (pe:=λe=>e=(t.ln,t.co)) (T:=108) (λw f d=>(I6 w t _).mono (λ_ _ h=>h.elim) λ_ w2 ⟨h1,W⟩=>⟨_,f,h1,C,C6.of_ext W d.vl⟩) (λe w2 f2 he L=>by subst he;exact⟨C,_,f2,C,(by simp[Bk,SP.need,Av,h1,W,Y,h4,h5,h6,h7,h8,h9,h10]),L⟩))
  all_goals
   refine AS [2] DG C (λ_ h=>.tail _ h)<|Ah C<|iP 0 6 1 C C C dC<|IF (p:=Q.length=O.len*6∧∀v∈Q,v.oneCell'=true) (λw f d=>⟨BJ.len d.f0,BJ.one' d.f0⟩) λ⟨hxl,hx1⟩=>pD 0 0 C C PA C C C C C C hxl hx1 oM (λ_ _=>C) oM oM λands2 cnds2=>Cj (λw f=>BJ w f (G.cons O) (Kd G.op G.ln G.co G.tx G.nm and1 G.kids.len cnd1++Q)) (λw f d=>BJ.cons' d.f1 d.f0) BJ.mono<|Ud (λw f=>AJ w f (G.cons O) ands2 cnds2) AJ.mono (λw f d=>K9 d d.f0)<|Aa 1 (λ_=>AS [1] DG C (λ_ h=>.tail _ h)<|Ah C ?_);exact Db C C (eC Bm C C) (λw f d=>A7 _ t _ _ _ _ _ _)<|Aa 1 (λ_=>AS [1] DG C (λ_ h=>.tail _ h)<|Ah C<|Af 2 [0] (y<|λ_=>AS [1] DG C (λ_ h=>.tail _ h)<|Bp<|Aa 4 (λ_=>AK (λw f d=>A3 C (Ac C Bb d.k0 C)) (λw f d=>⟨(⟨15,t.ln,t.co,[],0,(G.cons O)⟩,ands2,cnds2),f,(by simp[nV,Nd.app_len,N.one,N.cons,Nd.len,Nat.add_comm]),(by simp[Bk,SP.need,Av,h1,W,Y,h4,h5,h6,h7,D,J,F]),d.exm,⟨d.f0,tQ⟩⟩))))

theorem Ut(w:wO)(d:Gl w)(tx:lU):AO prog 90 #[S qW,S ([32]++tx++[32])] w λv w'=>v=.bool (Oh tx)∧AT w w':=Hw w d _ _ dC
theorem S7(n:Nat)(ih:∀n',n=n'+1→∀ (w:wO) (f:Fq) (_:Vl w f) (_:Da w f) (t:AB) (k:Fo) (a:oA) (c:Nat),Gx n' t k→Cv w f k a c→BB prog 82 #[fV t a k.len c] w (HM (BY (n'+1) t k) w f) (Iu 108 (BY (n'+1) t k) w f))(iha:∀n',n=n'+1→∀ (w:wO) (f:Fq) (_:Vl w f) (_:Da w f) (t:AB) (k:Fo) (a:oA) (c:Nat),Gx n' t k→Cv w f k a c→BB prog 161 #[fV t a k.len c] w (HM (Hj (n'+1) (BY (n'+1)) t k) w f) (Iu 108 (Hj (n'+1) (BY (n'+1)) t k) w f))(w:wO)(f:Fq)(hv:Vl w f)(hJ:Da w f)(t:AB)(k:Fo)(ka:oA)(kc:Nat)(hp:Gx n t k)(hL:Cv w f k ka kc) :
  BB prog 82 #[fV t ka k.len kc] w (HM (BY (n+1) t k) w f) (Iu 108 (BY (n+1) t k) w f):=by
 refine OJ (X:=X0 w f) (H:=[]) (R:=[]) (B:=[]) (Fs:=[λw f=>Cv w f k ka kc,λw f=>Da w f]) (f:=f) func82 C C C (AR hv ⟨hL,hJ,tQ⟩ ⟨Cv.mono,Da.mono,tQ⟩)<|Af 21 [1] (λb1=>λb2=>y<|λ_=>A6 8 C C (λK=>?_) (λK=>?_));exact Af 16 [1,1,0] (y<|y<|y<|λ_=>AK (λw f d=>A3 C (Ac C Bb d.k0 C)) (λw f d=>⟨(⟨1,t.ln,t.co,[],t.nm,.nil⟩,none,0),f,C,(by unfold BY;simp[SP.need,Av,K]),d.exm,⟨⟨Nat.zero_le _,.inl C⟩,tQ⟩⟩));refine Aa 7 (λ_=>A6 17 C C (λL=>?_) (λL=>?_));exact Af 7 [1,1] (y<|y<|λ_=>Db C C (eC Bm C C) (λw f d=>A7 _ t _ _ _ _ _ _)<|Af 6 [0] (y<|λ_=>AK (λw f d=>A3 C (Ac C Bb d.k0 C)) (λw f d=>⟨(⟨2,t.ln,t.co,t.tx,0,.nil⟩,none,0),f,C,(by unfold BY;simp[SP.need,Av,K,L]),d.exm,⟨⟨Nat.zero_le _,.inl C⟩,tQ⟩⟩)));refine Aa 7 (λ_=>A6 24 C C (λO=>?_) (λO=>?_));exact Af 7 [1,1] (y<|y<|λ_=>Db C C (eC Bm C C) (λw f d=>A7 _ t _ _ _ _ _ _)<|Af 6 [0] (y<|λ_=>AK (λw f d=>A3 C (Ac C Bb d.k0 C)) (λw f d=>⟨(⟨3,t.ln,t.co,t.tx,0,.nil⟩,none,0),f,C,(by unfold BY;simp[SP.need,Av,K,L,O]),d.exm,⟨⟨Nat.zero_le _,.inl C⟩,tQ⟩⟩)));refine Aa 7 (λ_=>A6 31 C C (λU=>?_) (λU=>?_));exact Af 7 [1,1] (y<|y<|λ_=>Db C C (eC Bm C C) (λw f d=>A7 _ t _ _ _ _ _ _)<|Af 6 [0] (y<|λ_=>AK (λw f d=>A3 C (Ac C Bb d.k0 C)) (λw f d=>⟨(⟨6,t.ln,t.co,t.tx,0,.nil⟩,none,0),f,C,(by unfold BY;simp[SP.need,Av,K,L,O,U]),d.exm,⟨⟨Nat.zero_le _,.inl C⟩,tQ⟩⟩)));refine Aa 7 (λ_=>A6 38 C C (λW=>?_) (λW=>?_));refine Aa 2 (λ_=>Ca [0,1] Aj (.rd 0 (.rd 1 (.br 2 (.br 3 .fin .fin) .fin))) C kR<|Bh 2 [1,1] (y<|y<|λ_=>Ah C<|Db C C (eC Ny C C) (λw f d=>Eo _ (Da.gl d.f1) t _ hp.1.1 hp.1.2)<|Aa 1 (λ_=>Am [0,1] C<|Ah C<|AZ C C (eC AG C C) (λw2 f2 he Y=>⟨C,_,f2,C,(by unfold BY;simp[SP.need,Av,he,K,L,O,U,W]),Y⟩) λJ=>Aa 1 (λ_=>?_))));exact Am [0,1] C<|Bp<|Af 7 [1,1] (y<|y<|λ_=>Db C C (eC Bm C C) (λw f d=>A7 _ t _ _ _ _ _ _)<|Af 6 [0] (y<|λ_=>AK (λw f d=>A3 C (Ac C Bb d.k0 C)) (λw f d=>⟨(⟨5,t.ln,t.co,t.tx,0,.nil⟩,none,0),f,C,(by unfold BY;simp[SP.need,Av,K,L,O,U,W,J]),d.exm,⟨⟨Nat.zero_le _,.inl C⟩,tQ⟩⟩)));refine Af 13 [1] (y<|λ_=>A6 52 C C (λZ=>?_) (λZ=>?_));refine Aa 2 (λ_=>?_);obtain rfl:k=.nil:=Fo.len0 (by have h9:((k.len:Int)==0)=true:=Z;have:=beq_iff_eq.1 h9;omega);exact Af 2 [1] (y<|λ_=>Db C C (eC Bm C C) (λw f d=>A7 _ t _ _ _ _ _ _)<|Af 5 [0] (y<|λ_=>AK (λw f d=>A3 C (Ac C Bb d.k0 C)) (λw f d=>⟨(⟨4,t.ln,t.co,[],0,.nil⟩,none,0),f,C,(by unfold BY;simp[SP.need,Av,K,L,O,U,W,Z]),d.exm,⟨⟨Nat.zero_le _,.inl C⟩,tQ⟩⟩)));refine Aa 4 (λ_=>?_);obtain⟨h,hk,r,rfl⟩:=Fo.cases1 k (by have h9:((k.len:Int)==0)=false:=Z;have:=beq_eq_false_iff_ne.1 h9;omega);have hp0:=hp;obtain⟨hto,hko,hkl,hdp⟩:=hp;have hkl2:r.len+1≤100000:=hkl
 obtain⟨n,rfl⟩:∃q,n=q+1:=by cases n with|zero=>exact absurd hdp (by simp[Fo.deep])|succ q=>exact⟨q,C⟩
 have htl:=hko.1.2;refine xL 0 C<|Ng 1 C<|KO 0 C ?_;rintro⟨eb,eo,hka,hkc⟩ rfl;refine Ca [0,1] Aj (rd [0,1,2,3,4,5,6] (.br 7 (.br 8 (.rd 9 .fin) .fin) .fin)) C kR<|Bh 6 [1,100,0,1] (y<|aI (by simp only[Fo.len];omega)<|y2<|y<|λ_=>CP C C C (λw hK=>GZ C C C Im)<|Ah C<|Aa 2 (λb3=>λ_=>Am [1,2] C<|Ah C<|Af 2 [0] (y<|λ_=>Am [1,2] C<|AN 1 (λ_=>?_))));refine Bp<|Af 12 [0] (y<|λ_=>A6 62 C C (λh7=>?_) (λh7=>?_));refine Aa 2 (λ_=>Ca [0,1,2] Aj (rd [0,1,2] (.br 3 (.br 4 .fin .fin) .fin)) C kR<|Bh 3 [2] (y<|λ_=>Ah C<|Db C C (eC Gv C C) (λw f d=>CT _ _ _ _)<|Aa 1 (λ_=>Am [0,1,2] C<|Ah C<|AZ C C (eC AG C C) (λw2 f2 he Y=>⟨C,_,f2,C,(by unfold BY;simp[SP.need,Av,he,K,L,O,U,W,Z,h7]),Y⟩) λJ=>Aa 1 (λ_=>?_))));refine Am [0,1,2] C<|Bp<|Aa 2 (λ_=>Ca [0,2] Aj (rd [0,1,2,3,4] (.br 5 (.br 6 (.br 7 .fin .fin) .fin) .fin)) C kR<|Bh 5 [1,0] (y<|y<|λ_=>Ah C ?_));refine JY C C (eC CV C C) (λw f d=>BG 82 Df (BY (n+1)) (Gx n) (λw f hv hJ t k a c hd hT=>ih n C w f hv hJ t k a c hd hT) w f d.vl d.f5 r _ _ (Dg hp0).2 oM d.f3) (λ_=>⟨AJ.mono,tQ⟩) (λe w2 f2 he Y=>⟨C,e,f2,C,(by unfold BY;simp[SP.need,Av,he,K,L,O,U,W,Z,h7,J]),Y⟩) ?_;rintro⟨⟨Q,xnds1⟩,F,G⟩ D;dsimp only at D ⊢;refine Aa 1 (λ_=>Am [0,2] C<|Ah C<|Db C C (eC Bm C C) (λw f d=>A7 _ t _ _ _ _ _ _)<|Aa 1 (λ_=>Am [0,2] C<|Ah C<|Af 2 [1] (y<|λ_=>Am [0,2] C<|Bp ?_)));exact Aa 4 (λ_=>AK (λw f d=>A3 C (Ac C Bb d.k1 C)) (λw f d=>⟨(⟨6,t.ln,t.co,h.tx,0,Q⟩,F,G),f,C,(by unfold BY;simp[SP.need,Av,K,L,O,U,W,Z,h7,J,D]),d.exm,⟨d.f0,tQ⟩⟩));refine Af 4 [0] (y<|λ_=>Db C C (eC cT C C) (λw f d=>FG _ h _)<|Aa 1 (λ_=>A6 82 C C (λh8=>?_) (λh8=>?_)));refine Af 5 [0] (y<|aI (by simp <;> omega)<|aI (by simp <;> omega)<|λ_=>Db C C (eC Qz C C) (λw f d=>Ut _ (Da.gl d.f5) h.tx)<|Aa 4 (λ_=>A6 79 C C (λh9=>?_) (λh9=>?_)));refine Af 8 [2,0] (y<|y<|λ_=>?_);refine JY C C (eC lF C C) (λw f d=>Y6 n (ih n C) (iha n C) w f d.vl d.f5 t (.cons h hk r) _ _ h.tx r _ _ (Dg hp0).2 oM d.f3) (λ_=>⟨AJ.mono,tQ⟩) (λe w2 f2 he Y=>⟨C,e,f2,C,(by unfold BY;simp[SP.need,Av,he,K,L,O,U,W,Z,h7,h8,h9]),Y⟩) ?_;rintro⟨nd1,and1,cnd1⟩ hnd1;dsimp only at hnd1 ⊢;exact Af 6 [1] (y<|λ_=>AK (λw f d=>A3 C (Ac C Bb d.k1 C)) (λw f d=>⟨(nd1,and1,cnd1),f,C,(by unfold BY;simp[SP.need,Av,K,L,O,U,W,Z,h7,h8,h9,hnd1]),d.exm,⟨d.f0,tQ⟩⟩));refine Aa 5 (λ_=>Ca [0,1,2] Aj (rd [0,1,2] (.br 3 (.br 4 .fin .fin) .fin)) C kR<|Bh 3 [2] (y<|λ_=>Ah C<|Db C C (eC Gv C C) (λw f d=>CT _ _ _ _)<|Aa 1 (λ_=>Am [0,1,2] C<|Ah C<|AZ C C (eC AG C C) (λw2 f2 he Y=>⟨C,_,f2,C,(by unfold BY;simp[SP.need,Av,he,K,L,O,U,W,Z,h7,h8,h9]),Y⟩) λJ=>Aa 1 (λ_=>?_))))
 refine Am [0,1,2] C<|Bp<|Aa 2 (λ_=>Ca [0,2] Aj (rd [0,1,2] (.br 3 (.br 4 (.br 5 .fin .fin) .fin) .fin)) C kR<|Bh 3 [1,1] (y<|y<|λ_=>Ah C ?_));refine JY C C (eC CV C C) (λw f d=>BG 82 Df (BY (n+1)) (Gx n) (λw f hv hJ t k a c hd hT=>ih n C w f hv hJ t k a c hd hT) w f d.vl d.f5 (.cons h hk r) _ _ (Dg hp0) hkl d.f4) (λ_=>⟨AJ.mono,tQ⟩) (λe w2 f2 he Y=>⟨C,e,f2,C,(by unfold BY;simp[SP.need,Av,he,K,L,O,U,W,Z,h7,h8,h9,J]),Y⟩) ?_;rintro⟨⟨Q,xnds1⟩,F,G⟩ D;dsimp only at D ⊢;refine Aa 1 (λ_=>Am [0,2] C<|Ah C<|Db C C (eC Bm C C) (λw f d=>A7 _ t _ _ _ _ _ _)<|Aa 1 (λ_=>Am [0,2] C<|Ah C<|Af 2 [1] (y<|λ_=>Am [0,2] C<|Bp ?_)));exact Aa 2 (λ_=>AK (λw f d=>A3 C (Ac C Bb d.k1 C)) (λw f d=>⟨(⟨8,t.ln,t.co,[],0,Q⟩,F,G),f,C,(by unfold BY;simp[SP.need,Av,K,L,O,U,W,Z,h7,h8,h9,J,D]),d.exm,⟨d.f0,tQ⟩⟩));refine Aa 15 (λ_=>Ca [0,1,2] Aj (rd [0,1,2] (.br 3 (.br 4 .fin .fin) .fin)) C kR<|Bh 3 [2] (y<|λ_=>Ah C<|Db C C (eC Gv C C) (λw f d=>CT _ _ _ _)<|Aa 1 (λ_=>Am [0,1,2] C<|Ah C<|AZ C C (eC AG C C) (λw2 f2 he Y=>⟨C,_,f2,C,(by unfold BY;simp[SP.need,Av,he,K,L,O,U,W,Z,h7,h8]),Y⟩) λJ=>Aa 1 (λ_=>?_))));refine Am [0,1,2] C<|Bp<|Aa 2 (λ_=>Ca [0,2] Aj (rd [0,1,2] (.br 3 (.br 4 (.br 5 .fin .fin) .fin) .fin)) C kR<|Bh 3 [1,1] (y<|y<|λ_=>Ah C ?_));refine JY C C (eC CV C C) (λw f d=>BG 82 Df (BY (n+1)) (Gx n) (λw f hv hJ t k a c hd hT=>ih n C w f hv hJ t k a c hd hT) w f d.vl d.f5 (.cons h hk r) _ _ (Dg hp0) hkl d.f4) (λ_=>⟨AJ.mono,tQ⟩) (λe w2 f2 he Y=>⟨C,e,f2,C,(by unfold BY;simp[SP.need,Av,he,K,L,O,U,W,Z,h7,h8,J]),Y⟩) ?_;rintro⟨⟨Q,xnds1⟩,F,G⟩ D;dsimp only at D ⊢;refine Aa 1 (λ_=>Am [0,2] C<|Ah C<|Db C C (eC Bm C C) (λw f d=>A7 _ t _ _ _ _ _ _)<|Aa 1 (λ_=>Am [0,2] C<|Ah C<|Af 2 [1] (y<|λ_=>Am [0,2] C<|Bp ?_)));exact Aa 2 (λ_=>AK (λw f d=>A3 C (Ac C Bb d.k1 C)) (λw f d=>⟨(⟨8,t.ln,t.co,[],0,Q⟩,F,G),f,C,(by unfold BY;simp[SP.need,Av,K,L,O,U,W,Z,h7,h8,J,D]),d.exm,⟨d.f0,tQ⟩⟩))
end Go.Proofs.YtplnpgpagkpnmaaGreatDoor
namespace Go.SP
open Go.SW Go.RowKit
def M7(l:List lU):List (lU×Value):=l.map λk=>(k,.bool true)
theorem Xw(n:lU):∀l:List lU,EF (M7 l) n=if l.contains n then some (.bool true) else none
 | []=>rfl
 |k::l=>by
   have:=Xw n l;simp only[M7,List.map,EF,List.contains_cons] at this ⊢
   by_cases hk:n=k
   · subst hk;simp
   · have e:(n==k)=false:=by simpa using hk
     rw[e,this];simp
theorem lkSD(n:lU)(l:List lU):(EF (M7 l) n).getD (.bool false)=.bool (l.contains n):=by rw[Xw];cases l.contains n <;> rfl
theorem lkS0{n:lU}{l:List lU}(h:l.contains n=false):EF (M7 l) n=none:=by rw[Xw,h];rfl
theorem uQ:∀{l:List lU},l.Nodup→Kq (M7 l)
 | [],_=>trivial
 |k::l,h=>⟨by
     have d:=List.nodup_cons.1 h;show EF (M7 l) k=none;rw[Xw,if_neg];simpa using d.1,uQ (List.nodup_cons.1 h).2⟩
abbrev Km(m:Nat)(l:List lU):wO→Fq→Prop:=λw _=>BM Ck w m (M7 l)
variable {m:Nat}
theorem IT{l:List lU}:EC (λb=>b=m) (Km m l):=λ_ _ _ _ h _ d=>h.heap (d m C)
section
variable{s s0 s2:List lU}{op ln co nm:Int}{tx:lU}{k k0 r:Nd}
theorem Xn(h:(op==22)=false):BE s (.cons op ln co tx nm k .nil)=BE s k:=by
 simp only[BE,h];show (match BE s k with|none=>none|some s2=>some s2)=_
 cases BE s k <;> rfl
theorem T0(h:(op==22)=true)(d:s.contains tx=false):BE s (.cons op ln co tx nm k .nil)=BE (tx::s) k:=by
 simp only[BE,h,d];show (match BE (tx::s) k with|none=>none|some s2=>some s2)=_
 cases BE (tx::s) k <;> rfl
theorem dM(h:(op==22)=true)(d:s.contains tx=true):BE s (.cons op ln co tx nm k .nil)=none:=by
 simp only[BE,h,d];rfl
theorem Qd(hk:BE s0 k0=BE s (.cons op ln co tx nm k r))(h:(BE s (.cons op ln co tx nm k .nil)).isSome=true)(D:∀s',BE s (.cons op ln co tx nm k .nil)=some s'→s'=s2):BE s0 k0=BE s2 r:=by
 obtain⟨s',d⟩:=Option.isSome_iff_exists.1 h;obtain rfl:=D s' d;rw[hk,OI,d]
theorem SS(hk:BE s0 k0=BE s (.cons op ln co tx nm k r))(h:(BE s (.cons op ln co tx nm k .nil)).isSome=false):BE s0 k0=none:=by
 rw[hk,OI]
 cases d:BE s (.cons op ln co tx nm k .nil) with
 |none=>rfl
 |some _=>rw[d] at h;cases h
end
def rL(P:Program)(d:FuncId)(n:Nat):Prop:=∀(w:wO)(f:Fq)(_:Vl w f)(m:Nat)(seen:List lU),Km m seen w f→f m=0→seen.Nodup→∀(op ln co nm:Int)(tx:lU)(kids:Nd)(D:oA)(nc:Nat),kids.size<n→kids.len≤100000∧kids.ok→AJ w f kids D nc →
 AO P d #[.agg #[.int .i64 op,.int .i64 ln,.int .i64 co,S tx,.int .i64 nm,.slice D kids.len nc],.map (some m)] w (NG (α:=List lU) (λ_=>.bool (BE seen (.cons op ln co tx nm kids .nil)).isSome) (λs=>(∀s',BE seen (.cons op ln co tx nm kids .nil)=some s'→s'=s)∧s.Nodup) (λb=>b=m) (λ_ b=>b=m) (λs=>Km m s) (λ_=>[]) w f)
theorem Fo.all_imp{p q:AB→Fo→Prop}(h:∀t k,p t k→q t k):∀{d:Fo},d.all p→d.all q
 |.nil,_=>trivial
 |.cons _ _ _,D=>⟨h _ _ D.1,Fo.all_imp h D.2⟩
theorem jI:∀{n:Nat}{t:AB}{k:Fo},Gx n t k→k.all (Gx n)
 |0,_,.nil,_=>trivial
 |0,_,.cons _ _ _,h=>absurd h.2.2.2 (by simp[Fo.deep])
 |_+1,_,_,h=>Fo.all_imp (λ_ _ h=>Sc h) (Dg h)
theorem WB{n:Nat}{ex:AB→Fo→R N}{t:AB}{k:Fo}(h:k.len≠2):Hj n ex t k=.error (t.ln,t.co):=by
 unfold Hj
 split
 · simp[Fo.len] at h
 · rfl
end Go.SP
namespace Go.SP
open Go.SW Go.RowKit
theorem Nd.getN(i:Nat)(x:Nd)(h:i<x.len):∃q:N,x.drop i=q.cons (x.drop (i+1)) :=
 let ⟨op,ln,co,tx,nm,k,e⟩:=Nd.drop_lt i x h
 ⟨⟨op,ln,co,tx,nm,k⟩,e⟩
variable {f:Fq}{i:Nat}{a:oA}{w:wO}
theorem Bc.elem{q:N}:∀{i:Nat}{k:Nd}{j:Nat},Bc w f a j k→k.drop i=q.cons (k.drop (i+1))→∃b off ka kc,a=some ⟨b,off,none⟩∧Cs w f b (off+(j+i)*6) (Kd q.op q.ln q.co q.tx q.nm ka q.kids.len kc)∧AJ w f q.kids ka kc
 |0,k,j,h,e=>by
   have e:k=q.cons (k.drop 1):=e;rw[e] at h;obtain⟨b,off,ka,kc,d,D,F,-⟩:=Bc.head h;exact⟨b,off,ka,kc,d,D,F⟩
 |_+1,.nil,_,_,e=>by cases e
 |i+1,.cons _ _ _ _ _ _ r,j,h,e=>by
   obtain⟨_,_,_,_,_,_,_,G⟩:=Bc.head h;have:=Bc.elem (i:=i) (k:=r) G e;rwa[show j+1+i=j+(i+1) by omega] at this
theorem AJ.elem{q:N}{c:Nat}{k:Nd}(h:AJ w f k a c)(e:k.drop i=q.cons (k.drop (i+1))):∃b off ka kc,a=some ⟨b,off,none⟩∧Cs w f b (off+i*6) (Kd q.op q.ln q.co q.tx q.nm ka q.kids.len kc)∧AJ w f q.kids ka kc:=by
 have:=Bc.elem (AJ.at h) e;rwa[Nat.zero_add] at this
end Go.SP
namespace Go.SP
theorem Fo.nc:∀k:Fo,k=.nil∨∃h hk r,k=.cons h hk r
 |.nil=>.inl C
 |.cons h hk r=>.inr ⟨h,hk,r,C⟩
theorem Fo.most:∀l:Fo,(∃a d b bk c D r,l=.cons a d (.cons b bk (.cons c D r)))∨l.len<3
 |.nil=>.inr (by simp[Fo.len])
 |.cons _ _ .nil=>.inr (by simp[Fo.len])
 |.cons _ _ (.cons _ _ .nil)=>.inr (by simp[Fo.len])
 |.cons a d (.cons b bk (.cons c D r))=>.inl ⟨a,d,b,bk,c,D,r,C⟩
section
variable{n:Nat}{t h:AB}{hk l:Fo}{b:Bool}{X:R N}
theorem HC(d:X=.error (t.ln,t.co)):SP.need t b X=.error (t.ln,t.co):=by subst d;cases b <;> rfl
theorem mB(hw:h.tx=[100,97,116,97])(d:l.len<3):CO n t (.cons h hk l)=.error (t.ln,t.co):=by
 unfold CO;refine HC ?_;rw[if_pos (by rw[hw];decide)]
 split
 · simp[Fo.len] at d;omega
 · rfl
theorem lR(hw:h.tx=[114,111,111,116])(d:l.len≠3):CO n t (.cons h hk l)=.error (t.ln,t.co):=by
 unfold CO;refine HC ?_;rw[if_neg (by rw[hw];decide),if_pos (by rw[hw];decide)]
 split
 · simp[Fo.len] at d
 · rfl
theorem vO(hw:h.tx=[100,101,102])(d:l.len≠2):CO n t (.cons h hk l)=.error (t.ln,t.co):=by
 unfold CO;refine HC ?_;rw[if_neg (by rw[hw];decide),if_neg (by rw[hw];decide),if_pos (by rw[hw];decide)]
 split
 · simp[Fo.len] at d
 · rfl
theorem xP(hw:h.tx=[114,101,99])(d:l.len≠2):CO n t (.cons h hk l)=.error (t.ln,t.co):=by
 unfold CO;refine HC ?_;rw[if_neg (by rw[hw];decide),if_neg (by rw[hw];decide),if_neg (by rw[hw];decide),if_pos (by rw[hw];decide)]
 split
 · simp[Fo.len] at d
 · rfl
theorem tm_do(hw:h.tx=[100,111])(d:l.len≠1):CO n t (.cons h hk l)=.error (t.ln,t.co):=by
 unfold CO;refine HC ?_;rw[if_neg (by rw[hw];decide),if_neg (by rw[hw];decide),if_neg (by rw[hw];decide),if_neg (by rw[hw];decide),if_pos (by rw[hw];decide)]
 split
 · simp[Fo.len] at d
 · rfl
theorem UP(d:(h.tx==[100,97,116,97])=false)(D:(h.tx==[114,111,111,116])=false)(F:(h.tx==[100,101,102])=false)(G:(h.tx==[114,101,99])=false)(J:(h.tx==[100,111])=false):CO n t (.cons h hk l)=.error (t.ln,t.co):=by
 unfold CO;refine HC ?_;simp only[d,D,F,G,J];rfl
end
end Go.SP
namespace Go.SP
open Go.SW Go.RowKit
variable {σ:AW}{f:Fq}{i o off:Nat}{lo x:Operand}{P:Program}{T e ty:tI}{w:wO}
theorem Dj.toF{b c:Nat}{k:Fo}(h:Dj w f (some ⟨b,o,none⟩) i k)(d:k.len≤c):Cv w f k (some ⟨b,o+i*6,none⟩) c:=⟨d,h.imp id λ⟨_,_,D,F⟩=>⟨b,o+i*6,C,by cases D;exact F⟩⟩
theorem bN{k len b c:Nat}(m:Nat)(D:len=m+2)(F:ev σ x=some (.slice (some ⟨b,off,none⟩) len c))(d:ev σ lo=some (.int .i64 2))(G:c≠2)(J:Hl P T=some (e,k)):AM P σ (.slice T x (some lo) none none) ty w (.slice (some ⟨b,off+2*k,none⟩) m (c-2)) w:=by
 subst D;exact bR F d J G
section
variable{bk q vk:Fo}{v:AB}{vs:Nd}
theorem nY(h:BR bk=match BR (.cons v vk q) with|none=>none|some x=>some (vs.app x))(D:v.isTypeVar=true):BR bk=match BR q with|none=>none|some x=>some ((vs.app (Av v 31 v.tx .nil).one).app x):=by
 rw[h]
 cases d:BR q with
 |none=>rw[Tb d]
 |some x=>rw[UJ D d];simp only[Nd.app_assoc];rfl
theorem sV(h:BR bk=match BR (.cons v vk q) with|none=>none|some x=>some (vs.app x))(d:v.isTypeVar=false):BR bk=none:=by rw[h,Wg d]
theorem ZJ:BR bk=match BR bk with|none=>none|some x=>some (Nd.nil.app x):=by cases BR bk <;> rfl
theorem sH(h:BR bk=match BR .nil with|none=>none|some x=>some (vs.app x)):BR bk=some vs:=by rw[h];show some (vs.app .nil)=_;rw[Nd.app_nil]
end
end Go.SP
namespace Go.Proofs.YtplnpgpagkpnmaaGreatDoor
open Go.SW Go.SP Go.RowKit Go.Proofs.Tryz
theorem Y2(n:Nat)(ih:rL prog 189 n)(w:wO)(f:Fq)(hv:Vl w f)(m:Nat)(seen:List lU)(hS:Km m seen w f)(hf:f m=0)(Z:seen.Nodup)(op ln co nm:Int)(tx:lU)(kids:Nd)(na:oA)(nc:Nat)(hm:kids.size<n+1)(hok:kids.len≤100000∧kids.ok)(hN:AJ w f kids na nc) :
  AO prog 189 #[.agg #[iV op,iV ln,iV co,S tx,iV nm,.slice na kids.len nc],.map (some m)] w (NG (α:=List lU) (λ_=>.bool (BE seen (.cons op ln co tx nm kids .nil)).isSome) (λs=>(∀s',BE seen (.cons op ln co tx nm kids .nil)=some s'→s'=s)∧s.Nodup) (λb=>b=m) (λ_ b=>b=m) (λs=>Km m s) (λ_=>[]) w f):=by
 have hkl:=hok.1;refine Hm (X:=⟨λb=>b=m,λb=>b=m,Km m seen,w,f⟩) (H:=[]) (R:=[]) (B:=[]) (Fs:=[λw f=>AJ w f kids na nc]) (f:=f) func189 C C C (LX (M:=λb=>b=m) hv hS IT (λb hb=>by subst hb;exact⟨BM.lt hS,hf⟩) ⟨hN,tQ⟩ ⟨AJ.mono,tQ⟩)<|Af 14 [0] (λb1=>y<|λ_=>?_)
 ·
  refine A6 9 C C (λh1=>?_) (λh1=>?_);refine Af 7 [0] (y<|λ_=>Cz C C (λw f d=>Pc (K:=Ck) (a:=tx) C C QI Fp jS d.res (uQ Z) (lkSD tx seen))<|Aa 2 (λ_=>A6 13 C C (λh2=>?_) (λh2=>?_)));refine Aa 9 (λ_=>?_);have D:=dM (ln:=ln) (co:=co) (nm:=nm) (k:=kids) h1 h2;exact AK (Cy C C) (λw f d=>⟨seen,f,(by rw[D];rfl),⟨(λs' h=>by rw[D] at h;cases h <;> rfl),Z⟩,d.exm,(λb h=>.inl h),d.res,tQ⟩);refine Af 7 [0] (y<|λ_=>iS (K:=Ck) (a:=tx) (l:=M7 seen) (I':=Km m (tx::seen)) C C C C QI Fp C (uQ Z) (lkS0 h2) (λw f h=>h) (λw f w2 h d hC hm=>hm) IT<|Af 12 [0] (y<|λ_=>?_));refine D6 (α:=Nat×Nd×List lU) (λx=>x.2.1.len) (λx=>x.1+x.2.1.len=kids.len∧BE (tx::seen) kids=BE x.2.2 x.2.1∧x.2.2.Nodup∧x.2.1.ok∧x.2.1.size≤kids.size) (λx=>(E4 1 (.map (some m)) 18 (.slice na kids.len nc) 19 (iV (kids.len:Int)) 20 (iV (x.1:Int)))) (λx=>⟨λb=>b=m,λb=>b=m,Km m x.2.2,w,f⟩) (λx=>[]) (λx=>[]) (λx=>[]) (λx=>[λw f=>Bc w f na x.1 x.2.1]) (0,kids,(tx::seen)) ⟨Nat.zero_add _,C,(List.nodup_cons.2 ⟨by simpa using h2,Z⟩),hok.2,Nat.le_refl _⟩ lE (λw f d=>d.more (B':=[]) (F':=[λw f=>Bc w f na 0 kids]) nE (AA.mem ⟨AJ.at d.f0,tQ⟩) (Ap.mem ⟨Bc.mono,tQ⟩) |>.less (.cons _ sR) sR nE (mR [0])) ?_;rintro⟨i,r,s⟩ ⟨hi,hk,G,F,J⟩;dsimp only at hi hk G F J ⊢;refine Aa 6 (λ_=>A6 21 C C (λh3=>?_) (λh3=>?_));refine Aa 6 (λ_=>?_);have hil:i<kids.len:=by have:=dT h3;omega
  obtain⟨L,O,Q,U,W,k2,r,rfl⟩:=Nd.cases1 r oM;have hi2:i+(r.len+1)=kids.len:=hi;refine H4 0 C ?_;rintro⟨eb,eo,ka,kc⟩ rfl;refine Af 11 [100,0,0,0] (aI oM<|y2<|λb2=>y<|y<|λ_=>iY (α:=List lU) (XX:=λ_ _=>False) C C (eC RH C C) (λw f d=>(ih w f d.vl m s d.res (d.mi m C).2.1 G L O Q W U k2 ka kc (by have D:(Nd.cons L O Q U W k2 r).size≤kids.size:=J;simp only[Nd.size] at D;omega) ⟨F.1,F.2.1⟩ d.f0).retP) (λ_=>IT) (λ_=>trivial) (λ_ _ _ _ _ h=>h.elim) ?_);rintro s2 ⟨hs2,Y⟩;refine Aa 3 (λ_=>A6 27 C C (λh4=>?_) (λh4=>?_));replace h4:=Ee h4;refine Aa 9 (λ_=>So<|Aa 2 (λ_=>?_));have D:=(T0 (ln:=ln) (co:=co) (nm:=nm) (k:=kids) h1 h2).trans (SS hk h4)
  rotate_left
  replace h4:=Eh h4;exact Aa 8 (aI ⟨oM,oM⟩<|λ_=>C0 ((i+1,r,s2)) (show r.len<r.len+1 from Nat.lt_succ_self _) ⟨show i+1+r.len=_ by omega,Qd hk h4 hs2,Y,F.2.2,show r.size≤kids.size by have D:(Nd.cons L O Q U W k2 r).size≤kids.size:=J;simp only[Nd.size] at D;omega⟩ lE (λw f d=>⟨_,d.less (.cons _ sR) sR nE (mR [1])⟩));refine Aa 3 (λ_=>Dl<|Aa 8 (λ_=>?_));obtain rfl:r=.nil:=Nd.len0 (by have:=dF h3;omega);have D:=(T0 (ln:=ln) (co:=co) (nm:=nm) (k:=kids) h1 h2).trans (hk.trans (show BE s .nil=some s from C));exact AK (Cy C C) (λw f d=>⟨s,f,(by rw[D];rfl),⟨(λs' h=>by rw[D] at h;cases h <;> rfl),G⟩,d.exm,(λb h=>.inl h),d.res,tQ⟩);refine Af 13 [0] (y<|λ_=>?_);refine D6 (α:=Nat×Nd×List lU) (λx=>x.2.1.len) (λx=>x.1+x.2.1.len=kids.len∧BE seen kids=BE x.2.2 x.2.1∧x.2.2.Nodup∧x.2.1.ok∧x.2.1.size≤kids.size) (λx=>(E4 1 (.map (some m)) 18 (.slice na kids.len nc) 19 (iV (kids.len:Int)) 20 (iV (x.1:Int)))) (λx=>⟨λb=>b=m,λb=>b=m,Km m x.2.2,w,f⟩) (λx=>[]) (λx=>[]) (λx=>[]) (λx=>[λw f=>Bc w f na x.1 x.2.1]) (0,kids,seen) ⟨Nat.zero_add _,C,Z,hok.2,Nat.le_refl _⟩ lE (λw f d=>d.more (B':=[]) (F':=[λw f=>Bc w f na 0 kids]) nE (AA.mem ⟨AJ.at d.f0,tQ⟩) (Ap.mem ⟨Bc.mono,tQ⟩) |>.less (.cons _ sR) sR nE (mR [0])) ?_;rintro⟨i,r,s⟩ ⟨hi,hk,G,F,J⟩;dsimp only at hi hk G F J ⊢;refine Aa 6 (λ_=>A6 21 C C (λh2=>?_) (λh2=>?_));refine Aa 6 (λ_=>?_);have hil:i<kids.len:=by have:=dT h2;omega
  obtain⟨L,O,Q,U,W,k2,r,rfl⟩:=Nd.cases1 r oM;have hi2:i+(r.len+1)=kids.len:=hi;refine H4 0 C ?_;rintro⟨eb,eo,ka,kc⟩ rfl;refine Af 11 [100,0,0,0] (aI oM<|y2<|λb2=>y<|y<|λ_=>iY (α:=List lU) (XX:=λ_ _=>False) C C (eC RH C C) (λw f d=>(ih w f d.vl m s d.res (d.mi m C).2.1 G L O Q W U k2 ka kc (by have D:(Nd.cons L O Q U W k2 r).size≤kids.size:=J;simp only[Nd.size] at D;omega) ⟨F.1,F.2.1⟩ d.f0).retP) (λ_=>IT) (λ_=>trivial) (λ_ _ _ _ _ h=>h.elim) ?_);rintro s2 ⟨hs2,Y⟩;refine Aa 3 (λ_=>A6 27 C C (λh3=>?_) (λh3=>?_));replace h3:=Ee h3;refine Aa 9 (λ_=>So<|Aa 2 (λ_=>?_));have D:=(Xn (ln:=ln) (co:=co) (nm:=nm) (tx:=tx) (k:=kids) h1).trans (SS hk h3)
  rotate_left
  replace h3:=Eh h3;exact Aa 8 (aI ⟨oM,oM⟩<|λ_=>C0 ((i+1,r,s2)) (show r.len<r.len+1 from Nat.lt_succ_self _) ⟨show i+1+r.len=_ by omega,Qd hk h3 hs2,Y,F.2.2,show r.size≤kids.size by have D:(Nd.cons L O Q U W k2 r).size≤kids.size:=J;simp only[Nd.size] at D;omega⟩ lE (λw f d=>⟨_,d.less (.cons _ sR) sR nE (mR [1])⟩));refine Aa 3 (λ_=>Dl<|Aa 8 (λ_=>?_));obtain rfl:r=.nil:=Nd.len0 (by have:=dF h2;omega);have D:=(Xn (ln:=ln) (co:=co) (nm:=nm) (tx:=tx) (k:=kids) h1).trans (hk.trans (show BE s .nil=some s from C));exact AK (Cy C C) (λw f d=>⟨s,f,(by rw[D];rfl),⟨(λs' h=>by rw[D] at h;cases h <;> rfl),G⟩,d.exm,(λb h=>.inl h),d.res,tQ⟩)
  all_goals
   exact AK (Cy C C) (λw f d=>⟨s2,f,(by rw[D];rfl),⟨(λs' h=>by rw[D] at h;cases h <;> rfl),Y⟩,d.exm,(λb h=>.inl h),d.res,tQ⟩)

theorem P0:∀n,rL prog 189 n
 |0=>λw f d m seen D F G op ln co nm tx kids J nc h=>by omega
 |n+1=>λw f d m seen D F G op ln co nm tx kids J nc K L O=>Y2 n (P0 n) w f d m seen D F G op ln co nm tx kids J nc K L O
theorem Yd(n:Nat)(ihx:∀ (w:wO) (f:Fq) (_:Vl w f) (_:Da w f) (t:AB) (k:Fo) (a:oA) (c:Nat),Gx n t k→Cv w f k a c→BB prog 82 #[fV t a k.len c] w (HM (BY (n+1) t k) w f) (Iu 108 (BY (n+1) t k) w f))(w:wO)(f:Fq)(hv:Vl w f)(hJ:Da w f)(t:AB)(k:Fo)(ka:oA)(kc:Nat)(hp:Gx n t k)(hL:Cv w f k ka kc) :
  BB prog 161 #[fV t ka k.len kc] w (HM (Hj (n+1) (BY (n+1)) t k) w f) (Iu 108 (Hj (n+1) (BY (n+1)) t k) w f):=by
 refine OJ (X:=X0 w f) (H:=[]) (R:=[]) (B:=[]) (Fs:=[λw f=>Cv w f k ka kc,λw f=>Da w f]) (f:=f) func161 C C C (AR hv ⟨hL,hJ,tQ⟩ ⟨Cv.mono,Da.mono,tQ⟩)<|Aa 7 (λb1=>λb2=>λ_=>?_);have L:=jI hp;rcases Fo.two k with ⟨p,pk,b,bk,rfl⟩|U
 refine Ng 0 C<|KO 0 C ?_;rintro⟨eb0,eo0,k0a,k0c⟩ rfl;refine Qc 1 C ?_;rintro⟨k1a,k1c⟩;refine Ca [0,1] Aj (.rd 0 (.rd 1 (.br 2 (rd [3,4,5,6,7,8] (.br 9 .fin .fin)) .fin))) C kR<|Bh 2 [1,1] (y<|y<|λ_=>Ah C<|Db C C (eC Hd C C) (λw f d=>Cp _ t _)<|Aa 1 (λ_=>Am [0,1] C<|AN 1 (λ_=>JG 7 C (λO=>?_) (λO=>?_))));refine Bh 5 [1] (y<|λ_=>Ah C<|AZ C C (eC AG C C) (λW f2 he J=>⟨C,_,f2,C,(by simp[Fo.len] at he),J⟩) λF=>Aa 1 (λ_=>Am [0,1] C<|Bp<|Af 7 [1,101,0] (y<|aI (by simp only[Fo.len];omega)<|y2<|λ_=>?_)));refine JY C C (eC R6 C C) (λw f d=>Qw n w f d.vl d.f6 p pk _ _ L.1 d.f2) (λ_=>⟨AJ.mono,tQ⟩) (λe W f2 he J=>⟨C,e,f2,C,(by simp[Hj,SP.need,Av,he,O,F]),J⟩) ?_;rintro⟨D,Y,Z⟩ G;dsimp only at G ⊢;refine Af 5 [0] (λb3=>y<|λ_=>Ca [0,1,2] Aj (rd [0,1,2,3,4] (.br 5 (.br 6 (.br 7 .fin .fin) .fin) .fin)) C kR<|Bh 5 [2,101,0,0] (y<|aI (by simp only[Fo.len];omega)<|y2<|y<|λ_=>Ah C<|mmp (K:=Ck) C C λm=>Aa 1 (λ_=>Am [0,1,2] C<|Ah C<|iY (α:=List lU) (val:=λ_=>.bool (BE [] D.one).isSome) (q:=λ_=>True) (MI':=λ_ b=>b=m) (I':=λs=>Km m s) (F':=λ_=>[]) (XX:=λ_ _=>False) C C (eC RH C C) (λw f d=>((P0 (D.kids.size+1) w f d.vl m [] d.res.2 (d.mi m (.inr C)).2.1 List.nodup_nil D.op D.ln D.co D.nm D.tx D.kids Y Z (Nat.lt_succ_self _) (Z9 n p pk D L.1 G) d.f0).mono λv W ⟨x,f2,O,h2,h3,h4,h5,h6⟩=>⟨x,f2,O,tQ,h3.mono (λb hb=>.inr hb),(λb hb=>(h4 b hb).imp .inr id),h5,h6⟩).retP) (λ_=>IT) (λ_=>trivial) (λ_ _ _ _ _ h=>h.elim) ?_)));rintro s1 -;refine Aa 1 (λ_=>Am [0,1,2] C<|Ah C<|AZ C C (eC AG C C) (λW f2 he J=>⟨C,_,f2,C,(by simp[Hj,SP.need,Av,he,O,F,G]),J⟩) λhn2=>Aa 1 (λ_=>Am [0,1,2] C<|Bp<|Aa 2 (λ_=>Ca [0,2] Aj (rd [0,1,2,3,4,5] (.br 6 (.br 7 (.br 8 (.br 9 .fin .fin) .fin) .fin) .fin)) C kR<|Bh 6 [1,0,1,100,0] (y<|y<|y<|aI (by simp only[Fo.len];omega)<|y2<|λ_=>?_))));refine Ah C ?_;refine JY C C (eC Df C C) (λw f d=>ihx w f d.vl d.f7 b bk _ _ L.2.1 d.f1) (λ_=>⟨AJ.mono,tQ⟩) (λe W f2 he J=>⟨C,e,f2,C,(by simp[Hj,SP.need,Av,he,O,F,hn2,G]),J⟩) ?_;rintro⟨nd2,and2,cnd2⟩ Q;dsimp only at Q ⊢;refine Aa 1 (λ_=>Am [0,2] C<|Ah C<|Aa 2 (λb4=>λ_=>Am [1,3] C<|Ah C<|CJ 0 C C<|Cj (λw f=>AJ w f (D.cons (nd2.one)) (some ⟨b4,0,none⟩) 2) (λw f d=>BJ.toF (BJ.cons' d.f1 (BJ.cons' d.f0 (show BJ _ _ .nil [] from C))) d.b0 (Nat.le_refl _)) AJ.mono<|Db C C (eC Bm C C) (λw f d=>A7 _ t _ _ _ _ _ _)<|Aa 1 (λ_=>?_)));exact AS [0,2] DG C (λ_ h=>.tail _ h)<|Ah C<|Af 2 [1] (y<|λ_=>AS [0,2] DG C (λ_ h=>.tail _ h)<|Bp<|Aa 2 (λ_=>AK (λw f d=>A3 C (Ac C Bb d.k1 C)) (λw f d=>⟨(⟨18,t.ln,t.co,[],0,(D.cons (nd2.one))⟩,(some ⟨b4,0,none⟩),2),f,C,(by simp[Hj,SP.need,Av,O,F,hn2,G,Q]),d.exm,⟨d.f0,tQ⟩⟩)))
 refine AN 5 (λ_=>Ah C<|AZ C C (eC AG C C) (λW f2 he J=>⟨C,_,f2,C,(by simp[Hj,SP.need,O]),J⟩) λF=>?_)
 cases F
 refine Ca [0,1] Aj (.rd 0 (.rd 1 (.br 2 (rd [3,4,5,6,7,8] (.br 9 .fin .fin)) .fin))) C kR<|Bh 2 [1,1] (y<|y<|λ_=>Ah C<|Db C C (eC Hd C C) (λw f d=>Cp _ t _)<|Aa 1 (λ_=>Am [0,1] C<|AN 1 (λ_=>JG 7 C (λO=>?_) (λO=>?_))));exact Bh 5 [1] (y<|λ_=>Ah C<|AZ C C (eC AG C C) (λW f2 he J=>⟨C,_,f2,C,(by exact WB U),J⟩) λF=>absurd (by simp at F;omega) U);refine AN 5 (λ_=>Ah C<|AZ C C (eC AG C C) (λW f2 he J=>⟨C,_,f2,C,(by exact WB U),J⟩) λF=>?_)
 cases F
theorem Mo:∀n,∀(w:wO)(f:Fq)(_:Vl w f)(_:Da w f)(t:AB)(k:Fo)(a:oA)(c:Nat),Gx n t k→Cv w f k a c→BB prog 82 #[fV t a k.len c] w (HM (BY (n+1) t k) w f) (Iu 108 (BY (n+1) t k) w f)
 |0=>S7 0 (λ_ d=>by cases d) (λ_ d=>by cases d)
 |n+1=>S7 (n+1) (λn' h=>by cases h;exact Mo n) (λn' h=>by cases h;exact Yd n (Mo n))
theorem Sx(n:Nat)(ih:∀n',n=n'+1→∀ (w:wO) (f:Fq) (_:Vl w f) (_:Da w f) (t:AB) (k:Fo) (a:oA) (c:Nat),Gx n' t k→Cv w f k a c→BB prog 81 #[fV t a k.len c] w (HM (Dz (n'+1) t k) w f) (Iu 108 (Dz (n'+1) t k) w f))(w:wO)(f:Fq)(hv:Vl w f)(hJ:Da w f)(t:AB)(k:Fo)(ka:oA)(kc:Nat)(hp:Gx n t k)(hL:Cv w f k ka kc) :
  BB prog 81 #[fV t ka k.len kc] w (HM (Dz (n+1) t k) w f) (Iu 108 (Dz (n+1) t k) w f):=by
 refine OJ (X:=X0 w f) (H:=[]) (R:=[]) (B:=[]) (Fs:=[λw f=>Cv w f k ka kc,λw f=>Da w f]) (f:=f) func81 C C C (AR hv ⟨hL,hJ,tQ⟩ ⟨Cv.mono,Da.mono,tQ⟩)<|Af 10 [1] (λb1=>λb2=>y<|λ_=>Db C C (eC Hd C C) (λw f d=>Cp _ t _)<|Aa 3 (λ_=>A6 11 C C (λO=>?_) (λO=>?_)));replace O:=Ee O;refine Af 5 [1] (y<|λ_=>Db C C (eC iD C C) (λw f d=>J2 _ t _ hp.1.1)<|Aa 2 (λ_=>A6 13 C C (λQ=>?_) (λQ=>?_)));exact Af 7 [1,1] (y<|y<|λ_=>Db C C (eC Bm C C) (λw f d=>A7 _ t _ _ _ _ _ _)<|Af 6 [0] (y<|λ_=>AK (λw f d=>A3 C (Ac C Bb d.k0 C)) (λw f d=>⟨(⟨31,t.ln,t.co,t.tx,0,.nil⟩,none,0),f,C,(by unfold Dz;simp[SP.need,Av,O,Q]),d.exm,⟨⟨Nat.zero_le _,.inl C⟩,tQ⟩⟩)));refine Aa 4 (λ_=>Ca [0,1] Aj (.rd 0 (.rd 1 (.br 2 (.br 3 .fin .fin) .fin))) C kR<|Bh 2 [1,1] (y<|y<|λ_=>Ah C<|Db C C (eC UX C C) (λw f d=>FX _ (Da.gl d.f1) t _ hp.1.1 hp.1.2)<|Aa 1 (λ_=>Am [0,1] C<|Ah C<|AZ C C (eC AG C C) (λZ f2 he U=>⟨C,_,f2,C,(by unfold Dz;simp[SP.need,Av,he,O,Q]),U⟩) λJ=>Aa 1 (λ_=>?_))));exact Am [0,1] C<|Bp<|Af 7 [1,1] (y<|y<|λ_=>Db C C (eC Bm C C) (λw f d=>A7 _ t _ _ _ _ _ _)<|Af 5 [0] (y<|λ_=>AK (λw f d=>A3 C (Ac C Bb d.k0 C)) (λw f d=>⟨(⟨32,t.ln,t.co,t.tx,0,.nil⟩,none,0),f,C,(by unfold Dz;simp[SP.need,Av,O,Q,J]),d.exm,⟨⟨Nat.zero_le _,.inl C⟩,tQ⟩⟩)));replace O:=Eh O;refine Af 10 [1,1] (y<|y<|λ_=>AZ C C (eC AG C C) (λZ f2 he U=>⟨C,_,f2,C,(by obtain rfl:k=.nil:=Fo.len0 (by have:=dF he;omega);unfold Dz;simp[O]),U⟩) λJ=>Aa 3 (λ_=>?_));obtain⟨h,hk,r,rfl⟩:=Fo.cases1 k (by have:=dT J;omega);have hp0:=hp;obtain⟨hto,hko,hkl,hdp⟩:=hp;have hkl2:r.len+1≤100000:=hkl;obtain⟨n,rfl⟩:∃q,n=q+1:=by cases n with|zero=>exact absurd hdp (by simp[Fo.deep])|succ q=>exact⟨q,C⟩
 refine xL 0 C<|Ng 1 C<|KO 0 C ?_;rintro⟨eb,eo,hka,hkc⟩ rfl;refine Ca [0,1] Aj (rd [0,1,2,3,4,5,6] (.br 7 (.br 8 (.rd 9 .fin) .fin) .fin)) C kR<|Bh 6 [1,100,0,1] (y<|aI (by first|(simp only[Fo.len];omega)|(dsimp only;omega)|omega)<|y2<|y<|λ_=>CP C C C (λw hK=>GZ C C C Im)<|Ah C<|Aa 2 (λb3=>λ_=>Am [1,2] C<|Ah C<|Af 2 [0] (y<|λ_=>Am [1,2] C<|AN 1 (λ_=>?_))));refine Bp<|Af 13 [0] (y<|λ_=>Db C C (eC Is C C) (λw f d=>Di _ h _ _)<|Aa 3 (λ_=>A6 51 C C (λQ=>?_) (λQ=>?_)));refine Af 6 [2] (y<|λ_=>AZ C C (eC AG C C) (λZ f2 he U=>⟨C,_,f2,C,(by unfold Dz;simp[SP.need,Av,he,O,J,Q]),U⟩) λL=>Aa 5 (λ_=>?_));refine JY C C (eC CV C C) (λw f d=>BG 81 KC (Dz (n+1)) (Gx n) (λw f hv hJ t k a c hd hT=>ih n C w f hv hJ t k a c hd hT) w f d.vl d.f5 r _ _ (Dg hp0).2 oM d.f3) (λ_=>⟨AJ.mono,tQ⟩) (λe Z f2 he U=>⟨C,e,f2,C,(by unfold Dz;simp[SP.need,Av,he,O,J,Q,L]),U⟩) ?_;rintro⟨⟨F,Y⟩,K,G⟩ D;dsimp only at D ⊢;refine Aa 4 (λ_=>?_);have hnl:=DL D;have hge:2≤r.len:=by have:=dT L;omega
 obtain⟨q,hq⟩:=Nd.getN (r.len-1) F oM;refine Ja (α:=Nat×Nat×oA×Nat) (λx=>K=some ⟨x.1,x.2.1,none⟩) (λx=>[⟨x.1,x.2.1+((r.len:Int)-1).toNat*6,Kd q.op q.ln q.co q.tx q.nm x.2.2.1 q.kids.len x.2.2.2⟩]) (λx=>[λw f=>AJ w f q.kids x.2.2.1 x.2.2.2]) (λw f d=>let ⟨b,off,ka,kc,O,Q,W⟩:=AJ.elem d.f0 hq;⟨(b,off,ka,kc),O,(λe he=>by cases he with|head=>(rw[show ((r.len:Int)-1).toNat=r.len-1 by omega];exact Q)|tail _ h=>cases h),AA.mem ⟨W,tQ⟩⟩) (λx=>Ap.mem ⟨AJ.mono,tQ⟩) ?_;rintro⟨eb5,eo5,qa,qc⟩ rfl;refine Af 19 [100,0,0] (aI ⟨oM,oM⟩<|aI (by first|(simp only[Fo.len];omega)|(dsimp only;omega)|omega)<|y2<|λb4=>y<|aI ⟨oM,oM⟩<|λ_=>?_);refine D6 (α:=Nat×N×oA×Nat) (λx=>x.1) (λx=>x.1+1≤F.len∧FZ t (F.drop x.1)=some x.2.1) (λx=>(E5 1 (pB b1) 2 (pB b2) 6 (.slice (some (⟨eb5,eo5,none⟩:Addr)) F.len G) 7 (pB b4) 8 (iV ((x.1:Int)-1)))) (λx=>X0 w f) (λx=>[⟨b4,[iV x.2.1.op,iV x.2.1.ln,iV x.2.1.co,S x.2.1.tx,iV x.2.1.nm,.slice x.2.2.1 x.2.1.kids.len x.2.2.2],121,true⟩,⟨b2,zN,121,true⟩,⟨b1,[iV t.k,iV t.ln,iV t.co,iV t.nm,S t.tx,.slice (some (⟨eb,eo,none⟩:Addr)) (Fo.cons h hk r).len kc],164,true⟩]) (λx=>[]) (λx=>[]) (λx=>[λw f=>AJ w f F (some (⟨eb5,eo5,none⟩:Addr)) G,λw f=>AJ w f x.2.1.kids x.2.2.1 x.2.2.2]) (r.len-1,q,qa,qc) ⟨show r.len-1+1≤F.len by omega,TC hq oM⟩ (lu5 C C C C (Eq.trans (b:=some (Value.int .i64 ((r.len:Int)-2))) C (by dsimp only;rw[show ((r.len:Int)-2)=((r.len-1:Nat):Int)-1 by omega]))) (λw f d=>d.less (sK (sD (sK (sK sZ)))) sR nE (mR [1,0])) ?_;rintro⟨j,o,oa,oc⟩ ⟨hj,har⟩;dsimp only at hj har ⊢;refine Aa 7 (λ_=>A6 68 C C (λW=>?_) (λW=>?_));refine Aa 5 (λ_=>?_);obtain⟨j,rfl⟩:∃q,j=q+1:=⟨j-1,by have:=dT W;omega⟩;obtain⟨q2,hq2⟩:=Nd.getN j F oM;refine Ja (α:=Nat×Nat×oA×Nat) (λx=>(some (⟨eb5,eo5,none⟩:Addr))=some ⟨x.1,x.2.1,none⟩) (λx=>[⟨x.1,x.2.1+(((j+1:Nat):Int)-1).toNat*6,Kd q2.op q2.ln q2.co q2.tx q2.nm x.2.2.1 q2.kids.len x.2.2.2⟩]) (λx=>[λw f=>AJ w f q2.kids x.2.2.1 x.2.2.2]) (λw f d=>let ⟨b,off,ka,kc,O,Q,W⟩:=AJ.elem d.f0 hq2;⟨(b,off,ka,kc),O,(λe he=>by cases he with|head=>(rw[show (((j+1:Nat):Int)-1).toNat=j by omega];exact Q)|tail _ h=>cases h),AA.mem ⟨W,tQ⟩⟩) (λx=>Ap.mem ⟨AJ.mono,tQ⟩) ?_;rintro⟨eb6,eo6,qa2,qc2⟩ h44;obtain⟨rfl,rfl⟩:eb5=eb6∧eo5=eo6:=by cases h44;exact⟨C,C⟩
 refine Ca [1,2] Aj (rd [0,1,2,3,4] (.br 5 (.br 6 (.br 7 (.br 8 .fin .fin) .fin) .fin) .fin)) C kR<|Bh 5 [1,100,0] (y<|aI (by first|(simp only[Fo.len];omega)|(dsimp only;omega)|omega)<|y2<|λ_=>Ah C<|Af 2 [0] (y<|λ_=>Am [1,2] C<|Ah C<|Aa 2 (λb5=>λ_=>Am [2,3] C<|Ah C<|CJ 0 C C ?_)));exact Cj (λw f=>AJ w f (q2.cons (o.one)) (some ⟨b5,0,none⟩) 2) (λw f d=>BJ.toF (BJ.cons' d.f0 (BJ.cons' d.f2 (show BJ _ _ .nil [] from C))) d.b0 (Nat.le_refl _)) AJ.mono<|Db C C (eC Bm C C) (λw f d=>A7 _ t _ _ _ _ _ _)<|Aa 1 (λ_=>AS [1,2] DG C (λ_ h=>.tail _ h)<|Ah C<|Af 2 [0] (y<|λ_=>AS [1,2] DG C (λ_ h=>.tail _ h)<|Bp<|Aa 7 (aI ⟨oM,oM⟩<|λ_=>C0 ((j,Av t 32 [45,62] (q2.cons o.one),(some ⟨b5,0,none⟩),2)) (Nat.lt_succ_self _) ⟨show j+1≤F.len by omega,T4 hq2 har⟩ (lu5 C C C C (Eq.trans (b:=some (Value.int .i64 ((((j+1:Nat):Int)-1)-1))) C (by dsimp only;rw[show ((((j+1:Nat):Int)-1)-1)=(j:Int)-1 by omega]))) (λw f d=>⟨_,d.less (sK (sK (sK sZ))) sR nE (mR [2,0])⟩))));refine Aa 3 (λ_=>Dl<|Af 11 [0,1] (y<|y<|λ_=>?_));obtain rfl:j=0:=by have:=dF W;omega
 have har2:FZ t F=some o:=har;exact AK (λw f d=>A3 C (Ac C Bb d.k1 C)) (λw f d=>⟨(o,oa,oc),f,C,(by unfold Dz;simp[SP.need,O,J,Q,L,D,har2]),d.exm,⟨d.f1,tQ⟩⟩);refine Af 4 [0] (y<|λ_=>Db C C (eC Is C C) (λw f d=>Di _ h _ _)<|Aa 3 (λ_=>A6 80 C C (λW=>?_) (λW=>?_)));refine Aa 1 (λ_=>Ca [0,1,2] Aj (.rd 0 (.rd 1 (.br 2 (.br 3 .fin .fin) .fin))) C kR<|Bh 2 [2] (y<|λ_=>Ah C<|Db C C (eC Gv C C) (λw f d=>CT _ _ _ _)<|Aa 1 (λ_=>Am [0,1,2] C<|Ah C<|AZ C C (eC AG C C) (λZ f2 he U=>⟨C,_,f2,C,(by unfold Dz;simp[SP.need,Av,he,O,J,Q,W]),U⟩) λL=>Aa 1 (λ_=>?_))));refine Am [0,1,2] C<|Bp<|Aa 3 (λ_=>Ca [0,2] Aj (rd [0,1,2,3,4] (.br 5 (.br 6 (.br 7 .fin .fin) .fin) .fin)) C kR<|Bh 5 [1,0] (y<|y<|λ_=>Ah C ?_));refine JY C C (eC CV C C) (λw f d=>BG 81 KC (Dz (n+1)) (Gx n) (λw f hv hJ t k a c hd hT=>ih n C w f hv hJ t k a c hd hT) w f d.vl d.f5 r _ _ (Dg hp0).2 oM d.f3) (λ_=>⟨AJ.mono,tQ⟩) (λe Z f2 he U=>⟨C,e,f2,C,(by unfold Dz;simp[SP.need,Av,he,O,J,Q,W,L]),U⟩) ?_;rintro⟨⟨F,Y⟩,K,G⟩ D;dsimp only at D ⊢;refine Aa 1 (λ_=>Am [0,2] C<|Ah C<|Db C C (eC Bm C C) (λw f d=>A7 _ t _ _ _ _ _ _)<|Aa 1 (λ_=>Am [0,2] C<|Ah C<|Af 2 [1] (y<|λ_=>Am [0,2] C<|Bp ?_)));exact Aa 2 (λ_=>AK (λw f d=>A3 C (Ac C Bb d.k1 C)) (λw f d=>⟨(⟨32,t.ln,t.co,h.tx,0,F⟩,K,G),f,C,(by unfold Dz;simp[SP.need,Av,O,J,Q,W,L,D]),d.exm,⟨d.f0,tQ⟩⟩));refine Af 4 [0] (y<|λ_=>Db C C (eC Is C C) (λw f d=>Di _ h _ _)<|Aa 1 (λ_=>A6 90 C C (λh4=>?_) (λh4=>?_)));refine Af 11 [2] (y<|λ_=>AZ C C (eC AG C C) (λZ f2 he U=>⟨C,_,f2,C,(by unfold Dz;simp[SP.need,Av,he,O,J,Q,W,h4]),U⟩) λL=>Aa 4 (λ_=>Ca [0,2] Aj (rd [0,1,2,3,4] (.br 5 (.br 6 (.br 7 .fin .fin) .fin) .fin)) C kR<|Bh 5 [1,0] (y<|y<|λ_=>Ah C ?_)));refine JY C C (eC CV C C) (λw f d=>BG 81 KC (Dz (n+1)) (Gx n) (λw f hv hJ t k a c hd hT=>ih n C w f hv hJ t k a c hd hT) w f d.vl d.f5 r _ _ (Dg hp0).2 oM d.f3) (λ_=>⟨AJ.mono,tQ⟩) (λe Z f2 he U=>⟨C,e,f2,C,(by unfold Dz;simp[SP.need,Av,he,O,J,Q,W,h4,L]),U⟩) ?_;rintro⟨⟨F,Y⟩,K,G⟩ D;dsimp only at D ⊢;refine Aa 1 (λ_=>Am [0,2] C<|Ah C<|Db C C (eC Bm C C) (λw f d=>A7 _ t _ _ _ _ _ _)<|Aa 1 (λ_=>Am [0,2] C<|Ah C<|Af 2 [1] (y<|λ_=>Am [0,2] C<|Bp ?_)));exact Aa 2 (λ_=>AK (λw f d=>A3 C (Ac C Bb d.k1 C)) (λw f d=>⟨(⟨32,t.ln,t.co,h.tx,0,F⟩,K,G),f,C,(by unfold Dz;simp[SP.need,Av,O,J,Q,W,h4,L,D]),d.exm,⟨d.f0,tQ⟩⟩));refine Af 1 [0] (y<|λ_=>Db C C (eC Is C C) (λw f d=>Di _ h _ _)<|Aa 4 (λ_=>A6 87 C C (λh5=>?_) (λh5=>?_)))
 refine Af 5 [2] (y<|λ_=>AZ C C (eC AG C C) (λZ f2 he U=>⟨C,_,f2,C,(by unfold Dz;simp[SP.need,Av,he,O,J,Q,W,h4,h5]),U⟩) λL=>Aa 4 (λ_=>Ca [0,2] Aj (rd [0,1,2,3,4] (.br 5 (.br 6 (.br 7 .fin .fin) .fin) .fin)) C kR<|Bh 5 [1,0] (y<|y<|λ_=>Ah C ?_)));refine JY C C (eC CV C C) (λw f d=>BG 81 KC (Dz (n+1)) (Gx n) (λw f hv hJ t k a c hd hT=>ih n C w f hv hJ t k a c hd hT) w f d.vl d.f5 r _ _ (Dg hp0).2 oM d.f3) (λ_=>⟨AJ.mono,tQ⟩) (λe Z f2 he U=>⟨C,e,f2,C,(by unfold Dz;simp[SP.need,Av,he,O,J,Q,W,h4,h5,L]),U⟩) ?_;rintro⟨⟨F,Y⟩,K,G⟩ D;dsimp only at D ⊢;refine Aa 1 (λ_=>Am [0,2] C<|Ah C<|Db C C (eC Bm C C) (λw f d=>A7 _ t _ _ _ _ _ _)<|Aa 1 (λ_=>Am [0,2] C<|Ah C<|Af 2 [1] (y<|λ_=>Am [0,2] C<|Bp ?_)));exact Aa 2 (λ_=>AK (λw f d=>A3 C (Ac C Bb d.k1 C)) (λw f d=>⟨(⟨32,t.ln,t.co,h.tx,0,F⟩,K,G),f,C,(by unfold Dz;simp[SP.need,Av,O,J,Q,W,h4,h5,L,D]),d.exm,⟨d.f0,tQ⟩⟩));refine Aa 1 (λ_=>Ca [0,1,2] Aj (.rd 0 (.rd 1 (.br 2 (.rd 3 (.rd 4 (.br 5 (.rd 6 (.br 7 .fin .fin)) .fin))) .fin))) C kR<|Bh 2 [2,0] (y<|y<|λ_=>Ah C<|Db C C (eC UX C C) (λw f d=>FX _ (Da.gl d.f5) h _ hko.1.1 hko.1.2)<|Aa 1 (λ_=>Am [0,1,2] C<|AN 1 (λ_=>JG 46 C (λh6=>?_) (λh6=>?_)))));refine AN 1 (λ_=>Ah C<|Db C C (eC Gv C C) (λw f d=>CT _ _ _ _)<|Aa 1 (λ_=>Am [0,1,2] C<|AN 1 (λ_=>Ah C<|AZ C C (eC AG C C) (λZ f2 he U=>⟨C,_,f2,C,(by unfold Dz;simp[SP.need,Av,he,O,J,Q,W,h4,h5,h6]),U⟩) λL=>Aa 1 (λ_=>Am [0,1,2] C ?_))));refine Bp<|Aa 3 (λ_=>Ca [0,2] Aj (rd [0,1,2,3,4] (.br 5 (.br 6 (.br 7 .fin .fin) .fin) .fin)) C kR<|Bh 5 [1,0] (y<|y<|λ_=>Ah C ?_));refine JY C C (eC CV C C) (λw f d=>BG 81 KC (Dz (n+1)) (Gx n) (λw f hv hJ t k a c hd hT=>ih n C w f hv hJ t k a c hd hT) w f d.vl d.f5 r _ _ (Dg hp0).2 oM d.f3) (λ_=>⟨AJ.mono,tQ⟩) (λe Z f2 he U=>⟨C,e,f2,C,(by unfold Dz;simp[SP.need,Av,he,O,J,Q,W,h4,h5,h6,L]),U⟩) ?_;rintro⟨⟨F,Y⟩,K,G⟩ D;dsimp only at D ⊢;refine Aa 1 (λ_=>Am [0,2] C<|Ah C<|Db C C (eC Bm C C) (λw f d=>A7 _ t _ _ _ _ _ _)<|Aa 1 (λ_=>Am [0,2] C<|Ah C<|Af 2 [1] (y<|λ_=>Am [0,2] C<|Bp ?_)));exact Aa 2 (λ_=>AK (λw f d=>A3 C (Ac C Bb d.k1 C)) (λw f d=>⟨(⟨32,t.ln,t.co,h.tx,0,F⟩,K,G),f,C,(by unfold Dz;simp[SP.need,Av,O,J,Q,W,h4,h5,h6,L,D]),d.exm,⟨d.f0,tQ⟩⟩));refine AN 1 (λ_=>Ah C<|Aa 2 (λ_=>Am [0,1,2] C<|AN 1 (λ_=>Ah C<|AZ C C (eC AG C C) (λZ f2 he U=>⟨C,_,f2,C,(by unfold Dz;simp[SP.need,Av,he,O,J,Q,W,h4,h5,h6]),U⟩) λL=>?_)))
 cases L
theorem LS:∀n,∀(w:wO)(f:Fq)(_:Vl w f)(_:Da w f)(t:AB)(k:Fo)(a:oA)(c:Nat),Gx n t k→Cv w f k a c→BB prog 81 #[fV t a k.len c] w (HM (Dz (n+1) t k) w f) (Iu 108 (Dz (n+1) t k) w f)
 |0=>Sx 0 (λ_ d=>by cases d)
 |n+1=>Sx (n+1) (λn' h=>by cases h;exact LS n)
theorem UZ(n:Nat)(w:wO)(f:Fq)(Y:Vl w f)(Z:Da w f)(t:AB)(k:Fo)(ka:oA)(kc:Nat)(hp:Gx (n+1) t k)(hL:Cv w f k ka kc) :
  BB prog 79 #[fV t ka k.len kc] w (HM (IE (n+1) t k) w f) (Iu 108 (IE (n+1) t k) w f):=by
 refine OJ (X:=X0 w f) (H:=[]) (R:=[]) (B:=[]) (Fs:=[λw f=>Cv w f k ka kc,λw f=>Da w f]) (f:=f) func79 C C C (AR Y ⟨hL,Z,tQ⟩ ⟨Cv.mono,Da.mono,tQ⟩)<|Aa 7 (λb1=>λb2=>λ_=>?_)
 ·
  rcases Fo.nc k with rfl|⟨h,hk,r,rfl⟩
  refine Ca [0,1] Aj (.rd 0 (.rd 1 (.br 2 (rd [3,4,5,6,7,8,9,10,11,12,13,14,15,16,17,18,19,20,21,22,23] (.br 24 .fin .fin)) .fin))) C kR<|Bh 2 [1,1] (y<|y<|λ_=>Ah C<|Db C C (eC Hd C C) (λw f D=>Cp _ t _)<|Aa 1 (λ_=>Am [0,1] C<|AN 1 (λ_=>JG 6 C (λK=>?_) (λK=>?_))));refine Bh 6 [1] (y<|λ_=>JG 12 C (λG=>?_) (λG=>?_));simp[Fo.len] at G;refine AN 14 (λ_=>?_)
  rotate_left
  refine AN 20 (λ_=>?_)
  rotate_left
  have hkl:=hp.2.2.1;have hkl2:r.len+1≤100000:=hkl;refine xL 0 C<|Ng 1 C<|KO 0 C ?_;rintro⟨eb,eo,hka,hkc⟩ rfl;refine Ca [0,1] Aj (.rd 0 (.rd 1 (.br 2 (rd [3,4,5,6,7,8,9,10,11,12,13,14,15,16,17,18,19,20,21,22,23] (.br 24 .fin .fin)) .fin))) C kR<|Bh 2 [1,1] (y<|y<|λ_=>Ah C<|Db C C (eC Hd C C) (λw f D=>Cp _ t _)<|Aa 1 (λ_=>Am [0,1] C<|AN 1 (λ_=>JG 6 C (λK=>?_) (λK=>?_))));refine Bh 6 [1] (y<|λ_=>JG 12 C (λG=>?_) (λG=>?_));refine Bh 9 [1,100,0] (y<|aI (by first|(simp only[Fo.len];omega)|omega)<|y2<|λ_=>JG 21 C (λQ=>?_) (λQ=>?_));refine Bh 5 [1] (y<|λ_=>Ah C<|AZ C C (eC AG C C) (λW f2 he J=>⟨C,_,f2,C,(by simp[IE,SP.need,Av,he,K,G,Q]),J⟩) λd=>Aa 1 (λ_=>Am [0,1] C<|Bp<|Aa 2 (λ_=>Ca [1] Aj (rd [0,1,2,3,4,5,6,7,8,9] (.br 10 (.br 11 (.br 12 .fin .fin) .fin) .fin)) C kR<|Bh 9 [0,0,100,4,0] (y<|y<|aI (by first|(simp only[Fo.len];omega)|omega)<|y2<|y<|λ_=>CP C C C (λw hK=>GZ C C C Im) ?_))));refine Ah C ?_;refine JY C C (eC CV C C) (λw f D=>BG 81 KC (Dz (n+1)) (Gx n) (λw f Y Z t k a c hd hT=>LS n w f Y Z t k a c hd hT) w f D.vl D.f5 r _ _ (Dg hp).2 oM D.f3) (λ_=>⟨AJ.mono,tQ⟩) (λe W f2 he J=>⟨C,e,f2,C,(by simp[IE,SP.need,Av,he,K,G,Q,d]),J⟩) ?_;rintro⟨⟨U,xnds1⟩,L,O⟩ F;dsimp only at F ⊢;refine Aa 1 (λ_=>Am [1] C<|Ah C<|Db C C (eC Bm C C) (λw f D=>A7 _ t _ _ _ _ _ _)<|Aa 1 (λ_=>Am [1] C<|Ah C<|Af 2 [0] (y<|λ_=>Am [1] C<|Bp ?_)));exact Aa 2 (λ_=>AK (λw f D=>A3 C (Ac C Bb D.k0 C)) (λw f D=>⟨(⟨42,t.ln,t.co,h.tx,0,U⟩,L,O),f,C,(by simp[IE,SP.need,Av,K,G,Q,d,F]),D.exm,⟨D.f0,tQ⟩⟩));refine AN 5 (λ_=>Ah C<|AZ C C (eC AG C C) (λW f2 he J=>⟨C,_,f2,C,(by simp[IE,SP.need,Av,he,K,G,Q]),J⟩) λd=>?_)
  cases d
  have h9:=dF G;simp only[Fo.len] at h9;omega;refine AN 20 (λ_=>Ah C<|AZ C C (eC AG C C) (λW f2 he J=>⟨C,_,f2,C,(by simp[IE,SP.need,Av,he,K]),J⟩) λd=>?_)
  cases d
  all_goals
   refine Ah C<|AZ C C (eC AG C C) (λW f2 he J=>⟨C,_,f2,C,(by simp[IE]),J⟩) λd=>?_
   cases d

set_option maxHeartbeats 1000000 in
theorem Yb(n:Nat)(w:wO)(f:Fq)(hv:Vl w f)(hJ:Da w f)(t:AB)(k:Fo)(ka:oA)(kc:Nat)(hp:Gx (n+1) t k)(hL:Cv w f k ka kc) :
  BB prog 34 #[fV t ka k.len kc] w (HM (CO (n+1) t k) w f) (Iu 108 (CO (n+1) t k) w f):=by
 have ihx:=Mo n;refine OJ (X:=X0 w f) (H:=[]) (R:=[]) (B:=[]) (Fs:=[λw f=>Cv w f k ka kc,λw f=>Da w f]) (f:=f) func34 C C C (AR hv ⟨hL,hJ,tQ⟩ ⟨Cv.mono,Da.mono,tQ⟩)<|Aa 7 (λb1=>λb2=>λ_=>?_);rcases Fo.nc k with rfl|⟨h,hk,r,rfl⟩
 refine Ca [0,1] Aj (.rd 0 (.rd 1 (.br 2 (rd [3,4,5,6,7,8,9,10,11,12,13] (.br 14 (.rd 15 (.br 16 .fin .fin)) .fin)) .fin))) C kR<|Bh 2 [1,1] (y<|y<|λ_=>Ah C<|Db C C (eC Hd C C) (λw f d=>Cp _ t _)<|Aa 1 (λ_=>Am [0,1] C<|AN 1 (λ_=>?_)))
 ·
  refine JG 11 C (λW=>?_) (λW=>?_);refine Bh 6 [1] (y<|λ_=>JG 17 C (λQ=>?_) (λQ=>?_));simp[Fo.len] at Q;refine AN 4 (λ_=>?_)
  rotate_left
  refine AN 10 (λ_=>?_)
  all_goals
   refine Ah C<|Aa 2 (λ_=>Am [0,1] C<|AN 1 (λ_=>Ah C<|AZ C C (eC AG C C) (λZ f2 he G=>⟨C,_,f2,C,(by simp[CO]),G⟩) λJ=>?_))
   cases J
 have hkl:=hp.2.2.1;have hkl2:r.len+1≤100000:=hkl;have F:=(Dg hp).2;refine xL 0 C<|Ng 1 C<|KO 0 C ?_;rintro⟨eb,eo,hka,hkc⟩ rfl;refine Ca [0,1] Aj (.rd 0 (.rd 1 (.br 2 (rd [3,4,5,6,7,8,9,10,11,12,13] (.br 14 (.rd 15 (.br 16 .fin .fin)) .fin)) .fin))) C kR<|Bh 2 [1,1] (y<|y<|λ_=>Ah C<|Db C C (eC Hd C C) (λw f d=>Cp _ t _)<|Aa 1 (λ_=>Am [0,1] C<|AN 1 (λ_=>JG 11 C (λW=>?_) (λW=>?_))));refine Bh 6 [1] (y<|λ_=>JG 17 C (λQ=>?_) (λQ=>?_));refine Bh 4 [1,100,0] (y<|aI (by first|(simp only[Fo.len];omega)|(dsimp only;omega)|omega)<|y2<|λ_=>Ah C<|Db C C (eC cT C C) (λw f d=>FG _ h _)<|Aa 1 (λ_=>Am [0,1] C<|AN 1 (λ_=>Ah C<|AZ C C (eC AG C C) (λZ f2 he G=>⟨C,_,f2,C,(by simp[CO,SP.need,Av,he,W,Q]),G⟩) λJ=>Aa 1 (λ_=>Am [0,1] C ?_))));refine Bp<|Af 5 [1] (y<|λ_=>Cz C C (λw f d=>GZ C C C Im)<|Aa 4 (λ_=>?_));generalize hla:E1 (some (⟨eb,eo,none⟩:Addr)) kc 6=la;refine Af 24 [1,100,4] (y<|aI (by first|(simp only[Fo.len];omega)|(dsimp only;omega)|omega)<|y2<|λ_=>A6 36 C C (λh3=>?_) (λh3=>?_));refine Aa 2 (λ_=>?_);rcases Fo.most r with ⟨a,ak,b,bk,c,ck,r2,rfl⟩|U
 refine IF (p:=(Fo.cons a ak (.cons b bk (.cons c ck r2))).len≤kc-1) (λw f d=>d.f3.1) λhcap=>?_;have hcap2:r2.len+3≤kc-1:=hcap;have hkl3:r2.len+3+1≤100000:=hkl2;have hbl:bk.len≤100000:=F.2.1.2.2.1;refine Ng 3 C<|KO 0 C ?_;rintro⟨eb0,eo0,k0a,k0c⟩ rfl;refine Qc 1 C ?_;rintro⟨k1a,k1c⟩;refine Ca [0,1] Aj (rd [0,1,2,3,4,5,6] (.br 7 (rd [8,9,10,11,12] (.br 13 (rd [14,15,16,17,18,19,20,21,22] (.br 23 .fin .fin)) .fin)) .fin)) C kR<|Bh 4 [1] (y<|λ_=>JG 41 C (λO=>?_) (λO=>?_));refine Bh 3 [101,0] (aI (by first|(simp only[Fo.len];omega)|(dsimp only;omega)|omega)<|y2<|λ_=>Ah C<|Db C C (eC UX C C) (λw f d=>FX _ (Da.gl d.f10) a _ F.1.1.1 F.1.1.2)<|Aa 1 (λ_=>Am [0,1] C<|AN 2 (λ_=>JG 47 C (λL=>?_) (λL=>?_))));refine Bh 3 [100,0] (aI (by first|(simp only[Fo.len];omega)|(dsimp only;omega)|omega)<|y2<|λ_=>Ah C<|Db C C (eC Hd C C) (λw f d=>Cp _ b _)<|Aa 1 (λ_=>Am [0,1] C<|AN 2 (λ_=>JG 53 C (λY=>?_) (λY=>?_))));refine Bh 7 [100,5] (aI (by first|(simp only[Fo.len];omega)|(dsimp only;omega)|omega)<|y2<|λ_=>Ah C<|AZ C C (eC AG C C) (λZ f2 he G=>⟨C,_,f2,C,(by simp[CO,SP.need,Av,he,W,Q,J,h3,O,L,Y]),G⟩) λD=>Aa 1 (λ_=>Am [0,1] C<|Bp<|Af 18 [100,5] (aI (by first|(simp only[Fo.len];omega)|(dsimp only;omega)|omega)<|y2<|λ_=>Cj (λw f=>Cv w f (.cons c ck r2) (some ⟨eb0,eo0+2*6,none⟩) (kc-1-2)) (λw f d=>Dj.toF d.f1 (by show r2.len+1≤_;omega)) Cv.mono<|KR 121 6 ?_)));refine D6 (α:=Nat×Fo×Nd×lV×oA×Nat) (λx=>x.2.1.len) (λx=>x.1+x.2.1.len=bk.len∧x.2.2.1.len=x.1∧(BR bk=match BR x.2.1 with|none=>none|some y=>some (x.2.2.1.app y))∧x.2.1.all (λt _=>t.ok)) (λx=>(E7 1 (pB b1) 2 (pB b2) 3 (.slice (some (⟨eb0,eo0,none⟩:Addr)) (Fo.cons a ak (.cons b bk (.cons c ck r2))).len (kc-1)) 5 (.slice x.2.2.2.2.1 x.1 x.2.2.2.2.2) 65 (.slice k1a bk.len k1c) 66 (iV (bk.len:Int)) 67 (iV (x.1:Int)))) (λx=>X0 w f) (λx=>[⟨b2,zN,121,true⟩,⟨b1,[iV t.k,iV t.ln,iV t.co,iV t.nm,S t.tx,.slice (some (⟨eb,eo,none⟩:Addr)) (Fo.cons h hk (Fo.cons a ak (.cons b bk (.cons c ck r2)))).len kc],164,true⟩]) (λx=>[⟨121,6,x.2.2.2.2.1,x.2.2.2.2.2,x.1,x.2.2.2.1⟩]) (λx=>[]) (λx=>[λw f=>Dj w f k1a x.1 x.2.1,λw f=>BJ w f x.2.2.1 x.2.2.2.1,λw f=>Dj w f (some (⟨eb0,eo0,none⟩:Addr)) 0 (Fo.cons a ak (.cons b bk (.cons c ck r2))),λw f=>Cv w f (.cons c ck r2) (some ⟨eb0,eo0+2*6,none⟩) (kc-1-2),λw f=>Da w f]) (0,bk,.nil,[],none,0) ⟨Nat.zero_add _,C,ZJ,Fo.ok.all F.2.1.2.1⟩ lE (λw f d=>d.more (B':=[]) (F':=[λw f=>Dj w f k1a 0 bk,λw f=>BJ w f .nil []]) nE (AA.mem ⟨Cv.at d.f1,C,tQ⟩) (Ap.mem ⟨Dj.mono,BJ.mono,tQ⟩) |>.less (sK (sK sZ)) sR nE (mR [0,1,7,2,13])) ?_;rintro⟨i,q,vs,xs,ra,rc⟩ ⟨hi,hvl,htv,hqo⟩;dsimp only at hi hvl htv hqo ⊢;refine Aa 6 (λ_=>A6 68 C C (λh7=>?_) (λh7=>?_));refine Aa 6 (λ_=>?_);have hil:i<bk.len:=by have:=dT h7;omega
 obtain⟨v,vk,q,rfl⟩:=Fo.cases1 q oM;have hi2:i+(q.len+1)=bk.len:=hi;refine KO 0 C ?_;rintro⟨vb,vo,vka,vkc⟩ rfl;refine Af 8 [100,0,0] (aI (by first|(simp only[Fo.len];omega)|(dsimp only;omega)|omega)<|y2<|λb3=>y<|λ_=>Ca [0,1,2] Aj (.rd 0 (.rd 1 (.br 2 (.br 3 .fin .fin) .fin))) C kR<|Bh 2 [2,0] (y<|y<|λ_=>Ah C<|Db C C (eC iD C C) (λw f d=>J2 _ v _ hqo.1.1)<|Aa 1 (λ_=>Am [0,1,2] C<|Ah C<|AZ C C (eC AG C C) (λZ f2 he G=>⟨C,_,f2,C,(by have h9:=sV htv he;simp[CO,SP.need,h9,W,Q,J,h3,O,L,Y,D]),G⟩) λhn3=>Aa 1 (λ_=>?_))));exact Am [0,1,2] C<|Bp<|Af 7 [0,0] (y<|y<|λ_=>Db C C (eC Bm C C) (λw f d=>A7 _ v _ _ _ _ _ _)<|Aa 1 (λb4=>λ_=>BW 0 0 C C PA C C C C C C C C (λ_ _=>C) oM oM λra2 rc2=>Aa 8 (aI ⟨oM,oM⟩<|λ_=>C0 ((i+1,q,(vs.app (Av v 31 v.tx .nil).one),(xs++Kd 31 v.ln v.co v.tx 0 none 0 0),ra2,rc2)) (show q.len<q.len+1 from Nat.lt_succ_self _) ⟨show i+1+q.len=_ by omega,show (vs.app (Av v 31 v.tx .nil).one).len=i+1 by rw[Nd.app_len,hvl];rfl,nY htv hn3,hqo.2⟩ lE (λw f d=>⟨_,(d.more (B':=[]) (F':=[λw f=>BJ w f (vs.app (Av v 31 v.tx .nil).one) (xs++Kd 31 v.ln v.co v.tx 0 none 0 0)]) nE (AA.mem ⟨BJ.app (BJ.one (k:=.nil) ⟨Nat.zero_le _,.inl C⟩) d.f3,tQ⟩) (Ap.mem ⟨BJ.mono,tQ⟩)).less (sD (sD (sK (sK sZ)))) sR nE (mR [2,0,5,6,7])⟩))));refine Aa 3 (λ_=>Dl<|Aa 3 (λ_=>?_));obtain rfl:q=.nil:=Fo.len0 (by have:=dF h7;omega);have htv2:=sH htv;have hie:i=bk.len:=by have h9:i+0=bk.len:=hi;omega
 subst hvl;refine Qc 2 C ?_;rintro⟨k9a,k9c⟩;refine Ca [1] Aj (rd [0,1,2,3,4,5,6,7,8] (.br 9 (.br 10 (.br 11 (.br 12 .fin .fin) .fin) .fin) .fin)) C kR<|Bh 8 [0,100,4] (y<|aI (by first|(simp only[Fo.len];omega)|(dsimp only;omega)|omega)<|y2<|λ_=>CP C C C (λw hK=>bN (Fo.cons c ck r2).len C C C oM Im)<|Ah C<|YI C C (eC CV C C) (λw f d=>Hb 79 tL (IE (n+1)) (Gx (n+1)) (λw f hv hJ t k a c hd hT=>UZ n w f hv hJ t k a c hd hT) w f d.vl d.f6 (.cons c ck r2) _ _ (Fo.all_imp (λ_ _ h=>Sc h) F.2.2) (by show r2.len+1≤_;omega) d.f5) (λ_=>⟨BJ.mono,tQ⟩) (λe Z f2 he G=>⟨C,e,f2,C,(by simp[CO,SP.need,Av,he,W,Q,J,h3,O,L,Y,D,htv2]),G⟩) ?_);rintro⟨nds1,xnds1⟩ ands1 cnds1 hnds1;dsimp only at hnds1 ⊢;have hnl:=DL hnds1;have hnl2:nds1.len=r2.len+1:=hnl;refine IF (p:=∃rb,ands1=some ⟨rb,0,none⟩) (λw f d=>by rcases (d.row _ (.head _)).2 with ⟨_,_,h9⟩|⟨ob,_,h9,_⟩;(dsimp only at h9;omega);exact⟨ob,h9⟩) λhob=>?_;obtain⟨rb,rfl⟩:=hob;refine nA 0 C C<|Aa 1 (λ_=>AS [1] DG C (λ_ h=>.tail _ h)<|Ah C<|IF (p:=xnds1.length=nds1.len*6∧∀v∈xnds1,v.oneCell'=true) (λw f d=>⟨BJ.len d.f0,BJ.one' d.f0⟩) λ⟨hxl,hx1⟩=>pD 0 0 C C PA C C C C C C hxl hx1 oM (λ_ _=>C) oM oM λands2 cnds2=>Cj (λw f=>BJ w f (vs.app nds1) (xs++xnds1)) (λw f d=>BJ.app d.f0 d.f4) BJ.mono<|Ud (λw f=>AJ w f (vs.app nds1) ands2 cnds2) AJ.mono (λw f d=>K9 d d.f0)<|Aa 1 (λ_=>AS [1] DG C (λ_ h=>.tail _ h) ?_));exact Ah C<|Db C C (eC Bm C C) (λw f d=>A7 _ t _ _ _ _ _ _)<|Aa 1 (λ_=>AS [1] DG C (λ_ h=>.tail _ h)<|Ah C<|Af 2 [0] (y<|λ_=>AS [1] DG C (λ_ h=>.tail _ h)<|Bp<|Aa 4 (λ_=>AK (λw f d=>A3 C (Ac C Bb d.k0 C)) (λw f d=>⟨(⟨41,t.ln,t.co,a.tx,0,(vs.app nds1)⟩,ands2,cnds2),f,(by simp[nV,Nd.app_len,N.one,N.cons,Nd.len,Nat.add_comm]),(by simp[CO,SP.need,Av,W,Q,J,h3,O,L,Y,D,htv2,hnds1]),d.exm,⟨d.f0,tQ⟩⟩))));refine AN 7 (λ_=>Ah C<|AZ C C (eC AG C C) (λZ f2 he G=>⟨C,_,f2,C,(by simp[CO,SP.need,Av,he,W,Q,J,h3,O,L,Y]),G⟩) λD=>?_)
 cases D
 refine AN 3 (λ_=>Ah C<|Aa 2 (λ_=>Am [0,1] C<|AN 9 (λ_=>Ah C<|AZ C C (eC AG C C) (λZ f2 he G=>⟨C,_,f2,C,(by simp[CO,SP.need,Av,he,W,Q,J,h3,O,L]),G⟩) λD=>?_)))
 cases D
 have h9:=dF O;simp only[Fo.len] at h9;omega;refine Ca [0,1] Aj (rd [0,1,2,3,4,5,6] (.br 7 (rd [8,9,10,11,12] (.br 13 (rd [14,15,16,17,18,19,20,21,22] (.br 23 .fin .fin)) .fin)) .fin)) C kR<|Bh 4 [1] (y<|λ_=>JG 41 C (λO=>?_) (λO=>?_));have h9:=dT O;omega;refine AN 3 (λ_=>Ah C<|Aa 2 (λ_=>Am [0,1] C<|AN 5 (λ_=>Ah C<|Aa 2 (λ_=>Am [0,1] C<|AN 9 (λ_=>Ah C ?_)))));refine AZ C C (eC AG C C) (λZ f2 he G=>⟨C,_,f2,C,(by exact mB (beq_iff_eq.1 h3) U),G⟩) λD=>?_
 cases D
 refine Aa 7 (λ_=>A6 96 C C (λO=>?_) (λO=>?_));refine Aa 2 (λ_=>?_);rcases Fo.three r with ⟨a,ak,b,bk,c,ck,rfl⟩|U
 refine Ng 3 C<|KO 0 C ?_;rintro⟨eb0,eo0,k0a,k0c⟩ rfl;refine Qc 1 C ?_;rintro⟨k1a,k1c⟩;refine Qc 1 C ?_;rintro⟨k2a,k2c⟩;refine Ca [0,1] Aj (rd [0,1,2,3,4,5,6] (.br 7 (.rd 8 (.br 9 .fin .fin)) .fin)) C kR<|Bh 4 [1] (y<|λ_=>JG 101 C (λL=>?_) (λL=>?_));refine Bh 3 [102,0] (aI (by first|(simp only[Fo.len];omega)|(dsimp only;omega)|omega)<|y2<|λ_=>Ah C<|Db C C (eC Ny C C) (λw f d=>Eo _ (Da.gl d.f12) a _ F.1.1.1 F.1.1.2)<|Aa 1 (λ_=>Am [0,1] C<|AN 1 (λ_=>Ah C<|AZ C C (eC AG C C) (λZ f2 he G=>⟨C,_,f2,C,(by simp[CO,SP.need,Av,he,W,Q,J,h3,O,L]),G⟩) λD=>Aa 1 (λ_=>Am [0,1] C ?_))));refine Bp<|Aa 2 (λ_=>Ca [1] Aj (rd [0,1,2,3,4,5,6,7,8,10,11,12] (.br 9 (.br 13 (.br 14 (.br 15 (.br 16 .fin .fin) .fin) .fin) .fin) .fin)) C kR<|Bh 12 [0,102,4,101,0,100,0] (y<|aI (by first|(simp only[Fo.len];omega)|(dsimp only;omega)|omega)<|y2<|aI (by first|(simp only[Fo.len];omega)|(dsimp only;omega)|omega)<|y2<|aI (by first|(simp only[Fo.len];omega)|(dsimp only;omega)|omega)<|y2<|λ_=>Ah C ?_));refine JY C C (eC KC C C) (λw f d=>LS n w f d.vl d.f12 b bk _ _ F.2.1 d.f2) (λ_=>⟨AJ.mono,tQ⟩) (λe Z f2 he G=>⟨C,e,f2,C,(by simp[CO,SP.need,Av,he,W,Q,J,h3,O,L,D]),G⟩) ?_;rintro⟨nd1,and1,cnd1⟩ K;dsimp only at K ⊢;refine Aa 1 (λ_=>Am [1] C<|Ah C ?_);refine JY C C (eC Df C C) (λw f d=>ihx w f d.vl d.f13 c ck _ _ F.2.2.1 d.f1) (λ_=>⟨AJ.mono,tQ⟩) (λe Z f2 he G=>⟨C,e,f2,C,(by simp[CO,SP.need,Av,he,W,Q,J,h3,O,L,D,K]),G⟩) ?_;rintro⟨nd2,and2,cnd2⟩ hnd2;dsimp only at hnd2 ⊢;refine Aa 1 (λ_=>Am [1] C<|Ah C<|Aa 2 (λb3=>λ_=>Am [2] C<|Ah C<|CJ 0 C C<|Cj (λw f=>AJ w f (nd1.cons (nd2.one)) (some ⟨b3,0,none⟩) 2) (λw f d=>BJ.toF (BJ.cons' d.f1 (BJ.cons' d.f0 (show BJ _ _ .nil [] from C))) d.b0 (Nat.le_refl _)) AJ.mono<|Db C C (eC Bm C C) (λw f d=>A7 _ t _ _ _ _ _ _)<|Aa 1 (λ_=>?_)));exact AS [1] DG C (λ_ h=>.tail _ h)<|Ah C<|Af 2 [0] (y<|λ_=>AS [1] DG C (λ_ h=>.tail _ h)<|Bp<|Aa 4 (λ_=>AK (λw f d=>A3 C (Ac C Bb d.k0 C)) (λw f d=>⟨(⟨43,t.ln,t.co,a.tx,0,(nd1.cons (nd2.one))⟩,(some ⟨b3,0,none⟩),2),f,C,(by simp[CO,SP.need,Av,W,Q,J,h3,O,L,D,K,hnd2]),d.exm,⟨d.f0,tQ⟩⟩)));simp[Fo.len] at L;refine Ca [0,1] Aj (rd [0,1,2,3,4,5,6] (.br 7 (.rd 8 (.br 9 .fin .fin)) .fin)) C kR<|Bh 4 [1] (y<|λ_=>JG 101 C (λL=>?_) (λL=>?_));exact absurd (by have h9:=beq_iff_eq.1 L;omega) U;refine AN 3 (λ_=>Ah C<|Aa 2 (λ_=>Am [0,1] C<|AN 1 (λ_=>Ah C<|AZ C C (eC AG C C) (λZ f2 he G=>⟨C,_,f2,C,(by exact lR (beq_iff_eq.1 O) U),G⟩) λD=>?_)))
 cases D
 refine Aa 7 (λ_=>A6 124 C C (λL=>?_) (λL=>?_));refine Aa 2 (λ_=>?_);rcases Fo.two r with ⟨a,ak,b,bk,rfl⟩|U
 refine Ng 3 C<|KO 0 C ?_;rintro⟨eb0,eo0,k0a,k0c⟩ rfl;refine Qc 1 C ?_;rintro⟨k1a,k1c⟩;refine Ca [0,1] Aj (rd [0,1,2,3,4,5,6] (.br 7 (.rd 8 (.br 9 .fin .fin)) .fin)) C kR<|Bh 4 [1] (y<|λ_=>JG 129 C (λY=>?_) (λY=>?_));refine Bh 3 [101,0] (aI (by first|(simp only[Fo.len];omega)|(dsimp only;omega)|omega)<|y2<|λ_=>Ah C<|Db C C (eC Ny C C) (λw f d=>Eo _ (Da.gl d.f10) a _ F.1.1.1 F.1.1.2)<|Aa 1 (λ_=>Am [0,1] C<|AN 1 (λ_=>Ah C<|AZ C C (eC AG C C) (λZ f2 he G=>⟨C,_,f2,C,(by simp[CO,SP.need,Av,he,W,Q,J,h3,O,L,Y]),G⟩) λD=>Aa 1 (λ_=>Am [0,1] C ?_))));refine Bp<|Aa 2 (λ_=>Ca [1] Aj (rd [0,1,2,3,4,5,6,7,8] (.br 9 (.br 10 (.br 11 (.br 12 .fin .fin) .fin) .fin) .fin)) C kR<|Bh 9 [0,101,4,100,0] (y<|aI (by first|(simp only[Fo.len];omega)|(dsimp only;omega)|omega)<|y2<|aI (by first|(simp only[Fo.len];omega)|(dsimp only;omega)|omega)<|y2<|λ_=>Ah C ?_));refine JY C C (eC Df C C) (λw f d=>ihx w f d.vl d.f10 b bk _ _ F.2.1 d.f0) (λ_=>⟨AJ.mono,tQ⟩) (λe Z f2 he G=>⟨C,e,f2,C,(by simp[CO,SP.need,Av,he,W,Q,J,h3,O,L,Y,D]),G⟩) ?_;rintro⟨nd1,and1,cnd1⟩ K;dsimp only at K ⊢;refine Aa 1 (λ_=>Am [1] C<|Ah C<|Aa 2 (λb3=>λ_=>Am [2] C<|Ah C<|CJ 0 C C<|Cj (λw f=>AJ w f (nd1.one) (some ⟨b3,0,none⟩) 1) (λw f d=>BJ.toF (BJ.cons' d.f0 (show BJ _ _ .nil [] from C)) d.b0 (Nat.le_refl _)) AJ.mono<|Db C C (eC Bm C C) (λw f d=>A7 _ t _ _ _ _ _ _)<|Aa 1 (λ_=>?_)));exact AS [1] DG C (λ_ h=>.tail _ h)<|Ah C<|Af 2 [0] (y<|λ_=>AS [1] DG C (λ_ h=>.tail _ h)<|Bp<|Aa 4 (λ_=>AK (λw f d=>A3 C (Ac C Bb d.k0 C)) (λw f d=>⟨(⟨44,t.ln,t.co,a.tx,0,(nd1.one)⟩,(some ⟨b3,0,none⟩),1),f,C,(by simp[CO,SP.need,Av,W,Q,J,h3,O,L,Y,D,K]),d.exm,⟨d.f0,tQ⟩⟩)));simp[Fo.len] at Y;refine Ca [0,1] Aj (rd [0,1,2,3,4,5,6] (.br 7 (.rd 8 (.br 9 .fin .fin)) .fin)) C kR<|Bh 4 [1] (y<|λ_=>JG 129 C (λY=>?_) (λY=>?_));exact absurd (by have h9:=beq_iff_eq.1 Y;omega) U;refine AN 3 (λ_=>Ah C<|Aa 2 (λ_=>Am [0,1] C<|AN 1 (λ_=>Ah C<|AZ C C (eC AG C C) (λZ f2 he G=>⟨C,_,f2,C,(by exact vO (beq_iff_eq.1 L) U),G⟩) λD=>?_)))
 cases D
 refine Aa 7 (λ_=>A6 148 C C (λY=>?_) (λY=>?_));refine Aa 2 (λ_=>?_);rcases Fo.two r with ⟨a,ak,b,bk,rfl⟩|U
 refine Ng 3 C<|KO 0 C ?_;rintro⟨eb0,eo0,k0a,k0c⟩ rfl;refine Qc 1 C ?_;rintro⟨k1a,k1c⟩;refine Ca [0,1] Aj (rd [0,1,2,3,4,5,6] (.br 7 (rd [8,9,10,11,12] (.br 13 (.rd 14 (.br 15 .fin .fin)) .fin)) .fin)) C kR<|Bh 4 [1] (y<|λ_=>JG 153 C (λh7=>?_) (λh7=>?_));refine Bh 3 [101,0] (aI (by first|(simp only[Fo.len];omega)|(dsimp only;omega)|omega)<|y2<|λ_=>Ah C<|Db C C (eC Ny C C) (λw f d=>Eo _ (Da.gl d.f10) a _ F.1.1.1 F.1.1.2)<|Aa 1 (λ_=>Am [0,1] C<|AN 2 (λ_=>JG 159 C (λh8=>?_) (λh8=>?_))));refine Bh 3 [100,0] (aI (by first|(simp only[Fo.len];omega)|(dsimp only;omega)|omega)<|y2<|λ_=>Ah C<|B3 C C (eC gN C C) (λw f d=>NC w f d.vl b bk _ _ d.f0)<|Aa 1 (λ_=>Am [0,1] C<|AN 1 (λ_=>Ah C<|AZ C C (eC AG C C) (λZ f2 he G=>⟨C,_,f2,C,(by simp[CO,SP.need,Av,he,W,Q,J,h3,O,L,Y,h7,h8]),G⟩) λD=>Aa 1 (λ_=>Am [0,1] C ?_))));refine Bp<|Aa 2 (λ_=>Ca [1] Aj (rd [0,1,2,3,4,5,6,7,8] (.br 9 (.br 10 (.br 11 (.br 12 .fin .fin) .fin) .fin) .fin)) C kR<|Bh 9 [0,101,4,100,0] (y<|aI (by first|(simp only[Fo.len];omega)|(dsimp only;omega)|omega)<|y2<|aI (by first|(simp only[Fo.len];omega)|(dsimp only;omega)|omega)<|y2<|λ_=>Ah C ?_));refine JY C C (eC Df C C) (λw f d=>ihx w f d.vl d.f10 b bk _ _ F.2.1 d.f0) (λ_=>⟨AJ.mono,tQ⟩) (λe Z f2 he G=>⟨C,e,f2,C,(by simp[CO,SP.need,Av,he,W,Q,J,h3,O,L,Y,h7,h8,D]),G⟩) ?_;rintro⟨nd1,and1,cnd1⟩ K;dsimp only at K ⊢;refine Aa 1 (λ_=>Am [1] C<|Ah C<|Aa 2 (λb3=>λ_=>Am [2] C<|Ah C<|CJ 0 C C<|Cj (λw f=>AJ w f (nd1.one) (some ⟨b3,0,none⟩) 1) (λw f d=>BJ.toF (BJ.cons' d.f0 (show BJ _ _ .nil [] from C)) d.b0 (Nat.le_refl _)) AJ.mono<|Db C C (eC Bm C C) (λw f d=>A7 _ t _ _ _ _ _ _)<|Aa 1 (λ_=>?_)));exact AS [1] DG C (λ_ h=>.tail _ h)<|Ah C<|Af 2 [0] (y<|λ_=>AS [1] DG C (λ_ h=>.tail _ h)<|Bp<|Aa 4 (λ_=>AK (λw f d=>A3 C (Ac C Bb d.k0 C)) (λw f d=>⟨(⟨45,t.ln,t.co,a.tx,0,(nd1.one)⟩,(some ⟨b3,0,none⟩),1),f,C,(by simp[CO,SP.need,Av,W,Q,J,h3,O,L,Y,h7,h8,D,K]),d.exm,⟨d.f0,tQ⟩⟩)));refine AN 3 (λ_=>Ah C<|Aa 2 (λ_=>Am [0,1] C<|AN 1 (λ_=>Ah C<|AZ C C (eC AG C C) (λZ f2 he G=>⟨C,_,f2,C,(by simp[CO,SP.need,Av,he,W,Q,J,h3,O,L,Y,h7,h8]),G⟩) λD=>?_)))
 cases D
 simp[Fo.len] at h7;refine Ca [0,1] Aj (rd [0,1,2,3,4,5,6] (.br 7 (rd [8,9,10,11,12] (.br 13 (.rd 14 (.br 15 .fin .fin)) .fin)) .fin)) C kR<|Bh 4 [1] (y<|λ_=>JG 153 C (λh7=>?_) (λh7=>?_));exact absurd (by have h9:=beq_iff_eq.1 h7;omega) U;refine AN 3 (λ_=>Ah C<|Aa 2 (λ_=>Am [0,1] C<|AN 5 (λ_=>Ah C<|Aa 2 (λ_=>Am [0,1] C<|AN 1 (λ_=>Ah C ?_)))));refine AZ C C (eC AG C C) (λZ f2 he G=>⟨C,_,f2,C,(by exact xP (beq_iff_eq.1 Y) U),G⟩) λD=>?_
 cases D
 refine Aa 7 (λ_=>A6 178 C C (λh7=>?_) (λh7=>?_));refine Aa 2 (λ_=>?_);rcases Fo.single r with ⟨a,ak,rfl⟩|U
 refine Ng 3 C<|KO 0 C ?_;rintro⟨eb0,eo0,k0a,k0c⟩ rfl;refine Af 4 [1] (y<|λ_=>AZ C C (eC AG C C) (λZ f2 he G=>⟨C,_,f2,C,(by simp[Fo.len] at he),G⟩) λD=>Aa 3 (λ_=>Ca [1] Aj (rd [0,1,2,3] (.br 4 (.br 5 (.br 6 (.br 7 .fin .fin) .fin) .fin) .fin)) C kR<|Bh 4 [0,100,0] (y<|aI (by first|(simp only[Fo.len];omega)|(dsimp only;omega)|omega)<|y2<|λ_=>Ah C ?_)));refine JY C C (eC Df C C) (λw f d=>ihx w f d.vl d.f8 a ak _ _ F.1 d.f0) (λ_=>⟨AJ.mono,tQ⟩) (λe Z f2 he G=>⟨C,e,f2,C,(by simp[CO,SP.need,Av,he,W,Q,J,h3,O,L,Y,h7,D]),G⟩) ?_;rintro⟨nd1,and1,cnd1⟩ K;dsimp only at K ⊢;refine Aa 1 (λ_=>Am [1] C<|Ah C<|Aa 2 (λb3=>λ_=>Am [2] C<|Ah C<|CJ 0 C C<|Cj (λw f=>AJ w f (nd1.one) (some ⟨b3,0,none⟩) 1) (λw f d=>BJ.toF (BJ.cons' d.f0 (show BJ _ _ .nil [] from C)) d.b0 (Nat.le_refl _)) AJ.mono<|Db C C (eC Bm C C) (λw f d=>A7 _ t _ _ _ _ _ _)<|Aa 1 (λ_=>?_)));exact AS [1] DG C (λ_ h=>.tail _ h)<|Ah C<|Af 2 [0] (y<|λ_=>AS [1] DG C (λ_ h=>.tail _ h)<|Bp<|Aa 4 (λ_=>AK (λw f d=>A3 C (Ac C Bb d.k0 C)) (λw f d=>⟨(⟨46,t.ln,t.co,[],0,(nd1.one)⟩,(some ⟨b3,0,none⟩),1),f,C,(by simp[CO,SP.need,Av,W,Q,J,h3,O,L,Y,h7,D,K]),d.exm,⟨d.f0,tQ⟩⟩)));exact Af 4 [1] (y<|λ_=>AZ C C (eC AG C C) (λZ f2 he G=>⟨C,_,f2,C,(by exact tm_do (beq_iff_eq.1 h7) U),G⟩) λD=>absurd (by have h9:=beq_iff_eq.1 D;omega) U);exact Af 7 [1] (y<|λ_=>xH C C (eC Wl C C) (pe:=λe=>e=(t.ln,t.co)) (T:=108) (λw f d=>(I6 w t _).mono (λ_ _ h=>h.elim) λ_ Z ⟨W,Q⟩=>⟨_,f,W,C,C6.of_ext Q d.vl⟩) (λe Z f2 he G=>by subst he;exact⟨C,_,f2,C,(by exact UP h3 O L Y h7),G⟩));have h9:=dF Q;simp only[Fo.len] at h9;omega;refine AN 10 (λ_=>Ah C<|Aa 2 (λ_=>Am [0,1] C<|AN 1 (λ_=>Ah C<|AZ C C (eC AG C C) (λZ f2 he G=>⟨C,_,f2,C,(by simp[CO,SP.need,Av,he,W]),G⟩) λJ=>?_)))
 cases J

end Go.Proofs.YtplnpgpagkpnmaaGreatDoor
namespace Go.SP
open Go.SW Go.RowKit
theorem B8(n:Int):(T1.var n).bnd:=⟨⟨Nat.zero_le _,Nat.zero_le _⟩,tQ⟩
theorem CN{tx:lU}(h:tx.length≤1000000):(c0 tx).bnd:=⟨⟨Nat.zero_le _,h⟩,tQ⟩
theorem BS{tx:lU}{k:Ty}(h:tx.length≤1000000)(d:k.len≤200000)(D:k.bnd):(T1.con tx k).bnd:=⟨⟨d,h⟩,D⟩
theorem Ty.bnd_app:∀{x y:Ty},x.bnd→y.bnd→(x.app y).bnd
 |.nil,_,_,h=>h
 |.var _ r,_,h,d=>Ty.bnd_app (x:=r) h d
 |.con _ _ r,_,h,d=>⟨h.1,h.2.1,Ty.bnd_app (x:=r) h.2.2 d⟩
theorem Ty.bnd_snoc{x:Ty}{t:T1}(h:x.bnd)(d:t.bnd):(x.snoc t).bnd:=Ty.bnd_app h (F7 d)
def PatF(P:Program)(d:FuncId)(F T TS:tI)(n:Nat):Prop:=∀(w:wO)(f:Fq)(_:Vl w f)(A:Ad)(_:A.ok)(s:CS)(_:Aq T TS A s w f)(_:∀b,B2 A b→f b=0)(_:D1 s)(op ln co nm:Int)(tx:lU)(kids:Nd)(h:oA)(nc:Nat)(e:By)(D:oA),
 kids.size<n→kids.size≤200000→AJ w f kids h nc→FN e→AV w f e D→s.fresh+200001*(kids.size+1)≤800000000000 →
 BB P d #[.pointer (some ⟨A.cb,0,none⟩),nV op ln co tx nm kids h nc,.pointer D] w (CY (α:=(T1×oA×Nat)×(By×oA)×CS) (λx=>.tuple #[tV x.1.1 x.1.2.1 x.1.2.2,.pointer x.2.1.2]) (λx=>Cw n s e op ln co tx nm kids=.ok (x.1.1,x.2.1.1,x.2.2)∧x.1.1.bnd∧FN x.2.1.1∧D1 x.2.2∧x.2.2.fresh≤s.fresh+200001*(kids.size+1)) (B2 A) (λx=>Aq T TS A x.2.2) (λx=>[λw f=>Ae w f x.1.1.kids x.1.2.1 x.1.2.2,λw f=>AV w f x.2.1.1 x.2.1.2]) w f)
   (PanE F (B2 A) (λer=>Cw n s e op ln co tx nm kids=.error er) w f)
variable {e5:By}{s5:CS}{co ln nm:Int}{r:Nd}{ar:Ty}
theorem Wf{p:OE}{s d:CS}{e:By}{op:Int}{tx:lU}{k:Nd}{t q:T1}(h:p s e op ln co tx nm k=.ok (q,e5,s5))(D:Fu s5 t q ln co=.ok d):Hn p s e (t.cons ar) (.cons op ln co tx nm k r)=Hn p d e5 ar r:=by
 rw[Hn,h];simp only;rw[T1.hd_cons,D];simp only;rw[T1.tl_cons]
theorem T9{p:OE}{s:CS}{e:By}{k:Nd}:Gg p s e k=(match Gg p s e k with|.error x=>.error x|.ok (l,d,h)=>.ok (Ty.nil.app l,d,h)):=by
 cases Gg p s e k with
 |error x=>rfl
 |ok q=>rfl
theorem Va{p:OE}{s:CS}{e:By}{op:Int}{tx:lU}{k:Nd}{d:Ty}{q:T1}(h:p s e op ln co tx nm k=.ok (q,e5,s5)) :
   (match Gg p s e (.cons op ln co tx nm k r) with|.error x=>.error x|.ok (l,D,F)=>.ok (d.app l,D,F):RI (Ty×By×CS))=(match Gg p s5 e5 r with|.error x=>.error x|.ok (l,D,F)=>.ok ((d.snoc q).app l,D,F)):=by
 rw[Gg,h];simp only
 cases Gg p s5 e5 r with
 |error x=>rfl
 |ok z=>obtain⟨l,D,F⟩:=z;simp only[Ty.snoc_app]
end Go.SP
namespace Go.SW
open Go.RowKit
def Yh:List Oper→Bool
 | []=>true
 |o::l=>(match o.op with|.defer _=>false|_=>true)&&Yh l
abbrev GF(ro:Option Nat):Fence:={Fence.wide with round:=ro}
section
variable{P:Program}{n:Nat}{Q:AQ}{σ:AW}{ds:List Deferred}{w:World}
variable {l vs:List Value}{i m:Nat}{ro:Option Nat}{w':World}
theorem Yt{o:Oper}{a:Act}{next next':Act→World→Prop}{Q:Exit→Act→World→Prop}(hn:∀a w,next a w→next' a w):∀r:Result Next,o.upon P a next Q r→o.uponIn (GF ro) m P a next' Q r
 |.ok (.value _) _,h=>hn _ _ h
 |.ok .skip _,h=>hn _ _ h
 |.ok (.defer _) _,h=>hn _ _ h
 |.ok (.enter f args) w',h=>by
   refine⟨λe=>(by cases e),?_⟩
   have G:Calls P f args w' _:=Calls.mono (R':=λe D=>match e,D with|.returned v,D=>next' (a.put o.dst v) D | .panicked chain,D=>Q (.panic chain) a D | .outgrown,_=>LetsOut Q) h λe D F=>by
     cases e with
     |returned v=>exact hn _ _ F
     |panicked c=>exact F
     |outgrown=>exact F
   exact (callsIn_wide (n:=m-1)).2 G
 |.ok (.row row args) w',h=>⟨λe=>(by cases e),λc cs _=>let ⟨v,J,F,K⟩:=h c cs;⟨v,J,hn _ _ F,stepsIn_wide.2 K⟩⟩
 |.halt (.panic _) _,h=>h
theorem LK{ops:Array Oper}{Q:Exit→Act→World→Prop}(D:¬LetsOut Q):∀(l:List Oper)(a:Act)(w:World),Yh l=true→wpList P ops Q l a w→wpListIn (GF ro) m P ops Q l a w
 | [],_,_,_,h=>h
 |o::l,a,w,hd,h=>by
   unfold Yh at hd;simp only[Bool.and_eq_true] at hd;have F:∀c,o.op≠.defer c:=λc e=>by rw[e] at hd;exact absurd hd.1 (by simp)
   unfold wpList at h;unfold wpListIn
   split
   · rename_i hw
     rw[if_pos hw] at h;rcases h with h|h
     · refine⟨λ_ _=>trivial,?_⟩
       rw[Oper.semAt_eq _ _ _ F];exact Yt (λa w=>LK D l a w hd.2) _ h
     · exact absurd h.2 D
   · rename_i hw
     rw[if_neg hw] at h;exact⟨λ_ _=>trivial,LK D l _ w hd.2 h⟩
theorem pG{l:List Oper}{a:Act}(D:Yh l=true)(F:¬LetsOut (Q.up n))(G:St n σ ds a)(h:Gt P n l.toArray Q l σ ds w):(Code.region i l.toArray false).wpIn (GF ro) m P (Q.up n) a w :=
 wpIn_region_lit (LK F l a w D (h a G))
theorem cO:¬LetsOut (Q.up n):=λh=>by
 obtain⟨a,w,h⟩:=h;exact h
def Ya(P:Program)(n:Nat)(ops:Array Oper)(Q:AQ)(l:List Oper)(σ:AW)(ds:List Deferred)(w:World):Prop :=
 ∀a,St n σ ds a→wpListIn Fence.wide 3 P ops (Q.up n) l a w
theorem bK{l:List Oper}(h:Ya P n l.toArray Q l σ ds w):Hg P n (.region i l.toArray false) Q σ ds w:=λa D=>wpIn_wide.1 (wpIn_region_lit (h a D))
variable{ops:Array Oper}{op:Op}{ty:TypeId}{pos:String}{af:Array Edge}{rest:List Oper}{d:Nat}
theorem Sj(h:Q.q .normal σ ds w):Ya P n ops Q [] σ ds w:=λ_ D=>wpListIn_nil ⟨σ,ds,D,h⟩
theorem FP{v:Value}(hd:Nat.blt d n=true)(F:AM P σ op ty w v w')(h:Ya P n ops Q rest (AD σ d v) ds w') :
   Ya P n ops Q (⟨some d,op,ty,pos,af,none⟩::rest) σ ds w:=λa D =>
 wpListIn_plain C λK G=>⟨λ_ _=>trivial,by
   show Oper.uponIn _ _ _ _ _ _ _ ((Oper.semAt none _ _).run P w);rw[Oper.semAt_none,F a.eval _ _ _ _ D.ev];exact G _ _ (h _ (D.put hd v))⟩
theorem Vd{D:Nat}{g:Operand}{args:List Operand}{G:Array TypeId}{R:Ending→World→Prop}(hd:Nat.blt d n=true)(L:ev σ g=some (.func (.yield D) #[] #[]))(O:IA σ args=some vs)(U:YieldAt Fence.wide m P D vs.toArray w R)
   (h:∀e w',R e w'→∃v,e=.returned v∧Ya P n ops Q rest (AD σ d v) ds w'):Ya P n ops Q (⟨some d,.call {callee:=.value g,args:=args.toArray,argTypes:=G},ty,pos,af,none⟩::rest) σ ds w:=λa F =>
 wpListIn_plain C λK W=>⟨λ_ _=>trivial,by
   obtain⟨fn,tmps,assign,body,Y,J⟩:=U;have Z:=Et F.ev O
   have he:(execOp a.eval ⟨some d,.call {callee:=.value g,args:=args.toArray,argTypes:=G},ty,pos,af,none⟩).run P w=.ok (.round D fn tmps assign body) w:=by
     simp[execOp,resolve,F.ev _ _ L,Deferred.ofValue,invoke,Z,Y]
   show Oper.uponIn _ _ _ _ _ _ _ ((Oper.semAt none _ _).run P w);rw[Oper.semAt_none,he];refine⟨λe=>(by cases e),J.1,λc cs _=>?_⟩;obtain⟨e,w',hr,hc⟩:=J.2 c cs (room_wide _);obtain⟨v,rfl,hv⟩:=h e w' hr;exact⟨.returned v,w',W _ _ (hv _ (F.put hd v)),hc⟩⟩
def X3(P:Program)(fn:Func)(R:Value→World→Prop):AQ :=
 {q:=λe σ ds w=>match e with|.normal|.ret=>∃D,ds=[{target:=.collected D,args:=#[]}]∧w.heap[D]?=some (.deferred (some []))∧∃v,U0 P fn σ (w.putObj D (.deferred none)) v∧R v (w.putObj D (.deferred none))|_=>False,p:=λ_ _ _ _=>False}
theorem xY{f:FuncId}{fn:Func}{c:Code}{R:Value→World→Prop}(O:P.funcs[f]?=some fn)(U:fn.body=some c)
   (W:fn.ntmps=n) (Y:Nat.ble l.length n=true) (h:Hg P n c (X3 P fn R) (Ho l 0) [] w):AO P f l.toArray w R:=by
 refine (callsIn_wide (n:=3)).1 (callsIn_of_wp_marks O U tQ (wpIn_wide.2 ?_));have L:=h _ (Jr Y);rw[← W] at L;intro b k cs;obtain⟨e,a',w',J,K⟩:=L b k cs;refine⟨e,a',w',?_,K⟩
 have key:∀σ ds,St fn.ntmps σ ds a'→(∃D,ds=[{target:=.collected D,args:=#[]}]∧w'.heap[D]?=some (.deferred (some []))∧∃v,U0 P fn σ (w'.putObj D (.deferred none)) v∧R v (w'.putObj D (.deferred none)))→LeavesInM Fence.wide 3 P fn a'.tmps (λe w'=>∃v,e=.returned v∧R v w') a'.defers .returning w':=λσ ds F ⟨D,Z,hw,v,hv,hR⟩=>by
   rw[F.defs,Z];exact⟨by simp,.inl ⟨D,_,C,run_takeDeferred hw,v,hv a'.tmps F.val,v,C,hR⟩⟩
 cases e with
 |normal=>obtain⟨σ,ds,F,G⟩:=J;exact key σ ds F G
 |ret=>obtain⟨σ,ds,F,G⟩:=J;exact key σ ds F G
 |exit i=>obtain⟨σ,ds,F,G⟩:=J;exact G.elim
 |goto i=>obtain⟨σ,ds,F,G⟩:=J;exact G.elim
 |panic c=>obtain⟨σ,ds,F,G⟩:=J;exact G.elim
 |outgrown=>exact J.elim
end
variable {X:Cx}{f:Fq}{fid:FuncId}{Fs:List (World→Fq→Prop)}{B:List FB}{H:List HB}{l:List Value}{R0:Value→World→Prop}
theorem menM{P:Program}{n:Nat}{R:List RB}{fn:Func}{c:Code}{w:World}(D:P.funcs[fid]?=some fn)(F:fn.body=some c)(G:fn.ntmps=n)(J:Nat.ble l.length n=true)(K:AP X w f H R B Fs)
   (h:Aw P n (X3 P fn R0) [] X R B Fs (.code c) [] (Ho l 0) H):AO P fid l.toArray w R0:=xY D F G J (h w f K)
end Go.SW
namespace Go.SP
open Go.SW Go.RowKit
def Ty.list:Ty→List T1
 |.nil=>[]
 |.var n r=>.var n::r.list
 |.con tx k r=>.con tx k::r.list
theorem Ty.list_cons(t:T1)(r:Ty):(t.cons r).list=t::r.list:=by cases t <;> rfl
theorem Ty.list_len:∀k:Ty,k.list.length=k.len
 |.nil=>rfl
 |.var _ r=>congrArg (· + 1) (Ty.list_len r)
 |.con _ _ r=>congrArg (· + 1) (Ty.list_len r)
theorem Ty.list_get:∀(k:Ty)(i:Nat),k.list[i]?=k.get i
 |.nil,_=>by simp[Ty.list,Ty.get]
 |.var _ _,0=>rfl
 |.con _ _ _,0=>rfl
 |.var _ r,i+1=>by simpa[Ty.list,Ty.get] using Ty.list_get r i
 |.con _ _ r,i+1=>by simpa[Ty.list,Ty.get] using Ty.list_get r i
def pY(t:T1)(l:List T1):T1:=l.foldl (λt x=>.con FF (x.cons t.one)) t
theorem TB(t:T1)(l:List T1)(x:T1):pY t (l++[x])=.con FF (x.cons (pY t l).one):=by simp[pY]
theorem Ou(t u:T1)(r:Ty):KH (t.cons (u.cons r))=.con FF (t.cons (KH (u.cons r)).one):=by cases t <;> cases u <;> rfl
theorem R5(t:T1):KH t.one=t:=by cases t <;> rfl
theorem jN:∀(n:Nat)(k:Ty)(t:T1),k.len=n+1→k.get n=some t→pY t (k.list.take n).reverse=KH k:=by
 intro n
 induction n with
 |zero =>
   intro k t D d;obtain⟨u,r,rfl⟩:=Ty.cases1 k oM;rw[T1.len_cons] at D;obtain rfl:=Ty.len0 (k:=r) oM;have:u=t:=by cases u <;> (simp[T1.cons,Ty.get] at d;exact d)
   subst this;rw[show (List.take 0 (u.cons Ty.nil).list).reverse=[] by simp];exact (R5 u).symm
 |succ n G =>
   intro k t D d;obtain⟨u,r,rfl⟩:=Ty.cases1 k oM;rw[T1.len_cons] at D;have F:r.get n=some t:=by cases u <;> exact d
   have h:=G r t oM F;obtain⟨v,r,rfl⟩:=Ty.cases1 r oM;rw[Ou,Ty.list_cons,List.take_succ_cons,List.reverse_cons,TB,h]
abbrev ElB(w:wO)(f:Fq)(k:Ty):={x:Nat×T1×oA×Nat // k.get x.1=some x.2.1∧Ae w f x.2.1.kids x.2.2.1 x.2.2.2}
def encB{w:wO}{f:Fq}{k:Ty}(x:ElB w f k):Array Value:=#[.int .i64 (x.1.1:Int),tV x.1.2.1 x.1.2.2.1 x.1.2.2.2]
def iR{w:wO}{f:Fq}{k:Ty}(l:List (ElB w f k)):List T1:=l.map λx=>x.1.2.1
def xX(n0 b3:Nat)(W d:wO):Prop:=∀k,k<n0→k≠b3→d.heap[k]?=W.heap[k]?
def iv(i:Nat):Int:=(i:Int)-1
theorem oS(i:Nat):iv (i+1)=(i:Int):=by unfold iv;omega
def nrm(n0:Nat)(V:wO)(f:Fq):Fq:=λb=>if b<n0 then f b else if (match V.heap[b]? with|some o=>o.isCells|none=>false) then f b else 0
variable {σ:AW}{l:lV}{b i k n0 off:Nat}{M:Nat→Prop}{hi x:Operand}{P:Program}{T e ty:tI}
theorem Cs.nrm{V:wO}{f:Fq}(h:Cs V f b off l):Cs V (nrm n0 V f) b off l:=λj v G=>by
 obtain⟨d,D⟩:=h j v G;refine⟨?_,D⟩;obtain⟨o,F,J⟩:=cells_of_cell D;unfold SP.nrm
 split
 · exact d
 · simp only at F
   rw[F];simp only;rw[if_pos J];exact d
theorem IN.nrm{V:wO}{f:Fq}:∀(k:Ty)(b off:Nat),IN V f k b off→IN V (nrm n0 V f) k b off
 |.nil,_,_,_=>trivial
 |.var _ r,b,off,⟨⟨a,c,h⟩,D⟩=>⟨⟨a,c,Cs.nrm h⟩,IN.nrm r b _ D⟩
 |.con _ k r,b,off,⟨⟨a,c,h,J,F⟩,D⟩=>⟨⟨a,c,Cs.nrm h,J,F.imp id λ⟨G,d,e,F⟩=>⟨G,d,e,IN.nrm k G d F⟩⟩,IN.nrm r b _ D⟩
theorem Ae.nrm{V:wO}{f:Fq}{k:Ty}{a:oA}{c:Nat}(h:Ae V f k a c):Ae V (nrm n0 V f) k a c:=⟨h.1,h.2.imp id λ⟨b,off,e,d⟩=>⟨b,off,e,IN.nrm k b off d⟩⟩
theorem kE{V:wO}{f:Fq}(h:b<n0):nrm n0 V f b=f b:=if_pos h
theorem Ju{V:wO}{f:Fq}(h:f b=0):nrm n0 V f b=0:=by
 unfold nrm;simp[h]
structure Wv(w:wO)(f:Fq)(b2 b3:Nat)(z:lV)(TT:tI)(t:T1)(V:wO)(f2:Fq)(a:oA)(c:Nat):Prop where
 exm:C6 (λ_=>False) w f V f2
 k3:AE V b3 (tC t a c) TT
 k2:AE V b2 z TT
 ty:Ae V f2 t.kids a c
 bnd:t.bnd
 z3:f2 b3=0∧f2 b2=0
 hz:∀r o,V.heap[r]?=some o→o.isCells=false→w.heap.size≤r→f2 r=0
theorem Xa{w V:wO}{f f2:Fq}(h:C6 M w f V f2):C6 M w f V (nrm w.heap.size V f2):=⟨h.stp,λb d=>(kE d).trans (h.old b d),λb d=>Ju (h.val b d)⟩
theorem ZZ{w V:wO}{f2:Fq}:∀r o,V.heap[r]?=some o→o.isCells=false→w.heap.size≤r→nrm w.heap.size V f2 r=0:=λr o d h D=>by
 unfold nrm;rw[if_neg (by omega),d];simp[h]
theorem C6.trans0{w V V':wO}{f f2 f3:Fq}(h:C6 (λ_=>False) w f V f2)(d:C6 M V f2 V' f3)(G:∀b,M b→w.heap.size≤b):C6 (λ_=>False) w f V' f3 :=
 ⟨⟨d.stp.os.trans h.stp.os,d.stp.tape.trans h.stp.tape,d.stp.output.trans h.stp.output,Nat.le_trans h.stp.size d.stp.size,λk D _=>(d.stp.block k (Nat.lt_of_lt_of_le D h.stp.size) (λhm=>by have:=G k hm;omega)).trans (h.stp.block k D (λh=>h))⟩,
   λb F=>(d.old b (Nat.lt_of_lt_of_le F h.stp.size)).trans (h.old b F),d.val⟩
section
variable{w V V':wO}{f f2 f3:Fq}{b2 b3:Nat}{z:lV}{TT:tI}{t t':T1}{a a':oA}{c c':Nat}
theorem Wv.step(h:Wv w f b2 b3 z TT t V f2 a c)(G:w.heap.size≤b3)(D:b2≠b3)(d:C6 (λb=>b=b3) V f2 V' f3)(J:AE V' b3 (tC t' a' c') TT)(K:Ae V' f3 t'.kids a' c')(F:t'.bnd):Wv w f b2 b3 z TT t' V' (nrm w.heap.size V' f3) a' c' where
 exm:=Xa (C6.trans0 h.exm d λb e=>e▸G)
 k3:=J
 k2:=(d.stp.block b2 h.k2.lt D).trans h.k2
 ty:=Ae.nrm K
 bnd:=F
 z3:=⟨Ju ((d.old _ h.k3.lt).trans h.z3.1),Ju ((d.old _ h.k2.lt).trans h.z3.2)⟩
 hz:=ZZ
theorem HI(h:AE V b l T){o:Obj}(d:V.heap[b]?=some o)(D:o.isCells=false):False:=by
 have F:V.heap[b]?=some (.cells l.toArray T):=h;rw[F] at d;cases d;cases D
theorem Wv.own{B:Nat}(Y:w.heap.size≤B){row:Option Nat}(h:Wv w f b2 b3 z TT t V f2 a c)(d:V.grownBy V' row)(L:∀r,row=some r→B≤r∧∃o:Obj,V.heap[r]?=some o∧o.isCells=false):Wv w f b2 b3 z TT t V' f2 a c:=by
 have G:∀{b:Nat}{l:lV}{T:tI},AE V b l T→some b≠row:=λO e=>by
   obtain⟨_,o,F,J⟩:=L _ e.symm;exact HI O F J
 have K:∀r,row=some r→f2 r=0:=λr e=>by
   obtain⟨Z,o,F,J⟩:=L r e;exact h.hz r o F J oM
 have W:Hi V f2 V' f2:=λb=>⟨Nat.le_refl _,λk Q=>by
   have U:b<V.heap.size:=by
     rcases Nat.lt_or_ge b V.heap.size with D|D
     · exact D
     · have:=h.exm.val b D;omega
   refine D2 (d.block b U λe=>?_) k;have:=K b e.symm;omega⟩
 exact {exm:=⟨⟨d.os.trans h.exm.stp.os,d.tape.trans h.exm.stp.tape,d.output.trans h.exm.stp.output,Nat.le_trans h.exm.stp.size d.size,λk Q hm=>(d.block k (Nat.lt_of_lt_of_le Q h.exm.stp.size) (λe=>by have:=(L k e.symm).1;omega)).trans (h.exm.stp.block k Q hm)⟩,h.exm.old,λb O=>h.exm.val b (Nat.le_trans d.size O)⟩,
         k3:=(d.block _ h.k3.lt (G h.k3)).trans h.k3,
         k2:=(d.block _ h.k2.lt (G h.k2)).trans h.k2,
         ty:=Ae.mono _ _ _ _ h.ty W,
         bnd:=h.bnd,z3:=h.z3,
         hz:=λr o F J hw=>by
           rcases Nat.lt_or_ge r V.heap.size with D|D
           · by_cases e:some r=row
             · exact K r e.symm
             · rw[d.block r D e] at F;exact h.hz r o F J hw
           · exact h.exm.val r D}
end
theorem KeepsFrom.of_exm{B b3:Nat}{V V':wO}{f2 f3:Fq}(h:C6 (λb=>b=b3) V f2 V' f3)(D:AE V b3 l T):KeepsFrom B V V' :=
 ⟨h.stp.size,λk o _ d F=>(h.stp.block k (Array.getElem?_eq_some_iff.1 d).1 (λe=>by subst e;exact HI D d F)).trans d⟩
theorem xX.of_exm{b3:Nat}{V V':wO}{f2 f3:Fq}(h:C6 (λb=>b=b3) V f2 V' f3)(D:n0≤V.heap.size):xX n0 b3 V V':=λk F d=>h.stp.block k oM d
theorem Wz{w:wO}{f:Fq}{x t:T1}{d D:oA}{F G:Nat}(h:Cs w f b 0 (tC x d F++tC t D G))(K:Ae w f x.kids d F)(L:Ae w f t.kids D G):Ae w f (x.cons t.one) (some ⟨b,0,none⟩) 2:=by
 have O:AU w f Ty.nil []:=rfl;have J:=AU.snoc (t:=t) L (AU.snoc (t:=x) K O)
 have e:(Ty.nil.snoc x).snoc t=x.cons t.one:=by
   show (x.one).app t.one=_;rw[T1.one_app]
 rw[e] at J;exact AU.toF J h (by simp[T1.len_cons,T1.one,Ty.len])
theorem Wv.frz{w V:wO}{f f2:Fq}{b2 b3 b5:Nat}{z:lV}{TT:tI}{t:T1}{a:oA}{c:Nat}(h:Wv w f b2 b3 z TT t V f2 a c)(d:AE V b5 l T)(D:b5≠b2)(F:b5≠b3)(hw:w.heap.size≤b5) :
   Wv w f b2 b3 z TT t V (λb=>if b=b5 then max l.length (f2 b) else f2 b) a c∧Cs V (λb=>if b=b5 then max l.length (f2 b) else f2 b) b5 0 l:=by
 have Q:Hi V f2 V (λb=>if b=b5 then max l.length (f2 b) else f2 b):=λb=>⟨by simp only;split <;> omega,λ_ _=>C⟩
 refine⟨{exm:=⟨h.exm.stp,λb G=>by rw[if_neg (by omega)];exact h.exm.old b G,λb G=>by have:=d.lt;rw[if_neg (by omega)];exact h.exm.val b G⟩,
           k3:=h.k3,k2:=h.k2,ty:=Ae.mono _ _ _ _ h.ty Q,bnd:=h.bnd,z3:=by rw[if_neg (Ne.symm F),if_neg (Ne.symm D)];exact h.z3,
           hz:=λr o K L hw=>by
             rw[if_neg (λe=>by subst e;exact HI d K L)];exact h.hz r o K L hw},λj v O=>?_⟩
 have U:j<l.length:=(List.getElem?_eq_some_iff.1 O).1;refine⟨by simp only[if_true];omega,?_⟩;have J:V.heap[b5]?=some (.cells l.toArray T):=d;simp[World.cell?,J,O]
theorem Ow{w:wO}{z:Int}{k1:IntKind}{a:oA}{len cap:Nat}(hz:z=(i:Int))(h:ev σ x=some (.slice a len cap))(d:ev σ hi=some (.int k1 z))(D:Hl P T=some (e,k))(hle:i≤cap):AM P σ (.slice T x none (some hi) none) ty w (.slice a i cap) w:=by
 subst hz;exact WJ h d D hle
theorem Wv.fin{w V V':wO}{f f2:Fq}{b2 b3 D:Nat}{z:lV}{TT:tI}{t:T1}{a:oA}{c:Nat}(h:Wv w f b2 b3 z TT t V f2 a c)(h2:w.heap.size≤b2)(Q:w.heap.size≤D)(K:V.heap[D]?=some (.deferred (some [])))(F:Gj b2 V V') :
   C6 (λ_=>False) w f (V'.putObj D (.deferred none)) f2∧Ae (V'.putObj D (.deferred none)) f2 t.kids a c∧V'.heap[D]?=some (.deferred (some []))∧D≠b2:=by
 have G:D≠b2:=λe=>by subst e;exact HI h.k2 K C
 have U:f2 D=0:=h.hz D _ K C Q;have d:∀j,j≠D→j≠b2→(V'.putObj D (.deferred none)).heap[j]?=V.heap[j]?:=λj W Y=>(World.putObj_heap_other W).trans (F.block j Y);have J:(V'.putObj D (.deferred none)).heap.size=V.heap.size:=by rw[World.putObj_size,F.size]
 refine⟨⟨⟨F.os.trans h.exm.stp.os,F.tape.trans h.exm.stp.tape,F.output.trans h.exm.stp.output,by rw[J];exact h.exm.stp.size,λj Z hm=>(d j oM oM).trans (h.exm.stp.block j Z hm)⟩,h.exm.old,λb L=>h.exm.val b (by rw[J] at L;exact L)⟩,?_,(F.block D G).trans K,G⟩;refine Ae.mono _ _ _ _ h.ty λb=>⟨Nat.le_refl _,λq O=>D2 (d b (λe=>?_) (λe=>?_)) q⟩
 · rw[e,U] at O;omega
 · rw[e,h.z3.2] at O;omega
end Go.SP
namespace Go.SW
open Go.RowKit
variable {X:Cx}{f:Fq}{Fs:List (wO→Fq→Prop)}{B:List FB}{H H':List HB}{w:wO}
theorem AP.perm{R:List RB}(h:AP X w f H R B Fs)(F:H'.Perm H):AP X w f H' R B Fs:=by
 have D:(CD H' R).Perm (CD H R):=(F.map _).append_right _
 exact {h with
         blk:=λe he=>h.blk e (F.mem_iff.1 he),
         nd:=D.nodup_iff.2 h.nd,
         own:=λb G=>h.own b (D.mem_iff.1 G),
         hnw:=λe he=>h.hnw e (F.mem_iff.1 he)}
end Go.SW
namespace Go.SP
open Go.SW Go.RowKit
abbrev ExpQ(n:Nat)(s:CS)(e:By)(op ln co:Int)(tx:lU)(nm:Int)(kids:Nd)(x:(T1×oA×Nat)×CS):Prop:=Ce n s e op ln co tx nm kids=.ok (x.1.1,x.2)∧x.1.1.bnd∧D1 x.2∧x.2.fresh+1≤s.fresh+200002*(kids.size+1)
def Zp(P:Program)(h:FuncId)(G T TS:tI)(n:Nat):Prop:=∀(w:wO)(f:Fq)(_:Vl w f)(A:Ad)(_:A.ok)(s:CS)(_:Aq T TS A s w f)(_:∀b,B2 A b→f b=0)(_:D1 s)(op ln co nm:Int)(tx:lU)(kids:Nd)(D:oA)(nc:Nat)(e:By)(F:oA),
 kids.size<n→kids.size≤200000→G7 op kids→AJ w f kids D nc→FN e→AV w f e F→s.fresh+200002*(kids.size+1)≤800000000000 →
 BB P h #[.pointer (some ⟨A.cb,0,none⟩),nV op ln co tx nm kids D nc,.pointer F] w (CY (α:=(T1×oA×Nat)×CS) (λx=>tV x.1.1 x.1.2.1 x.1.2.2) (ExpQ n s e op ln co tx nm kids) (B2 A) (λx=>Aq T TS A x.2) (λx=>[λw f=>Ae w f x.1.1.kids x.1.2.1 x.1.2.2]) w f)
   (PanE G (B2 A) (λer=>Ce n s e op ln co tx nm kids=.error er) w f)
section
variable{p:MG}{s s1 s2 s3 s4 s5:CS}{e e5:By}{op ln co nm bop bln bco bnm o1 l1 c1 m1:Int}{tx btx x1:lU}{k bk r pk rest:Nd}{d:Ty}{q t t0 rt pt:T1}{n:Nat}
theorem SZ:EJ p e s k=(match EJ p e s k with|.error x=>.error x|.ok (l,s3)=>.ok (Ty.nil.app l,s3)):=by
 cases EJ p e s k with
 |error x=>rfl
 |ok q=>rfl
theorem UN(h:p s e op ln co tx nm k=.ok (q,s5)) :
   (match EJ p e s (.cons op ln co tx nm k r) with|.error x=>.error x|.ok (l,s3)=>.ok (d.app l,s3):RI (Ty×CS))=(match EJ p e s5 r with|.error x=>.error x|.ok (l,s3)=>.ok ((d.snoc q).app l,s3)):=by
 rw[EJ,h];simp only
 cases EJ p e s5 r with
 |error x=>rfl
 |ok z=>obtain⟨l,s3⟩:=z;simp only[Ty.snoc_app]
variable {ar:Ty}
theorem U4{a:T1}(h:p s e op ln co tx nm k=.ok (q,s5))(D:Fu s5 a q ln co=.ok s4):Hu p e s (a.cons ar) (.cons op ln co tx nm k r)=Hu p e s4 ar r:=by
 rw[Hu,h];simp only;rw[T1.hd_cons,D];simp only;rw[T1.tl_cons]
theorem Zn(h:p s e op ln co tx nm k=.ok (q,s5))(D:Fu (A5 s5).2 t (.con FF (q.cons (A5 s5).1.one)) ln co=.ok s4):KU p e s t (.cons op ln co tx nm k r)=KU p e s4 (A5 s5).1 r:=by
 rw[KU,h];simp only;rw[D]
theorem UU(h:Cw n s e op ln co tx nm pk=.ok (q,e5,s1))(D:Fu s1 pt q ln co=.ok s2)(F:p s2 e5 bop bln bco btx bnm bk=.ok (rt,s3))(G:Fu s3 t0 rt bln bco=.ok s4) :
   DW n p e pt s (some t0) (.cons o1 l1 c1 x1 m1 (.cons op ln co tx nm pk (.cons bop bln bco btx bnm bk rest)) r)=DW n p e pt s4 (some t0) r:=by
 rw[DW];simp only;rw[h];simp only;rw[D];simp only;rw[F];simp only;rw[G]
theorem Un(h:Cw n s e op ln co tx nm pk=.ok (q,e5,s1))(D:Fu s1 pt q ln co=.ok s2)(F:p s2 e5 bop bln bco btx bnm bk=.ok (rt,s3)) :
   DW n p e pt s none (.cons o1 l1 c1 x1 m1 (.cons op ln co tx nm pk (.cons bop bln bco btx bnm bk rest)) r)=DW n p e pt s3 (some rt) r:=by
 rw[DW];simp only;rw[h];simp only;rw[D];simp only;rw[F]
end
variable {m:Nat}
theorem C5{k:Nd}(h:k.wfm m)(hm:2≤m∧m≤8):∃op ln co tx nm k2 r,k=.cons op ln co tx nm k2 r:=by
 cases k with
 |nil=>rcases h with h|h|h <;> omega
 |cons op ln co tx nm k2 r=>exact⟨op,ln,co,tx,nm,k2,r,C⟩
variable {f:Fq}{m:Nat}{lo x:Operand}{a:oA}{T ty:tI}{w:wO}
theorem AJ.rest{op ln co nm:Int}{tx:lU}{k r:Nd}{c:Nat}(h:AJ w f (.cons op ln co tx nm k r) a c):AJ w f r (E1 a c 6) (c-1):=by
 obtain⟨D,F⟩:=h;have D:r.len+1≤c:=D;refine⟨oM,?_⟩;rcases F with F|⟨b,off,G,J⟩
 · cases F
 · cases r with
   |nil=>exact .inl C
   |cons K L c2 O m2 k2 U =>
     simp only[Nd.len] at D;refine .inr ⟨b,off+6,?_,J.2⟩;rw[E1,if_neg (by omega),G];rfl
theorem Ox{P:Program}{σ:AW}{e:tI}{k len c:Nat}(D:len=m+1)(F:ev σ x=some (.slice a len c))(h:ev σ lo=some (.int .i64 1))(G:Hl P T=some (e,k)):AM P σ (.slice T x (some lo) none none) ty w (.slice (E1 a c k) m (c-1)) w:=by
 subst D;exact QW F h G
theorem Ty.last_get:∀{k:Ty}{m:Nat},k.len=m+1→k.get m=some k.last
 |.nil,m,h=>by simp[Ty.len] at h
 |.var n .nil,m,h=>by obtain rfl:m=0:=(by simpa[Ty.len] using h.symm);rfl
 |.con tx k .nil,m,h=>by obtain rfl:m=0:=(by simpa[Ty.len] using h.symm);rfl
 |.var n (.var F r),m,h=>by
   obtain⟨m,rfl⟩:∃q,m=q+1:=⟨m-1,by simp only[Ty.len] at h;omega⟩;exact Ty.last_get (k:=.var F r) (by simp only[Ty.len] at h ⊢;omega)
 |.var n (.con D k2 r),m,h=>by
   obtain⟨m,rfl⟩:∃q,m=q+1:=⟨m-1,by simp only[Ty.len] at h;omega⟩;exact Ty.last_get (k:=.con D k2 r) (by simp only[Ty.len] at h ⊢;omega)
 |.con tx k (.var F r),m,h=>by
   obtain⟨m,rfl⟩:∃q,m=q+1:=⟨m-1,by simp only[Ty.len] at h;omega⟩;exact Ty.last_get (k:=.var F r) (by simp only[Ty.len] at h ⊢;omega)
 |.con tx k (.con D k2 r),m,h=>by
   obtain⟨m,rfl⟩:∃q,m=q+1:=⟨m-1,by simp only[Ty.len] at h;omega⟩;exact Ty.last_get (k:=.con D k2 r) (by simp only[Ty.len] at h ⊢;omega)
section
variable{s:CS}{e:By}{op ln co nm:Int}{tx:lU}{k r:Nd}{d:Ty}
theorem OS(D:r≠.nil):(d.app (Fb s e (.cons op ln co tx nm k r)).1,(Fb s e (.cons op ln co tx nm k r)).2)=((d.snoc (A5 s).1).app (Fb (A5 s).2 (if op==22 then ⟨tx,(A5 s).1,[]⟩::e else e) r).1,(Fb (A5 s).2 (if op==22 then ⟨tx,(A5 s).1,[]⟩::e else e) r).2):=by
 cases r with
 |nil=>exact absurd C D
 |cons F G c2 J m2 k2 K =>
   rw[Fb]
   · rw[Ty.snoc_app]
   · intro h;cases h
theorem Nd.last_step(h:r≠.nil):(Nd.cons op ln co tx nm k r).last=r.last:=by
 cases r with
 |nil=>exact absurd C h
 |cons=>rfl
end
theorem Nd.ne_nil{r:Nd}(h:0<r.len):r≠.nil:=λe=>by rw[e] at h;exact absurd h dC
theorem wf6{k:Nd}(h:G7 6 k):k.wfm 0:=by simpa[G7] using h
theorem wf7{k:Nd}(h:G7 7 k):k.wfm 4:=by simpa[G7] using h
theorem wf8{k:Nd}(h:G7 8 k):0<k.len∧k.wfm 0:=by simpa[G7] using h
theorem wf9{k:Nd}(h:G7 9 k):k.wfm 6:=by simpa[G7] using h
theorem wf10{k:Nd}(h:G7 10 k):k.wfm 6:=by simpa[G7] using h
theorem wf11{k:Nd}(h:G7 11 k):k.wfm 7:=by simpa[G7] using h
theorem wf12{k:Nd}(h:G7 12 k):0<k.len∧k.wfm 0:=by simpa[G7] using h
theorem wf13{k:Nd}(h:G7 13 k):k.wfm 0:=by simpa[G7] using h
theorem wf14{k:Nd}(h:G7 14 k):k.wfm 5:=by simpa[G7] using h
theorem wf15{k:Nd}(h:G7 15 k):k.wfm 5:=by simpa[G7] using h
theorem wf16{k:Nd}(h:G7 16 k):k.wfm 3:=by simpa[G7] using h
theorem wf17{op:Int}{k:Nd}(h:G7 op k)(Y:(op==1)=false)(Z:(op==2)=false)(h3:(op==3)=false)(h4:(op==4)=false)(h5:(op==5)=false)(O:(op==6)=false)(U:(op==7)=false)(h8:(op==8)=false)(W:(op==9)=false)(D:(op==10)=false)(F:(op==11)=false)(G:(op==12)=false)(J:(op==13)=false)(K:(op==14)=false)(L:(op==15)=false)(HT:(op==16)=false):k.wfm 3:=by
 simp only[beq_eq_false_iff_ne,ne_eq] at *;unfold G7 at h;rcases h with h|h|h|h|h|h|h|h|h
 · omega
 · exact absurd h.1 O
 · exact absurd h.1 U
 · rcases h.1 with h|h
   · exact absurd h h8
   · exact absurd h G
 · rcases h.1 with h|h
   · exact absurd h W
   · exact absurd h D
 · exact absurd h.1 F
 · exact absurd h.1 J
 · rcases h.1 with h|h
   · exact absurd h K
   · exact absurd h L
 · exact h.2
theorem fL:∀(n:Nat)(k:Ty),k.len≤n→k.bnd→(KH k).bnd:=by
 intro n
 induction n with
 |zero=>intro k G _;obtain rfl:=Ty.len0 (k:=k) oM;exact B8 0
 |succ n J =>
   intro k G K
   cases D:k.len with
   |zero=>obtain rfl:=Ty.len0 D;exact B8 0
   |succ m =>
     obtain⟨t,r,rfl⟩:=Ty.cases1 k oM;rw[T1.len_cons] at G;obtain⟨h,F⟩:=T1.bnd_cons.1 K
     cases L:r.len with
     |zero=>obtain rfl:=Ty.len0 L;exact (R5 t).symm▸h
     |succ m2 =>
       have:=J r oM F;obtain⟨u,r,rfl⟩:=Ty.cases1 r oM;rw[Ou];exact BS dC (by simp[T1.len_cons,T1.one,Ty.len]) (T1.bnd_cons.2 ⟨h,F7 this⟩)
end Go.SP
namespace Go.SW
open Go.RowKit Go.SP
section
variable{P:Program}{n:Nat}{Q:AQ}{ds:List Deferred}{X:Cx}{R:List RB}{B:List FB}{Fs:List (wO→Fq→Prop)}{fs:List Fr}{σ:AW}{H:List HB}{k:Kt}{na:oA}{c:Nat}
theorem mnr{x r:Nd}{op ln co nm:Int}{tx:lU}{q:Nd}(j:Nat)(D:nth Fs j=some (λw f=>AJ w f x na c))(e:x=.cons op ln co tx nm q r)(h:Aw P n Q ds X R B ((λw f=>AJ w f r (E1 na c 6) (c-1))::Fs) k fs σ H):Aw P n Q ds X R B Fs k fs σ H:=Cj _ (λ_ _ F=>AJ.rest (e▸F.fn D)) AJ.mono h
end
end Go.SW
namespace Go.SP
open Go.SW Go.RowKit
def Nd.txb:Nd→Prop
 |.nil=>True
 |.cons _ _ _ tx _ k r=>tx.length≤100000∧k.txb∧r.txb
def N6(datas:List (lU×Int))(tx:lU)(kids:Nd):Bool :=
 if Dm GQ ([32]++tx++[32]) then (kids.len:Int)==0
 else if tx==FF then (kids.len:Int)==2
 else if Dm Rp ([32]++tx++[32]) then true
 else match Bo datas tx with|some c=>c==(kids.len:Int)|none=>false
def CR(datas:List (lU×Int))(vars:List (lU×T1))(op ln co:Int)(tx:lU)(kids:Nd):RI T1 :=
 if op==31 then (match Bo vars tx with
   |some t=>.ok t
   |none=>.error (ln,co,11))
 else if N6 datas tx kids then (match Gr datas vars kids with|.error x=>.error x|.ok k=>.ok (.con tx k)) else .error (ln,co,11)
section
variable{datas:List (lU×Int)}{vars:List (lU×T1)}{op ln co nm:Int}{tx:lU}{k r:Nd}{d:Ty}{t:T1}{er:Er}
theorem LY:Gr datas vars (.cons op ln co tx nm k r)=(match CR datas vars op ln co tx k with
   |.error x=>.error x
   |.ok t=>match Gr datas vars r with
     |.error x=>.error x
     |.ok l=>.ok (t.cons l)):=rfl
theorem OF:Gr datas vars k=(match Gr datas vars k with|.error x=>.error x|.ok l=>.ok (Ty.nil.app l)):=by cases Gr datas vars k <;> rfl
theorem GA(h:CR datas vars op ln co tx k=.ok t):(match Gr datas vars (.cons op ln co tx nm k r) with|.error x=>.error x|.ok l=>.ok (d.app l):RI Ty)=(match Gr datas vars r with|.error x=>.error x|.ok l=>.ok ((d.snoc t).app l)):=by
 rw[LY,h];simp only
 cases Gr datas vars r with
 |error x=>rfl
 |ok z=>simp only[Ty.snoc_app]
theorem Jd(h:CR datas vars op ln co tx k=.error er):Gr datas vars (.cons op ln co tx nm k r)=.error er:=by rw[LY,h]
end
theorem Ej{α:Type}(g:α→Value)(n:lU):∀l:List (lU×α),EF (l.map λp=>(p.1,g p.2)) n=(Bo l n).map g
 | []=>rfl
 |(k,v)::l=>by
   simp only[List.map_cons,EF,Bo]
   by_cases h:k=n
   · subst h;simp
   · have D:(k==n)=false:=by simpa using h
     have F:(n==k)=false:=by simpa using λe:n=k=>h e.symm
     rw[D,F];simpa using Ej g n l
def Ot(v:Value)(vars:List (lU×T1))(w:wO):Prop:=(v=.map none∧vars=[])∨∃m,v=.map (some m)∧BM Ck w m (vars.map λp=>(p.1,tV p.2 none 0))∧Kq (vars.map λp=>(p.1,tV p.2 none 0))∧∀n t,Bo vars n=some t→∃q,t=.var q
variable {σ:AW}{f f':Fq}{x:Operand}{P:Program}{T e ty:tI}{w w':wO}
theorem Ot.keep{v:Value}{vars:List (lU×T1)}(h:Ot v vars w)(F:C6 (λ_=>False) w f w' f'):Ot v vars w' :=
 h.imp id λ⟨m,G,D,J⟩=>⟨m,G,D.heap (F.stp.block m D.lt (λh=>h)),J⟩
theorem vN{k:tI}{y:Operand}{z:Value}{a:lU}(J:ev σ x=some (.map none))(K:ev σ y=some (S a))(L:FT P T=some (k,e))(G:P.underlying k=some Ck.desc)(hz:rO P e z):AM P σ (.lookup T x y true) ty w (.tuple #[z,.bool false]) w:=λQ _ _ _ _ h=>by
 have hu:=JP L;obtain⟨i,O,hz⟩:=Se hz;have F:=λb=>Ck.chk P k w a b G;have D:∀b,(Instr.checkKey b 10000 k (S a)).run P w=.ok () w:=F;simp[execOp,h _ _ J,h _ _ K,Instr.lookup,run_underlying hu,D,Instr.findKey,run_underlying G,Instr.findNow,zeroValue,typeInfo,O,hz]
def TypF(P:Program)(G:wO→Fq→Prop)(h:FuncId)(J T TS:tI)(n:Nat):Prop:=∀(w:wO)(f:Fq)(_:Vl w f)(A:Ad)(s:CS)(_:Aq T TS A s w f)(_:D1 s)(_:G w f)(op ln co nm:Int)(tx:lU)(kids:Nd)(D:oA)(nc:Nat)(F:Value)(vars:List (lU×T1)),
 kids.size<n→kids.size≤200000→tx.length≤100000→kids.txb→Ot F vars w→AJ w f kids D nc →
 BB P h #[.pointer (some ⟨A.cb,0,none⟩),nV op ln co tx nm kids D nc,F] w (AF (α:=T1×oA×Nat) (λx=>tV x.1 x.2.1 x.2.2) (λx=>CR s.datas vars op ln co tx kids=.ok x.1∧x.1.bnd) (λx=>[λw f=>Ae w f x.1.kids x.2.1 x.2.2]) w f)
   (PanE J (λ_=>False) (λer=>CR s.datas vars op ln co tx kids=.error er) w f)
section
variable{T TS:tI}{A:Ad}{s:CS}{w w':wO}{f f':Fq}
variable {fr pr:Int}{ac b mb oc sb vc:Nat}{aa oa va:oA}
theorem B9.chg{so:BT}(h:B9 TS sb mb so fr pr w f)(d:Gj b w w')(D:sb≠b)(F:mb≠b)(G:f b=0):B9 TS sb mb so fr pr w' f :=
 B9.stab (MI:=λk=>k=sb∨k=mb) (.inl C) (.inr C) _ _ _ _ h (Gj.fle d G) λk J=>d.block k (by rcases J with rfl|rfl;exact D;exact F)
theorem Aq.setVars(h:Aq T TS A s w f)(d:A.ok)(D:Gj A.cb w w'){v:Int}(G:AE w' A.cb [.pointer (some ⟨A.sb,0,none⟩),.map (some A.km),.map (some A.dm),.map (some A.rm),.int .i64 v] T)(F:f A.cb=0):Aq T TS A {s with vars:=v} w' f where
 blk:=G
 sol:=let ⟨pr,J⟩:=h.sol;⟨pr,J.chg D (Ne.symm d.cs) (Ne.symm d.cm.1) F⟩
 cons:=let ⟨es,K,L⟩:=h.cons;⟨es,K.heap (D.block _ (Ne.symm d.cm.2.1)),BN.mono (Gj.fle D F) _ _ L⟩
 datas:=h.datas.heap (D.block _ (Ne.symm d.cm.2.2.1))
 roots:=h.roots.heap (D.block _ (Ne.symm d.cm.2.2.2))
theorem Aq.addData(h:Aq T TS A s w f)(d:A.ok)(D:Gj A.dm w w'){k:lU}{n:Int}(hm:BM Ck w' A.dm ((k,.int .i64 n)::s.datas.map λp=>(p.1,.int .i64 p.2)))(F:f A.dm=0):Aq T TS A {s with datas:=(k,n)::s.datas} w' f where
 blk:=(D.block _ d.cm.2.2.1).trans h.blk
 sol:=let ⟨pr,G⟩:=h.sol;⟨pr,G.chg D d.sm.2.2.1 d.mm.2.1 F⟩
 cons:=let ⟨es,J,K⟩:=h.cons;⟨es,J.heap (D.block _ d.mm.2.2.2.1),BN.mono (Gj.fle D F) _ _ K⟩
 datas:=hm
 roots:=h.roots.heap (D.block _ (Ne.symm d.mm.2.2.2.2.2))
theorem Aq.addRoot(h:Aq T TS A s w f)(d:A.ok)(D:Gj A.rm w w'){k:lU}(hm:BM Ck w' A.rm ((k,.bool true)::s.roots.map λk=>(k,.bool true)))(F:f A.rm=0):Aq T TS A {s with roots:=k::s.roots} w' f where
 blk:=(D.block _ d.cm.2.2.2).trans h.blk
 sol:=let ⟨pr,G⟩:=h.sol;⟨pr,G.chg D d.sm.2.2.2 d.mm.2.2.1 F⟩
 cons:=let ⟨es,J,K⟩:=h.cons;⟨es,J.heap (D.block _ d.mm.2.2.2.2.1),BN.mono (Gj.fle D F) _ _ K⟩
 datas:=h.datas.heap (D.block _ d.mm.2.2.2.2.2)
 roots:=hm
theorem Aq.addCons(h:Aq T TS A s w f)(D:A.ok){es:List (lU×Value)}(G:BN w f s.cons es)(d:Gj A.km w w'){k:lU}{m:Mk}(hm:BM Ck w' A.km ((k,.agg (iZ m aa ac oa oc va vc).toArray)::es))(F:f A.km=0)
   (J:Ae w f m.args aa ac) (K:Ae w f m.out.kids oa oc) (L:B7 w f m.vars va vc):Aq T TS A {s with cons:=(k,m)::s.cons} w' f where
 blk:=(d.block _ D.cm.2.1).trans h.blk
 sol:=let ⟨pr,O⟩:=h.sol;⟨pr,O.chg d D.sm.2.1 D.mm.1 F⟩
 cons:=⟨_,hm,aa,ac,oa,oc,va,vc,es,C,Ae.mono _ _ _ _ J (Gj.fle d F),Ae.mono _ _ _ _ K (Gj.fle d F),B7.mono _ _ _ _ L (Gj.fle d F),BN.mono (Gj.fle d F) _ _ G⟩
 datas:=h.datas.heap (d.block _ (Ne.symm D.mm.2.2.2.1))
 roots:=h.roots.heap (d.block _ (Ne.symm D.mm.2.2.2.2.1))
end
abbrev vEs(vars:List (lU×T1)):List (lU×Value):=vars.map λp=>(p.1,tV p.2 none 0)
def Ef(T TS:tI)(A:Ad)(s:CS)(vm:Nat)(vars:List (lU×T1))(w:wO)(f:Fq):Prop:=Aq T TS A s w f∧BM Ck w vm (vEs vars)
section
variable{T TS:tI}{A:Ad}{s:CS}{w w':wO}{f f':Fq}{vm:Nat}{vars:List (lU×T1)}
theorem Ef.stab:EC (λb=>B2 A b∨b=vm) (Ef T TS A s vm vars):=λw f w' f' h D d =>
 ⟨Aq.stab w f w' f' h.1 D λb hm=>d b (.inl hm),h.2.heap (d _ (.inr C))⟩
variable {b:Nat}
theorem Ru{l:List (lU×Value)}(h:BM Ck w vm l)(D:Gj b w w')(d:vm≠b):BM Ck w' vm l:=h.heap (D.block _ d)
end
section
variable{P:Program}{n:Nat}{Q:AQ}{ds:List Deferred}{M:Nat→Prop}{w0:wO}{f0:Fq}{T TS:tI}{A:Ad}{s:CS}{vm:Nat}{vars:List (lU×T1)}{R:List RB}{B:List FB}{Fs:List (wO→Fq→Prop)}{fs:List Fr}{σ:AW}{H:List HB}
variable{all r:List Oper}{ty TM k e:tI}{pos:String}{af:Array Edge}{g:Option (Nat×Bool)}{x y z:Operand}
variable {ag:Bool}{ac i1 i2 oc vc:Nat}{aa oa va:oA}{vz:Value}
theorem dSet{v:Int}(F:A.ok)(d:¬B2 A vm)(G:gd all σ g=some true)(J:ev σ x=some (.pointer (some ⟨A.cb,4,none⟩)))(K:ev σ y=some (.int .i64 v))(L:AL P TM=some (ag,1))
   (h:Aw P n Q ds ⟨M,λb=>B2 A b∨b=vm,Ef T TS A {s with vars:=v} vm vars,w0,f0⟩ R B Fs (.ops all r) fs σ H):Aw P n Q ds ⟨M,λb=>B2 A b∨b=vm,Ef T TS A s vm vars,w0,f0⟩ R B Fs (.ops all (⟨none,.store TM x y,ty,pos,af,g⟩::r)) fs σ H :=
 lZ (b:=A.cb) (I':=Ef T TS A {s with vars:=v} vm vars) G J K C L C C C (.inl (.inl C)) (λw f h=>h.1.blk) (λw f W h O D U=>⟨h.1.setVars F D U (O.mi _ (.inl (.inl C))).2.1,Ru h.2 D λe=>d (e▸.inl C)⟩) Ef.stab h
theorem dVar{a:lU}{q:Int}(d:¬B2 A vm)(D:gd all σ g=some true)(F:ev σ x=some (.map (some vm)))(G:ev σ y=some (S a))(hz:ev σ z=some (tV (.var q) none 0))(J:FT P TM=some (k,e))(L:P.underlying k=some .string)(hd:Kq (vEs vars))(O:Bo vars a=none)
   (h:Aw P n Q ds ⟨M,λb=>B2 A b∨b=vm,Ef T TS A s vm ((a,.var q)::vars),w0,f0⟩ R B Fs (.ops all r) fs σ H):Aw P n Q ds ⟨M,λb=>B2 A b∨b=vm,Ef T TS A s vm vars,w0,f0⟩ R B Fs (.ops all (⟨none,.mapUpdate TM x y z,ty,pos,af,g⟩::r)) fs σ H :=
 iS (K:=Ck) (a:=a) (l:=vEs vars) (I':=Ef T TS A s vm ((a,.var q)::vars)) D F G hz J L (.inr C) hd (by rw[vEs,Ej (λt=>tV t none 0),O];rfl) (λw f h=>h.2) (λw f Y h U W hm=>⟨h.1.chg W d (U.mi vm (.inr C)).2.1,hm⟩) Ef.stab h
theorem dData{a:lU}{q:Int}(F:A.ok)(d:¬B2 A vm)(hw:D1 s)(G:gd all σ g=some true)(J:ev σ x=some (.map (some A.dm)))(L:ev σ y=some (S a))(hz:ev σ z=some (.int .i64 q))(O:FT P TM=some (k,e))(U:P.underlying k=some .string)(W:Bo s.datas a=none)
   (h:Aw P n Q ds ⟨M,λb=>B2 A b∨b=vm,Ef T TS A {s with datas:=(a,q)::s.datas} vm vars,w0,f0⟩ R B Fs (.ops all r) fs σ H):Aw P n Q ds ⟨M,λb=>B2 A b∨b=vm,Ef T TS A s vm vars,w0,f0⟩ R B Fs (.ops all (⟨none,.mapUpdate TM x y z,ty,pos,af,g⟩::r)) fs σ H :=
 iS (K:=Ck) (a:=a) (l:=s.datas.map λp=>(p.1,.int .i64 p.2)) (I':=Ef T TS A {s with datas:=(a,q)::s.datas} vm vars) G J L hz O U (.inl (.inr (.inr (.inr (.inr (.inl C)))))) hw.dd (by rw[Ej (λc=>Value.int .i64 c),W];rfl) (λw f h=>h.1.datas) (λw f Z h Y D hm=>⟨h.1.addData F D hm (Y.mi _ (.inl (.inr (.inr (.inr (.inr (.inl C))))))).2.1,Ru h.2 D λe=>d (e▸.inr (.inr (.inr (.inr (.inl C)))))⟩) Ef.stab h
theorem dCons{a:lU}{m:Mk}{i3:Nat}(hA:A.ok)(F:¬B2 A vm)(hw:D1 s)(hg:gd all σ g=some true)(hx:ev σ x=some (.map (some A.km)))(hy:ev σ y=some (S a))(hz:ev σ z=some vz)(G:vz=.agg (iZ m aa ac oa oc va vc).toArray)(hT:FT P TM=some (k,e))(hk:P.underlying k=some .string)(hn:Bo s.cons a=none)
   (J:nth Fs i1=some λw f=>Ae w f m.args aa ac) (L:nth Fs i2=some λw f=>Ae w f m.out.kids oa oc) (O:nth Fs i3=some λw f=>B7 w f m.vars va vc)
   (h:Aw P n Q ds ⟨M,λb=>B2 A b∨b=vm,Ef T TS A {s with cons:=(a,m)::s.cons} vm vars,w0,f0⟩ R B Fs (.ops all r) fs σ H):Aw P n Q ds ⟨M,λb=>B2 A b∨b=vm,Ef T TS A s vm vars,w0,f0⟩ R B Fs (.ops all (⟨none,.mapUpdate TM x y z,ty,pos,af,g⟩::r)) fs σ H:=by
 subst G;exact mxi (λes w f=>Ef T TS A s vm vars w f∧BM Ck w A.km es∧BN w f s.cons es) (λw f h=>let ⟨es,h1,h2⟩:=h.1.cons;⟨es,h,h1,h2⟩) (λes w f w' f' h W Y=>⟨Ef.stab w f w' f' h.1 W Y,h.2.1.heap (Y _ (.inl (.inr (.inr (.inr (.inl C)))))),BN.mono W _ _ h.2.2⟩) λes=>IF (λw f d=>(show Kq es from BN.dis d.res.2.2 hw.dc)) λD=>IF (λw f d=>(show EF es a=none from (BN.look d.res.2.2).1 hn)) λU=>iS (K:=Ck) (a:=a) (l:=es) (I':=Ef T TS A {s with cons:=(a,m)::s.cons} vm vars) hg hx hy hz hT hk (.inl (.inr (.inr (.inr (.inl C))))) D U (λw f h=>h.2.1) (λw f w2 h d Z hm=>⟨h.1.1.addCons hA h.2.2 Z hm (d.mi _ (.inl (.inr (.inr (.inr (.inl C)))))).2.1 (d.fact J) (d.fact L) (d.fact O),Ru h.1.2 Z λe=>F (e▸.inr (.inr (.inr (.inl C))))⟩) Ef.stab h
end
theorem It{α:Type}{a b:lU}{v:α}{l:List (lU×α)}:Bo ((a,v)::l) b=if a==b then some v else Bo l b:=rfl
theorem Jp{α:Type}(g:α→Value){a:lU}{v:α}{l:List (lU×α)}(h:Kq (l.map λp=>(p.1,g p.2)))(d:Bo l a=none):Kq (((a,v)::l).map λp=>(p.1,g p.2)):=⟨by rw[Ej,d];rfl,h⟩
theorem D1.addData{s:CS}(h:D1 s){a:lU}{q:Int}(d:Bo s.datas a=none):D1 {s with datas:=(a,q)::s.datas}:={h with dd:=Jp (λc=>Value.int .i64 c) h.dd d}
theorem D1.setVars{s:CS}(h:D1 s){v:Int}:D1 {s with vars:=v}:={h with}
theorem D1.addCons{s:CS}(h:D1 s){a:lU}{m:Mk}(D:Bo s.cons a=none)(hm:m.args.len≤200000∧m.args.bnd∧m.out.bnd∧m.vars.length≤200000):D1 {s with cons:=(a,m)::s.cons} :=
 {h with
   cons:=λk F d=>by
     rw[It] at d
     split at d
     · cases d;exact hm
     · exact h.cons k F d,
   dc:=Jp (λ_=>Value.bool true) h.dc D}
section
variable{ln co:Int}{op ln2 co2 nm:Int}{tx:lU}{k r:Nd}{v:Int}{m:List (lU×T1)}{self:Ty}{nums:List Int}
theorem K3(h:(op==31)=true)(d:Bo m tx=none):EN ln co (.cons op ln2 co2 tx nm k r) v m self nums=EN ln co r (v-1) ((tx,.var (v-1))::m) (self.snoc (.var (v-1))) (nums++[v-1]):=by
 rw[EN,if_pos h,if_neg (by rw[d];decide)]
theorem VG(h:(op==31)=true){t:T1}(d:Bo m tx=some t):EN ln co (.cons op ln2 co2 tx nm k r) v m self nums=.error (ln,co,11):=by
 rw[EN,if_pos h,if_pos (by rw[d];rfl)]
theorem TN(h:(op==31)=false):EN ln co (.cons op ln2 co2 tx nm k r) v m self nums=EN ln co r v m self nums:=by
 rw[EN,if_neg (by rw[h];decide)]
variable{datas:List (lU×Int)}{out:T1}{c:List (lU×Mk)}
theorem Wx(h:(op==42)=true)(d:Bo c tx=none){args:Ty}(D:Gr datas m k=.ok args):Ed datas m out nums (.cons op ln2 co2 tx nm k r) c=Ed datas m out nums r ((tx,⟨args,out,nums⟩)::c):=by
 rw[Ed,if_pos h,if_neg (by rw[d];decide),D]
theorem RS(h:(op==42)=true){mk:Mk}(d:Bo c tx=some mk):Ed datas m out nums (.cons op ln2 co2 tx nm k r) c=.error (ln2,co2,11):=by
 rw[Ed,if_pos h,if_pos (by rw[d];rfl)]
theorem Od(h:(op==42)=true)(d:Bo c tx=none){er:Er}(D:Gr datas m k=.error er):Ed datas m out nums (.cons op ln2 co2 tx nm k r) c=.error er:=by
 rw[Ed,if_pos h,if_neg (by rw[d];decide),D]
theorem Uc(h:(op==42)=false):Ed datas m out nums (.cons op ln2 co2 tx nm k r) c=Ed datas m out nums r c:=by
 rw[Ed,if_neg (by rw[h];decide)]
end
abbrev Tr:=lU×Int×T1
def pC(p:Tr)(a:oA)(c:Nat):lV:=S p.1::.int .i64 p.2.1::tC p.2.2 a c
def Dp(w:wO)(f:Fq):List Tr→lV→Prop
 | [],xs=>xs=[]
 |p::l,xs=>∃a c xs',xs=pC p a c++xs'∧Ae w f p.2.2.kids a c∧Dp w f l xs'
theorem Dp.mono'{w w':wO}{f f':Fq}(d:Hi w f w' f'):∀(l:List Tr)(xs:lV),Dp w f l xs→Dp w' f' l xs
 | [],_,h=>h
 |_::l,_,⟨a,c,xs',D,F,G⟩=>⟨a,c,xs',D,Ae.mono _ _ _ _ F d,Dp.mono' d l xs' G⟩
theorem Dp.snoc{w:wO}{f:Fq}{p:Tr}{a:oA}{c:Nat}(d:Ae w f p.2.2.kids a c):∀{l:List Tr}{xs:lV},Dp w f l xs→Dp w f (l++[p]) (xs++pC p a c)
 | [],xs,h=>by
   have h:xs=[]:=h;subst h;exact⟨a,c,[],by simp,d,C⟩
 |q::l,xs,⟨a',c',xs',D,F,G⟩=>⟨a',c',xs'++pC p a c,by rw[D,List.append_assoc],F,Dp.snoc d G⟩
theorem Dp.len{w:wO}{f:Fq}:∀{l:List Tr}{xs:lV},Dp w f l xs→xs.length=l.length*6
 | [],xs,h=>by have h:xs=[]:=h;subst h;rfl
 |p::l,xs,⟨a,c,xs',d,F,D⟩=>by
   have:=Dp.len D;subst d;simp only[List.length_append,List.length_cons,pC,tC,List.length_nil];omega
theorem Dp.mono{l:List Tr}{xs:lV}:Ea (λw f=>Dp w f l xs):=λ_ _ _ _ h d=>Dp.mono' d l xs h
def RW(ob:Nat)(a:oA)(b:Nat):Prop:=b=ob∨rb a=some b
structure Fi(T E:tI)(ob:Nat)(sl:Value)(a:oA)(c n:Nat)(xs:lV)(w:wO)(_:Fq):Prop where
 blk:AE w ob [sl] T
 row:BO w E 6 a c n xs
 ne:rb a≠some ob
section
variable{T E:tI}{ob:Nat}{sl sl':Value}{a a':oA}{c c' n n':Nat}{xs xs':lV}{w w':wO}{f f':Fq}
theorem Fi.stab:EC (RW ob a) (Fi T E ob sl a c n xs):=λw f w' f' h K d=>⟨(d _ (.inl C)).trans h.blk,⟨h.row.1,h.row.2.imp id λ⟨b,l,D,F,G⟩=>⟨b,l,D,(d b (.inr (by rw[D];rfl))).trans F,G⟩⟩,h.ne⟩
variable {b:Nat}
theorem Fi.lt(h:Fi T E ob sl a c n xs w f)(d:RW ob a b):b<w.heap.size:=by
 rcases d with rfl|d
 · exact h.blk.lt
 · exact h.row.lt d
theorem Fi.app(h:Fi T E ob sl a c n xs w f)(D:BO w' E 6 a' c' n' xs')(d:EO a w a' w'):Fi T E ob sl a' c' n' xs' w' f' :=
 ⟨h.blk.grow d (λe=>h.ne e.symm),D,λe=>d.own.elim (λo=>h.ne (o.symm.trans e)) (λo=>absurd h.blk.lt (by rw[← Option.some.inj (o.symm.trans e)];exact Nat.lt_irrefl _))⟩
theorem Fi.store(h:Fi T E ob sl a c n xs w f)(d:Gj ob w w')(D:AE w' ob [sl'] T):Fi T E ob sl' a c n xs w' f':=⟨D,BO.chgB h.row d h.ne,h.ne⟩
theorem RW.or(h:RW ob a' b):RW ob a b∨rb a'=some b:=h.elim (λh=>.inl (.inl h)) .inr
end
def Pj:List (T1×oA×Nat)→Ty
 | []=>.nil
 |t::l=>t.1.cons (Pj l)
def wG:List (T1×oA×Nat)→lV
 | []=>[]
 |t::l=>tC t.1 t.2.1 t.2.2++wG l
def hoL(w:wO)(f:Fq):List (T1×oA×Nat)→Prop
 | []=>True
 |t::l=>Ae w f t.1.kids t.2.1 t.2.2∧hoL w f l
theorem Z5{w:wO}{f:Fq}:∀{l:List (T1×oA×Nat)},hoL w f l→AU w f (Pj l) (wG l)
 | [],_=>rfl
 |(.var n,a,c)::l,h=>⟨a,c,wG l,C,Z5 h.2⟩
 |(.con tx k,a,c)::l,h=>⟨a,c,wG l,C,h.1,Z5 h.2⟩
theorem MQ:∀l:List (T1×oA×Nat),(Pj l).len=l.length
 | []=>rfl
 |t::l=>by rw[Pj,T1.len_cons,MQ l];rfl
variable {b:Nat}{M:Nat→Prop}{w0:wO}
theorem BD{w:wO}{f:Fq}{l:List (T1×oA×Nat)}(h:hoL w f l)(d:Cs w f b 0 (wG l)):Ae w f (Pj l) (some ⟨b,0,none⟩) l.length:=AU.toF (Z5 h) d (by rw[MQ];exact Nat.le_refl _)
def Vw(w:wO)(f:Fq)(l:List Tr)(a:oA)(c:Nat):Prop:=l.length≤c∧∃b xs,a=some ⟨b,0,none⟩∧Cs w f b 0 xs∧Dp w f l xs
theorem Vw.mono{l:List Tr}{a:oA}{c:Nat}:Ea (λw f=>Vw w f l a c):=λ_ _ _ _ h d=>⟨h.1,let ⟨b,xs,D,F,G⟩:=h.2;⟨b,xs,D,F.mono d,Dp.mono' d l xs G⟩⟩
theorem Fi.fin{T E:tI}{ob:Nat}{sl:Value}{a:oA}{c n:Nat}{xs:lV}{w:wO}{f0 f:Fq}{l:List Tr}(h:Fi T E ob sl a c n xs w f)(D:C6 M w0 f0 w f)(U:∀b,rb a=some b→w0.heap.size≤b)(W:Dp w f l xs)(hl:l.length=n)(h0:0<n):∃f',C6 M w0 f0 w f'∧Vw w f' l a c:=by
 rcases h.row.2 with ⟨_,_,hz⟩|⟨b,q,L,O,Y,Z,hq,ht⟩
 · omega
 · have hlt:=O.lt
   refine⟨λk=>if k=b then max xs.length (f k) else f k,?_,oM,b,xs,L,?_,?_⟩
   · refine⟨D.stp,λk F=>?_,λk F=>?_⟩
     · have:=U b (by rw[L];rfl)
       rw[if_neg (by omega)];exact D.old k F
     · rw[if_neg (by omega)];exact D.val k F
   · intro j v d
     have hjl:j<xs.length:=(List.getElem?_eq_some_iff.1 d).1;refine⟨by simp only[if_true];omega,?_⟩;have G:w.heap[b]?=some (.cells q.toArray _):=O
     have K:q[j]?=some v:=by
       rw[← ht] at d;rw[List.getElem?_take] at d
       split at d
       · exact d
       · cases d
     simp[World.cell?,G,K]
   · exact Dp.mono' (λk=>⟨by split <;> omega,λ_ _=>C⟩) l xs W
end Go.SP
namespace Go.SW
open Go.RowKit
variable {top:Bool}{fs:List Fr}
theorem mmi{P:Program}{n:Nat}{Q:AQ}{ds:List Deferred}{X:Cx}{R:List RB}{B:List FB}{Fs:List (wO→Fq→Prop)}{σ:AW}{H:List HB}{k:Kt}(MI':Nat→Prop)(I':wO→Fq→Prop)(hm:∀b,MI' b→X.MI b)(G:∀w f,X.I w f→I' w f)(F:EC MI' I')
   (h:Aw P n Q ds {X with MI:=MI',I:=I' } R B Fs k fs σ H):Aw P n Q ds X R B Fs k fs σ H:=λw f d =>
 h w f {d with
         res:=G w f d.res,
         stab:=F,
         mi:=λb D=>d.mi b (hm b D),
         own:=λb D=>⟨(d.own b D).1,(d.own b D).2.1,λh=>(d.own b D).2.2 (hm b h)⟩}
section
variable{P:Program}{n:Nat}{Q:AQ}{ds:List Deferred}{X:Cx}{R:List RB}{B:List FB}{Fs:List (wO→Fq→Prop)}{l:List Oper}{Hk:List HB}{B0:List FB}{J:wO→Prop}{σ:AW}{H:List HB}
theorem CW{α:Type}{t:OT}(t':OT)(s':α→AW)(H':α→List HB)(B':α→List FB)(F':α→List (wO→Fq→Prop))(d:∀x,CE P n Q ds X R (B' x) (F' x) l Hk B0 J true t' (s' x) (H' x))
   (h:(∀x,CE P n Q ds X R (B' x) (F' x) l Hk B0 J true t' (s' x) (H' x))→CE P n Q ds X R B Fs l Hk B0 J top t σ H):CE P n Q ds X R B Fs l Hk B0 J top t σ H:=h d
theorem AX{α:Type}{t:OT}{s':α→AW}{H':α→List HB}{B':α→List FB}{F':α→List (wO→Fq→Prop)}(h:∀x,CE P n Q ds X R (B' x) (F' x) l Hk B0 J true t (s' x) (H' x))(x:α)(d:Le (s' x) σ)(D:∀w f,AP X w f H R B Fs→AP X w f (H' x) R (B' x) (F' x)):CE P n Q ds X R B Fs l Hk B0 J true t σ H :=
 λw f hm a F=>h x w f (D w f hm) a (F.le d)
end
end Go.SW
namespace Go.SP
open Go.SW Go.RowKit
section
variable{P:Program}{n:Nat}{Q:AQ}{ds:List Deferred}{M:Nat→Prop}{w0:wO}{f0:Fq}{T TS:tI}{A:Ad}{s:CS}{R:List RB}{B:List FB}{Fs:List (wO→Fq→Prop)}{fs:List Fr}{σ:AW}{H:List HB}
variable{all r:List Oper}{ty TM k e:tI}{pos:String}{af:Array Edge}{g:Option (Nat×Bool)}{x y z:Operand}
variable {ag:Bool}{ac i1 oc vc:Nat}{aa oa va:oA}{vz:Value}
theorem cSet{v:Int}(d:A.ok)(D:gd all σ g=some true)(F:ev σ x=some (.pointer (some ⟨A.cb,4,none⟩)))(G:ev σ y=some (.int .i64 v))(J:AL P TM=some (ag,1))
   (h:Aw P n Q ds ⟨M,B2 A,Aq T TS A {s with vars:=v},w0,f0⟩ R B Fs (.ops all r) fs σ H):Aw P n Q ds ⟨M,B2 A,Aq T TS A s,w0,f0⟩ R B Fs (.ops all (⟨none,.store TM x y,ty,pos,af,g⟩::r)) fs σ H :=
 lZ (b:=A.cb) (I':=Aq T TS A {s with vars:=v}) D F G C J C C C (.inl C) (λw f h=>h.blk) (λw f U h K L O=>h.setVars d L O (K.mi _ (.inl C)).2.1) Aq.stab h
theorem cRoot{a:lU}(D:A.ok)(hw:D1 s)(F:gd all σ g=some true)(G:ev σ x=some (.map (some A.rm)))(J:ev σ y=some (S a))(hz:ev σ z=some (.bool true))(L:FT P TM=some (k,e))(O:P.underlying k=some .string)(U:s.roots.contains a=false)
   (h:Aw P n Q ds ⟨M,B2 A,Aq T TS A {s with roots:=a::s.roots},w0,f0⟩ R B Fs (.ops all r) fs σ H):Aw P n Q ds ⟨M,B2 A,Aq T TS A s,w0,f0⟩ R B Fs (.ops all (⟨none,.mapUpdate TM x y z,ty,pos,af,g⟩::r)) fs σ H :=
 iS (K:=Ck) (a:=a) (l:=s.roots.map λk=>(k,.bool true)) (I':=Aq T TS A {s with roots:=a::s.roots}) F G J hz L O (.inr (.inr (.inr (.inr (.inr C))))) hw.dr (by
   have:∀l:List lU,l.contains a=false→EF (l.map λk=>(k,Value.bool true)) a=none:=by
     intro l
     induction l with
     |nil=>intro _;rfl
     |cons b l W =>
       intro d;rw[List.contains_cons,Bool.or_eq_false_iff] at d;simp only[List.map_cons,EF];rw[d.1];simpa using W d.2
   exact this _ U) (λw f h=>h.roots) (λw f w2 h Y Z hm=>h.addRoot D Z hm (Y.mi _ (.inr (.inr (.inr (.inr (.inr C)))))).2.1) Aq.stab h
theorem cCons{a:lU}{m:Mk}(U:A.ok)(hw:D1 s)(W:gd all σ g=some true)(Y:ev σ x=some (.map (some A.km)))(Z:ev σ y=some (S a))(hz:ev σ z=some vz)(F:vz=.agg (iZ m aa ac oa oc va vc).toArray)(hT:FT P TM=some (k,e))(hk:P.underlying k=some .string)(hn:Bo s.cons a=none)
   (G:nth Fs i1=some λw f=>Ae w f m.args aa ac) (J:m.out.kids=.nil) (L:m.vars=[])
   (h:Aw P n Q ds ⟨M,B2 A,Aq T TS A {s with cons:=(a,m)::s.cons},w0,f0⟩ R B Fs (.ops all r) fs σ H):Aw P n Q ds ⟨M,B2 A,Aq T TS A s,w0,f0⟩ R B Fs (.ops all (⟨none,.mapUpdate TM x y z,ty,pos,af,g⟩::r)) fs σ H:=by
 subst F;exact mxk λes=>IF (λw f d=>(show Kq es from BN.dis d.res.2.2 hw.dc)) λD=>IF (λw f d=>(show EF es a=none from (BN.look d.res.2.2).1 hn)) λO=>iS (K:=Ck) (a:=a) (l:=es) (I':=Aq T TS A {s with cons:=(a,m)::s.cons}) W Y Z hz hT hk (.inr (.inr (.inr (.inl C)))) D O (λw f h=>h.2.1) (λw f w2 h d hC hm=>h.1.addCons U h.2.2 hC hm (d.mi _ (.inr (.inr (.inr (.inl C))))).2.1 (d.fact G) (by rw[J];exact Ae.nil _ _ _ _) (by rw[L];exact⟨Nat.zero_le _,.inl C⟩)) Aq.stab h
end
def QA:Nat→Ty
 |0=>.nil
 |n+1=>(QA n).snoc (c0 bS)
theorem L4:∀n,(QA n).len=n
 |0=>rfl
 |n+1=>by rw[QA,Ty.len_snoc,L4 n]
theorem NF:∀n,(QA n).bnd
 |0=>trivial
 |n+1=>Ty.bnd_snoc (NF n) (CN dC)
def H8:List (lU×lU×Int×Nat):=[([70,97,108,115,101],bB,0,0),([84,114,117,101],bB,1,0),([68,105,118],bX,0,0),([77,97,116,99,104],bX,1,0),([65,98,111,114,116],bX,2,0),([75,101,101,112],bX,3,0),([79,117,116],bX,4,0),([70,97,105,108],bX,5,1)]
def mkL(p:lU×lU×Int×Nat):lU×Mk:=(p.1,⟨QA p.2.2.2,c0 p.2.1,[]⟩)
def Zw(i:Nat):List (lU×Mk):=((H8.take i).map mkL).reverse
variable {f:Fq}{b i:Nat}{w:wO}
theorem O8{p:lU×lU×Int×Nat}(h:H8[i]?=some p):Zw (i+1)=mkL p::Zw i:=by
 unfold Zw;rw[Dx h,List.map_append,List.reverse_append];rfl
theorem O4:∀i,i<8→∀p,H8[i]?=some p→Bo (Zw i) p.1=none:=by
 intro i h p d;have:i=0∨i=1∨i=2∨i=3∨i=4∨i=5∨i=6∨i=7:=oM;rcases this with rfl|rfl|rfl|rfl|rfl|rfl|rfl|rfl <;> (cases d;decide)
def cC(p:lU×lU×Int×Nat):lV:=[S p.1,S p.2.1,.int .i64 p.2.2.1,.int .i64 (p.2.2.2:Int)]
theorem Cs.flat{α:Type}(g:α→lV)(q:Nat)(D:∀x,(g x).length=q):∀(l:List α)(off i:Nat)(x:α),Cs w f b off (l.flatMap g)→l[i]?=some x→Cs w f b (off+i*q) (g x)
 | [],_,_,_,_,h=>by simp at h
 |y::l,off,0,x,d,h=>by
   cases h
   rw[List.flatMap_cons] at d;simpa using Cs.le d
 |y::l,off,i+1,x,d,h=>by
   rw[List.flatMap_cons] at d;have F:=Cs.drop d;rw[D] at F;have:=Cs.flat g q D l (off+q) i x F (by simpa using h);rwa[show off+q+i*q=off+(i+1)*q by rw[Nat.add_mul];omega] at this
theorem Dp.get:∀{l:List Tr}{xs:lV}{off i:Nat}{p:Tr},Dp w f l xs→Cs w f b off xs→l[i]?=some p→∃a c,Cs w f b (off+i*6) (pC p a c)∧Ae w f p.2.2.kids a c
 | [],_,_,_,_,_,_,h=>by simp at h
 |q::l,xs,off,0,p,⟨a,c,xs',d,F,G⟩,D,h=>by
   cases h
   subst d;exact⟨a,c,by simpa using Cs.le D,F⟩
 |q::l,xs,off,i+1,p,⟨a,c,xs',d,F,G⟩,D,h=>by
   subst d;have J:=Cs.drop D;obtain⟨a',c',K,L⟩:=Dp.get G J (by simpa using h);exact⟨a',c',by rwa[show off+(pC q a c).length+i*6=off+(i+1)*6 by simp only[pC,tC,List.length_cons,List.length_nil];omega] at K,L⟩
end Go.SP
namespace Go.SW
open Go.RowKit
def zE(K:List Nat)(Q:AQ):Prop:=∀c σ h ds w,(∀k,k∈K→h k=σ k)→Q.p c σ ds w→Q.p c h ds w
def yW(K:List Nat):List Oper→Bool
 | []=>true
 |o::l=>(match o.dst with|some d=>!K.contains d|none=>true)&&yW K l
theorem Xz{K:List Nat}:∀{l:List Oper}{i:Nat}{o:Oper}{d:Nat},yW K l=true→l[i]?=some o→o.dst=some d→d∉K
 | [],_,_,_,_,h,_=>by simp at h
 |x::l,0,o,d,D,h,hd=>by
   cases h
   simp only[yW,hd,Bool.and_eq_true] at D;simpa using D.1
 |x::l,i+1,o,d,D,h,hd=>by
   simp only[yW,Bool.and_eq_true] at D;exact Xz D.2 (by simpa using h) hd
section
variable{P:Program}{n:Nat}{Q:AQ}{S:wO→Prop}{l:List Oper}{K:List Nat}
variable {id:Nat}{w:wO}
theorem jW(D:zE K Q){c:List PanicEntry}{a:Act}{d:Nat}{v:Value}(hd:d∉K)(h:Q.up n (.panic c) (a.put (some d) v) w):Q.up n (.panic c) a w:=by
 obtain⟨σ,ds,F,L⟩:=h;refine⟨λt=>if t=d then none else σ t,ds,⟨by have:=F.size;simpa[Act.put] using this,F.defs,λt O G=>?_⟩,D _ _ _ _ _ (λk U=>if_neg (c:=k=d) λe=>hd (e▸U)) L⟩
 by_cases e:t=d
 · simp[e] at G
 · simp only[e,if_false] at G
   have J:=F.val t O G;simp only[Act.put,Array.getD_eq_getD_getElem?] at J ⊢;rwa[Array.getElem?_setIfInBounds_ne (λh=>e h.symm)] at J
theorem Kz(Y:Region.noSelect l.toArray=true)(G:zE K Q)(J:yW K l=true):∀(m:Nat)(t:OT)(listed:Array Bool)(a:Act)(w:wO),t.even true m=true→t.ok l.toArray true listed=true→S w→gO P l (Q.up n) S true t a w→wpAnyH P .any l.toArray (Q.up n) S m listed a w
 |m,.fin,listed,a,w,D,F,U,h=>by
   simp[OT.even] at D;subst D;exact wpAnyH_done (by simpa[OT.ok] using F) (h C) 0
 |0,.rd _ _,_,_,_,D,_,_,_=>by simp[OT.even] at D
 |0,.br _ _ _,_,_,_,D,_,_,_=>by simp[OT.even] at D
 |m+1,.rd i k,listed,a,w,D,F,U,h=>by
   simp only[OT.ok,Bool.and_eq_true,Bool.true_and] at F;obtain⟨o,v,hi,hy,h'⟩:=h
   exact wpAnyH_take (by simpa using hi) Y F.1.1 F.1.2 (λc a w W=>by
     cases hd:o.dst with
     |none=>rw[hd] at W;exact W
     |some d=>rw[hd] at W;exact jW G (Xz J hi hd) W) hy U (Kz Y G J m k _ _ w D F.2 U h')
 |m+1,.br i k o,listed,a,w,D,F,U,h=>by
   have L:(OT.br i k o).ok l.toArray false listed=true:=by
     simp only[OT.ok,Bool.and_eq_true] at F ⊢;exact⟨⟨C,F.1.2⟩,F.2⟩
   have O:(OT.br i k o).even false (m+1)=true:=D
   have Z:Region.ready .any l.toArray listed=(OT.br i k o).alts:=by
     simp only[OT.ok,Bool.and_eq_true,Bool.not_true,Bool.false_or,beq_iff_eq] at F;exact F.1.1
   have hw':gO P l (Q.up n) S false (.br i k o) a w:=h;refine wpAnyH_all Z (by simp[OT.alts]) λj hj=>?_;obtain⟨k',h1,⟨m',hm,h2⟩,h3⟩:=OT.alts_mem (.br i k o) l.toArray listed (m+1) j L O hj;obtain rfl:m=m':=oM;obtain⟨op,hop,hwl⟩:=h3 P l (Q.up n) S a w hw';exact wpOp_mono (λa' w' hk=>⟨hk.1,Kz Y G J m k' _ a' w' h2 h1 hk.1 hk.2⟩) (HX (by simpa using hop) (λ_ _ h=>h) hwl)
variable{σ:AW}{ds:List Deferred}{X:Cx}{R:List RB}{B:List FB}{Fs:List (wO→Fq→Prop)}{fs:List Fr}{H Hk:List HB}
theorem QF(h:zE K Q):∀fs:List Fr,zE K (KT P n Q fs)
 | []=>h
 |.sq _::fs=>QF h fs
 |.bk _::fs=>QF h fs
theorem YZ(K:List Nat)(J:wO→Prop)(Y:∀w f,X.I w f→C6 X.M X.w0 X.f0 w f→J w)(Z:List Nat)(hm:P.follows .mixedOrders=true)(t:OT)(hk:MF H Z=some Hk)(G:t.ok l.toArray true (Array.replicate l.length false)=true)(L:t.even true l.length=true)(D:Region.noSelect l.toArray=true)(O:yW K l=true)(U:zE K Q)
   (h:CE P n (KT P n Q fs) ds X R B Fs l Hk B J true t σ H):Aw P n Q ds X R B Fs (.code (.region id l.toArray true)) fs σ H:=λw f W a ha=>by
 refine wp_region_held (S:=Kp Hk B J) hm ?_;have F:AP X w.drew f H R B Fs:=W.call0 (C6.of_ext AT.drew W.val);have:=Kz (P:=P) (n:=n) (Q:=KT P n Q fs) D (QF U fs) O l.length t (Array.replicate l.length false) a w.drew L G (F.kp (JQ hk) Y) (h w.drew f F a ha);simpa using this
end
variable {args:Array Value}{f:Fq}{fid:FuncId}{cv:lV}{M:Nat→Prop}{x:Operand}{w:wO}
theorem rF{b1 b2 b3:Nat}{J L O:lV}{T1 U W:tI}(Y:Vl w f)(Z:AE w b1 J T1)(h2:AE w b2 L U)(h3:AE w b3 O W)(D:f b1=0∧f b2=0∧f b3=0)(F:b1≠b2∧b1≠b3∧b2≠b3) :
   AP ⟨λb=>b=b1∨b=b2∨b=b3,λ_=>False,λ_ _=>True,w,f⟩ w f [⟨b1,J,T1,false⟩,⟨b2,L,U,false⟩,⟨b3,O,W,false⟩] [] [] [] where
 stp:=MM.refl _ _
 old _ _:=rfl
 val:=Y
 ent:=Hi.refl _ _
 res:=trivial
 stab _ _ _ _ _ _ _:=trivial
 mi _ h:=h.elim
 blk e h:=by
   rcases List.mem_cons.1 h with rfl|h
   · exact Z
   rcases List.mem_cons.1 h with rfl|h
   · exact h2
   rcases List.mem_cons.1 h with rfl|h
   · exact h3
   cases h
 row _ h:=by cases h
 nd:=by simp[CD,F.1,F.2.1,F.2.2]
 own b h:=by
   simp[CD] at h;rcases h with rfl|rfl|rfl
   · exact⟨D.1,.inr (.inl C),λh=>h⟩
   · exact⟨D.2.1,.inr (.inr (.inl C)),λh=>h⟩
   · exact⟨D.2.2,.inr (.inr (.inr C)),λh=>h⟩
 hnw e h G:=by
   rcases List.mem_cons.1 h with rfl|h
   · cases G
   rcases List.mem_cons.1 h with rfl|h
   · cases G
   rcases List.mem_cons.1 h with rfl|h
   · cases G
   cases h
 rnw _ h:=by cases h
 fro _ h:=by cases h
 fac _ h:=by cases h
 mono _ h:=by cases h
def Xe(P:Program)(fn:Func)(K:List Nat)(R:Ending→wO→Prop):AQ :=
 {q:=(WZ P fn R).q,
   p:=λc σ ds w=>∀tmps:Array Value,(∀t,t∈K→∀v,σ t=some v→tmps.getD t undef=v)→Leaves P fn tmps R ds (.panicking c) w}
theorem Ex{P:Program}{fn:Func}{K:List Nat}{R:Ending→wO→Prop}:zE K (Xe P fn K R):=λ_ _ _ _ _ D h tmps F=>h tmps λt hm v G=>F t hm v ((D t hm).trans G)
theorem wK{P:Program}{n:Nat}{X:Cx}{H:List HB}{R:List RB}{B:List FB}{Fs:List (wO→Fq→Prop)}{fn:Func}{c:Code}{l:lV}{G:Ending→wO→Prop}{K:List Nat}(J:P.funcs[fid]?=some fn)(L:fn.body=some c)(O:fn.ntmps=n)(U:Nat.ble l.length n=true)(W:AP X w f H R B Fs)
   (h:Aw P n (Xe P fn K G) [] X R B Fs (.code c) [] (Ho l 0) H):Calls P fid l.toArray w G:=by
 refine calls_of_wp_defers J L ?_;rw[O];refine wp_mono (h w f W _ (Jr U)) λe a w' he=>?_
 cases e with
 |normal=>obtain⟨σ,ds,D,F⟩:=he;show Leaves _ _ _ _ a.defers _ _;rw[D.defs];exact F _ D.val
 |ret=>obtain⟨σ,ds,D,F⟩:=he;show Leaves _ _ _ _ a.defers _ _;rw[D.defs];exact F _ D.val
 |panic c=>obtain⟨σ,ds,D,F⟩:=he;show Leaves _ _ _ _ a.defers _ _;rw[D.defs];exact F _ λt _ v Y=>D.val t v Y
 |outgrown=>exact he.elim
 |exit i=>obtain⟨σ,ds,D,F⟩:=he;exact F.elim
 |goto i=>obtain⟨σ,ds,D,F⟩:=he;exact F.elim
section
variable{P:Program}{n:Nat}{Q:AQ}{ds:List Deferred}{X:Cx}{R:List RB}{B:List FB}{Fs:List (wO→Fq→Prop)}{fs:List Fr}{σ:AW}{H:List HB}
variable{all r:List Oper}{ty T:tI}{pos:String}{af:Array Edge}{g:Option (Nat×Bool)}{d:Nat}
theorem mdf{f:FuncId}{D:Array tI}(F:gd all σ g=some true)(G:ev σ x=some (.func (.func f) #[] cv.toArray))
   (h:Aw P n Q ({target:=.fn (.func f) cv.toArray,args:=#[]}::ds) X R B Fs (.ops all r) fs σ H):Aw P n Q ds X R B Fs (.ops all (⟨none,.defer {callee:=.value x,args:=#[],argTypes:=D},ty,pos,af,g⟩::r)) fs σ H:=λw f J =>
 Bv F (Qs G (h w f J))
theorem Zu{op:Op}{α:Type}{val:α→Value}{q:α→Prop}{I':α→wO→Fq→Prop}{F':α→List (wO→Fq→Prop)}{pe:SP.Er→Prop}
   (U:gd all σ g=some true) (hd:Nat.blt d n=true) (he:∀w,Enters P σ op ty w fid args) (W:∀b,M b→X.MI b)
   (Y:∀w f,AP X w f H R B Fs→BB P fid args w (CY val q X.MI I' F' w f) (SP.PanE T M pe w f)) (F:∀x,EC X.MI (I' x)) (hm:∀x,Ap (F' x))
   (Z:∀er w' f',pe er→C6 X.M X.w0 X.f0 w' f'→(∀e,e∈H→AE w' e.b e.l e.T∧f' e.b=0∧(e.nw=true→X.w0.heap.size≤e.b))→Q.p (SP.trI T er) σ ds w')
   (h:∀x,q x→Aw P n Q ds {X with I:=I' x} R B (F' x++Fs) (.ops all r) fs (AD σ d (val x)) H):Aw P n Q ds X R B Fs (.ops all (⟨some d,op,ty,pos,af,g⟩::r)) fs σ H :=
 JK (XX:=λc w'=>∃er f',c=SP.trI T er∧pe er∧C6 X.M X.w0 X.f0 w' f'∧∀e,e∈H→AE w' e.b e.l e.T∧f' e.b=0∧(e.nw=true→X.w0.heap.size≤e.b)) U hd he (λw f O=>(Y w f O).mono (λ_ _ h=>h) λ_ w' ⟨er,f',G,J,L⟩=>by
   have D:=O.callI (I':=λ_ _=>True) (L.mono W) tQ (λ_ _ _ _ _ _ _=>trivial);exact⟨er,f',G,J,D.exm,λe he=>⟨D.blk e he,(D.own e.b (List.mem_append.2 (.inl (List.mem_map.2 ⟨e,he,C⟩)))).1,D.hnw e he⟩⟩) F hm (λ_ _ _ _ _ ⟨er,f',G,J,L,h4⟩=>G▸Z er _ f' J L h4) h
end
open Go.SP (RY)
section
variable{P:Program}{n:Nat}{Q:AQ}{ds:List Deferred}{X:Cx}{R:List RB}{B:List FB}{Fs:List (wO→Fq→Prop)}{fs:List Fr}{σ:AW}{H:List HB}
variable{all r:List Oper}{ty T:tI}{pos:String}{af:Array Edge}{g:Option (Nat×Bool)}{d:Nat}{op:Op}{fid:FuncId}{args:Array Value}{α:Type}
variable {pe:Int×Int→Prop}{xs:lV}{k:Nat}{e:tI}
theorem mclh{val:α→Value}{q:α→Prop}{F':α→List (wO→Fq→Prop)}
   (K:gd all σ g=some true) (hd:Nat.blt d n=true) (he:∀w,Enters P σ op ty w fid args)
   (O:∀w f,AP X w f H R B Fs→BB P fid args w (AF val q F' w f) (Sr T pe w f)) (hm:∀x,Ap (F' x))
   (U:∀e w' f',pe e→C6 X.M X.w0 X.f0 w' f'→(∀e,e∈H→AE w' e.b e.l e.T∧f' e.b=0∧(e.nw=true→X.w0.heap.size≤e.b))→Q.p (RY T e) σ ds w')
   (h:∀x,q x→Aw P n Q ds X R B (F' x++Fs) (.ops all r) fs (AD σ d (val x)) H):Aw P n Q ds X R B Fs (.ops all (⟨some d,op,ty,pos,af,g⟩::r)) fs σ H:=λw f F=>by
 refine Bv K (Cc hd (he w) (O w f F) ?_ ?_)
 · rintro v w' ⟨x,f',rfl,G,J,W⟩
   exact h x G w' f' ((F.call0 J).more (B':=[]) (λ_ h=>by cases h) W.mem (hm x).mem)
 · rintro c w' ⟨e,f',rfl,G,J⟩
   rw[M8];have D:=F.call0 J;exact U e w' f' G D.exm λe he=>⟨D.blk e he,(D.own e.b (List.mem_append.2 (.inl (List.mem_map.2 ⟨e,he,C⟩)))).1,D.hnw e he⟩
theorem mct{size:Nat}{val:oA→Nat→Value}(J:gd all σ g=some true)(hd:Nat.blt d n=true)(he:∀w,Enters P σ op ty w fid args)
   (K:∀w f,AP X w f H R B Fs→AO P fid args w λv w'=>∃a c,v=val a c∧(BO w' e size a c k xs∧∀b,rb a=some b→w.heap.size≤b)∧AT w w')
   (h:∀a c,Aw P n Q ds X (⟨e,size,a,c,k,xs⟩::R) B Fs (.ops all r) fs (AD σ d (val a c)) H):Aw P n Q ds X R B Fs (.ops all (⟨some d,op,ty,pos,af,g⟩::r)) fs σ H:=λw f F=>by
 refine Bv J (Cc hd (he w) (AO.retP (X:=λ_ _=>False) (K w f F)) ?_ (λ_ _ h=>False.elim h));rintro v w' ⟨a,c,rfl,⟨O,G⟩,U⟩;exact h a c w' f (F.addRow (C6.of_ext U F.val) O λb D=>⟨G b D,F.val b (G b D)⟩)
end
end Go.SW
namespace Go.SP
open Go.SW Go.RowKit
def qD(w w':wO)(f:Fq):Fq:=λb=>if b<w.heap.size then f b else match w'.heap[b]? with|some (.cells l _)=>l.size|_=>0
variable {f:Fq}{L l:lV}{b off:Nat}{a:oA}{w w':wO}
theorem jZ(D:AT w w'):C6 (λ_=>False) w f w' (qD w w' f) where
 stp:=MM.of_ext D
 old b h:=by unfold qD;rw[if_pos h]
 val b h:=by
   unfold qD;rw[if_neg (by have:=D.size;omega),Array.getElem?_eq_none h]
theorem tN{r:lV}{T:tI}(F:AE w' b L T)(O:w.heap.size≤b)(hd:L.drop off=l++r):Cs w' (qD w w' f) b off l:=λj v G=>by
 have J:L[off+j]?=some v:=by
   rw[← List.getElem?_drop,hd];obtain⟨h,_⟩:=List.getElem?_eq_some_iff.1 G;rw[List.getElem?_append_left h];exact G
 obtain⟨K,_⟩:=List.getElem?_eq_some_iff.1 J;have D:w'.heap[b]?=some (.cells L.toArray T):=F;refine⟨?_,?_⟩
 · unfold qD
   rw[if_neg (by omega),D];simpa using K
 · rw[F.cell,J]
theorem He.frz:∀(k:Fo)(b off:Nat)(L l:lV)(T:tI),AE w' b L T→w.heap.size≤b→L.drop off=l→He (λb=>w.heap.size≤b) w' k l→Zf w' (qD w w' f) k b off
 |.nil,_,_,_,_,_,_,_,_,_=>trivial
 |.cons t k r,b,off,L,l,T,J,K,hd,⟨a,n,c,O,W,⟨D,h3,F⟩,Y⟩=>by
   subst W;refine⟨⟨a,c,tN (r:=O) J K (by rw[hd,D];rfl),oM,?_⟩,He.frz r b (off+6) L O T J K (by rw[← List.drop_drop,hd];rfl) Y⟩;rcases F with F|⟨U,h,Z,T2,hu,ha,G,hc⟩
   · left
     cases k with
     |nil=>rfl
     |cons _ _ _=>rw[F] at D;cases D
   · exact .inr ⟨U,h,ha,He.frz k U h Z _ T2 G hu C hc⟩
theorem Eg.frz{c:Nat}{k:Fo}(h:Eg (λb=>w.heap.size≤b) w' a k.len c k):Cv w' (qD w w' f) k a c:=by
 obtain⟨O,F,D⟩:=h;refine⟨F,?_⟩;rcases D with D|⟨b,off,l,T,hu,G,J,K⟩
 · left
   cases k with
   |nil=>rfl
   |cons _ _ _=>cases D
 · exact .inr ⟨b,off,G,He.frz k b off l _ T J hu C K⟩
def SD(p:Nd×Int×Int×Int)(w:wO)(f:Fq)(v:Value)(w':wO):Prop :=
 ∃f' a c,C6 (λ_=>False) w f w' f'∧v=.tuple #[.slice a p.1.len c,.agg #[.int .i64 p.2.1,.int .i64 p.2.2.1],.int .i64 p.2.2.2]∧AJ w' f' p.1 a c
end Go.SP
namespace Go.Proofs.YtplnpgpagkpnmaaGreatDoor
open Go.SW Go.SP Go.RowKit Go.Proofs.Tryz
theorem Wp(w:wO)(ta:oA)(tn tc:Nat)(J:List AB)(hT:BO w 162 5 ta tc J.length (EM J))(htn:tn=J.length)(hlen:J.length≤100000) :
  BB prog 33 #[.slice ta tn tc] w (λv w'=>∃fo a c,Bt J [] .nil=.ok fo∧v=.slice a fo.len c∧Eg (λb=>w.heap.size≤b) w' a fo.len c fo∧AT w w') (λc w'=>∃e,Bt J [] .nil=.error e∧c=RY 108 e∧AT w w'):=by
 subst htn;have F:=AT.refl w;refine Iw func33 C C C<|Ay [] 7 (λ_=>BX C C GK rN C C C C C λb1 w1 hb1 hE1 hs1 hz1=>?_);have F:=F.trans hE1;refine Ax [.sq _] 17 (λ_=>?_);refine D7 (λk σ ds w'=>∃(i:Nat)(pre rest:List AB)(st:List (AB×Fo))(cur:Fo)(u:Nat→Nat)(oa:oA)(oc sb sc:Nat)(a:oA)(c:Nat)(vs:lV),k=rest.length∧ds=[]∧σ=(E5 3 (.slice (some ⟨sb,0,none⟩) (st.length+1) sc) 4 (.slice oa st.length oc) 10 (.slice ta J.length tc) 11 (iV (J.length:Int)) 12 (iV (i:Int)))∧J=pre++rest∧pre.length=i∧Bt J [] .nil=Bt rest st cur∧st.length≤200∧cur.len≤i∧(∀z∈st,z.2.len≤i)∧SV 164 162 110 u w w' st st oa oc (some ⟨sb,0,none⟩) sc (.slice a cur.len c) a c cur vs none 0 0 .nil∧AT w w') J.length (E5 3 (.slice (some ⟨b1,0,none⟩) 1 1) 4 (.slice none 0 0) 10 (.slice ta J.length tc) 11 (iV (J.length:Int)) 12 (iV ((0:Nat):Int))) lE ⟨0,[],J,[],.nil,λ_=>2,none,0,b1,1,none,0,[],C,C,C,C,C,C,by simp,by simp[Fo.len],(λz hz=>by cases hz),SV.start hb1 oM,F⟩ ?_;rintro _ _ _ wl ⟨i,pre,rest,st,cur,u,oa,oc,sb,sc,a,c,vs,rfl,rfl,rfl,htk,hpi,hm,h200,hcl,hsl,Y,F⟩;have szl:=F.size;have hil:i+rest.length=J.length:=by rw[htk,List.length_append,hpi]
 have hslt:sb<wl.heap.size:=Y.slt sb C;have hsge:w.heap.size≤sb:=(Y.sla sb C).1;have htlt:=Y.tlt;have holt:=Y.olt;have hson:=Y.o.n_le;have hssn:=Y.s.n_le;have G:=AT.refl wl;refine Ay [] 6 (λ_=>sP 13 C (λh1=>?_) (λh1=>?_));refine Ay [.sq _] 7 (λ_=>?_);have hi2:i<J.length:=by simpa using h1
 rcases rest with _|⟨tk,rest⟩
 · simp at hil;omega
 simp only[List.length_cons] at hil;obtain⟨bt,lt,lt2,hta,hbt,hdt⟩:=wH (htk▸hT) hpi
 cases hta
 have hbtl:=hbt.lt;refine Ab C (Mn (i:=i) C C DV hi2)<|Ab C (Mm 0 C DE (hbt.ext F) hdt oM C)<|C9 C Dt λb2 w2 hb2 hE2 hs2 hz2=>?_;have F:=F.trans hE2;have G:=G.trans hE2;refine A9 C C C DE C hb2 C C λw3 K hC1=>?_;have F:=F.chg hC1 oM;have G:=G.chg hC1 oM;have HR:=hC1.size;refine KP [.sq _,.bk _,.sq _] 23 [0,0] (kB K (Fh _)) (aI ⟨oM,oM⟩<|y2<|λ_=>sP 32 C (λh2=>?_) (λh2=>?_));refine Ay [.bk _,.bk _,.sq _] 9 (λ_=>sP 36 C (λh3=>?_) (λh3=>?_));exact Pr [.sq _,.bk _,.bk _,.sq _] 5 [0,1] (kB K (Fh _)) (y2<|λ_=>Ab C (BF C Xb)<|Cb (BA C) (aI C<|⟨(tk.ln,tk.co),hm.trans (SA h2 (by have:=h3;simp at this;omega)),C,F⟩));refine Pr [.sq _,.bk _,.bk _,.sq _] 7 [0,0] (kB K (Fh _)) (y2<|λ_=>BX C C DV Dt C C C C C λb3 w4 hb4 hE3 hs3 hz3=>?_);have K:=K.ext hE3;have F:=F.trans hE3;have G:=G.trans hE3;have D:=(Y.ext G);refine Cm C Tg C C C C D.o hb4 C C oM oM λoa2 oc2 w5 hr1 O=>?_;obtain⟨u2,hS1⟩:=D.pushTok tk cur hr1 O oM;have F:=F.grow O (λb hb=>(D.ol b hb).1);have sz2:=O.size;have U:=AT.refl w5;refine Ax [.sq _,.bk _,.bk _,.sq _] 5 (λ_=>BX C C GK rN C C C C C λb4 w6 W hE4 hs4 hz4=>?_);have F:=F.trans hE4;have U:=U.trans hE4;have D:=(hS1.ext U);refine Cm C ap165 C C C C D.s W C C oM oM λsa2 sc2 w7 hr2 hG2=>?_;obtain⟨u3,hS2⟩:=D.pushLev C tk hr2 hG2 oM;have F:=F.grow hG2 (λb hb=>(D.sla b hb).1);have sz3:=hG2.size;have hA3:=AT.refl w7;refine Ax [.bk _,.bk _,.sq _] 9 (aI ⟨oM,oM⟩<|λ_=>?_);obtain⟨sb2,_,hes2,-⟩:=(hS2.ext hA3).sblk
 cases hes2
 have hne2:st.length≠200:=by have:=h3;simp at this;omega
 refine Hh rest.length (E5 3 (.slice (some ⟨sb2,0,none⟩) (st.length+1+1) sc2) 4 (.slice oa2 (st.length+1) oc2) 10 (.slice (some ⟨bt,0,none⟩) J.length tc) 11 (iV (J.length:Int)) 12 (iV ((i+1:Nat):Int))) (by simp) lE ⟨i+1,pre++[tk],rest,(tk,cur)::st,.nil,_,oa2,oc2,sb2,sc2,none,0,_,C,C,C,by rw[htk];simp,by simp[hpi],hm.trans (Sz h2 hne2),by simp only[List.length_cons];omega,by simp[Fo.len],XA tk hsl hcl,(hS2.ext hA3),F⟩;refine Ay [.bk _,.bk _,.sq _] 7 (λ_=>sP 48 C (λh3=>?_) (λh3=>?_));refine Ay [.bk _,.bk _,.sq _] 8 (λ_=>sP 51 C (λh4=>?_) (λh4=>?_));refine Pr [.sq _,.bk _,.bk _,.sq _] 5 [0,1] (kB K (Fh _)) (y2<|λ_=>Ab C (BF C Xb)<|Cb (BA C) (aI C ?_));rcases st with _|⟨o,s⟩
 · exact⟨(tk.ln,tk.co),hm.trans (Uf h2 h3),C,F⟩
 · have h2:=h4;simp at h2 <;> omega
 refine Ay [.sq _,.bk _,.bk _,.sq _] 4 (λ_=>?_);rcases st with _|⟨⟨o,q⟩,s⟩
 · simp at h4
 rcases vs with _|⟨y,vs⟩
 · exact Y.lv.elim
 obtain⟨_,ls,hes,Q,L,hsl2,hsw,hsu⟩:=(Y.ext G).sblk
 cases hes
 obtain⟨ob,lo,lo2,hoa,hob,hod⟩:=(Y.ext G).oblk
 cases hoa
 have hobl:ob<wl.heap.size:=holt ob C;have hr1:=Q;have hr2:=(hbt.ext F);have hr3:=K;have hr4:=hob;refine D9 mixed (A0 w3 [sb,bt,b2,ob]) [(true,0),(true,1),(true,2),(true,3),(true,4),(true,5),(true,6),(true,7),(true,8),(true,9),(false,10),(false,11)] kR kR C C λw4 hE3 hz3=>?_;have d:A0 w3 [sb,bt,b2,ob] w4:=A0.cons hr1 hE3 (A0.cons hr2 hE3 (A0.cons hr3 hE3 (A0.cons hr4 hE3 (A0.nil _ _))));refine⟨d,?_⟩;have K:=K.ext hE3;have hob:=hob.ext hE3;have Q:=Q.ext hE3;have F:=F.trans hE3;have G:=G.trans hE3;refine Au C (λ_ Y=>As C)<|Au C (λ_ Y=>As C)<|Au C (λ_ Y=>GI C C ⟨oM,oM⟩)<|Au C (λ_ Y=>En s.length C C (by simp <;> omega) DV (by simp))<|Au C (λ_ Y=>Mm 0 C DE (hr4.keep Y (.tail _ (.tail _ (.tail _ (.head _))))) hod oM C)<|Au C (λ_ Y=>As C)<|Au C (λ_ Y=>As C)<|Au C (λ_ Y=>En (s.length+1) C C (by simp) GK (by simp))<|Au C (λ_ Y=>Ai C Ge (hr1.keep Y (.head _)) (by simpa using L))<|Au C (λ_ Y=>Dr C rA LD C) ?_;refine Em<|C9 C LD λb3 w5 hb4 hE4 hs3 hz4=>?_;have K:=K.ext hE4;have hob:=hob.ext hE4;have Q:=Q.ext hE4;have F:=F.trans hE4;have G:=G.trans hE4;have d:=d.ext hE4;refine Al (GD d<|Em<|A9 C C C KW C hb4 C C λw6 W hC2=>?_);have K:=K.chg hC2 oM;have hob:=hob.chg hC2 oM;have Q:=Q.chg hC2 oM;have F:=F.chg hC2 oM;have G:=G.chg hC2 oM;have d:=d.chg hC2 nM;have sz2:=hC2.size;refine Al (GD d<|DP<|Es [.sq _,.bk _,.bk _,.sq _] 2 (λ_=>?_));have hr5:=(hbt.ext F);have hr6:=K;have hr7:=W;refine D9 mixed (A0 w6 [bt,b2,b3]) [(true,0),(true,1),(true,2),(true,3),(true,4),(true,5),(true,6),(true,7),(true,8)] kR kR C C λw7 hE5 hz5=>?_;have d:A0 w6 [bt,b2,b3] w7:=A0.cons hr5 hE5 (A0.cons hr6 hE5 (A0.cons hr7 hE5 (A0.nil _ _)));refine⟨d,?_⟩;have K:=K.ext hE5;have W:=W.ext hE5;have F:=F.trans hE5;have G:=G.trans hE5;refine Au C (λ_ Y=>As C)<|Au C (λ_ Y=>As C)<|Au C (λ_ Y=>GI C C ⟨oM,oM⟩)<|Au C (λ_ Y=>Xd s.length C C (by simp <;> omega) DV (by simp only[List.length_cons] at hson;omega))<|Au C (λ_ Y=>As C)<|Au C (λ_ Y=>As C)<|Au C (λ_ Y=>Xd (s.length+1) C C (by simp) GK (by simp only[List.length_cons] at hssn;omega))<|Au C (λ_ Y=>CQ C)<|Au C (λ_ Y=>CQ C)<|DP ?_;refine Es [.sq _,.bk _,.bk _,.sq _] 2 (λ_=>?_);obtain⟨u2,a2,c2,hy,hP⟩:=(Y.ext G).pop
 cases hy
 obtain⟨a9,c9,hy9,xs9,hrow9,-⟩:=Y.lv.1
 cases hy9
 have htlt9:∀b,rb a2=some b→b<wl.heap.size:=λb hb=>hrow9.lt hb;have U:=AT.refl w7;have hr8:=(hbt.ext F);have hr9:=K;have hr10:=W;refine DR mixed (A0 w7 [bt,b2,b3]) (.br 0 (.br 1 (.br 2 (.br 3 .fin .fin) .fin) (.br 2 (.br 1 (.br 3 .fin .fin) .fin) .fin)) .fin) kR kR kR λw8 hE6 hz6=>?_;have d:A0 w7 [bt,b2,b3] w8:=A0.cons hr8 hE6 (A0.cons hr9 hE6 (A0.cons hr10 hE6 (A0.nil _ _)));refine⟨d,?_⟩;have K:=K.ext hE6;have W:=W.ext hE6;have F:=F.trans hE6;have G:=G.trans hE6;have U:=U.trans hE6;refine AI C<|C9 C zr4 λb4 w9 hb6 hE7 hs4 hz7=>?_;have K:=K.ext hE7;have W:=W.ext hE7;have F:=F.trans hE7;have G:=G.trans hE7;have U:=U.trans hE7;have d:=d.ext hE7;refine Al (A1 d<|Bu C ?_ ?_);refine A9 C C C wT C hb6 C C λw10 hb7 Z=>?_;have K:=K.chg Z oM;have W:=W.chg Z oM;have F:=F.chg Z oM;have G:=G.chg Z oM;have U:=U.chg Z oM;have d:=d.chg Z nM;have sz3:=Z.size;refine Al (A1 d<|AI C<|A9 C C C wT C hb7 C C λw11 hb8 hC4=>?_);have K:=K.chg hC4 oM;have W:=W.chg hC4 oM;have F:=F.chg hC4 oM;have G:=G.chg hC4 oM;have U:=U.chg hC4 oM;have d:=d.chg hC4 nM;have sz4:=hC4.size;refine Al (A1 d<|AI C<|Ab C (Ai C wT hb8 C)<|Al (A1 d<|Dn<|Es [.sq _,.bk _,.bk _,.sq _] 2 (λ_=>?_)));have hr11:=(hbt.ext F);have hr12:=K;have hr13:=W;have hr14:=hb8;refine DR mixed (A0 w11 [bt,b2,b3,b4]) (rd [0,1,2,3,4,5,6,8] (.br 7 (.br 9 (.br 10 (.rd 11 (.br 12 .fin .fin)) .fin) .fin) (.br 9 (.br 7 (.br 10 (.rd 11 (.br 12 .fin .fin)) .fin) .fin) .fin))) kR kR kR λw12 hE8 hz8=>?_;have d:A0 w11 [bt,b2,b3,b4] w12:=A0.cons hr11 hE8 (A0.cons hr12 hE8 (A0.cons hr13 hE8 (A0.cons hr14 hE8 (A0.nil _ _))));refine⟨d,?_⟩;have K:=K.ext hE8;have W:=W.ext hE8;have hb8:=hb8.ext hE8;have F:=F.trans hE8;have G:=G.trans hE8;have U:=U.trans hE8;refine A4 C C (λ_ Y=>As C)<|A4 C C (λ_ Y=>As C)<|A4 C C (λ_ Y=>GI C C ⟨oM,oM⟩)<|A4 C C (λ_ Y=>As C)<|A4 C C (λ_ Y=>As C)<|A4 C C (λ_ Y=>GI C C ⟨oM,oM⟩)<|A4 C C (λ_ Y=>En s.length C C (by simp <;> omega) GK oM)<|A4 C C (λ_ Y=>C3 C KW (hr13.keep Y (.tail _ (.tail _ (.head _)))) C)<|Bu C ?_ ?_;obtain⟨_,ls,hes,Q,L,hsl2,hsw,hsu⟩:=(hP.ext U).sblk
 cases hes
 refine Ab C (Ai C Ge Q (by simpa using L))<|Al (A1 d<|AI C<|BX C C Hs LD C C C C C λb5 w13 hb9 hE9 hs5 hz9=>?_);have K:=K.ext hE9;have W:=W.ext hE9;have hb8:=hb8.ext hE9;have F:=F.trans hE9;have G:=G.trans hE9;have U:=U.trans hE9;have d:=d.ext hE9;refine Al (A1 d<|AI C ?_);have D:=(hP.ext U);obtain⟨xs,hrow,hfc,hla⟩:=D.top;have hql:=hsl (o,q) (.head _);simp only at hql;refine Cm C Px C C C C hrow hb9 C C oM oM λa3 c3 w14 hr15 O=>?_;obtain⟨u3,hS1⟩:=D.app hrow hfc hla o D.kid hr15 O oM;obtain⟨lb,_,he3,-⟩:=hS1.tblk
 cases he3
 have hlo:lb<wl.heap.size∨lb=w13.heap.size:=by
  rcases O.own with h|h
  · exact .inl (htlt9 lb h.symm)
  · exact .inr (Option.some.inj h)
 have hlge:w13.heap.size≤w14.heap.size:=O.size;have F:=F.grow O (λb hb=>(hla b hb).1);have sz5:=O.size;have d:=d.grow O (by simp only[List.mem_cons,List.not_mem_nil,or_false];intro c hc e;have h1:=(hla c e.symm).1;have h2:=htlt9 c e.symm;omega);have hA3:=AT.refl w14;refine Al (A1 d<|A4 C C (λ_ Y=>En s.length C C (by simp <;> omega) GK oM)<|AI C ?_);have D:=(hS1.ext hA3);obtain⟨_,ls,hes,Q,L,hsl2,hsw,hsu⟩:=D.sblk
 cases hes
 refine BP C C C Ge C Q C (by simp <;> omega) λw15 hb10 hC5=>?_;have hS2:=D.cell' C Q hb10 hC5;have F:=F.chg hC5 hsw;have sz6:=hC5.size;have d:=d.chg hC5 nM;have hA4:=AT.refl w15;refine Al (A1 d<|Dn<|Es [.bk _,.bk _,.sq _] 7 (aI ⟨oM,oM⟩<|λ_=>Hh rest.length (E5 3 (.slice (some ⟨sb,0,none⟩) (s.length+1) sc) 4 (.slice (some ⟨ob,0,none⟩) s.length oc) 10 (.slice (some ⟨bt,0,none⟩) J.length tc) 11 (iV (J.length:Int)) 12 (iV ((i+1:Nat):Int))) (by simp) lE ⟨i+1,pre++[tk],rest,s,q.snoc o cur,_,_,oc,sb,sc,_,_,_,C,C,C,by rw[htk];simp,by simp[hpi],hm.trans (Gz h2 h3),by simp only[List.length_cons] at h200;omega,by rw[Fo.len_snoc];have:=hsl (o,q) (.head _);simp only at this;omega,Ly hsl,(by rw[Fo.len_snoc];exact (hS2.ext hA4).knil),F⟩));refine Bu C ?_ ?_;refine BX C C Hs LD C C C C C λb5 w13 hb9 hE9 hs5 hz9=>?_;have K:=K.ext hE9;have W:=W.ext hE9;have hb8:=hb8.ext hE9;have F:=F.trans hE9;have G:=G.trans hE9;have U:=U.trans hE9;have d:=d.ext hE9;refine Al (A1 d<|AI C ?_);obtain⟨_,ls,hes,Q,L,hsl2,hsw,hsu⟩:=(hP.ext U).sblk
 cases hes
 refine Ab C (Ai C Ge Q (by simpa using L))<|Al (A1 d<|AI C ?_);have D:=(hP.ext U);obtain⟨xs,hrow,hfc,hla⟩:=D.top;have hql:=hsl (o,q) (.head _);simp only at hql;refine Cm C Px C C C C hrow hb9 C C oM oM λa3 c3 w14 hr15 O=>?_;obtain⟨u3,hS1⟩:=D.app hrow hfc hla o D.kid hr15 O oM;obtain⟨lb,_,he3,-⟩:=hS1.tblk
 cases he3
 have hlo:lb<wl.heap.size∨lb=w13.heap.size:=by
  rcases O.own with h|h
  · exact .inl (htlt9 lb h.symm)
  · exact .inr (Option.some.inj h)
 have hlge:w13.heap.size≤w14.heap.size:=O.size;have F:=F.grow O (λb hb=>(hla b hb).1);have sz5:=O.size;have d:=d.grow O (by simp only[List.mem_cons,List.not_mem_nil,or_false];intro c hc e;have h1:=(hla c e.symm).1;have h2:=htlt9 c e.symm;omega);have hA3:=AT.refl w14;refine Al (A1 d<|A4 C C (λ_ Y=>En s.length C C (by simp <;> omega) GK oM)<|AI C ?_);have D:=(hS1.ext hA3);obtain⟨_,ls,hes,Q,L,hsl2,hsw,hsu⟩:=D.sblk
 cases hes
 refine BP C C C Ge C Q C (by simp <;> omega) λw15 hb10 hC5=>?_;have hS2:=D.cell' C Q hb10 hC5;have F:=F.chg hC5 hsw;have sz6:=hC5.size;have d:=d.chg hC5 nM;have hA4:=AT.refl w15;refine Al (A1 d<|Dn<|Es [.bk _,.bk _,.sq _] 7 (aI ⟨oM,oM⟩<|λ_=>Hh rest.length (E5 3 (.slice (some ⟨sb,0,none⟩) (s.length+1) sc) 4 (.slice (some ⟨ob,0,none⟩) s.length oc) 10 (.slice (some ⟨bt,0,none⟩) J.length tc) 11 (iV (J.length:Int)) 12 (iV ((i+1:Nat):Int))) (by simp) lE ⟨i+1,pre++[tk],rest,s,q.snoc o cur,_,_,oc,sb,sc,_,_,_,C,C,C,by rw[htk];simp,by simp[hpi],hm.trans (Gz h2 h3),by simp only[List.length_cons] at h200;omega,by rw[Fo.len_snoc];have:=hsl (o,q) (.head _);simp only at this;omega,Ly hsl,(by rw[Fo.len_snoc];exact (hS2.ext hA4).knil),F⟩));exact BI;refine Bu C ?_ ?_;refine A9 C C C wT C hb6 C C λw10 hb7 Z=>?_;have K:=K.chg Z oM;have W:=W.chg Z oM;have F:=F.chg Z oM;have G:=G.chg Z oM;have U:=U.chg Z oM;have d:=d.chg Z nM;have sz3:=Z.size;refine Al (A1 d<|AI C<|A9 C C C wT C hb7 C C λw11 hb8 hC4=>?_);have K:=K.chg hC4 oM;have W:=W.chg hC4 oM;have F:=F.chg hC4 oM;have G:=G.chg hC4 oM;have U:=U.chg hC4 oM;have d:=d.chg hC4 nM;have sz4:=hC4.size;refine Al (A1 d<|AI C<|Ab C (Ai C wT hb8 C)<|Al (A1 d<|Dn<|Es [.sq _,.bk _,.bk _,.sq _] 3 (λ_=>?_)));have hr11:=(hbt.ext F);have hr12:=K;have hr13:=W;have hr14:=hb8;refine DR mixed (A0 w11 [bt,b2,b3,b4]) (rd [0,1,2,3,4,5,6,8] (.br 7 (.rd 9 (.br 10 (.br 11 (.rd 12 (.br 13 .fin .fin)) .fin) .fin)) (.br 10 (.br 7 (.rd 9 (.br 11 (.rd 12 (.br 13 .fin .fin)) .fin)) .fin) .fin))) kR kR kR λw12 hE8 hz8=>?_;have d:A0 w11 [bt,b2,b3,b4] w12:=A0.cons hr11 hE8 (A0.cons hr12 hE8 (A0.cons hr13 hE8 (A0.cons hr14 hE8 (A0.nil _ _))));refine⟨d,?_⟩;have K:=K.ext hE8;have W:=W.ext hE8;have hb8:=hb8.ext hE8;have F:=F.trans hE8;have G:=G.trans hE8;have U:=U.trans hE8;refine A4 C C (λ_ Y=>As C)<|A4 C C (λ_ Y=>As C)<|A4 C C (λ_ Y=>GI C C ⟨oM,oM⟩)<|A4 C C (λ_ Y=>As C)<|A4 C C (λ_ Y=>As C)<|A4 C C (λ_ Y=>GI C C ⟨oM,oM⟩)<|A4 C C (λ_ Y=>En s.length C C (by simp <;> omega) GK oM)<|A4 C C (λ_ Y=>C3 C KW (hr13.keep Y (.tail _ (.tail _ (.head _)))) C)<|Bu C ?_ ?_;obtain⟨_,ls,hes,Q,L,hsl2,hsw,hsu⟩:=(hP.ext U).sblk
 cases hes
 refine Ab C (Ai C Ge Q (by simpa using L))<|Al (A1 d<|A4 C C (λ_ Y=>Ml C Hs)<|AI C<|BX C C Hs LD C C C C C λb5 w13 hb9 hE9 hs5 hz9=>?_);have K:=K.ext hE9;have W:=W.ext hE9;have hb8:=hb8.ext hE9;have F:=F.trans hE9;have G:=G.trans hE9;have U:=U.trans hE9;have d:=d.ext hE9;refine Al (A1 d<|AI C ?_);have D:=(hP.ext U);obtain⟨xs,hrow,hfc,hla⟩:=D.top;have hql:=hsl (o,q) (.head _);simp only at hql;refine Cm C Px C C C C hrow hb9 C C oM oM λa3 c3 w14 hr15 O=>?_;obtain⟨u3,hS1⟩:=D.app hrow hfc hla ⟨0,0,0,0,[]⟩ (Eg.nil _ _ none 0) hr15 O oM;obtain⟨lb,_,he3,-⟩:=hS1.tblk
 cases he3
 have hlo:lb<wl.heap.size∨lb=w13.heap.size:=by
  rcases O.own with h|h
  · exact .inl (htlt9 lb h.symm)
  · exact .inr (Option.some.inj h)
 have hlge:w13.heap.size≤w14.heap.size:=O.size;have F:=F.grow O (λb hb=>(hla b hb).1);have sz5:=O.size;have d:=d.grow O (by simp only[List.mem_cons,List.not_mem_nil,or_false];intro c hc e;have h1:=(hla c e.symm).1;have h2:=htlt9 c e.symm;omega);have hA3:=AT.refl w14;refine Al (A1 d<|A4 C C (λ_ Y=>En s.length C C (by simp <;> omega) GK oM)<|AI C ?_);have D:=(hS1.ext hA3);obtain⟨_,ls,hes,Q,L,hsl2,hsw,hsu⟩:=D.sblk
 cases hes
 refine BP C C C Ge C Q C (by simp <;> omega) λw15 hb10 hC5=>?_;have hS2:=D.cell' C Q hb10 hC5;have F:=F.chg hC5 hsw;have sz6:=hC5.size;have d:=d.chg hC5 nM;have hA4:=AT.refl w15;refine Al (A1 d<|Dn<|Es [.sq _,.bk _,.bk _,.sq _] 2 (λ_=>Ab C (En q.len C C oM Hs oM) ?_));have D:=(hS2.ext hA4);obtain⟨_,ll,hel,hlb,hll,hlw,hlu⟩:=D.tblk
 cases hel
 refine BP C C C KW C hlb C (by simp <;> omega) λw16 hb11 hC6=>?_;have hS3:=D.last' C hlb o D.kid hb11 hC6;have F:=F.chg hC6 hlw;have sz7:=hC6.size;have hA5:=AT.refl w16;refine Ax [.bk _,.bk _,.sq _] 8 (aI ⟨oM,oM⟩<|λ_=>Hh rest.length (E5 3 (.slice (some ⟨sb,0,none⟩) (s.length+1) sc) 4 (.slice (some ⟨ob,0,none⟩) s.length oc) 10 (.slice (some ⟨bt,0,none⟩) J.length tc) 11 (iV (J.length:Int)) 12 (iV ((i+1:Nat):Int))) (by simp) lE ⟨i+1,pre++[tk],rest,s,q.snoc o cur,_,_,oc,sb,sc,_,_,_,C,C,C,by rw[htk];simp,by simp[hpi],hm.trans (Gz h2 h3),by simp only[List.length_cons] at h200;omega,by rw[Fo.len_snoc];have:=hsl (o,q) (.head _);simp only at this;omega,Ly hsl,(by rw[Fo.len_snoc];exact (hS3.ext hA5).knil),F⟩);refine Bu C ?_ ?_;refine BX C C Hs LD C C C C C λb5 w13 hb9 hE9 hs5 hz9=>?_;have K:=K.ext hE9;have W:=W.ext hE9;have hb8:=hb8.ext hE9;have F:=F.trans hE9;have G:=G.trans hE9;have U:=U.trans hE9;have d:=d.ext hE9;refine Al (A1 d<|AI C ?_);obtain⟨_,ls,hes,Q,L,hsl2,hsw,hsu⟩:=(hP.ext U).sblk
 cases hes
 refine Ab C (Ai C Ge Q (by simpa using L))<|Al (A1 d<|A4 C C (λ_ Y=>Ml C Hs)<|AI C ?_);have D:=(hP.ext U);obtain⟨xs,hrow,hfc,hla⟩:=D.top;have hql:=hsl (o,q) (.head _);simp only at hql;refine Cm C Px C C C C hrow hb9 C C oM oM λa3 c3 w14 hr15 O=>?_;obtain⟨u3,hS1⟩:=D.app hrow hfc hla ⟨0,0,0,0,[]⟩ (Eg.nil _ _ none 0) hr15 O oM;obtain⟨lb,_,he3,-⟩:=hS1.tblk
 cases he3
 have hlo:lb<wl.heap.size∨lb=w13.heap.size:=by
  rcases O.own with h|h
  · exact .inl (htlt9 lb h.symm)
  · exact .inr (Option.some.inj h)
 have hlge:w13.heap.size≤w14.heap.size:=O.size;have F:=F.grow O (λb hb=>(hla b hb).1);have sz5:=O.size;have d:=d.grow O (by simp only[List.mem_cons,List.not_mem_nil,or_false];intro c hc e;have h1:=(hla c e.symm).1;have h2:=htlt9 c e.symm;omega);have hA3:=AT.refl w14;refine Al (A1 d<|A4 C C (λ_ Y=>En s.length C C (by simp <;> omega) GK oM)<|AI C ?_);have D:=(hS1.ext hA3);obtain⟨_,ls,hes,Q,L,hsl2,hsw,hsu⟩:=D.sblk
 cases hes
 refine BP C C C Ge C Q C (by simp <;> omega) λw15 hb10 hC5=>?_;have hS2:=D.cell' C Q hb10 hC5;have F:=F.chg hC5 hsw;have sz6:=hC5.size;have d:=d.chg hC5 nM;have hA4:=AT.refl w15;refine Al (A1 d<|Dn<|Es [.sq _,.bk _,.bk _,.sq _] 2 (λ_=>Ab C (En q.len C C oM Hs oM) ?_));have D:=(hS2.ext hA4);obtain⟨_,ll,hel,hlb,hll,hlw,hlu⟩:=D.tblk
 cases hel
 refine BP C C C KW C hlb C (by simp <;> omega) λw16 hb11 hC6=>?_;have hS3:=D.last' C hlb o D.kid hb11 hC6;have F:=F.chg hC6 hlw;have sz7:=hC6.size;have hA5:=AT.refl w16;refine Ax [.bk _,.bk _,.sq _] 8 (aI ⟨oM,oM⟩<|λ_=>Hh rest.length (E5 3 (.slice (some ⟨sb,0,none⟩) (s.length+1) sc) 4 (.slice (some ⟨ob,0,none⟩) s.length oc) 10 (.slice (some ⟨bt,0,none⟩) J.length tc) 11 (iV (J.length:Int)) 12 (iV ((i+1:Nat):Int))) (by simp) lE ⟨i+1,pre++[tk],rest,s,q.snoc o cur,_,_,oc,sb,sc,_,_,_,C,C,C,by rw[htk];simp,by simp[hpi],hm.trans (Gz h2 h3),by simp only[List.length_cons] at h200;omega,by rw[Fo.len_snoc];have:=hsl (o,q) (.head _);simp only at this;omega,Ly hsl,(by rw[Fo.len_snoc];exact (hS3.ext hA5).knil),F⟩);exact BI;exact BI;refine JT C C ?_;have hr1:=(hbt.ext F);have hr2:=K;refine DR mixed (A0 w3 [bt,b2]) (rd [0,1,2,4,5] (.br 3 (.rd 6 (.br 7 (.br 8 (.rd 9 (.rd 11 (.br 10 (.br 12 .fin .fin) (.br 12 (.br 10 .fin .fin) .fin)))) .fin) .fin)) (.br 7 (.br 3 (.rd 6 (.br 8 (.rd 9 (.rd 11 (.br 10 (.br 12 .fin .fin) (.br 12 (.br 10 .fin .fin) .fin)))) .fin)) .fin) .fin))) kR kR kR λw4 hE3 hz3=>?_;have d:A0 w3 [bt,b2] w4:=A0.cons hr1 hE3 (A0.cons hr2 hE3 (A0.nil _ _));refine⟨d,?_⟩;have K:=K.ext hE3;have F:=F.trans hE3;have G:=G.trans hE3;refine A4 C C (λ_ Y=>As C)<|A4 C C (λ_ Y=>As C)<|A4 C C (λ_ Y=>En st.length C C oM GK oM)<|A4 C C (λ_ Y=>C3 C DE (hr2.keep Y (.tail _ (.head _))) C)<|A4 C C (λ_ Y=>Dr C rA LD C)<|Bu C ?_ ?_;obtain⟨_,ls,hes,Q,L,hsl2,hsw,hsu⟩:=(Y.ext G).sblk
 cases hes
 refine Ab C (Ai C Ge Q (by simpa using L))<|Al (A1 d<|A4 C C (λ_ Y=>Ml C Hs)<|AI C<|BX C C Hs LD C C C C C λb3 w5 hb4 hE4 hs3 hz4=>?_);have K:=K.ext hE4;have F:=F.trans hE4;have G:=G.trans hE4;have d:=d.ext hE4;refine Al (A1 d<|AI C ?_);have D:=(Y.ext G);obtain⟨xs,hrow,hfc,hla⟩:=D.top;refine Cm C Px C C C C hrow hb4 C C oM oM λa3 c3 w6 hr3 O=>?_;obtain⟨u3,hS1⟩:=D.app hrow hfc hla ⟨0,0,0,0,[]⟩ (Eg.nil _ _ none 0) hr3 O oM;obtain⟨lb,_,he3,-⟩:=hS1.tblk
 cases he3
 have hlo:lb<wl.heap.size∨lb=w5.heap.size:=by
  rcases O.own with h|h
  · exact .inl (htlt lb h.symm)
  · exact .inr (Option.some.inj h)
 have hlge:w5.heap.size≤w6.heap.size:=O.size;have F:=F.grow O (λb hb=>(hla b hb).1);have sz2:=O.size;have d:=d.grow O (by simp only[List.mem_cons,List.not_mem_nil,or_false];intro c hc e;have h1:=(hla c e.symm).1;have h2:=htlt c e.symm;omega);have U:=AT.refl w6;refine Al (A1 d<|A4 C C (λ_ Y=>En cur.len C C oM Hs oM)<|A4 C C (λ_ Y=>En st.length C C oM GK oM)<|Bu C ?_ ?_);have D:=(hS1.ext U);obtain⟨_,ll,hel,hlb,hll,hlw,hlu⟩:=D.tblk
 cases hel
 refine BP C C C KW C hlb C (by simp <;> omega) λw7 W hC2=>?_;have hS2:=D.last' C hlb tk (Eg.nil _ _ none 0) W hC2;have F:=F.chg hC2 hlw;have sz3:=hC2.size;have d:=d.chg hC2 nM;have hA3:=AT.refl w7;refine Al (A1 d<|AI C ?_);have D:=(hS2.ext hA3);obtain⟨_,ls,hes,Q,L,hsl2,hsw,hsu⟩:=D.sblk
 cases hes
 refine BP C C C Ge C Q C (by simp <;> omega) λw8 hb6 Z=>?_;have hS3:=D.cell' C Q hb6 Z;have F:=F.chg Z hsw;have sz4:=Z.size;have d:=d.chg Z nM;have hA4:=AT.refl w8;refine Al (A1 d<|Dn<|Es [.bk _,.bk _,.sq _] 7 (aI ⟨oM,oM⟩<|λ_=>Hh rest.length (E5 3 (.slice (some ⟨sb,0,none⟩) (st.length+1) sc) 4 (.slice oa st.length oc) 10 (.slice (some ⟨bt,0,none⟩) J.length tc) 11 (iV (J.length:Int)) 12 (iV ((i+1:Nat):Int))) (by simp) lE ⟨i+1,pre++[tk],rest,st,cur.snoc tk .nil,_,oa,oc,sb,sc,_,_,_,C,C,C,by rw[htk];simp,by simp[hpi],hm.trans (Gm h2 h3),h200,by rw[Fo.len_snoc];omega,JN hsl,(by rw[Fo.len_snoc];exact (hS3.ext hA4)),F⟩));refine Bu C ?_ ?_;have D:=(hS1.ext U);obtain⟨_,ls,hes,Q,L,hsl2,hsw,hsu⟩:=D.sblk
 cases hes
 refine BP C C C Ge C Q C (by simp <;> omega) λw7 W hC2=>?_;have hS2:=D.cell' C Q W hC2;have F:=F.chg hC2 hsw;have sz3:=hC2.size;have d:=d.chg hC2 nM;have hA3:=AT.refl w7;refine Al (A1 d<|AI C ?_);have D:=(hS2.ext hA3);obtain⟨_,ll,hel,hlb,hll,hlw,hlu⟩:=D.tblk
 cases hel
 refine BP C C C KW C hlb C (by simp <;> omega) λw8 hb6 Z=>?_;have hS3:=D.last' C hlb tk (Eg.nil _ _ none 0) hb6 Z;have F:=F.chg Z hlw;have sz4:=Z.size;have d:=d.chg Z nM;have hA4:=AT.refl w8;refine Al (A1 d<|Dn<|Es [.bk _,.bk _,.sq _] 7 (aI ⟨oM,oM⟩<|λ_=>Hh rest.length (E5 3 (.slice (some ⟨sb,0,none⟩) (st.length+1) sc) 4 (.slice oa st.length oc) 10 (.slice (some ⟨bt,0,none⟩) J.length tc) 11 (iV (J.length:Int)) 12 (iV ((i+1:Nat):Int))) (by simp) lE ⟨i+1,pre++[tk],rest,st,cur.snoc tk .nil,_,oa,oc,sb,sc,_,_,_,C,C,C,by rw[htk];simp,by simp[hpi],hm.trans (Gm h2 h3),h200,by rw[Fo.len_snoc];omega,JN hsl,(by rw[Fo.len_snoc];exact (hS3.ext hA4)),F⟩));exact BI;refine Bu C ?_ ?_;refine BX C C Hs LD C C C C C λb3 w5 hb4 hE4 hs3 hz4=>?_;have K:=K.ext hE4;have F:=F.trans hE4;have G:=G.trans hE4;have d:=d.ext hE4;refine Al (A1 d<|AI C ?_);obtain⟨_,ls,hes,Q,L,hsl2,hsw,hsu⟩:=(Y.ext G).sblk
 cases hes
 refine Ab C (Ai C Ge Q (by simpa using L))<|Al (A1 d<|A4 C C (λ_ Y=>Ml C Hs)<|AI C ?_);have D:=(Y.ext G);obtain⟨xs,hrow,hfc,hla⟩:=D.top;refine Cm C Px C C C C hrow hb4 C C oM oM λa3 c3 w6 hr3 O=>?_;obtain⟨u3,hS1⟩:=D.app hrow hfc hla ⟨0,0,0,0,[]⟩ (Eg.nil _ _ none 0) hr3 O oM;obtain⟨lb,_,he3,-⟩:=hS1.tblk
 cases he3
 have hlo:lb<wl.heap.size∨lb=w5.heap.size:=by
  rcases O.own with h|h
  · exact .inl (htlt lb h.symm)
  · exact .inr (Option.some.inj h)
 have hlge:w5.heap.size≤w6.heap.size:=O.size;have F:=F.grow O (λb hb=>(hla b hb).1);have sz2:=O.size;have d:=d.grow O (by simp only[List.mem_cons,List.not_mem_nil,or_false];intro c hc e;have h1:=(hla c e.symm).1;have h2:=htlt c e.symm;omega);have U:=AT.refl w6;refine Al (A1 d<|A4 C C (λ_ Y=>En cur.len C C oM Hs oM)<|A4 C C (λ_ Y=>En st.length C C oM GK oM)<|Bu C ?_ ?_);have D:=(hS1.ext U);obtain⟨_,ll,hel,hlb,hll,hlw,hlu⟩:=D.tblk
 cases hel
 refine BP C C C KW C hlb C (by simp <;> omega) λw7 W hC2=>?_;have hS2:=D.last' C hlb tk (Eg.nil _ _ none 0) W hC2;have F:=F.chg hC2 hlw;have sz3:=hC2.size;have d:=d.chg hC2 nM;have hA3:=AT.refl w7;refine Al (A1 d<|AI C ?_);have D:=(hS2.ext hA3);obtain⟨_,ls,hes,Q,L,hsl2,hsw,hsu⟩:=D.sblk
 cases hes
 refine BP C C C Ge C Q C (by simp <;> omega) λw8 hb6 Z=>?_;have hS3:=D.cell' C Q hb6 Z;have F:=F.chg Z hsw;have sz4:=Z.size;have d:=d.chg Z nM;have hA4:=AT.refl w8;refine Al (A1 d<|Dn<|Es [.bk _,.bk _,.sq _] 7 (aI ⟨oM,oM⟩<|λ_=>Hh rest.length (E5 3 (.slice (some ⟨sb,0,none⟩) (st.length+1) sc) 4 (.slice oa st.length oc) 10 (.slice (some ⟨bt,0,none⟩) J.length tc) 11 (iV (J.length:Int)) 12 (iV ((i+1:Nat):Int))) (by simp) lE ⟨i+1,pre++[tk],rest,st,cur.snoc tk .nil,_,oa,oc,sb,sc,_,_,_,C,C,C,by rw[htk];simp,by simp[hpi],hm.trans (Gm h2 h3),h200,by rw[Fo.len_snoc];omega,JN hsl,(by rw[Fo.len_snoc];exact (hS3.ext hA4)),F⟩));refine Bu C ?_ ?_;have D:=(hS1.ext U);obtain⟨_,ls,hes,Q,L,hsl2,hsw,hsu⟩:=D.sblk
 cases hes
 refine BP C C C Ge C Q C (by simp <;> omega) λw7 W hC2=>?_;have hS2:=D.cell' C Q W hC2;have F:=F.chg hC2 hsw;have sz3:=hC2.size;have d:=d.chg hC2 nM;have hA3:=AT.refl w7;refine Al (A1 d<|AI C ?_);have D:=(hS2.ext hA3);obtain⟨_,ll,hel,hlb,hll,hlw,hlu⟩:=D.tblk
 cases hel
 refine BP C C C KW C hlb C (by simp <;> omega) λw8 hb6 Z=>?_;have hS3:=D.last' C hlb tk (Eg.nil _ _ none 0) hb6 Z;have F:=F.chg Z hlw;have sz4:=Z.size;have d:=d.chg Z nM;have hA4:=AT.refl w8;refine Al (A1 d<|Dn<|Es [.bk _,.bk _,.sq _] 7 (aI ⟨oM,oM⟩<|λ_=>Hh rest.length (E5 3 (.slice (some ⟨sb,0,none⟩) (st.length+1) sc) 4 (.slice oa st.length oc) 10 (.slice (some ⟨bt,0,none⟩) J.length tc) 11 (iV (J.length:Int)) 12 (iV ((i+1:Nat):Int))) (by simp) lE ⟨i+1,pre++[tk],rest,st,cur.snoc tk .nil,_,oa,oc,sb,sc,_,_,_,C,C,C,by rw[htk];simp,by simp[hpi],hm.trans (Gm h2 h3),h200,by rw[Fo.len_snoc];omega,JN hsl,(by rw[Fo.len_snoc];exact (hS3.ext hA4)),F⟩));exact BI;exact BI;refine Ay [.sq _] 3 (λ_=>O9<|Es [.bk _,.sq _] 4 (λ_=>?_))
 have hrz:rest=[]:=by
  rcases rest with _|⟨t9,rest⟩
  · rfl
  · simp at hil;have:=h1;simp at this;omega
 subst hrz;refine Ay [.sq _,.sq _] 6 (λ_=>sP 104 C (λh2=>?_) (λh2=>?_));refine F9 C C ?_;rcases st with _|⟨o,s⟩
 · simp at h2
 obtain⟨ob,lo,lo2,tz,fz,hoa,hob,hoz,hod⟩:=(Y.ext G).oblk0
 cases hoa
 exact Ay [.sq _] 2 (λ_=>Ab C (Mn (i:=0) C C DV (by simp))<|Ab C (C7 C mT)<|Ab C (Mm 1 C IL hob hod oM C)<|Ab C (Dr C rM zr108 C)<|Ab C (BF C Xb)<|Cb (BA C) (aI C<|⟨(tz.ln,tz.co),hm.trans (W0 hoz),C,F⟩));refine Ay [.sq _] 4 (λ_=>?_);rcases st with _|⟨o,s⟩
 rotate_left
 · simp at h2
 refine Ay [.sq _] 2 (λ_=>Ab C (Mn (i:=0) C C GK oM) ?_);obtain⟨_,ls,hes,Q,L,hsl2,hsw,hsu⟩:=(Y.ext G).sblk
 cases hes
 exact Ab C (Ai C Ge Q (by simpa using L))<|Ax [.sq _] 4 (λ_=>Bw (A3 C (Ak C))<|⟨cur,a,c,hm.trans Ta,C,(Y.ext G).out,F⟩)
theorem R2(w:wO)(c2 c3 c4:Nat) :
  CallsD prog 31 [pB c2,pB c3,pB c4].toArray .returning w λr m w'=>∃x,r=.returned x∧m=.returning∧AT w w':=by
 refine De (R:=λw'=>AT w w') func31 C C C C NS<|(?_:Aw prog _ (Ep prog _ (λ_ w'=>AT w w') λ_ _=>False) [] (X0 w (λ_=>0)) [] [] [] (.code _) [] _ []) w (λ_=>0) (AR (λ_ _=>C) tQ tQ);exact Aa 3 (λ_=>Cz C C (λw f d=>R4 QT C)<|Aa 7 (λ_=>iW (λw f d=>Gp C) (λw f d=>d.exm.stp.ext)))
theorem Sh(w:wO)(f:Fq)(G:Vl w f)(c2 c3 c4:Nat)(v2 x3 y3 v4:Value)(h:AE w c2 [v2] 39)(D:AE w c3 [x3,y3] 27)(F:AE w c4 [v4] 28)(J:f c2=0∧f c3=0∧f c4=0)(K:c2≠c3∧c2≠c4∧c3≠c4)(er:Int×Int) :
  CallsD prog 31 [pB c2,pB c3,pB c4].toArray (.panicking (RY 108 er)) w λr m w'=>∃x,r=.returned x∧m=.panicking [{v:=.iface 108 (.agg #[iV er.1,iV er.2]),recovered:=true}]∧(∃f',C6 (λb=>b=c2∨b=c3∨b=c4) w f w' f'∧AE w' c2 [.slice none 0 0] 39∧AE w' c3 [iV er.1,iV er.2] 27∧AE w' c4 [iV 10] 28):=by
 refine De (R:=λw'=>∃f',C6 (λb=>b=c2∨b=c3∨b=c4) w f w' f'∧AE w' c2 [.slice none 0 0] 39∧AE w' c3 [iV er.1,iV er.2] 27∧AE w' c4 [iV 10] 28) func31 C C C C RV<|(?_:Aw prog _ (Ep prog _ (λ_ w'=>∃f',C6 (λb=>b=c2∨b=c3∨b=c4) w f w' f'∧AE w' c2 [.slice none 0 0] 39∧AE w' c3 [iV er.1,iV er.2] 27∧AE w' c4 [iV 10] 28) λ_ _=>False) [] ⟨λb=>b=c2∨b=c3∨b=c4,λ_=>False,λ_ _=>True,w,f⟩ [] [] [] (.code _) [] _ [⟨c2,[v2],39,false⟩,⟨c3,[x3,y3],27,false⟩,⟨c4,[v4],28,false⟩]) w f (rF G h D F J K);refine Aa 3 (λ_=>Cz C C (λw f d=>QM QT C)<|Aa 5 (λ_=>Cz C C (λw f d=>Vr C mA)<|Af 11 [0] (λb1=>y<|λ_=>Ca [0] Aj (.rd 0 (.rd 1 (.br 2 (.br 3 (.br 4 .fin .fin) .fin) .fin))) C kR<|Bh 2 [0] (y<|λ_=>Ah C<|Af 2 [1] (y<|λ_=>Am [0] C ?_)))));exact Ah C<|Af 2 [2] (y<|λ_=>Am [0] C<|Ah C<|Af 2 [3] (y<|λ_=>Am [0] C<|Bp<|Aa 1 (λ_=>iW (λw f d=>Gp C) (λw f d=>⟨f,d.exm,d.blk _ qC,d.blk _ WK,d.blk _ WE⟩))))
variable {σ:AW}{f f':Fq}{a:oA}{v2 v4 x3 y3:Value}{w w':wO}
theorem zR{p:Nd×Int×Int×Int}{b2 b3 b4:Nat}(K:b2≠b3∧b2≠b4∧b3≠b4){fn:Func}(L:fn.results=#[.cell 2 39,.cell 3 27,.cell 4 28])(O:σ 2=some (pB b2))(Q:σ 3=some (pB b3))(U:σ 4=some (pB b4)){er:Int×Int}(hm:p=(.nil,er.1,er.2,10))(F:C6 (λ_=>False) w f w' f')
  (k2:AE w' b2 [v2] 39∧f' b2=0∧(true=true→w.heap.size≤b2)) (k3:AE w' b3 [x3,y3] 27∧f' b3=0∧(true=true→w.heap.size≤b3)) (k4:AE w' b4 [v4] 28∧f' b4=0∧(true=true→w.heap.size≤b4))
  (tmps:Array Value) (D:∀t,t∈[2,3,4]→∀v,σ t=some v→tmps.getD t undef=v):Leaves prog fn tmps (λe w'=>∃v,e=.returned v∧SD p w f v w') [{target:=.fn (.func 31) ([pB b2,pB b3,pB b4]:lV).toArray,args:=#[]}] (.panicking (RY 108 er)) w':=by
 refine Fj (by simp) aQ (Sh w' f' F.val b2 b3 b4 v2 x3 y3 v4 k2.1 k3.1 k4.1 ⟨k2.2.1,k3.2.1,k4.2.1⟩ K er) λwz hz=>?_;rw[KE];obtain⟨f3,W,z2,z3,z4⟩:=hz;refine DF (σ:=AD (E2 2 (pB b2) 3 (pB b3)) 4 (pB b4)) (λt v d=>?_) (Ez L (CZ C WD z2 C) (Ac C FH z3 C) (CZ C Gc z4 C)) ⟨_,C,f3,none,0,C6.trans0 F W (λb Y=>?_),by rw[hm];rfl,by rw[hm];exact⟨Nat.zero_le _,.inl C⟩⟩
 ·
  by_cases e4:t=4
  · subst e4;exact D 4 (by simp) v (U.trans d)
  by_cases G:t=3
  · subst G;exact D 3 (by simp) v (Q.trans d)
  by_cases J:t=2
  · subst J;exact D 2 (by simp) v (O.trans d)
  have n4:Nat.beq t 4=false:=by cases h:Nat.beq t 4 with|false=>rfl|true=>exact absurd (Nat.eq_of_beq_eq_true h) e4
  have n3:Nat.beq t 3=false:=by cases h:Nat.beq t 3 with|false=>rfl|true=>exact absurd (Nat.eq_of_beq_eq_true h) G
  have Z:Nat.beq t 2=false:=by cases h:Nat.beq t 2 with|false=>rfl|true=>exact absurd (Nat.eq_of_beq_eq_true h) J
  simp[AD,Go.SW.e0,Z,n3,n4] at d
 ·
  rcases Y with rfl|rfl|rfl
  · exact k2.2.2 C
  · exact k3.2.2 C
  · exact k4.2.2 C
theorem pdone{p:Nd×Int×Int×Int}{b2 b3 b4:Nat}{fn:Func}(F:fn.results=#[.cell 2 39,.cell 3 27,.cell 4 28])(G:σ 2=some (pB b2))(J:σ 3=some (pB b3))(K:σ 4=some (pB b4)){nds:Nd}(hm:p=(nds,0,0,0))(d:C6 (λ_=>False) w f w' f'){c:Nat}(L:AJ w' f' nds a c)
  (k2:AE w' b2 [.slice a nds.len c] 39) (k3:AE w' b3 [iV 0,iV 0] 27) (k4:AE w' b4 [iV 0] 28)
  (tmps:Array Value) (O:∀t v,σ t=some v→tmps.getD t undef=v):Leaves prog fn tmps (λe w'=>∃v,e=.returned v∧SD p w f v w') [{target:=.fn (.func 31) ([pB b2,pB b3,pB b4]:lV).toArray,args:=#[]}] .returning w':=by
 refine Fj (by simp) aQ (R2 w' b2 b3 b4) λU hz=>?_;have D:=C6.of_ext hz d.val;subst hm;exact DF O (Ez F (CZ G WD (k2.ext hz) C) (Ac J FH (k3.ext hz) C) (CZ K Gc (k4.ext hz) C)) ⟨_,C,f',a,c,C6.trans0 d D (λb Q=>Q.elim),C,AJ.mono _ _ _ _ L (D.fle d.val (λ_ h=>h.elim))⟩
theorem Tp(w:wO)(f:Fq)(K:Vl w f)(h:oA)(D:Nat)(d:List AB)(L:BO w 162 5 h D d.length (EM d))(hlen:d.length≤100000) :
  BB prog 33 #[.slice h d.length D] w (AF (α:=Fo×oA×Nat) (λx=>.slice x.2.1 x.1.len x.2.2) (λx=>Bt d [] .nil=.ok x.1) (λx=>[λw f=>Cv w f x.1 x.2.1 x.2.2]) w f) (Sr 108 (λe=>Bt d [] .nil=.error e) w f) :=
 (Wp w h _ D d L C hlen).mono (λ_ w' ⟨O,a,c,F,G,J,Q⟩=>⟨(O,a,c),qD w w' f,G,F,jZ Q,Eg.frz J,tQ⟩) λ_ w' ⟨e,F,G,J⟩=>⟨e,f,G,F,C6.of_ext J K⟩
set_option maxHeartbeats 1000000 in
theorem YS(w:wO)(f:Fq)(J:Vl w f)(L:Da w f)(n:Nat)(src:lU)(e:Int×Int×Int)(D:(e.2.2 != 0)=true)(O:∀F,Gl F→AO prog 30 #[S src] F λv w'=>v=.tuple #[.slice none 0 0,.agg #[iV e.1,iV e.2.1],iV e.2.2]∧AT F w') :
  AO prog 9 #[S src] w (SD (Lz (n+1) (.error e)) w f):=by
 refine wK (K:=[2,3,4]) (X:=X0 w f) (H:=[]) (R:=[]) (B:=[]) (Fs:=[λw f=>Da w f]) (f:=f) func9 C C C (AR J ⟨L,tQ⟩ ⟨Da.mono,tQ⟩)<|Aa 8 (λb1=>λb2=>λb3=>λ_=>IF (p:=b1≠b2∧b1≠b3∧b2≠b3) (λw f d=>by have h:=d.nd;simp[CD] at h;exact⟨λe=>h.2 e.symm,λe=>h.1.2 e.symm,λe=>h.1.1 e.symm⟩) λU=>Aa 2 (λ_=>Db C C (eC bM C C) (λw f d=>O _ (Da.gl d.f0))<|Af 16 [1,0,0] (y<|y<|y<|λ_=>?_)))
 ·
  refine A6 13 C C (λG=>?_) (λG=>?_);refine Aa 2 (λ_=>YZ [2,3,4] (λ_=>True) DG [] Aj (.br 0 (.br 1 (.br 2 (.br 3 (.br 4 .fin .fin) .fin) .fin) (.br 2 (.br 1 (.br 3 (.br 4 .fin .fin) .fin) (.br 3 (.br 1 (.br 4 .fin .fin) .fin) .fin)) .fin)) (.br 1 (.br 0 (.br 2 (.br 3 (.br 4 .fin .fin) .fin) .fin) (.br 2 (.br 0 (.br 3 (.br 4 .fin .fin) .fin) .fin) .fin)) (.br 2 (.br 0 (.br 1 (.br 3 (.br 4 .fin .fin) .fin) (.br 3 (.br 1 (.br 4 .fin .fin) .fin) .fin)) (.br 1 (.br 0 (.br 3 (.br 4 .fin .fin) .fin) .fin) .fin)) .fin))) C kR kR kR C Ex<|Bj C ?_ ?_);refine Af 2 [1] (y<|λ_=>Am [] C<|Bj C ?_ ?_);refine Af 2 [0] (y<|λ_=>Am [] C<|Ah C<|Af 2 [2] (y<|λ_=>Am [] C<|Ah C<|Af 2 [1] (y<|λ_=>?_)))
  rotate_left
  refine Ah C<|Af 2 [2] (y<|λ_=>Am [] C<|Bj C ?_ ?_);refine Af 2 [0] (y<|λ_=>Am [] C<|Ah C<|Af 2 [1] (y<|λ_=>?_))
  rotate_left
  refine Ah C<|Af 2 [1] (y<|λ_=>Am [] C<|Ah C<|Af 2 [0] (y<|λ_=>?_))
  rotate_left
  refine Bj C ?_ ?_;refine Af 2 [0] (y<|λ_=>Am [] C<|Bj C ?_ ?_);refine Af 2 [1] (y<|λ_=>Am [] C<|Ah C<|Af 2 [2] (y<|λ_=>Am [] C<|Ah C<|Af 2 [1] (y<|λ_=>?_)))
  rotate_left
  refine Ah C<|Af 2 [2] (y<|λ_=>Am [] C<|Ah C<|Af 2 [1] (y<|λ_=>Am [] C<|Ah C<|Af 2 [1] (y<|λ_=>?_)))
  rotate_left
  refine Ah C<|Af 2 [2] (y<|λ_=>Am [] C<|Bj C ?_ ?_);refine Af 2 [1] (y<|λ_=>Am [] C<|Bj C ?_ ?_);refine Af 2 [0] (y<|λ_=>Am [] C<|Ah C<|Af 2 [1] (y<|λ_=>?_))
  rotate_left
  refine Ah C<|Af 2 [1] (y<|λ_=>Am [] C<|Ah C<|Af 2 [0] (y<|λ_=>?_))
  rotate_left
  refine Ah C<|Af 2 [0] (y<|λ_=>Am [] C<|Ah C<|Af 2 [1] (y<|λ_=>Am [] C<|Ah C<|Af 2 [1] (y<|λ_=>?_)))
  rotate_left
  exact absurd (D.symm.trans G) dC
  all_goals
   exact Am [] C<|Ah C<|Af 2 [0] (y<|λ_=>Am [] C<|Bp<|Aa 3 (λ_=>λW f9 d=>λtmps Q=>DF Q (Ez C (CZ C WD d.k2 C) (Ac C FH d.k1 C) (CZ C Gc d.k0 C)) ⟨_,C,f9,none,0,d.exm,C,⟨Nat.zero_le _,.inl C⟩⟩))

set_option maxHeartbeats 1000000 in
theorem dY(w:wO)(f:Fq)(Y:Vl w f)(Z:Da w f)(n:Nat)(src:lU)(d:List AB)(hlen:d.length≤100000)(hok:∀G,Bt d [] .nil=.ok G→G.all (Gx (n+1))∧G.len≤100000)(hs:∀Q,Gl Q→AO prog 30 #[S src] Q λv w'=>∃L U,v=.tuple #[.slice L d.length U,.agg #[iV 0,iV 0],iV 0]∧(BO w' 162 5 L U d.length (EM d)∧∀b,rb L=some b→Q.heap.size≤b)∧AT Q w') :
  AO prog 9 #[S src] w (SD (Lz (n+1) (.ok d)) w f):=by
 refine wK (K:=[2,3,4]) (X:=X0 w f) (H:=[]) (R:=[]) (B:=[]) (Fs:=[λw f=>Da w f]) (f:=f) func9 C C C (AR Y ⟨Z,tQ⟩ ⟨Da.mono,tQ⟩)<|Aa 8 (λb1=>λb2=>λb3=>λ_=>IF (p:=b1≠b2∧b1≠b3∧b2≠b3) (λw f h=>by have W:=h.nd;simp[CD] at W;exact⟨λe=>W.2 e.symm,λe=>W.1.2 e.symm,λe=>W.1.1 e.symm⟩) λhn=>Aa 2 (λ_=>mct (val:=λa c=>.tuple #[.slice a d.length c,.agg #[iV 0,iV 0],iV 0]) C C (eC bM C C) (λw f h=>hs w (Da.gl h.f0)) λL U=>Af 21 [1,0,0] (y<|y<|y<|λ_=>Cz C C (λw f h=>VD C)<|mdf C C<|Aa 5 (λ_=>mclh (pe:=λe=>Bt d [] .nil=.error e) C C (eC tB C C) (λw f h=>Tp w f h.vl L U d (h.row _ (.head _)) hlen) (λ_=>⟨Cv.mono,tQ⟩) (λer w2 f2 he hE J=>zR hn C C C C (by rw[Lz,he]) hE (J _ WK) (J _ qC) (J _ om0)) ?_))));rintro⟨G,fa,fc⟩ D;dsimp only at D ⊢;obtain⟨O,hfl⟩:=hok G D;refine mclh (pe:=λe=>Bi (CO (n+1)) G=.error e) C C (eC CV C C) (λw f h=>BG 34 vI (CO (n+1)) (Gx (n+1)) (λw f Y Z t k a c hd hT=>Yb n w f Y Z t k a c hd hT) w f h.vl h.f1 G _ _ O hfl h.f0) (λ_=>⟨AJ.mono,tQ⟩) (λer w2 f2 he hE J=>zR hn C C C C (by rw[Lz,D];simp only[he]) hE (J _ WK) (J _ qC) (J _ om0)) ?_;rintro⟨⟨nds,xnds⟩,na,nc⟩ F;dsimp only at F ⊢;exact Af 7 [2,1,0] (y<|y<|y<|λ_=>λw9 f9 h=>λtmps ht=>pdone C C C C (show Lz (n+1) (.ok d)=(nds,0,0,0) by rw[Lz,D];simp only[F]) h.exm h.f0 h.k2 h.k1 h.k0 tmps ht)
theorem HJ(w:wO)(b:Nat)(src:lU)(i:Nat)(p:Ps)(sl:Value)(h:AE w b [S src,iV (i:Int),iV p.1,iV p.2,sl] 161) :
  AO prog 71 #[pB b] w λv w'=>v=.bool (decide ((i:Int)<(src.length:Int)))∧AT w w':=by
 have K:=h.lt;have G:=AT.refl w;refine enter func71 C C C<|Ay [] 6 (λ_=>?_);have D:=h;refine D9 mixed (A0 w [b]) [(true,0),(true,1),(true,2),(true,3),(true,4),(true,5),(true,6),(true,7),(true,8),(true,9),(true,10)] kR kR C C λL F O=>?_;have J:A0 w [b] L:=A0.cons D F (A0.nil _ _);refine⟨J,?_⟩;have h:=h.ext F;have G:=G.trans F;refine Au C (λ_ d=>As C)<|Au C (λ_ d=>Ch C)<|Au C (λ_ d=>C7 C EU)<|Au C (λ_ d=>Ai C UD (D.keep d (.head _)) C)<|Au C (λ_ d=>As C)<|Au C (λ_ d=>Ch C)<|Au C (λ_ d=>C7 C Hr)<|Au C (λ_ d=>Ai C Zv (D.keep d (.head _)) C)<|Au C (λ_ d=>MZ C JW)<|Au C (λ_ d=>V4 C C) ?_;exact Au C (λ_ d=>CQ C)<|DP<|Es [.sq _] 2 (λ_=>Bw (A3 C (Ak C))<|⟨C,G⟩)
theorem F2(w:wO)(b:Nat)(src:lU)(i:Nat)(p:Ps)(sl:Value)(d:AE w b [S src,iV (i:Int),iV p.1,iV p.2,sl] 161)(c:UInt8)(Z:src[i]?=some c)(hi:i<1000000)(hp:Pk i p) :
  AO prog 121 #[pB b] w λv w'=>v=.int .u8 c.toNat∧AE w' b [S src,iV ((i+1:Nat):Int),iV (adv c p).1,iV (adv c p).2,sl] 161∧KQ b w w':=by
 have hbl:=d.lt;obtain⟨hp1,hp2,hp3,hp4⟩:=hp;have D:=KQ.refl b w;refine enter func121 C C C<|Ay [] 6 (λ_=>?_);have F:=d;refine D9 mixed (A0 w [b]) [(true,0),(true,1),(true,2),(true,3),(true,4),(true,5),(true,6),(true,7),(true,8),(true,9)] kR kR C C λw1 G hz1=>?_;have U:A0 w [b] w1:=A0.cons F G (A0.nil _ _);refine⟨U,?_⟩;have d:=d.ext G;have D:=D.trans G;refine Au C (λ_ h=>As C)<|Au C (λ_ h=>Ch C)<|Au C (λ_ h=>C7 C Hr)<|Au C (λ_ h=>Ai C Zv (F.keep h (.head _)) C)<|Au C (λ_ h=>As C)<|Au C (λ_ h=>Ch C)<|Au C (λ_ h=>C7 C EU)<|Au C (λ_ h=>Ai C UD (F.keep h (.head _)) C)<|Au C (λ_ h=>CF C C JW oM (by simpa using Z))<|Au C (λ_ h=>CQ C) ?_;refine DP<|Es [.sq _] 4 (λ_=>Ab C (Ch C)<|KP [.sq _] 3 [0,1] (kB d (Fh _)) (y2<|aI ⟨oM,oM⟩<|λ_=>Ab C (Ch C)<|Ab C (C7 C EU)<|A9 C C C UD C d C C λw2 K L=>?_));have D:=D.chg L oM;have HR:=L.size;refine Ax [.sq _] 5 (λ_=>Ab C (Ch C)<|KP [.sq _] 4 [0,3] (kB K (Fh _)) (y2<|aI ⟨oM,oM⟩<|λ_=>Ab C (Ch C)<|Ax [.sq _] 2 (λ_=>A9 C C C UD C K C C λw3 J O=>?_)));have D:=D.chg O oM;have sz2:=O.size;refine Ax [.sq _] 9 (λ_=>sP 30 C (λW=>?_) (λW=>?_));refine Ay [.sq _] 4 (λ_=>Ab C (Ch C)<|KP [.sq _] 5 [0,2] (kB J (Fh _)) (y2<|aI ⟨oM,oM⟩<|λ_=>Ab C (Ch C)<|Ab C (C7 C Q0)<|A9 C C C IL C J C C λw4 Y Q=>?_));have D:=D.chg Q oM;have sz3:=Q.size;exact Ax [.sq _] 9 (λ_=>Bw (A3 C (Ak C))<|⟨C,by simp only[adv,W];exact Y,D⟩);exact Ay [.sq _] 10 (λ_=>Bw (A3 C (Ak C))<|⟨C,by simp only[adv,W];exact J,D⟩)
theorem Tf(w:wO)(b:Nat)(src:lU)(i:Nat)(p:Ps)(sl:Value)(J:AE w b [S src,iV (i:Int),iV p.1,iV p.2,sl] 161)(c:UInt8)(K:src[i]?=some c)(hi:i<100000)(hp:Pk i p) :
  BB prog 152 #[pB b] w (λv w'=>∃(c1:UInt8)(i1:Nat)(p1:Ps),K7 p (src.drop i)=.ok (c1,src.drop i1,p1)∧v=.int .u8 c1.toNat∧AE w' b [S src,iV ((i1:Nat):Int),iV p1.1,iV p1.2,sl] 161∧KQ b w w'∧i<i1∧i1≤src.length∧Pk i1 p1) (λcc w'=>∃e,K7 p (src.drop i)=.error e∧cc=RY 158 e∧KQ b w w'):=by
 have hbl:=J.lt;have F:=KQ.refl b w;refine Iw func152 C C C<|Ay [] 8 (λ_=>Ab C (Ch C)<|KP [.sq _] 2 [0,2] (kB J (Fh _)) (y2<|λ_=>C9 C Uh λb1 w1 hb1 hE1 hs1 hz1=>?_));have J:=J.ext hE1;have F:=F.trans hE1;refine A9 C C C IL C hb1 C C λw2 d hC1=>?_;have J:=J.chg hC1 oM;have F:=F.chg hC1 oM;have HR:=hC1.size;refine Ax [.sq _] 6 (λ_=>Az C (Ar K0 C C) (F2 _ b src i p sl J c K oM hp) ?_);rintro _ w3 ⟨rfl,D,hE2⟩;have d:=d.exb hE2 oM;have F:=F.trans2 hE2;have sz2:=hE2.size;have L:=Pk.adv (c:=c) hp;refine Ax [.sq _,.sq _] 16 (λ_=>sP 14 C (λh1=>?_) (λh1=>?_));exact Ay [.sq _,.bk _,.sq _] 13 (λ_=>Bw (A3 C (Ak C))<|⟨c,i+1,adv c p,by rw[AY K];simp[K7,h1],C,D,F,oM,by have:=Ds K;omega,L⟩);refine Ay [.sq _,.bk _,.sq _] 6 (λ_=>sP 14 C (λh2=>?_) (λh2=>?_));exact Ay [.bk _,.sq _] 10 (λ_=>Bw (A3 C (Ak C))<|⟨c,i+1,adv c p,by rw[AY K];simp[K7,h1,h2],C,D,F,oM,by have:=Ds K;omega,L⟩);refine Ay [.bk _,.sq _] 7 (λ_=>sP 18 C (λh3=>?_) (λh3=>?_));exact Ay [.bk _,.sq _] 9 (λ_=>Bw (A3 C (Ak C))<|⟨10,i+1,adv c p,by rw[AY K];simp[K7,h1,h2,h3],C,D,F,oM,by have:=Ds K;omega,L⟩);refine Ay [.bk _,.sq _] 7 (λ_=>sP 20 C (λh4=>?_) (λh4=>?_));refine Ay [.bk _,.sq _] 2 (λ_=>?_);have hr1:=D;have hr2:=d;refine D9 mixed (A0 w3 [b,b1]) [(true,0),(true,1),(true,2),(true,3),(true,4),(true,5),(true,6),(true,7),(true,8),(true,9),(true,10)] kR kR C C λw4 O hz2=>?_;have G:A0 w3 [b,b1] w4:=A0.cons hr1 O (A0.cons hr2 O (A0.nil _ _));refine⟨G,?_⟩;have d:=d.ext O;have D:=D.ext O;have F:=F.trans O;refine Au C (λ_ h=>As C)<|Au C (λ_ h=>Ch C)<|Au C (λ_ h=>C7 C EU)<|Au C (λ_ h=>Ai C UD (hr1.keep h (.head _)) C)<|Au C (λ_ h=>LV C C ⟨oM,oM⟩)<|Au C (λ_ h=>As C)<|Au C (λ_ h=>Ch C)<|Au C (λ_ h=>C7 C Hr)<|Au C (λ_ h=>Ai C Zv (hr1.keep h (.head _)) C)<|Au C (λ_ h=>MZ C JW) ?_;refine Au C (λ_ h=>aR C C)<|DP<|Dd<|sP 32 C (λh5=>?_) (λh5=>?_);refine Ay [.bk _,.sq _] 2 (λ_=>?_);have hlt2:i+3≤src.length:=by have:=h5;simp at this;omega
 obtain⟨a1,Q⟩:=Kn (show i+1<src.length by omega);obtain⟨a2,U⟩:=Kn (show i+2<src.length by omega);have W:=D;have hr4:=d;refine D9 mixed (A0 w4 [b,b1]) [(true,0),(true,1),(true,2),(true,3),(true,4),(true,5),(true,6),(true,7),(true,8),(true,10),(true,11),(true,12),(true,13),(true,14),(true,15),(true,16),(true,17),(true,18),(true,19),(false,9),(false,20),(true,21),(true,22)] kR kR C C λw5 Y hz3=>?_;have G:A0 w4 [b,b1] w5:=A0.cons W Y (A0.cons hr4 Y (A0.nil _ _));refine⟨G,?_⟩;have d:=d.ext Y;have D:=D.ext Y;have F:=F.trans Y;refine Au C (λ_ h=>As C)<|Au C (λ_ h=>Ch C)<|Au C (λ_ h=>C7 C Hr)<|Au C (λ_ h=>Ai C Zv (W.keep h (.head _)) C)<|Au C (λ_ h=>As C)<|Au C (λ_ h=>Ch C)<|Au C (λ_ h=>C7 C EU)<|Au C (λ_ h=>Ai C UD (W.keep h (.head _)) C)<|Au C (λ_ h=>CF C C JW oM (show src[(((i+1:Nat):Int)).toNat]?=some a1 by rw[Int.toNat_natCast];exact Q))<|Au C (λ_ h=>As C) ?_;refine Au C (λ_ h=>Ch C)<|Au C (λ_ h=>C7 C Hr)<|Au C (λ_ h=>Ai C Zv (W.keep h (.head _)) C)<|Au C (λ_ h=>As C)<|Au C (λ_ h=>Ch C)<|Au C (λ_ h=>C7 C EU)<|Au C (λ_ h=>Ai C UD (W.keep h (.head _)) C)<|Au C (λ_ h=>LV C C ⟨oM,oM⟩)<|Au C (λ_ h=>CF C C JW oM (show src[(((i+1:Nat):Int)+1).toNat]?=some a2 by rw[show (((i+1:Nat):Int)+1).toNat=i+2 by omega];exact U))<|Em ?_;refine Az C (Ar Ry C C) (EG _ ES _) ?_;rintro _ w6 ⟨rfl,Z⟩;have d:=d.ext Z;have D:=D.ext Z;have F:=F.trans Z;have G:=G.ext Z;have sz3:=Z.size;refine Al (GD G<|Em<|Az C (Ar Ry C C) (EG _ ES _) ?_);rintro _ w7 ⟨rfl,hE6⟩;have d:=d.ext hE6;have D:=D.ext hE6;have F:=F.trans hE6;have G:=G.ext hE6;have sz4:=hE6.size;refine Al (GD G<|Au C (λ_ h=>CQ C)<|Au C (λ_ h=>CQ C)<|DP<|Es [.sq _,.bk _,.sq _] 6 (λ_=>sL 56 C (λh6=>?_) (λh6=>?_)));refine Ax [.sq _,.bk _,.sq _] 5 (λ_=>sP 59 C (λh7=>?_) (λh7=>?_));refine Ay [.bk _,.sq _] 4 (λ_=>Az C (Ar K0 C C) (F2 _ b src (i+1) (adv c p) sl D a1 Q oM L) ?_);rintro _ w8 ⟨rfl,hb4,hE7⟩;have d:=d.exb hE7 oM;have F:=F.trans2 hE7;have sz5:=hE7.size;have hp2:=Pk.adv (c:=a1) L;refine Ax [.sq _,.bk _,.sq _] 5 (λ_=>Az C (Ar K0 C C) (F2 _ b src ((i+1)+1) (adv a1 (adv c p)) sl hb4 a2 U oM hp2) ?_);rintro _ w9 ⟨rfl,hb5,hE8⟩;have d:=d.exb hE8 oM;have F:=F.trans2 hE8;have sz6:=hE8.size;have hp3:=Pk.adv (c:=a2) hp2;refine Ax [.sq _,.bk _,.sq _] 3 (λ_=>?_);have hx1:0≤Lib.indexByte ES a1:=by have:=h6;simpa using this
 have hx2:0≤Lib.indexByte ES a2:=by have:=h7;simpa using this
 have hy1:=dL a1;have hy2:=dL a2;exact Ay [.sq _,.bk _,.sq _] 2 (λ_=>Ab C (oH C C ⟨hx1,hy1⟩)<|Ab C (As C)<|Ab C (oQ C C ⟨hx1,hy1⟩ ⟨hx2,hy2⟩)<|Ab C (Cg C qT (PZ ⟨oM,oM⟩))<|Ax [.sq _,.bk _,.sq _] 6 (λ_=>Bw (A3 C (Ak C))<|⟨UInt8.ofNat ((Lib.indexByte ES a1).toNat*16+(Lib.indexByte ES a2).toNat),i+3,adv a2 (adv a1 (adv c p)),by rw[AY K,iL Q U];simp[K7,h1,h2,h3,h4,hx1,hx2],by rw[hexv ⟨hx1,hy1⟩ ⟨hx2,hy2⟩],hb5,F,oM,oM,hp3⟩));exact Pr [.bk _,.sq _] 7 [0,0] (kB d (Fh _)) (y2<|λ_=>Ab C (BF C FM)<|Cb (BA C) (aI C<|⟨p,by rw[AY K,iL Q U];exact TD h1 h2 h3 h4 (.inr (by have:=h7;simpa using this)),C,F⟩));exact KP [.sq _,.bk _,.sq _] 12 [0,0] (kB d (Fh _)) (y2<|λ_=>Ab C (BF C FM)<|Cb (BA C) (aI C<|⟨p,by rw[AY K,iL Q U];exact TD h1 h2 h3 h4 (.inl (by have:=h6;simpa using this)),C,F⟩));exact Pr [.bk _,.sq _] 7 [0,0] (kB d (Fh _)) (y2<|λ_=>Ab C (BF C FM)<|Cb (BA C) (aI C<|⟨p,by rw[AY K];exact fP h1 h2 h3 (by have:=h5;simp at this;simp;omega),C,F⟩));exact Pr [.bk _,.sq _] 7 [0,0] (kB d (Fh _)) (y2<|λ_=>Ab C (BF C FM)<|Cb (BA C) (aI C<|⟨p,by rw[AY K];simp[K7,h1,h2,h3,h4],C,F⟩))
theorem RZ(w:wO)(b:Nat)(src:lU)(i:Nat)(p:Ps)(sl:Value)(hsc:AE w b [S src,iV (i:Int),iV p.1,iV p.2,sl] 161)(start:Ps)(hile:i≤src.length)(hi:src.length<100000)(hp:Pk i p) :
  BB prog 123 #[pB b,.agg #[iV start.1,iV start.2]] w (λv w'=>∃(tx:lU)(i1:Nat)(p1:Ps),GS start (src.length+1) p [] (src.drop i)=.ok (tx,src.drop i1,p1)∧v=.agg #[iV 4,iV start.1,iV start.2,iV 0,S tx]∧AE w' b [S src,iV ((i1:Nat):Int),iV p1.1,iV p1.2,sl] 161∧KQ b w w'∧i<i1∧i1≤src.length∧Pk i1 p1) (λcc w'=>∃e,GS start (src.length+1) p [] (src.drop i)=.error e∧cc=RY 158 e∧KQ b w w'):=by
 have hbl:=hsc.lt;have J:=KQ.refl b w;refine Iw func123 C C C<|Ay [] 2 (λ_=>DM C C C λb1 w1 hb1 hE1 hs1 hz1=>?_);have hsc:=hsc.ext hE1;have J:=J.trans hE1;refine C9 C Dt λb2 w2 hb2 hE2 hs2 hz2=>?_;have hsc:=hsc.ext hE2;have hb1:=hb1.ext hE2;have J:=J.trans hE2;refine Ax [.sq _] 9 (λ_=>?_);refine D7 (λk σ ds w'=>∃(j:Nat)(q:Ps)(acc:lU)(ra:oA)(rc F:Nat),k=src.length-j∧ds=[]∧σ=(E4 0 (pB b) 3 (pB b1) 4 (pB b2) 5 (.slice ra acc.length rc))∧i≤j∧j≤src.length∧Pk j q∧src.length+1≤F+j∧GS start (src.length+1) p [] (src.drop i)=GS start F q acc (src.drop j)∧acc.length≤j∧AE w' b [S src,iV ((j:Nat):Int),iV q.1,iV q.2,sl] 161∧AE w' b1 [iV start.1,iV start.2] 27 ∧ AE w' b2 [iV 0,iV 0,iV 0,iV 0,.string ⟨#[]⟩] 162∧BO w' 5 1 ra rc acc.length (bC acc)∧(∀x,rb ra=some x→w.heap.size≤x∧x≠b1∧x≠b2)∧KQ b w w') (src.length-i) (E4 0 (pB b) 3 (pB b1) 4 (pB b2) 5 (.slice none 0 0)) lE ⟨i,p,[],none,0,src.length+1,C,C,C,Nat.le_refl _,hile,hp,oM,C,by simp,hsc,hb1,hb2,F6 _ _ _,(λx hx=>by cases hx),J⟩ ?_;rintro _ _ _ wl ⟨j,q,acc,ra,rc,F,rfl,rfl,rfl,hij,hjl,hq,hF,hm,hal,L,h,D,d,G,J⟩;have szl:=J.size;have lt3:=h.lt;have lt4:=D.lt;have lts:=L.lt;have K:∀x,rb ra=some x→x<wl.heap.size:=λx hx=>d.lt hx;refine Ay [] 4 (λ_=>Az C (Ar Tl C C) (HJ _ b src j q sl L) ?_);rintro _ w3 ⟨rfl,hE3⟩;have L:=L.ext hE3;have h:=h.ext hE3;have D:=D.ext hE3;have d:=d.ext hE3;have J:=J.trans hE3;have HR:=hE3.size;refine Ax [.sq _,.sq _] 2 (λ_=>sP 9 C (λh1=>?_) (λh1=>?_));refine Ay [.sq _] 5 (λ_=>?_);have hjlt:j<src.length:=by have:=h1;simpa using this
 obtain⟨c,Y⟩:=Kn hjlt;obtain⟨F,rfl⟩:∃F1,F=F1+1:=⟨F-1,oM⟩;refine Ay [.sq _,.bk _] 2 (λ_=>Ab C (Ch C)<|KP [.sq _,.bk _] 2 [0,2] (kB L (Fh _)) (y2<|λ_=>C9 C Uh λb3 w4 hb3 hE4 hs3 hz3=>?_));have L:=L.ext hE4;have h:=h.ext hE4;have D:=D.ext hE4;have d:=d.ext hE4;have J:=J.trans hE4;refine A9 C C C IL C hb3 C C λw5 Q hC1=>?_;have L:=L.chg hC1 oM;have h:=h.chg hC1 oM;have D:=D.chg hC1 oM;have d:=BO.chg d hC1 (λe=>by have:=G _ e;have:=K _ e;omega);have J:=J.chg hC1 oM;have sz2:=hC1.size;refine Ax [.sq _,.bk _] 5 (λ_=>Az C (Ar K0 C C) (F2 _ b src j q sl L c Y oM hq) ?_);rintro _ w6 ⟨rfl,U,hE5⟩;have h:=h.exb hE5 oM;have D:=D.exb hE5 oM;have d:=BO.exb d hE5 (λe=>by have:=G _ e;omega);have Q:=Q.exb hE5 oM;have J:=J.trans2 hE5;have sz3:=hE5.size;have hp1:=Pk.adv (c:=c) hq;refine Ax [.sq _,.bk _] 11 (λ_=>sP 16 C (λh2=>?_) (λh2=>?_));refine Ay [.bk _,.bk _] 9 (λ_=>sP 21 C (λh3=>?_) (λh3=>?_));exact Pr [.sq _,.bk _,.bk _] 4 [0,0] (kB h (Fh _)) (y2<|λ_=>Ab C (BF C FM)<|Cb (BA C) (aI C<|⟨start,hm.trans (ZY Y h2 h3),C,J⟩));refine Pr [.sq _,.bk _,.bk _] 7 [0,0] (kB h (Fh _)) (y2<|λ_=>Ab C (Ij C WQ d)<|Ab C (Dr C Tc Dt C)<|A9 C C C DE C D C C λw7 W hC2=>?_);have h:=h.chg hC2 oM;have d:=BO.chg d hC2 (λe=>by have:=G _ e;have:=K _ e;omega);have Q:=Q.chg hC2 oM;have U:=U.chg hC2 oM;have J:=J.chg hC2 oM;have sz4:=hC2.size;exact Ax [.sq _,.bk _,.bk _] 5 (λ_=>Yl<|Es [.bk _,.sq _] 2 (λ_=>Bw (A3 C (Ac C DE W C))<|⟨acc,j+1,adv c q,hm.trans (iC Y h2 h3),C,U,J,oM,oM,hp1⟩));refine Ay [.bk _,.bk _] 8 (λ_=>sP 29 C (λh3=>?_) (λh3=>?_));exact Pr [.bk _,.bk _] 4 [0,0] (kB Q (Fh _)) (y2<|λ_=>Ab C (BF C FM)<|Cb (BA C) (aI C<|⟨q,hm.trans (cQ Y h2 h3),C,J⟩));refine Ay [.bk _,.bk _] 8 (λ_=>sP 35 C (λh4=>?_) (λh4=>?_));refine Ay [.bk _,.bk _] 4 (λ_=>BX C C oX zr5 C C C C C λb4 w7 W O hs4 hz4=>?_);have h:=h.ext O;have D:=D.ext O;have d:=d.ext O;have Q:=Q.ext O;have U:=U.ext O;have J:=J.trans O;refine Cm C uG C C C C d W C C oM oM λZ rc2 w8 hr2 hG=>?_;have hlow2:∀x,rb Z=some x→w.heap.size≤x∧x≠b1∧x≠b2:=GV hG G oM;have h:=h.grow hG (λe=>by have:=G _ e.symm;have:=K _ e.symm;omega);have D:=D.grow hG (λe=>by have:=G _ e.symm;have:=K _ e.symm;omega);have U:=U.grow hG (λe=>by have:=G _ e.symm;have:=K _ e.symm;omega);have J:=J.grow hG (λx hx=>(G x hx).1);have sz4:=hG.size;refine Ax [.bk _,.bk _] 4 (λ_=>?_);have hl2:acc.length+1=(acc++[c]).length:=by simp
 refine Hh (src.length-(j+1)) (E4 0 (pB b) 3 (pB b1) 4 (pB b2) 5 (.slice Z (acc++[c]).length rc2)) (by have:=Ds Y;omega) (lu4 C C C (hl2▸rfl)) ⟨j+1,adv c q,acc++[c],Z,rc2,F,C,C,C,oM,by have:=Ds Y;omega,hp1,oM,hm.trans (YL Y h2 h3 h4),by rw[← hl2];omega,U,h,D,by rw[← hl2,bC_app];exact hr2,hlow2,J⟩;refine Ay [.bk _,.bk _] 4 (λ_=>Az C (Ar Tl C C) (HJ _ b src (j+1) (adv c q) sl U) ?_);rintro _ w7 ⟨rfl,O⟩;have h:=h.ext O;have D:=D.ext O;have d:=d.ext O;have Q:=Q.ext O;have U:=U.ext O;have J:=J.trans O;have sz4:=O.size;refine Ax [.sq _,.bk _,.bk _] 3 (λ_=>sP 42 C (λh5=>?_) (λh5=>?_));refine F9 C C ?_;obtain⟨c2,hc2⟩:=Kn (show j+1<src.length by have:=dT h5;omega);refine Ay [.bk _,.bk _] 3 (λ_=>Cc C (Ar yO C C) (Tf _ b src (j+1) (adv c q) sl U c2 hc2 oM hp1) ?_ (λcc wp hc1=>aI C (let ⟨e,he,hcc,hE⟩:=hc1;⟨e,hm.trans (Zm Y h2 h3 h4 (by have:=dT h5;omega) he),hcc,J.trans2 hE⟩)));rintro _ w8 ⟨c1,i1,p1,hesc,rfl,W,hE7,hi1,hi2,hp1⟩;have h:=h.exb hE7 oM;have D:=D.exb hE7 oM;have d:=BO.exb d hE7 (λe=>by have:=G _ e;omega);have Q:=Q.exb hE7 oM;have J:=J.trans2 hE7;have sz5:=hE7.size;refine BX C C oX zr5 C C C C C λb4 w9 hb7 hE8 hs4 hz4=>?_;have h:=h.ext hE8;have D:=D.ext hE8;have d:=d.ext hE8;have Q:=Q.ext hE8;have W:=W.ext hE8;have J:=J.trans hE8;refine Cm C uG C C C C d hb7 C C oM oM λZ rc2 w10 hr2 hG=>?_;have hlow2:∀x,rb Z=some x→w.heap.size≤x∧x≠b1∧x≠b2:=GV hG G oM;have h:=h.grow hG (λe=>by have:=G _ e.symm;have:=K _ e.symm;omega);have D:=D.grow hG (λe=>by have:=G _ e.symm;have:=K _ e.symm;omega);have W:=W.grow hG (λe=>by have:=G _ e.symm;have:=K _ e.symm;omega);have J:=J.grow hG (λx hx=>(G x hx).1);have sz6:=hG.size;refine Ax [.bk _,.bk _] 4 (λ_=>?_);have hl2:acc.length+1=(acc++[c1]).length:=by simp
 refine Hh (src.length-(i1)) (E4 0 (pB b) 3 (pB b1) 4 (pB b2) 5 (.slice Z (acc++[c1]).length rc2)) (by have:=Ds Y;omega) (lu4 C C C (hl2▸rfl)) ⟨i1,p1,acc++[c1],Z,rc2,F,C,C,C,oM,by have:=Ds Y;omega,hp1,oM,hm.trans (Yy Y h2 h3 h4 (by have:=dT h5;omega) hesc),by rw[← hl2];omega,W,h,D,by rw[← hl2,bC_app];exact hr2,hlow2,J⟩;refine Ay [.bk _,.bk _] 4 (λ_=>Hh (src.length-(j+1)) (E4 0 (pB b) 3 (pB b1) 4 (pB b2) 5 (.slice ra acc.length rc)) (by have:=Ds Y;omega) lE ⟨j+1,adv c q,acc,ra,rc,F,C,C,C,oM,by have:=Ds Y;omega,hp1,oM,hm.trans ?_,oM,U,h,D,d,G,J⟩);have hno:¬j+1<src.length:=by have:=h5;simp at this;omega
 rw[YB Y h2 h3 h4 hno,TH (by have:=Ds Y;omega) hno];exact Ay [.sq _] 3 (λ_=>O9<|ggQ [.bk _,.sq _] 5 [0,0] (kB h (Fh _)) (y2<|λ_=>Ab C (BF C FM)<|Cb (BA C) (aI C<|⟨start,hm.trans (TH oM (by have:=h1;simp at this;omega)),C,J⟩)))
theorem CA(w:wO)(s:lU)(hlen:s.length≤100000)(l:lU)(F:l.length<4294967281)(d:l.all (λc=>decide (c.toNat<128))=true) :
  AO prog 157 #[S s,S l] w λv w'=>v=.bool (Ht s l)∧AT w w':=by
 have D:=AT.refl w;refine enter func157 C C C<|Ay [] 9 (λ_=>Az C (Ar aE C C) (Qp _ s l oM F d) ?_);rintro _ G ⟨rfl,h⟩;have D:=D.trans h;have HR:=h.size;exact Ax [.sq _] 5 (λ_=>Bw (A3 C (Ak C))<|⟨C,D⟩)
theorem J8(w:wO)(s:lU)(hlen:s.length≤100000) :
  AO prog 181 #[S s] w λv w'=>v=.bool (Ek s)∧AT w w':=by
 have h:=AT.refl w;refine enter func181 C C C<|Ay [] 10 (λ_=>sL 5 C (λD=>?_) (λD=>?_));refine Ax [.sq _] 1 (λ_=>B6 C C C<|Az C (Ar aE C C) (Qp _ s FO oM dC dC) ?_);rintro _ F ⟨rfl,d⟩;have h:=h.trans d;have HR:=d.size;exact Ax [.sq _] 6 (λ_=>Bw (A3 C (Ak C))<|⟨by rw[Ek,D];rfl,h⟩);exact Ax [.sq _] 8 (λ_=>Bw (A3 C (Ak C))<|⟨by rw[Ek,D];rfl,h⟩)
theorem JO(n:Nat)(c:UInt8)(l:lU):CH n (c::l)=CH (n*10+(c.toNat-48)) l:=by conv=>lhs;unfold CH
theorem Nj:∀(l:lU)(n:Nat),n≤CH n l
 | [],n=>Nat.le_refl _
 |c::l,n=>by
  have:=Nj l (n*10+(c.toNat-48));rw[JO];omega
theorem mL:tO prog 9 23=some 5:=kR
theorem J9(w:wO)(s:lU)(hlen:s.length≤100000)(Z:(s==[])=false)(hd:∀c∈s,48≤c.toNat∧c.toNat≤57) :
  AO prog 221 #[S s,iV 10,iV 63] w λv w'=>((CH 0 s≤9223372036854775807∧v=.tuple #[.int .u64 (CH 0 s:Int),.nilIface])∨(9223372036854775807<CH 0 s∧v=.tuple #[.int .u64 9223372036854775807,.iface 322 (iV 1)]))∧AT w w':=by
 have d:=AT.refl w;refine enter func221 C C C<|Ay [] 13 (λ_=>sP 19 C (λO=>?_) (λO=>?_))
 ·
  exfalso;rw[Z] at O;contradiction
 refine Ay [.sq _] 81 (λ_=>Ab C (Cg (m:=63) C Lf dC)<|Ab C (JJ (9223372036854775808) C C dC dC)<|Ab C (DO (9223372036854775807) C C dC)<|Ax [.sq _] 17 (λ_=>nW C C mL λQ bc w1 h K=>?_));have d:=d.trans K;have HR:=K.size;refine Ax [.sq _,.sq _] 5 (λ_=>?_);refine D7 (λk σ ds w'=>∃(i n:Nat),k=s.length-i∧ds=[]∧σ=(E11 0 (S s) 1 (iV 10) 8 (.bool (10==0)) 9 (S s) 10 (.int .u64 1844674407370955162) 11 (.int .u64 9223372036854775807) 12 (.bool false) 13 (.int .u64 (n:Int)) 99 (.slice (some ⟨Q,0,none⟩) s.length bc) 100 (iV (s.length:Int)) 101 (iV (i:Int)))∧i≤s.length∧n≤9223372036854775807∧CH 0 s=CH n (s.drop i)∧yU w' Q (bC s)∧AT w w') s.length (E11 0 (S s) 1 (iV 10) 8 (.bool (10==0)) 9 (S s) 10 (.int .u64 1844674407370955162) 11 (.int .u64 9223372036854775807) 12 (.bool false) 13 (.int .u64 ((0:Nat):Int)) 99 (.slice (some ⟨Q,0,none⟩) s.length bc) 100 (iV (s.length:Int)) 101 (iV ((0:Nat):Int))) lE ⟨0,0,C,C,C,Nat.zero_le _,Nat.zero_le _,C,h,d⟩ ?_;rintro _ _ _ wl ⟨i,n,rfl,rfl,rfl,hi,hn,hm,h,d⟩;refine Ay [] 6 (λ_=>sP 102 C (λG=>?_) (λG=>?_));refine Ay [.sq _] 7 (λ_=>?_);have L:i<s.length:=by have:=dT G;omega
 obtain⟨c,J⟩:=Kn L;obtain⟨hc1,hc2⟩:=hd c (List.mem_of_getElem? J);have D:(bC s)[0+i*1]?=some (.int .u8 c.toNat):=by simp[bC,J]
 refine Ab C (Mn (i:=i) C C oX L)<|Ab C (cU C ti5 h D)<|Ax [.sq _,.bk _,.sq _] 15 (λ_=>sL 109 C (λU=>?_) (λU=>?_))
 ·
  exfalso;have:=(beq_iff_eq).1 U;omega
 refine Ax [.sq _,.bk _,.sq _,.bk _,.sq _] 11 (λ_=>sL 115 C (λh4=>?_) (λh4=>?_));refine Ax [.sq _,.bk _,.sq _,.bk _,.sq _] 6 (λ_=>sP 112 C (λh5=>?_) (λh5=>?_));refine Ay [.bk _,.sq _,.bk _,.sq _] 3 (λ_=>Ab C (DO ((c.toNat:Int)-48) C C (PZ ⟨oM,oM⟩))<|Ax [.bk _,.sq _,.bk _,.sq _] 9 (λ_=>Ab C (Cg (m:=10) C qT dC)<|Ax [.sq _,.sq _,.bk _,.sq _] 3 (λ_=>sP 137 C (λW=>?_) (λW=>?_))))
 ·
  exfalso;have:=dT W;omega
 refine Ay [.sq _,.bk _,.sq _] 11 (λ_=>sP 141 C (λF=>?_) (λF=>?_));exact Ay [.sq _,.bk _,.sq _] 4 (λ_=>Ab C (BF C Lc)<|Ax [.sq _,.sq _,.bk _,.sq _] 8 (λ_=>Yl<|Es [.bk _,.sq _] 2 (λ_=>Bw (B5 C (Ak C) (Ak C))<|⟨.inr ⟨by rw[hm,AY J,JO];have:=Nj (s.drop (i+1)) (n*10+(c.toNat-48));have q4:=dT h5;have q5:=dF W;have q6:=dT F;omega,C⟩,d⟩)));refine Ay [.sq _,.bk _,.sq _] 7 (λ_=>Ab C (Cg (m:=10) C yJ dC)<|Ab C (Nb ((n:Int)*10) C C (Hp ⟨oM,by have:=dF F;omega⟩))<|Ax [.sq _,.bk _,.sq _] 7 (λ_=>Ab C (Cg (m:=(c.toNat:Int)-48) C VY (Hp ⟨oM,oM⟩))<|Ab C (Lx (((n:Int)*10+((c.toNat:Int)-48)) % 18446744073709551616) C C (IntKind.wrap_u64 _))<|Ax [.sq _,.bk _,.sq _] 10 (λ_=>sL 155 C (λh8=>?_) (λh8=>?_))));exact Ax [.sq _,.sq _,.bk _,.sq _] 10 (λ_=>Ab C (BF C Lc)<|Ax [.sq _,.sq _,.bk _,.sq _] 8 (λ_=>Yl<|Es [.bk _,.sq _] 2 (λ_=>Bw (B5 C (Ak C) (Ak C))<|⟨.inr ⟨by rw[hm,AY J,JO];have:=Nj (s.drop (i+1)) (n*10+(c.toNat-48));have q5:=dF W;have q6:=dF F;have q7:=dT h8;omega,C⟩,d⟩)));refine Ax [.sq _,.sq _,.bk _,.sq _] 6 (λ_=>sP 159 C (λY=>?_) (λY=>?_));exact Ay [.sq _,.bk _,.sq _] 4 (λ_=>Ab C (BF C Lc)<|Ax [.sq _,.sq _,.bk _,.sq _] 8 (λ_=>Yl<|Es [.bk _,.sq _] 2 (λ_=>Bw (B5 C (Ak C) (Ak C))<|⟨.inr ⟨by rw[hm,AY J,JO];have:=Nj (s.drop (i+1)) (n*10+(c.toNat-48));have q6:=dF F;have q7:=dF h8;have q8:=dT Y;omega,C⟩,d⟩)));refine Ay [.sq _,.bk _,.sq _] 13 (aI ⟨oM,oM⟩<|λ_=>?_);have hN:(((n:Int)*10+((c.toNat:Int)-48)) % 18446744073709551616)=((n*10+(c.toNat-48):Nat):Int):=by have O:=dF F;have G:=dF h8;have U:=dF Y;omega
 refine Hh (s.length-(i+1)) (E11 0 (S s) 1 (iV 10) 8 (.bool (10==0)) 9 (S s) 10 (.int .u64 1844674407370955162) 11 (.int .u64 9223372036854775807) 12 (.bool false) 13 (.int .u64 ((n*10+(c.toNat-48):Nat):Int)) 99 (.slice (some ⟨Q,0,none⟩) s.length bc) 100 (iV (s.length:Int)) 101 (iV ((i+1:Nat):Int))) oM (lu11 C C C C C C C (by rw[← hN];rfl) C C C) ⟨i+1,n*10+(c.toNat-48),C,C,C,oM,by have O:=dF F;have G:=dF h8;have U:=dF Y;omega,by rw[hm,AY J];rfl,h,d⟩
 ·
  exfalso;have:=dF h5;omega
 ·
  exfalso;have:=dF h4;omega
 exact Ay [.sq _] 3 (λ_=>O9<|Es [.bk _,.sq _] 24 (λ_=>Bw (B5 C (Ak C) (Ak C))<|⟨.inl ⟨by rw[hm,Jl (by have:=dF G;omega)];exact hn,by rw[hm,Jl (by have:=dF G;omega)];rfl⟩,d⟩))
theorem cme:lC prog 322=true:=kR
theorem Q2(w:wO)(s:lU)(hlen:s.length≤100000)(h:(s==[])=false)(hd:∀c∈s,48≤c.toNat∧c.toNat≤57) :
  AO prog 199 #[S s,iV 10,iV 63] w λv w'=>((CH 0 s<4611686018427387904∧v=.tuple #[iV (CH 0 s:Int),.nilIface])∨(4611686018427387904≤CH 0 s∧∃z,v=.tuple #[iV z,.iface 322 (iV 1)]))∧AT w w':=by
 obtain⟨c0,U,D⟩:∃c r,s=c::r:=by
  cases s with
  |nil=>simp at h
  |cons c r=>exact⟨c,r,C⟩
 have F:=AT.refl w;refine enter func199 C C C<|Ay [] 13 (λ_=>sP 13 C (λJ=>?_) (λJ=>?_))
 ·
  exfalso;rw[h] at J;contradiction
 refine Ay [.sq _] 12 (λ_=>Ab C (CF (c:=c0) C C JW dC (by rw[D];rfl))<|Ax [.sq _,.sq _] 9 (λ_=>sP 17 C (λK=>?_) (λK=>?_)))
 ·
  exfalso;have O:=hd c0 (D▸List.mem_cons_self);have:=(beq_iff_eq).1 K;omega
 refine Ay [.bk _,.sq _] 7 (λ_=>sP 21 C (λL=>?_) (λL=>?_))
 ·
  exfalso;have O:=hd c0 (D▸List.mem_cons_self);have:=(beq_iff_eq).1 L;omega
 refine Ay [.bk _,.sq _] 14 (λ_=>Az C (Ar iF C C) (J9 _ s hlen h hd) ?_);rintro _ W ⟨(⟨hle,rfl⟩|⟨Q,rfl⟩),d⟩;have F:=F.trans d;have HR:=d.size;refine Ax [.sq _] 11 (λ_=>Ab C (HL FR C)<|Ax [.sq _,.sq _] 23 (λ_=>Ab C (DO (62) C C dC)<|Ab C (Cg (m:=62) C Lf dC)<|Ab C (JJ (4611686018427387904) C C dC dC)<|Ax [.sq _] 15 (λ_=>sP 52 C (λG=>?_) (λG=>?_))));exact Ay [.sq _] 4 (λ_=>Ab C (DO (4611686018427387903) C C dC)<|Ab C (Cg (m:=4611686018427387903) C Mf dC)<|Ab C (BF C Lc)<|Ax [.sq _,.sq _] 6 (λ_=>Bw (B5 C (Ak C) (Ak C))<|⟨.inr ⟨by have:=dT G;omega,_,C⟩,F⟩));exact Ay [.sq _] 20 (λ_=>Ab C (Cg (m:=(CH 0 s:Int)) C Mf (Hv ⟨oM,by have:=dF G;omega⟩))<|Ax [.sq _] 20 (λ_=>Bw (B5 C (Ak C) (Ak C))<|⟨.inl ⟨by have:=dF G;omega,C⟩,F⟩));have F:=F.trans d;have HR:=d.size;refine Ax [.sq _] 11 (λ_=>Ab C (L7 FR C)<|Ax [.sq _,.sq _] 2 (λ_=>B6 C C C<|Ab C (BF C Lc)<|B6 C C C<|Ab C (aX FR cme C C)<|Ax [.sq _,.sq _] 19 (λ_=>Ab C (DO (62) C C dC)<|Ab C (Cg (m:=62) C Lf dC) ?_)));exact Ab C (JJ (4611686018427387904) C C dC dC)<|Ax [.sq _] 19 (λ_=>Ab C (DO (4611686018427387903) C C dC)<|Ab C (Cg (m:=4611686018427387903) C Mf dC)<|Ab C (BF C Lc)<|Ax [.sq _,.sq _] 6 (λ_=>Bw (B5 C (Ak C) (Ak C))<|⟨.inr ⟨oM,_,C⟩,F⟩))
theorem RU(w:wO)(r:lU)(hlen:(45::r).length≤100000)(G:(r==[])=false)(hd:∀c∈r,48≤c.toNat∧c.toNat≤57) :
  AO prog 199 #[S (45::r),iV 10,iV 63] w λv w'=>((CH 0 r<4611686018427387905∧v=.tuple #[iV (-(CH 0 r:Int)),.nilIface])∨(4611686018427387905≤CH 0 r∧∃z,v=.tuple #[iV z,.iface 322 (iV 1)]))∧AT w w':=by
 have D:((45::r:lU)==[])=false:=rfl;have h:=AT.refl w;refine enter func199 C C C<|Ay [] 13 (λ_=>sP 13 C (λJ=>?_) (λJ=>?_))
 ·
  exfalso;rw[D] at J;contradiction
 refine Ay [.sq _] 12 (λ_=>Ab C (CF (c:=45) C C JW dC C)<|Ax [.sq _,.sq _] 20 (λ_=>Ab C (M3 C C JW)<|Ax [.sq _,.bk _,.sq _] 18 (λ_=>Az C (Ar iF C C) (J9 _ r (by simp only[List.length_cons] at hlen;omega) G hd) ?_)));rintro _ L ⟨(⟨hle,rfl⟩|⟨K,rfl⟩),d⟩;have h:=h.trans d;have HR:=d.size;refine Ax [.sq _] 11 (λ_=>Ab C (HL FR C)<|Ax [.sq _,.sq _] 23 (λ_=>Ab C (DO (62) C C dC)<|Ab C (Cg (m:=62) C Lf dC)<|Ab C (JJ (4611686018427387904) C C dC dC)<|Ax [.sq _] 29 (λ_=>sP 62 C (λF=>?_) (λF=>?_))));exact Ay [.sq _] 4 (λ_=>Ab C (Cg (m:=4611686018427387904) C Mf dC)<|Ab C (Nt (-4611686018427387904) C dC)<|Ab C (BF C Lc)<|Ax [.sq _,.sq _] 6 (λ_=>Bw (B5 C (Ak C) (Ak C))<|⟨.inr ⟨by have:=dT F;omega,_,C⟩,h⟩));exact Ay [.sq _] 6 (λ_=>Ab C (Cg (m:=(CH 0 r:Int)) C Mf (Hv ⟨oM,by have:=dF F;omega⟩))<|Ax [.sq _] 12 (λ_=>Ab C (Nt (-(CH 0 r:Int)) C (by rw[Hv ⟨by omega,by have:=dF F;omega⟩];omega))<|Ax [.sq _] 11 (λ_=>Bw (B5 C (Ak C) (Ak C))<|⟨.inl ⟨by have:=dF F;omega,C⟩,h⟩)));have h:=h.trans d;have HR:=d.size;refine Ax [.sq _] 11 (λ_=>Ab C (L7 FR C)<|Ax [.sq _,.sq _] 2 (λ_=>B6 C C C<|Ab C (BF C Lc)<|B6 C C C<|Ab C (aX FR cme C C)<|Ax [.sq _,.sq _] 19 (λ_=>Ab C (DO (62) C C dC)<|Ab C (Cg (m:=62) C Lf dC) ?_)));exact Ab C (JJ (4611686018427387904) C C dC dC)<|Ax [.sq _] 33 (λ_=>Ab C (Cg (m:=4611686018427387904) C Mf dC)<|Ab C (Nt (-4611686018427387904) C dC)<|Ab C (BF C Lc)<|Ax [.sq _,.sq _] 6 (λ_=>Bw (B5 C (Ak C) (Ak C))<|⟨.inr ⟨oM,_,C⟩,h⟩))
end Go.Proofs.YtplnpgpagkpnmaaGreatDoor
