/- What it rests on, part 5. -/
import Derived.Test.YtplnpgpagkpnmaaGreatDoorGb4
set_option linter.unusedVariables false
set_option linter.unusedSimpArgs false
namespace Go.Proofs.YtplnpgpagkpnmaaGreatDoor
open Go.SW Go.SP Go.RowKit Go.Proofs.Tryz
theorem T8(n:Nat)(F:bV prog 44 n)(w:wO)(f:Fq)(G:Vl w f)(op ln co nm:Int)(tx:lU)(kids:Nd)(d:oA)(nc:Nat)(hm:kids.size<n)(D:kids.size≤1000000)(J:AJ w f kids d nc) :
  AO prog 98 #[.agg #[iV op,iV ln,iV co,S tx,iV nm,.slice d kids.len nc]] w (AF (α:=Unit) (λ_=>.bool (!Ct n op kids)) (λ_=>True) (λ_=>[]) w f):=by
 exact Dq [λw f=>AJ w f kids d nc] func98 C C C (AR G ⟨J,tQ⟩ ⟨AJ.mono,tQ⟩)<|Af 9 [0] (λb1=>y<|λ_=>B3 C C (eC Wr C C) (λw f h=>F w f h.vl op ln co nm tx kids d nc hm D h.f0)<|Aa 5 (λ_=>AK (Cy C C) (λw f h=>⟨(),f,C,tQ,h.exm,tQ⟩)))
theorem S8(n:Nat)(Z:bV prog 44 n)(w:wO)(f:Fq)(hv:Vl w f)(kids:Nd)(O:oA)(nc:Nat)(hm:kids.size≤n)(hsz:kids.size≤1000000)(hN:AJ w f kids O nc) :
  AO prog 141 #[.slice O kids.len nc,.func (.func 98) #[] #[]] w (AF (α:=Int) (λx=>iV x) (λx=>decide (0≤x)=!We (Ct n) kids) (λ_=>[]) w f):=by
 have hkl:=Nd.len_le kids;refine Dq [λw f=>AJ w f kids O nc] func141 C C C (AR hv ⟨hN,tQ⟩ ⟨AJ.mono,tQ⟩)<|Aa 14 (λ_=>?_);refine D6 (α:=Nat×Nd) (λx=>x.2.len) (λx=>x.1+x.2.len=kids.len∧We (Ct n) kids=We (Ct n) x.2∧x.2.size≤kids.size) (λx=>(E4 0 (.slice O kids.len nc) 1 (.func (.func 98) #[] #[]) 7 (iV (kids.len:Int)) 8 (iV (x.1:Int)))) (λx=>X0 w f) (λx=>[]) (λx=>[]) (λx=>[]) (λx=>[λw f=>Bc w f O x.1 x.2]) (0,kids) ⟨Nat.zero_add _,C,Nat.le_refl _⟩ lE (λw f d=>d.more (B':=[]) (F':=[λw f=>Bc w f O 0 kids]) nE (AA.mem ⟨AJ.at d.f0,tQ⟩) (Ap.mem ⟨Bc.mono,tQ⟩) |>.less sR sR nE (mR [0])) ?_;rintro⟨i,r⟩ ⟨Y,D,F⟩;dsimp only at Y D F ⊢;refine Aa 6 (λ_=>A6 9 C C (λQ=>?_) (λQ=>?_));refine Aa 6 (λ_=>?_);have hil:i<kids.len:=by have:=dT Q;omega
 obtain⟨h,G,J,K,L,k2,r,rfl⟩:=Nd.cases1 r oM;have hi2:i+(r.len+1)=kids.len:=Y;refine H4 0 C ?_;rintro⟨eb,eo,ka,kc⟩ rfl;refine Af 12 [100,0] (aI oM<|y2<|λ_=>B3 C C (eC vX C C) (λw f d=>T8 n Z w f d.vl h G J L K k2 ka kc (by have U:k2.size+r.size+1≤_:=F;omega) (by have U:k2.size+r.size+1≤_:=F;omega) d.f0)<|Aa 2 (λ_=>A6 16 C C (λW=>?_) (λW=>?_)));exact Aa 10 (λ_=>So<|Aa 2 (λ_=>AK (Cy C C) (λw f d=>⟨(i:Int),f,C,(by rw[D];show _=!(Ct n h k2&&_);rw[Ee W];simp),d.exm,tQ⟩)));exact Aa 8 (aI ⟨oM,oM⟩<|λ_=>C0 ((i+1,r)) (show r.len<(Nd.cons h G J K L k2 r).len from Nat.lt_succ_self _) ⟨show i+1+r.len=_ by omega,D.trans (by show (Ct n h k2&&We (Ct n) r)=_;rw[Eh W,Bool.true_and]),show r.size≤_ by have U:(Nd.cons h G J K L k2 r).size≤_:=F;simp only[Nd.size] at U;omega⟩ lE (λw f d=>⟨_,d.less sR sR nE (mR [1])⟩));refine Aa 3 (λ_=>Dl<|Aa 3 (λ_=>?_));obtain rfl:r=.nil:=Nd.len0 (by have:=dF Q;omega);exact Aa 5 (λ_=>AK (Cy C C) (λw f d=>⟨-1,f,C,(by rw[D];rfl),d.exm,tQ⟩))
theorem Jb(n:Nat)(G:bV prog 44 n)(w:wO)(f:Fq)(J:Vl w f)(kids:Nd)(d:oA)(nc:Nat)(hm:kids.size≤n)(D:kids.size≤1000000)(K:AJ w f kids d nc) :
  AO prog 97 #[.slice d kids.len nc,.func (.func 98) #[] #[]] w (AF (α:=Unit) (λ_=>.bool (!We (Ct n) kids)) (λ_=>True) (λ_=>[]) w f):=by
 refine Dq [λw f=>AJ w f kids d nc] func97 C C C (AR J ⟨K,tQ⟩ ⟨AJ.mono,tQ⟩)<|Aa 9 (λ_=>BV C C (eC lS C C) (λw f h=>S8 n G w f h.vl kids d nc hm D h.f0) (λx=>trivial) ?_);rintro L F;exact Aa 5 (λ_=>AK (Cy C C) (λw f h=>⟨(),f,(by rw[← F]),tQ,h.exm,tQ⟩))
theorem VF(n:Nat)(U:bV prog 44 n)(w:wO)(f:Fq)(W:Vl w f)(op ln co nm:Int)(tx:lU)(kids:Nd)(J:oA)(nc:Nat)(hm:kids.size<n+1)(K:kids.size≤1000000)(Y:AJ w f kids J nc) :
  AO prog 44 #[.agg #[iV op,iV ln,iV co,S tx,iV nm,.slice J kids.len nc]] w (AF (α:=Unit) (λ_=>.bool (Ct (n+1) op kids)) (λ_=>True) (λ_=>[]) w f):=by
 refine Dq [λw f=>AJ w f kids J nc] func44 C C C (AR W ⟨Y,tQ⟩ ⟨AJ.mono,tQ⟩)<|Af 21 [0] (λb1=>y<|λ_=>?_)
 ·
  refine A6 5 C C (λh=>?_) (λh=>?_);exact Aa 12 (λ_=>AK (Cy C C) (λw f d=>⟨(),f,(by simp[Ct,h]),tQ,d.exm,tQ⟩));refine Aa 7 (λ_=>A6 5 C C (λD=>?_) (λD=>?_));exact Aa 12 (λ_=>AK (Cy C C) (λw f d=>⟨(),f,(by simp[Ct,h,D]),tQ,d.exm,tQ⟩));refine Aa 7 (λ_=>A6 5 C C (λF=>?_) (λF=>?_));exact Aa 12 (λ_=>AK (Cy C C) (λw f d=>⟨(),f,(by simp[Ct,h,D,F]),tQ,d.exm,tQ⟩));refine Aa 7 (λ_=>A6 5 C C (λG=>?_) (λG=>?_));exact Aa 12 (λ_=>AK (Cy C C) (λw f d=>⟨(),f,(by simp[Ct,h,D,F,G]),tQ,d.exm,tQ⟩));refine Aa 7 (λ_=>A6 5 C C (λL=>?_) (λL=>?_));exact Aa 12 (λ_=>AK (Cy C C) (λw f d=>⟨(),f,(by simp[Ct,h,D,F,G,L]),tQ,d.exm,tQ⟩));refine Aa 6 (λ_=>A6 5 C C (λO=>?_) (λO=>?_));exact Aa 9 (λ_=>AK (Cy C C) (λw f d=>⟨(),f,(by simp[Ct,h,D,F,G,L,O]),tQ,d.exm,tQ⟩));refine Aa 8 (λ_=>A6 12 C C (λQ=>?_) (λQ=>?_));exact Af 8 [0] (y<|λ_=>B3 C C (eC aZ C C) (λw f d=>Jb n U w f d.vl kids J nc oM K d.f0)<|Aa 7 (λ_=>AK (Cy C C) (λw f d=>⟨(),f,(by simp[Ct,h,D,F,G,L,O,Q]),tQ,d.exm,tQ⟩)));refine Aa 6 (λ_=>A6 12 C C (λh8=>?_) (λh8=>?_));refine Af 5 [0] (y<|λ_=>B3 C C (eC aZ C C) (λw f d=>Jb n U w f d.vl kids J nc oM K d.f0)<|Aa 7 (λ_=>?_))
  rotate_left
  refine Aa 10 (λ_=>?_)
  all_goals
   exact AK (Cy C C) (λw f d=>⟨(),f,(by simp[Ct,h,D,F,G,L,O,Q,h8]),tQ,d.exm,tQ⟩)

theorem Ky:∀n,bV prog 44 n
 |0=>λ_ _ _ _ _ _ _ _ _ _ _ h=>absurd h (Nat.not_lt_zero _)
 |n+1=>λw f D op ln co nm tx kids F nc hm d G=>VF n (Ky n) w f D op ln co nm tx kids F nc hm d G
theorem D0(w:wO)(f:Fq)(G:Vl w f)(A:Ad)(J:A.ok)(s:CS)(K:Aq 131 222 A s w f)(L:∀b,B2 A b→f b=0)(hw:D1 s)(t u:T1)(a:oA)(c:Nat)(a2:oA)(c2:Nat)(d:t.bnd)(D:u.bnd)(O:Ae w f t.kids a c)(Q:Ae w f u.kids a2 c2)(ln co:Int) :
  BB prog 40 #[pB A.cb,tV t a c,tV u a2 c2,.agg #[iV ln,iV co]] w (CY (α:=CS) (λ_=>.tuple #[]) (λx=>Fu s t u ln co=.ok x∧D1 x∧x.fresh=s.fresh) (B2 A) (λx=>Aq 131 222 A x) (λ_=>[]) w f) (PanE 114 (B2 A) (λer=>Fu s t u ln co=.error er) w f) :=
 (Z0 w f G A J s K L hw t u a c a2 c2 d D O Q ln co).mono (λ_ _ ⟨x,f2,U,F,W,Y,Z⟩=>⟨{s with sol:=x},f2,U,⟨F.1,F.2,C⟩,W,Y,Z⟩) λ_ _ h=>h
theorem EA(w:wO)(f:Fq)(h:Vl w f)(A:Ad)(D:A.ok)(s:CS)(hw:D1 s)(pr:Int)(J:Aq 131 222 A s w f)(K:B9 222 A.sb A.mb s.sol s.fresh pr w f)(d:∀b,B2 A b→f b=0)(F:s.fresh≤900000000000) :
  AO prog 99 #[pB A.sb] w (CY (α:=CS) (λ_=>tV (A5 s).1 none 0) (λx=>x=(A5 s).2∧D1 x∧x.fresh=s.fresh+1) (B2 A) (λx=>Aq 131 222 A x) (λ_=>[]) w f) :=
 (OC w f h A.sb A.mb _ _ pr K ⟨d _ (.inr (.inl C)),d _ (.inr (.inr (.inl C)))⟩ D.sm.1 (by have:=hw.fr;constructor <;> omega)).mono λv U ⟨x,f2,L,W,G,O,Q⟩=>⟨(A5 s).2,f2,L,⟨C,hw.fresh (by have:=hw.fr;omega),C⟩,G.mono MO.c,J.solved D h (λb F=>d b (MO.c b F)) G O,Q⟩
set_option maxHeartbeats 1000000 in
theorem XE(n:Nat)(ih:PatF prog 169 114 131 222 n)(w:wO)(f:Fq)(hv:Vl w f)(A:Ad)(hA:A.ok)(s:CS)(hC:Aq 131 222 A s w f)(hf:∀b,B2 A b→f b=0)(hw:D1 s)(op ln co nm:Int)(tx:lU)(kids:Nd)(na:oA)(nc:Nat)(e:By)(ea:oA)(hm:kids.size<n+1)(hsz:kids.size≤200000)(hN:AJ w f kids na nc)(W:FN e)(G:AV w f e ea)(hfb:s.fresh+200001*(kids.size+1)≤800000000000) :
  BB prog 169 #[pB A.cb,.agg #[iV op,iV ln,iV co,S tx,iV nm,.slice na kids.len nc],.pointer ea] w (CY (α:=(T1×oA×Nat)×(By×oA)×CS) (λx=>.tuple #[tV x.1.1 x.1.2.1 x.1.2.2,.pointer x.2.1.2]) (λx=>Cw (n+1) s e op ln co tx nm kids=.ok (x.1.1,x.2.1.1,x.2.2)∧x.1.1.bnd∧FN x.2.1.1∧D1 x.2.2∧x.2.2.fresh≤s.fresh+200001*(kids.size+1)) (B2 A) (λx=>Aq 131 222 A x.2.2) (λx=>[λw f=>Ae w f x.1.1.kids x.1.2.1 x.1.2.2,λw f=>AV w f x.2.1.1 x.2.1.2]) w f) (PanE 114 (B2 A) (λer=>Cw (n+1) s e op ln co tx nm kids=.error er) w f):=by
 have hkl:=Nd.len_le kids;have hfr0:=hw.fr;refine OJ (X:=XC 131 222 A s w f) (H:=[]) (R:=[]) (B:=[]) (Fs:=[λw f=>AJ w f kids na nc,λw f=>AV w f e ea]) (f:=f) func169 C C C (L2 hv hC hf ⟨hN,G,tQ⟩ ⟨AJ.mono,AV.mono,tQ⟩)<|Af 26 [2] (λb1=>λb2=>λb3=>y<|λ_=>A6 19 C C (λh1=>?_) (λh1=>?_));refine Aa 5 (λ_=>Cz C C (λw f d=>Ai C Hc d.res.blk C)<|jC λpr=>JK (α:=CS) (val:=λ_=>tV (A5 s).1 none 0) (q:=λx=>x=(A5 s).2∧D1 x∧x.fresh=s.fresh+1) (I':=λx=>Aq 131 222 A x) (F':=λ_=>[]) (XX:=λ_ _=>False) C C (eC K8 C C) (λw f d=>(EA w f d.vl A hA s hw pr d.res.1 d.res.2 d.mz oM).retP) (λ_=>Aq.stab) (λ_=>trivial) (λ_ _ _ _ _ h=>h.elim) ?_);rintro s2 ⟨hs2,hw2,hw2f⟩;refine Af 5 [0] (y<|λ_=>?_);have D:Dc (Cw n) s e op ln co tx kids=.ok ((A5 s).1,e,s2):=by simp only[Dc,h1,Bool.false_eq_true,if_false,if_true];rw[hs2]
 refine Af 5 [0,2] (y<|y<|λ_=>DC C C (eC Fx C C) (λ_ h=>h) (λw f d=>Cf w f d.vl A hA s2 d.res d.mz hw2 (A5 s).1 none 0 (B8 _) (Ae.nil _ _ _ _) ln co) (λ_=>Aq.stab) (λ_=>⟨Ae.mono,tQ⟩) (λer w2 f2 he G=>⟨C,er,f2,C,(by rw[Cw,D];simp only;rw[he]),G⟩) ?_);rintro⟨tf,fa9,fc9⟩ ⟨F,-,-⟩;dsimp only at F ⊢;exact Af 11 [0,1] (y<|y<|λ_=>AK (λw f d=>B5 C (Ac C AH d.k1 C) (Ak C)) (λw f d=>⟨(((A5 s).1,none,0),(e,ea),s2),f,C,⟨(by rw[Cw,D];simp only;rw[F]),(B8 _),W,hw2,by dsimp only;rw[hw2f];omega⟩,d.exm,d.res,⟨Ae.nil _ _ _ _,d.f2,tQ⟩⟩));refine Aa 7 (λ_=>A6 26 C C (λh2=>?_) (λh2=>?_));refine Aa 6 (λ_=>Cz C C (λw f d=>Ai C Hc d.res.blk C)<|jC λpr=>JK (α:=CS) (val:=λ_=>tV (A5 s).1 none 0) (q:=λx=>x=(A5 s).2∧D1 x∧x.fresh=s.fresh+1) (I':=λx=>Aq 131 222 A x) (F':=λ_=>[]) (XX:=λ_ _=>False) C C (eC K8 C C) (λw f d=>(EA w f d.vl A hA s hw pr d.res.1 d.res.2 d.mz oM).retP) (λ_=>Aq.stab) (λ_=>trivial) (λ_ _ _ _ _ h=>h.elim) ?_);rintro s2 ⟨hs2,hw2,hw2f⟩;refine Af 11 [0,2,0,2] (y<|y<|y<|y<|λ_=>DC C C (eC Ia C C) (λ_ h=>h) (λw f d=>DH w f d.vl A hA s2 d.res d.mz hw2 e ea W d.f1 tx (A5 s).1 none 0 (B8 _) (Ae.nil _ _ _ _) false ln co) (λ_=>Aq.stab) (λ_=>⟨AV.mono,tQ⟩) (λer w2 f2 he G=>⟨C,er,f2,C,(by cases he),G⟩) ?_);rintro⟨e2,ea2⟩ ⟨he2,heB2⟩;dsimp only at he2 heB2 ⊢;refine Aa 5 (λ_=>?_);have D:Dc (Cw n) s e op ln co tx kids=.ok ((A5 s).1,e2,s2):=by simp only[Dc,h1,h2,Bool.false_eq_true,if_false,if_true];rw[hs2];cases he2;rfl
 refine Af 5 [0,2] (y<|y<|λ_=>DC C C (eC Fx C C) (λ_ h=>h) (λw f d=>Cf w f d.vl A hA s2 d.res d.mz hw2 (A5 s).1 none 0 (B8 _) (Ae.nil _ _ _ _) ln co) (λ_=>Aq.stab) (λ_=>⟨Ae.mono,tQ⟩) (λer w2 f2 he G=>⟨C,er,f2,C,(by rw[Cw,D];simp only;rw[he]),G⟩) ?_);rintro⟨tf,fa9,fc9⟩ ⟨F,-,-⟩;dsimp only at F ⊢;exact Af 11 [0,1] (y<|y<|λ_=>AK (λw f d=>B5 C (Ac C AH d.k1 C) (Ak C)) (λw f d=>⟨(((A5 s).1,none,0),(e2,ea2),s2),f,C,⟨(by rw[Cw,D];simp only;rw[F]),(B8 _),heB2,hw2,by dsimp only;rw[hw2f];omega⟩,d.exm,d.res,⟨Ae.nil _ _ _ _,d.f1,tQ⟩⟩));refine Aa 7 (λ_=>A6 41 C C (λh3=>?_) (λh3=>?_));refine Aa 2 (λ_=>B3 C C (eC Bz C C) (λw f d=>Br w f d.vl [105,110,116])<|Af 5 [0] (y<|λ_=>?_));have D:Dc (Cw n) s e op ln co tx kids=.ok ((c0 bI),e,s):=by simp only[Dc,h1,h2,h3,Bool.false_eq_true,if_false,if_true];skip
 refine Af 5 [0,2] (y<|y<|λ_=>DC C C (eC Fx C C) (λ_ h=>h) (λw f d=>Cf w f d.vl A hA s d.res d.mz hw (c0 bI) none 0 (CN dC) (Ae.nil _ _ _ _) ln co) (λ_=>Aq.stab) (λ_=>⟨Ae.mono,tQ⟩) (λer w2 f2 he G=>⟨C,er,f2,C,(by rw[Cw,D];simp only;rw[he]),G⟩) ?_);rintro⟨tf,fa9,fc9⟩ ⟨F,-,-⟩;dsimp only at F ⊢;exact Af 11 [0,1] (y<|y<|λ_=>AK (λw f d=>B5 C (Ac C AH d.k1 C) (Ak C)) (λw f d=>⟨(((c0 bI),none,0),(e,ea),s),f,C,⟨(by rw[Cw,D];simp only;rw[F]),(CN dC),W,hw,by dsimp only;omega⟩,d.exm,d.res,⟨Ae.nil _ _ _ _,d.f2,tQ⟩⟩));refine Aa 7 (λ_=>A6 44 C C (λh4=>?_) (λh4=>?_));refine Aa 2 (λ_=>B3 C C (eC Bz C C) (λw f d=>Br w f d.vl [115,116,114,105,110,103])<|Af 5 [0] (y<|λ_=>?_));have D:Dc (Cw n) s e op ln co tx kids=.ok ((c0 bS),e,s):=by simp only[Dc,h1,h2,h3,h4,Bool.false_eq_true,if_false,if_true];skip
 refine Af 5 [0,2] (y<|y<|λ_=>DC C C (eC Fx C C) (λ_ h=>h) (λw f d=>Cf w f d.vl A hA s d.res d.mz hw (c0 bS) none 0 (CN dC) (Ae.nil _ _ _ _) ln co) (λ_=>Aq.stab) (λ_=>⟨Ae.mono,tQ⟩) (λer w2 f2 he G=>⟨C,er,f2,C,(by rw[Cw,D];simp only;rw[he]),G⟩) ?_);rintro⟨tf,fa9,fc9⟩ ⟨F,-,-⟩;dsimp only at F ⊢;exact Af 11 [0,1] (y<|y<|λ_=>AK (λw f d=>B5 C (Ac C AH d.k1 C) (Ak C)) (λw f d=>⟨(((c0 bS),none,0),(e,ea),s),f,C,⟨(by rw[Cw,D];simp only;rw[F]),(CN dC),W,hw,by dsimp only;omega⟩,d.exm,d.res,⟨Ae.nil _ _ _ _,d.f2,tQ⟩⟩));refine Aa 7 (λ_=>A6 47 C C (λh5=>?_) (λh5=>?_));refine Aa 2 (λ_=>B3 C C (eC Bz C C) (λw f d=>Br w f d.vl [117,110,105,116])<|Af 5 [0] (y<|λ_=>?_));have D:Dc (Cw n) s e op ln co tx kids=.ok ((c0 bU),e,s):=by simp only[Dc,h1,h2,h3,h4,h5,Bool.false_eq_true,if_false,if_true];skip
 refine Af 5 [0,2] (y<|y<|λ_=>DC C C (eC Fx C C) (λ_ h=>h) (λw f d=>Cf w f d.vl A hA s d.res d.mz hw (c0 bU) none 0 (CN dC) (Ae.nil _ _ _ _) ln co) (λ_=>Aq.stab) (λ_=>⟨Ae.mono,tQ⟩) (λer w2 f2 he G=>⟨C,er,f2,C,(by rw[Cw,D];simp only;rw[he]),G⟩) ?_);rintro⟨tf,fa9,fc9⟩ ⟨F,-,-⟩;dsimp only at F ⊢;exact Af 11 [0,1] (y<|y<|λ_=>AK (λw f d=>B5 C (Ac C AH d.k1 C) (Ak C)) (λw f d=>⟨(((c0 bU),none,0),(e,ea),s),f,C,⟨(by rw[Cw,D];simp only;rw[F]),(CN dC),W,hw,by dsimp only;omega⟩,d.exm,d.res,⟨Ae.nil _ _ _ _,d.f2,tQ⟩⟩));refine Aa 7 (λ_=>A6 50 C C (λh6=>?_) (λh6=>?_));refine Af 5 [2] (y<|λ_=>DC C C (eC Xp C C) (λ_ h=>h) (λw f d=>Qq w f d.vl A hA s d.res d.mz hw op ln co nm tx kids na nc oM) (λ_=>Aq.stab) (λ_=>⟨Ae.mono,Ae.mono,tQ⟩) (λer w2 f2 he G=>⟨C,er,f2,C,(by rw[Cw,show Dc (Cw n) s e op ln co tx kids=.error er by simp only[Dc,h1,h2,h3,h4,h5,h6,Bool.false_eq_true,if_false,if_true];rw[he]]),G⟩) ?_);rintro⟨⟨args,aa,ac⟩,⟨out,oa,oc⟩,s1⟩ ⟨hmk,hal,hab,hob,hw1,hfr1⟩;dsimp only at hmk hal hab hob hw1 hfr1 ⊢;refine Af 18 [0,3] (λb4=>y<|y<|λ_=>?_);refine D6 (α:=Nat×Nd×Ty×By×oA×CS) (λx=>x.2.1.len) (λx=>x.1+x.2.1.len=kids.len∧x.2.2.1.len=x.2.1.len∧Hn (Cw n) s1 e args kids=Hn (Cw n) x.2.2.2.2.2 x.2.2.2.1 x.2.2.1 x.2.1∧x.2.2.1.bnd∧FN x.2.2.2.1∧D1 x.2.2.2.2.2∧x.2.1.size≤kids.size∧x.2.2.2.2.2.fresh+200001*x.2.1.size≤s.fresh+200000+200001*kids.size) (λx=>(E10 0 (pB A.cb) 2 (.pointer x.2.2.2.2.1) 4 (pB b1) 6 (pB b2) 8 (pB b3) 9 (.slice aa args.len ac) 10 (pB b4) 59 (.slice na kids.len nc) 60 (iV (kids.len:Int)) 61 (iV (x.1:Int)))) (λx=>⟨B2 A,B2 A,Aq 131 222 A x.2.2.2.2.2,w,f⟩) (λx=>[⟨b4,tC out oa oc,123,true⟩,⟨b3,zT,123,true⟩,⟨b2,zT,123,true⟩,⟨b1,[iV op,iV ln,iV co,S tx,iV nm,.slice na kids.len nc],121,true⟩]) (λx=>[]) (λx=>[]) (λx=>[λw f=>Bc w f na x.1 x.2.1,λw f=>Bn w f aa x.1 x.2.2.1,λw f=>AV w f x.2.2.2.1 x.2.2.2.2.1,λw f=>Ae w f out.kids oa oc]) (0,kids,args,e,ea,s1) ⟨Nat.zero_add _,hal,C,hab,W,hw1,Nat.le_refl _,by dsimp only;omega⟩ lE (λw f d=>d.more (B':=[]) (F':=[λw f=>Bc w f na 0 kids,λw f=>Bn w f aa 0 args]) nE (AA.mem ⟨AJ.at d.f2,Ae.at d.f0,tQ⟩) (Ap.mem ⟨Bc.mono,Bn.mono,tQ⟩) |>.less sR sR nE (mR [0,1,5,3])) ?_;rintro⟨i,r,ar,e4,ea4,L⟩ ⟨hi,harl,hpc,harb,J,O,hrs,K⟩;dsimp only at hi harl hpc harb J O hrs K ⊢;refine Aa 6 (λ_=>A6 62 C C (λh7=>?_) (λh7=>?_));refine Aa 6 (λ_=>?_);have hil:i<kids.len:=by have:=dT h7;omega
 obtain⟨Y,Q,U,Z,nm2,k2,r,rfl⟩:=Nd.cases1 r oM;have hi2:i+(r.len+1)=kids.len:=hi;have harl2:ar.len=r.len+1:=harl;obtain⟨t2,ar,rfl⟩:=Ty.cases1 ar oM;rw[T1.len_cons] at harl2;have hrs2:k2.size+r.size+1≤kids.size:=hrs;have hfr5:L.fresh+200001*((k2.size+r.size+1:Nat):Int)≤s.fresh+200000+200001*kids.size:=K;refine H4 0 C ?_;rintro⟨eb,eo,ka,kc⟩ rfl;refine Te 3 C ?_;rintro⟨ab,ao,ka2,kc2⟩ rfl;refine Af 19 [101,0,0,1] (aI oM<|y2<|λb5=>y<|λb6=>y<|λ_=>DC C C (eC QD C C) (λ_ h=>h) (λw f d=>ih w f d.vl A hA L d.res d.mz O Y Q U nm2 Z k2 ka kc e4 ea4 oM oM d.f2 J d.f6 oM) (λ_=>Aq.stab) (λ_=>⟨Ae.mono,AV.mono,tQ⟩) (λer w2 f2 he G=>⟨C,er,f2,C,(by rw[Cw,show Dc (Cw n) s e op ln co tx kids=.error er by simp only[Dc,h1,h2,h3,h4,h5,h6,Bool.false_eq_true,if_false,if_true];rw[hmk];simp only;rw[hpc,show Hn (Cw n) L e4 (t2.cons ar) (.cons Y Q U Z nm2 k2 r)=.error er by rw[Hn,he]]]),G⟩) ?_);rintro⟨⟨q5,qa,qc⟩,⟨e5,ea5⟩,s5⟩ ⟨hp5,hqb,heB5,hw5,hfr6⟩;dsimp only at hp5 hqb heB5 hw5 hfr6 ⊢;refine Af 7 [0] (y<|λ_=>Ca [0,1,2,3,4,5] Aj (rd [0,1,2,3,4,5,6,7] (.br 8 .fin .fin)) C kR<|Bh 8 [100,0,0,1] (aI oM<|y2<|y<|y<|λ_=>Ah C<|DC C C (eC H2 C C) (λ_ h=>h) (λw f d=>D0 w f d.vl A hA s5 d.res d.mz hw5 t2 q5 ka2 kc2 qa qc (T1.bnd_cons.1 harb).1 hqb d.f2 d.f0 Q U) (λ_=>Aq.stab) (λ_=>trivial) (λer w2 f2 he G=>⟨C,er,f2,C,(by rw[Cw,show Dc (Cw n) s e op ln co tx kids=.error er by simp only[Dc,h1,h2,h3,h4,h5,h6,Bool.false_eq_true,if_false,if_true];rw[hmk];simp only;rw[hpc,show Hn (Cw n) L e4 (t2.cons ar) (.cons Y Q U Z nm2 k2 r)=.error er by rw[Hn,hp5];simp only;rw[T1.hd_cons,he]]]),G⟩) ?_));rintro s6 ⟨hh6,hw6,hf6⟩;exact Aa 1 (λ_=>Am [0,1,2,3,4,5] C<|Bp<|Aa 6 (aI ⟨oM,oM⟩<|λ_=>C0 ((i+1,r,ar,e5,ea5,s6)) (show r.len<(Nd.cons Y Q U Z nm2 k2 r).len from Nat.lt_succ_self _) ⟨show i+1+r.len=_ by omega,show ar.len=r.len by omega,hpc.trans (Wf hp5 hh6),(T1.bnd_cons.1 harb).2,heB5,hw6,show r.size≤_ by omega,show s6.fresh+200001*(r.size:Int)≤_ by omega⟩ lE (λw f d=>⟨_,d.less (.cons _ (.cons _ sR)) sR nE (mR [5,3,1,9])⟩)));refine Aa 3 (λ_=>Dl<|Aa 2 (λ_=>?_));obtain rfl:r=.nil:=Nd.len0 (by have:=dF h7;omega);have hpc2:Hn (Cw n) s1 e args kids=.ok (e4,L):=hpc;have hfr5:L.fresh≤s.fresh+200000+200001*kids.size:=by have h9:L.fresh+200001*((0:Nat):Int)≤_:=K;omega
 refine Af 7 [0,1] (y<|y<|λ_=>?_);have D:Dc (Cw n) s e op ln co tx kids=.ok (out,e4,L):=by simp only[Dc,h1,h2,h3,h4,h5,h6,Bool.false_eq_true,if_false,if_true];rw[hmk];simp only;rw[hpc2]
 refine Af 5 [1,3] (y<|y<|λ_=>DC C C (eC Fx C C) (λ_ h=>h) (λw f d=>Cf w f d.vl A hA L d.res d.mz O out oa oc hob d.f3 ln co) (λ_=>Aq.stab) (λ_=>⟨Ae.mono,tQ⟩) (λer w2 f2 he G=>⟨C,er,f2,C,(by rw[Cw,D];simp only;rw[he]),G⟩) ?_);rintro⟨tf,fa9,fc9⟩ ⟨F,-,-⟩;dsimp only at F ⊢;exact Af 11 [1,2] (y<|y<|λ_=>AK (λw f d=>B5 C (Ac C AH d.k2 C) (Ak C)) (λw f d=>⟨((out,oa,oc),(e4,ea4),L),f,C,⟨(by rw[Cw,D];simp only;rw[F]),hob,J,O,by dsimp only;omega⟩,d.exm,d.res,⟨d.f4,d.f3,tQ⟩⟩));refine Aa 7 (λ_=>A6 84 C C (λh7=>?_) (λh7=>?_));refine Aa 3 (λ_=>B3 C C (eC Bz C C) (λw f d=>Br w f d.vl [116,117,112,108,101])<|Af 12 [0,2] (y<|y<|λ_=>KR 123 4 ?_));refine D6 (α:=Nat×Nd×Ty×lV×oA×Nat×By×oA×CS) (λx=>x.2.1.len) (λx=>x.1+x.2.1.len=kids.len∧x.2.2.1.len=x.1∧Gg (Cw n) s e kids=(match Gg (Cw n) x.2.2.2.2.2.2.2.2 x.2.2.2.2.2.2.1 x.2.1 with|.error x=>.error x|.ok (l,e3,s3)=>.ok (x.2.2.1.app l,e3,s3))∧x.2.2.1.bnd∧FN x.2.2.2.2.2.2.1∧D1 x.2.2.2.2.2.2.2.2∧x.2.1.size≤kids.size∧x.2.2.2.2.2.2.2.2.fresh+200001*x.2.1.size≤s.fresh+200001*kids.size) (λx=>(E8 0 (pB A.cb) 2 (.pointer x.2.2.2.2.2.2.2.1) 4 (pB b1) 6 (pB b2) 8 (pB b3) 88 (.slice na kids.len nc) 89 (iV (kids.len:Int)) 90 (iV (x.1:Int)))) (λx=>⟨B2 A,B2 A,Aq 131 222 A x.2.2.2.2.2.2.2.2,w,f⟩) (λx=>[⟨b3,[iV 1,iV 0,S SX,.slice x.2.2.2.2.1 x.1 x.2.2.2.2.2.1],123,true⟩,⟨b2,zT,123,true⟩,⟨b1,[iV op,iV ln,iV co,S tx,iV nm,.slice na kids.len nc],121,true⟩]) (λx=>[⟨123,4,x.2.2.2.2.1,x.2.2.2.2.2.1,x.1,x.2.2.2.1⟩]) (λx=>[]) (λx=>[λw f=>Bc w f na x.1 x.2.1,λw f=>AU w f x.2.2.1 x.2.2.2.1,λw f=>AV w f x.2.2.2.2.2.2.1 x.2.2.2.2.2.2.2.1]) (0,kids,.nil,[],none,0,e,ea,s) ⟨Nat.zero_add _,C,T9,tQ,W,hw,Nat.le_refl _,by dsimp only;omega⟩ lE (λw f d=>d.more (B':=[]) (F':=[λw f=>Bc w f na 0 kids,λw f=>AU w f .nil []]) nE (AA.mem ⟨AJ.at d.f0,C,tQ⟩) (Ap.mem ⟨Bc.mono,AU.mono,tQ⟩) |>.less sR sR nE (mR [0,1,3])) ?_;rintro⟨i,r,dn,xs,ra,rc,e4,ea4,L⟩ ⟨hi,hdl,hpt,hdb,J,O,hrs,K⟩;dsimp only at hi hdl hpt hdb J O hrs K ⊢;refine Aa 6 (λ_=>A6 91 C C (λh8=>?_) (λh8=>?_));refine Aa 6 (λ_=>?_);have hil:i<kids.len:=by have:=dT h8;omega
 obtain⟨Y,Q,U,Z,nm2,k2,r,rfl⟩:=Nd.cases1 r oM;have hi2:i+(r.len+1)=kids.len:=hi;have hrs2:k2.size+r.size+1≤kids.size:=hrs;have hfr5:L.fresh+200001*((k2.size+r.size+1:Nat):Int)≤s.fresh+200001*kids.size:=K;refine H4 0 C ?_;rintro⟨eb,eo,ka,kc⟩ rfl;refine Af 17 [100,0,0,1] (aI oM<|y2<|λb4=>y<|λb5=>y<|λ_=>DC C C (eC QD C C) (λ_ h=>h) (λw f d=>ih w f d.vl A hA L d.res d.mz O Y Q U nm2 Z k2 ka kc e4 ea4 oM oM d.f0 J d.f4 oM) (λ_=>Aq.stab) (λ_=>⟨Ae.mono,AV.mono,tQ⟩) (λer w2 f2 he G=>⟨C,er,f2,C,(by rw[Cw,show Dc (Cw n) s e op ln co tx kids=.error er by simp only[Dc,h1,h2,h3,h4,h5,h6,h7,Bool.false_eq_true,if_false,if_true];rw[hpt,show Gg (Cw n) L e4 (.cons Y Q U Z nm2 k2 r)=.error er by rw[Gg,he]]]),G⟩) ?_);rintro⟨⟨q5,qa,qc⟩,⟨e5,ea5⟩,s5⟩ ⟨hp5,hqb,heB5,hw5,hfr6⟩;dsimp only at hp5 hqb heB5 hw5 hfr6 ⊢;exact Af 12 [0,2,0] (y<|y<|y<|λb6=>λ_=>BW 0 0 C C Cu C C C C C C C C (λ_ _=>C) oM oM λra2 rc2=>Af 9 [3] (y<|aI ⟨oM,oM⟩<|λ_=>C0 ((i+1,r,dn.snoc q5,xs++tC q5 qa qc,ra2,rc2,e5,ea5,s5)) (show r.len<(Nd.cons Y Q U Z nm2 k2 r).len from Nat.lt_succ_self _) ⟨show i+1+r.len=_ by omega,show (dn.snoc _).len=i+1 by rw[Ty.len_snoc,hdl],hpt.trans (Va hp5),show (dn.snoc _).bnd from Ty.bnd_snoc hdb hqb,heB5,hw5,show r.size≤_ by omega,show s5.fresh+200001*(r.size:Int)≤_ by omega⟩ lE (λw f d=>⟨_,(d.more (B':=[]) (F':=[λw f=>AU w f (dn.snoc q5) (xs++tC q5 qa qc)]) nE (AA.mem ⟨AU.snoc d.f0 d.f5,tQ⟩) (Ap.mem ⟨AU.mono,tQ⟩)).less (.cons _ (.cons _ (.cons _ sR))) sR nE (mR [4,0,2])⟩)));refine Aa 3 (λ_=>Dl<|Aa 4 (λ_=>?_));obtain rfl:r=.nil:=Nd.len0 (by have:=dF h8;omega);have hpt2:Gg (Cw n) s e kids=.ok (dn,e4,L):=by rw[hpt];show (Except.ok (dn.app .nil,e4,L):RI (Ty×By×CS))=_;rw[Ty.app_nil]
 have hfr5:L.fresh≤s.fresh+200001*kids.size:=by have h9:L.fresh+200001*((0:Nat):Int)≤_:=K;omega
 have hdk:dn.len≤200000:=by have:i+0=kids.len:=hi;omega
 subst hdl;refine Ud (λw f=>Ae w f dn ra rc) Ae.mono (λw f d=>El d d.f1) ?_;have D:Dc (Cw n) s e op ln co tx kids=.ok ((.con SX dn),e4,L):=by simp only[Dc,h1,h2,h3,h4,h5,h6,h7,Bool.false_eq_true,if_false,if_true];rw[hpt2]
 refine Af 5 [0,2] (y<|y<|λ_=>DC C C (eC Fx C C) (λ_ h=>h) (λw f d=>Cf w f d.vl A hA L d.res d.mz O (.con SX dn) ra rc (BS dC hdk hdb) d.f0 ln co) (λ_=>Aq.stab) (λ_=>⟨Ae.mono,tQ⟩) (λer w2 f2 he G=>⟨C,er,f2,C,(by rw[Cw,D];simp only;rw[he]),G⟩) ?_);rintro⟨tf,fa9,fc9⟩ ⟨F,-,-⟩;dsimp only at F ⊢;exact Af 11 [0,1] (y<|y<|λ_=>AK (λw f d=>B5 C (Ac C AH d.k1 C) (Ak C)) (λw f d=>⟨(((.con SX dn),ra,rc),(e4,ea4),L),f,C,⟨(by rw[Cw,D];simp only;rw[F]),(BS dC hdk hdb),J,O,by dsimp only;omega⟩,d.exm,d.res,⟨d.f1,d.f4,tQ⟩⟩));refine Aa 5 (λ_=>?_);have D:Dc (Cw n) s e op ln co tx kids=.ok ((.var 0),e,s):=by simp only[Dc,h1,h2,h3,h4,h5,h6,h7,Bool.false_eq_true,if_false,if_true];skip
 refine Af 5 [0,2] (y<|y<|λ_=>DC C C (eC Fx C C) (λ_ h=>h) (λw f d=>Cf w f d.vl A hA s d.res d.mz hw (.var 0) none 0 (B8 _) (Ae.nil _ _ _ _) ln co) (λ_=>Aq.stab) (λ_=>⟨Ae.mono,tQ⟩) (λer w2 f2 he G=>⟨C,er,f2,C,(by rw[Cw,D];simp only;rw[he]),G⟩) ?_);rintro⟨tf,fa9,fc9⟩ ⟨F,-,-⟩;dsimp only at F ⊢;exact Af 11 [0,1] (y<|y<|λ_=>AK (λw f d=>B5 C (Ac C AH d.k1 C) (Ak C)) (λw f d=>⟨(((.var 0),none,0),(e,ea),s),f,C,⟨(by rw[Cw,D];simp only;rw[F]),(B8 _),W,hw,by dsimp only;omega⟩,d.exm,d.res,⟨Ae.nil _ _ _ _,d.f2,tQ⟩⟩))
theorem Sk:∀n,PatF prog 169 114 131 222 n
 |0=>λ_ _ _ _ _ _ _ _ _ _ _ _ _ _ _ _ _ _ _ h=>absurd h (Nat.not_lt_zero _)
 |n+1=>λw f G A J s K L hw op ln co nm tx kids O nc e Q hm d U D W F=>XE n (Sk n) w f G A J s K L hw op ln co nm tx kids O nc e Q hm d U D W F
theorem Yj(w:wO)(f:Fq)(h:Vl w f)(a:oA)(m c:Nat) :
  AO prog 164 #[.slice a m c] w (AF (α:=Nat) (λb=>.func (.func 191) #[] #[pB b]) (λ_=>True) (λb=>[λw f=>Cs w f b 0 [.slice a m c]]) w f):=by
 exact Dq [] func164 C C C (AR h tQ tQ)<|Aa 8 (λb1=>λ_=>Cz C C (λw f d=>Rw C)<|Aa 4 (λ_=>CJ 0 C C<|AK (Cy C C) (λw f d=>⟨b1,f,C,tQ,d.exm,⟨d.b0,tQ⟩⟩)))
theorem kG(w:wO)(f:Fq)(k:Ty)(a:oA)(c m K b3 d:Nat)(hT:Ae w f k a c)(hm:m≤k.len)(hk:k.len≤200000)(hw0:w.heap.size≤b3)(L:d<K)(hBb:d≠b3)(hn:w.heap.size≤K)(w1:wO)(hw1:∀j,j<w.heap.size→w1.heap[j]?=w.heap[j]?)(hn1:K≤w1.heap.size)
  (hc:w1.cell? ⟨d,0,none⟩=some (.slice a m c)) (q:Nat) :
  SeqStopsK Fence.wide q prog 191 #[pB d] (encB (w:=w) (f:=f) (k:=k)) (xX K b3) (λxs=>iR xs=(k.list.take m).reverse) (λ_=>True) m w1:=λl J Jx W hB _ _ hY h0=>by
 refine callsIn_wide.2 ?_
 have O:AO prog 191 #[.func (.yield l) #[] #[],pB d] W (λ_ D=>(∃xs,iR xs=(k.list.take m).reverse∧J xs D)∨(∃pre,True∧Jx pre D)):=by
  refine enter func191 C C C ?_;have U:W.cell? ⟨d,0,none⟩=some (.slice a m c):=(hB.cell (p:=⟨d,0,none⟩) (Nat.lt_of_lt_of_le L hn1)).trans hc;have hWw:∀j,j<w.heap.size→W.heap[j]?=w.heap[j]?:=λj hj=>(hB.block j oM).trans (hw1 j hj);refine BL (C4 (Ab C (J1 C V1 U) (Ab C (Ml C Oz) (Ab C (GI C C ⟨oM,oM⟩) (Ab C (CQ C) (Al (Dd (DK ?_))))))));refine D7 (λi σ ds D=>σ=AD (E2 0 (.func (.yield l) #[] #[]) 1 (pB d)) 3 (iV (iv i))∧ds=[]∧i≤m∧xX K b3 W D∧∃pre:List (ElB w f k),iR pre=((k.list.take m).drop i).reverse∧pre.length=m-i∧J pre D) m _ lE ⟨C,C,Nat.le_refl _,λ_ _ _=>C,[],by rw[List.drop_eq_nil_of_le (by rw[List.length_take];exact Nat.min_le_left _ _)];rfl,by simp,h0⟩ ?_;rintro i σ ds D ⟨rfl,rfl,him,G,pre,Y,hpl,hJ⟩;refine BL (BL (C4 (Ab C (As C) (Ab C (fW C C) (Al (Dd<|N2 C (λht=>HU (Dd ?_)) (λhf=>Lk ?_)))))))
  ·
   obtain⟨j,rfl⟩:∃j,i=j+1:=⟨i-1,by have:=dT ht;unfold iv at this;omega⟩;obtain⟨t,F⟩:=Me (k:=k) (i:=j) oM;obtain⟨b,off,ka,kc,ha,Z,htf⟩:=Ae.nth hT F;subst ha;have hbw:b<w.heap.size:=Iy (Z 0 _ C).2;have hcW':D.cell? ⟨d,0,none⟩=some (.slice (some ⟨b,off,none⟩) m c):=(D2 (G d L hBb) 0).trans U
   have hce:∀(q:Nat)(v:Value),(tC t ka kc)[q]?=some v→D.cell? ⟨b,off+(j:Int).toNat*4+q,none⟩=some v:=λq v hq=>by
    rw[Int.toNat_natCast];exact (D2 ((G b oM oM).trans (hWw b hbw)) _).trans (Z q v hq).2
   have hy:=hY pre ⟨(j,t,ka,kc),F,htf⟩ D hJ oM;rw[oS];refine BL (DK (BL (bK (FP C (As C) (FP C (As C) (FP C (J1 C V1 hcW') (FP C (As C) (FP C (O5 C C Oz ⟨oM,oM⟩) (FP C (KZ C AH C hce) (Vd C C C hy ?_))))))))));rintro e W3 (⟨rfl,hJ3,hk3⟩|⟨rfl,hJx3⟩)
   ·
    refine⟨_,C,FP C (U6 C) (Sj (Dd (JT C C (HU (Jh (Dd (C4 (Ab C (As C) (Ab C (GI C C ⟨oM,oM⟩) (Ab C (CQ C) (Al (Hh j _ (Nat.lt_succ_self _) lE ⟨C,C,oM,λq hq hne=>(hk3 q hq hne).trans (G q hq hne),pre++[⟨(j,t,ka,kc),F,htf⟩],?_,by simp[hpl];omega,hJ3⟩))))))))))))⟩;have hjm:j<(k.list.take m).length:=by rw[List.length_take,Ty.list_len];omega
    rw[iR,List.map_append,List.drop_eq_getElem_cons hjm,List.reverse_cons];have hpm2:List.map (λx=>x.1.2.1) pre=_:=Y;rw[hpm2]
    congr 1
    have h9:(k.list.take m)[j]?=some t:=by rw[List.getElem?_take,if_pos (by omega),Ty.list_get,F]
    rw[List.getElem?_eq_getElem hjm] at h9;simpa using h9.symm
   · exact⟨_,C,FP C (U6 C) (Sj (Dd (F9 C C (JV (Xs (W9 (Yl (Xs (Bw (Gp C) (.inr ⟨_,tQ,hJx3⟩))))))))))⟩
  ·
   obtain rfl:i=0:=by have:=dF hf;unfold iv at this;omega
   exact Xi (O9 (PY (MK (Gp C) (.inl ⟨pre,by rw[Y,List.drop_zero],hJ⟩))))
 exact Calls.mono O λe D ⟨v,he,h⟩=>⟨⟨v,he⟩,h⟩
variable {Q:AQ}{σ:AW}
theorem eO(w:wO)(f:Fq)(hv:Vl w f)(k:Ty)(a:oA)(c m:Nat)(tl:T1)(hk:k.len≤200000)(hm:k.len=m+1)(hg:k.get m=some tl)(hkb:k.bnd)(hT:Ae w f k a c)(b1 b2 Bs:Nat)(ta:oA)(tc:Nat)(z:lV){iA iB jB:Nat}{lA lB:List Oper}
  (hA0:Yh lA=true) (hB0:Yh lB=true) (JH:σ 17=some (.func (.func 191) #[] #[pB Bs])) (h3:σ 3=some (pB b2))
  (hA:∀(x:ElB w f k)(V:wO)(f2:Fq)(Qa:AQ),(∀b5,Aw prog 25 Qa [] (X0 V f2) [] [] [] (.out .normal) [] (E4 3 (pB b2) 18 (iV (x.1.1:Int)) 19 (tV x.1.2.1 x.1.2.2.1 x.1.2.2.2) 5 (pB b5)) [⟨b5,tC x.1.2.1 x.1.2.2.1 x.1.2.2.2,123,true⟩]) →
   Aw prog 25 Qa [] (X0 V f2) [] [] [] (.ops lA lA) [] (E3 3 (pB b2) 18 (iV (x.1.1:Int)) 19 (tV x.1.2.1 x.1.2.2.1 x.1.2.2.2)) [])
  (hB:∀(x:ElB w f k)(V:wO)(f2:Fq)(t:T1)(a2:oA)(c2 b5:Nat)(Qb:AQ),t.bnd→x.1.2.1.bnd→(∀a3 c3 b6 Z,Aw prog 25 Qb [] ⟨λb=>b=b2,λ_=>False,λ_ _=>True,V,f2⟩ [] [b6,⟨b5,0,tC x.1.2.1 x.1.2.2.1 x.1.2.2.2⟩] [λw f=>Ae w f (x.1.2.1.cons t.one) a3 c3,λw f=>Ae w f t.kids a2 c2,λw f=>Ae w f x.1.2.1.kids x.1.2.2.1 x.1.2.2.2] (.out .normal) [] Z [⟨b2,tC (.con FF (x.1.2.1.cons t.one)) a3 c3,123,false⟩]) →
   Aw prog 25 Qb [] ⟨λb=>b=b2,λ_=>False,λ_ _=>True,V,f2⟩ [] [⟨b5,0,tC x.1.2.1 x.1.2.2.1 x.1.2.2.2⟩] [λw f=>Ae w f t.kids a2 c2,λw f=>Ae w f x.1.2.1.kids x.1.2.2.1 x.1.2.2.2] (.ops lB lB) [] (E2 3 (pB b2) 5 (pB b5)) [⟨b2,tC t a2 c2,123,false⟩])
  (W:wO) (f1:Fq) (F:AP (X0 w f) W f1 [⟨b2,tC tl ta tc,123,true⟩,⟨b1,z,123,true⟩] [] [] [λw f=>Cs w f Bs 0 [.slice a m c],λw f=>Ae w f tl.kids ta tc])
  (hQ:∀D V f2 a2 c2,Wv w f b1 b2 z 123 (KH k) V f2 a2 c2→w.heap.size≤D→V.heap[D]?=some (.deferred (some []))→Q.q .normal σ [{target:=.collected D,args:=#[]}] V) :
  Hg prog 25 (.rangeFunc (.tmp 17) #[18,19] (.region iA lA.toArray false) (.block jB (.region iB lB.toArray false))) Q σ [] W:=λa' ha=>by
 have U:=F.blk _ (.head _);have Y:=F.blk _ (.tail _ (.head _));have hn2:w.heap.size≤b2:=F.hnw _ (.head _) C;have hn1:w.heap.size≤b1:=F.hnw _ (.tail _ (.head _)) C
 have hnd:b2≠b1:=λe=>by
  have:=F.nd;simp[CD,e] at this
 have hcs:Cs W f1 Bs 0 [.slice a m c]:=F.f0;have hBlt:Bs<W.heap.size:=Iy (hcs 0 _ C).2
 have hBb:Bs≠b2:=λe=>by
  have h9:=(hcs 0 _ C).1;have h8:=(F.own b2 (.head _)).1;rw[← e] at h8;omega
 have hI0:Wv w f b1 b2 z 123 tl W (SP.nrm w.heap.size W f1) ta tc:=⟨Xa F.exm,U,Y,Ae.nrm F.f1,FA hkb hg,⟨Ju (F.own b2 (.head _)).1,Ju (F.own b1 (.tail _ (.head _))).1⟩,ZZ⟩
 refine wpIn_wide.1 (wpIn_rangeFunc_ownH (n:=3) C dC (gf:=191) (lb:=#[pB Bs]) (ha.ev (.tmp 17) _ JH) tQ mI
  (kG w f k a c m W.heap.size b2 Bs hT oM hk hn2 hBlt hBb F.exm.stp.size W (λj hj=>F.exm.stp.block j hj (λh=>h)) (Nat.le_refl _) (hcs 0 _ C).2 _)
  (λh1 h2 q hq hne=>(h2 q hq hne).trans (h1 q hq hne)) (λV l o o' hl ho _ _ q hq hne=>World.putObj_heap_other oM) (Below.refl _ _) (λ_=>C)
  (λpre V=>∃f2 a2 c2,Wv w f b1 b2 z 123 (pY tl (iR pre)) V f2 a2 c2∧W.heap.size≤V.heap.size) (λ_ _ _=>False)
  (λs V J row ⟨f2,a2,c2,h,hs⟩ hg hr=>⟨f2,a2,c2,h.own F.exm.stp.size hg hr,Nat.le_trans hs hg.size⟩) (λ_ _ _ _ _ h _ _=>h.elim) ⟨_,ta,tc,hI0,Nat.le_refl _⟩
  (λx a5 V=>∃b5,St 25 (E2 3 (pB b2) 5 (pB b5)) [] a5∧AE V b5 (tC x.1.2.1 x.1.2.2.1 x.1.2.2.2) 123∧W.heap.size≤b5)
  (λx a5 s V J row ⟨b5,h1,h2,h3⟩ hg hr=>⟨b5,h1,(hg.block b5 h2.lt (λe=>by obtain⟨_,o,ho,hc⟩:=hr b5 e.symm;exact HI h2 ho hc)).trans h2,h3⟩)
  ?_ ?_ ?_ (λ_ _ _ _ _ _ h=>h.elim))
 ·
  rintro l pre x V K ⟨f2,a2,c2,G,hs⟩ hK
  have hst:St 25 (E3 3 (pB b2) 18 (iV (x.1.1:Int)) 19 (tV x.1.2.1 x.1.2.2.1 x.1.2.2.2)) [] {tmps:=(a'.tmps.setIfInBounds 18 (iV (x.1.1:Int))).setIfInBounds 19 (tV x.1.2.1 x.1.2.2.1 x.1.2.2.2),defers:=[]}:=by
   have h1:=((ha.le (lu1 h3)).put (d:=18) C (iV (x.1.1:Int))).put (d:=19) C (tV x.1.2.1 x.1.2.2.1 x.1.2.2.2);exact⟨h1.size,C,h1.val⟩
  refine wpIn_mono (pG (Q:={q:=λe σ ds J=>match e with|.normal=>∀a5,St 25 σ ds a5→K a5 J | _=>False,p:=λ_ _ _ _=>False}) hA0 cO (by simpa[encB] using hst) (hA x V f2 _ (λb5 J f3 L=>?_) V f2 (AR G.exm.val tQ tQ))) ?_
  ·
   intro a5 ha5;have hE:=L.exm;have hb5:=L.blk _ (.head _);have hge:V.heap.size≤b5:=L.hnw _ (.head _) C;have hE3:C6 (λb=>b=b2) V f2 J f3:=hE.mono λ_ h=>h.elim;exact hK a5 J (KeepsFrom.of_exm hE3 G.k3) (xX.of_exm hE3 hs) ⟨_,a2,c2,G.step hn2 (Ne.symm hnd) hE3 ((hE.stp.block b2 G.k3.lt (λh=>h)).trans G.k3) (Ae.mono _ _ _ _ G.ty (hE.fle G.exm.val (λ_ h=>h.elim))) G.bnd,Nat.le_trans hs hE.stp.size⟩ ⟨b5,ha5.le lE,hb5,oM⟩
  ·
   rintro e a5 J h
   cases e with
   |normal=>obtain⟨Z,ds',hs',h⟩:=h;exact h a5 hs'
   |ret=>obtain⟨_,_,_,h⟩:=h;exact h.elim
   |exit i=>obtain⟨_,_,_,h⟩:=h;exact h.elim
   |goto i=>obtain⟨_,_,_,h⟩:=h;exact h.elim
   |panic c=>obtain⟨_,_,_,h⟩:=h;exact h.elim
   |outgrown=>exact h.elim
 ·
  rintro l pre x a5 V hl-⟨f2,a2,c2,G,hs⟩ ⟨b5,hst,hb5,h5⟩ hlt;have hb2W:b2<W.heap.size:=U.lt;have hb1W:b1<W.heap.size:=Y.lt;have hww:w.heap.size≤W.heap.size:=F.exm.stp.size;obtain⟨O,hc5⟩:=G.frz hb5 (show b5≠b1 by omega) (show b5≠b2 by omega) oM;have hxT:Ae V (λb=>if b=b5 then max (tC x.1.2.1 x.1.2.2.1 x.1.2.2.2).length (f2 b) else f2 b) x.1.2.1.kids x.1.2.2.1 x.1.2.2.2:=Ae.mono _ _ _ _ x.2.2 (O.exm.fle hv (λ_ h=>h.elim));have hMb:=(vZ O.exm.val O.k3 O.z3.1 (Fs:=[λw f=>Ae w f (pY tl (iR pre)).kids a2 c2,λw f=>Ae w f x.1.2.1.kids x.1.2.2.1 x.1.2.2.2]) ⟨O.ty,hxT,tQ⟩ ⟨Ae.mono,Ae.mono,tQ⟩).more (B':=[⟨b5,0,tC x.1.2.1 x.1.2.2.1 x.1.2.2.2⟩]) (F':=[]) (λe he=>by cases he with|head=>exact hc5|tail _ h=>cases h) nE nE;refine wpIn_block (wpIn_mono (pG (Q:={q:=λe σ ds J=>match e with|.normal=>KeepsFrom W.heap.size V J∧xX W.heap.size b2 V J∧∃f2 a2 c2,Wv w f b1 b2 z 123 (pY tl (iR (pre++[x]))) J f2 a2 c2∧W.heap.size≤J.heap.size|_=>False,p:=λ_ _ _ _=>False}) hB0 cO hst (hB x V _ (pY tl (iR pre)) a2 c2 b5 _ G.bnd (FA hkb x.2.1) (λa3 c3 b6 Z J f3 L=>?_) V _ hMb)) ?_)
  ·
   have hE:=L.exm;have hTn:=L.fact (i:=0) C;refine⟨KeepsFrom.of_exm hE G.k3,xX.of_exm hE hs,SP.nrm w.heap.size J f3,a3,c3,?_,Nat.le_trans hs hE.stp.size⟩;rw[iR,List.map_append,List.map_cons,List.map_nil,TB];exact O.step hn2 (Ne.symm hnd) hE (L.blk _ (.head _)) hTn ⟨⟨by simp[T1.kids,T1.len_cons,T1.one,Ty.len],by simp[T1.tx,FF]⟩,T1.bnd_cons.2 ⟨FA hkb x.2.1,F7 G.bnd⟩⟩
  ·
   rintro e a6 J h
   cases e with
   |normal=>obtain⟨Z,ds',hs',h⟩:=h;exact h
   |ret=>obtain⟨_,_,_,h⟩:=h;exact h.elim
   |exit i=>obtain⟨_,_,_,h⟩:=h;exact h.elim
   |goto i=>obtain⟨_,_,_,h⟩:=h;exact h.elim
   |panic c=>obtain⟨_,_,_,h⟩:=h;exact h.elim
   |outgrown=>exact h.elim
 ·
  rintro D xs V hD hS ⟨f2,a2,c2,G,-⟩ hK;have hS2:iR xs=(k.list.take m).reverse:=hS;rw[hS2,jN m k tl hm hg] at G;exact⟨σ,_,⟨ha.size,by rw[ha.defs],ha.val⟩,hQ D V f2 a2 c2 G (Nat.le_trans F.exm.stp.size hD) hK⟩
theorem Yf(w:wO)(f:Fq)(h:Vl w f)(x t:T1)(b:Nat)(D:Ae w f (x.cons t.one) (some ⟨b,0,none⟩) 2) :
  AO prog 42 #[S FF,.slice (some ⟨b,0,none⟩) 2 2] w (AF (α:=oA×Nat) (λy=>tV (.con FF (x.cons t.one)) y.1 y.2) (λ_=>True) (λy=>[λw f=>Ae w f (x.cons t.one) y.1 y.2]) w f):=by
 have e:(x.cons t.one).len=2:=by simp[T1.len_cons,T1.one,Ty.len]
 have d:=CC w f h FF (x.cons t.one) (some ⟨b,0,none⟩) 2 oM D;rw[e] at d;exact d
theorem MP(w:wO)(f:Fq)(hv:Vl w f)(k:Ty)(a:oA)(c:Nat)(hk0:0<k.len)(K:k.len≤200000)(L:k.bnd)(O:Ae w f k a c) :
  AO prog 130 #[.slice a k.len c] w (AF (α:=oA×Nat) (λx=>tV (KH k) x.1 x.2) (λ_=>True) (λx=>[λw f=>Ae w f (KH k).kids x.1 x.2]) w f):=by
 refine menM (X:=X0 w f) (H:=[]) (R:=[]) (B:=[]) (Fs:=[λw f=>Ae w f k a c]) (f:=f) func130 C C C (AR hv ⟨O,tQ⟩ ⟨Ae.mono,tQ⟩)<|Aa 6 (λb1=>λ_=>?_);obtain⟨m,hm⟩:∃m,k.len=m+1:=⟨k.len-1,oM⟩;obtain⟨tl,J⟩:=Me (k:=k) (i:=m) oM;refine Ja (α:=Nat×Nat×oA×Nat) (λx=>a=some ⟨x.1,x.2.1,none⟩) (λx=>[⟨x.1,x.2.1+((k.len:Int)-1).toNat*4,tC tl x.2.2.1 x.2.2.2⟩]) (λx=>[λw f=>Ae w f tl.kids x.2.2.1 x.2.2.2]) (λw f F=>let ⟨b,off,ka,kc,U,Y,Z⟩:=Ae.nth F.f0 J;⟨(b,off,ka,kc),U,(λe he=>by cases he with|head=>(rw[show ((k.len:Int)-1).toNat=m by omega];exact Y)|tail _ h=>cases h),AA.mem ⟨Z,tQ⟩⟩) (λx=>Ap.mem ⟨Ae.mono,tQ⟩) ?_;rintro⟨eb,eo,ta,tc⟩ rfl;refine Af 18 [100,0,0] (aI ⟨oM,oM⟩<|aI oM<|y2<|λb2=>y<|aI ⟨oM,oM⟩<|λ_=>Cz C C (λw f F=>Ow (i:=m) (show ((k.len:Int)-1)=(m:Int) by omega) C C Oz (by have:=O.1;omega))<|BV C C (eC lY C C) (λw f F=>Yj w f F.vl (some ⟨eb,eo,none⟩) m c) (λx=>⟨λ_ _ _ _ h hF=>Cs.mono h hF,tQ⟩) ?_);rintro Bs -;refine Aa 3 (λ_=>?_);intro W f1 G;have hM2:=G.less (H':=[⟨b2,tC tl ta tc,123,true⟩,⟨b1,zT,123,true⟩]) (R':=[]) (B':=[]) (F':=[λw f=>Cs w f Bs 0 [.slice (some ⟨eb,eo,none⟩) m c],λw f=>Ae w f tl.kids ta tc]) sR sR nE (mR [0,1]);refine eO w f hv k _ c m tl K hm J L O b1 b2 Bs ta tc _ C C C C (λx V f2 Qa d=>?_) (λx V f2 t a2 c2 b5 Qb htb hxb d=>?_) W f1 hM2 (λD V f2 a2 c2 hI hD hK=>?_)
 · exact Af 3 [0] (λb5=>y<|λ_=>d b5)
 ·
  refine Af 3 [100,0,0] (y2<|y<|λb6=>λ_=>?_);refine CJ 0 C C<|Cj (λw f=>Ae w f (x.1.2.1.cons t.one) (some ⟨b6,0,none⟩) 2) (λw f F=>Wz F.b0 F.f1 F.f0) Ae.mono<|BV C C (eC Bz C C) (λw f F=>Yf w f F.vl x.1.2.1 t b6 F.f0) (λ_=>⟨Ae.mono,tQ⟩) ?_;rintro⟨a3,c3⟩ -;exact Af 2 [0] (y<|λ_=>λw9 f9 hM9=>d a3 c3 _ _ w9 f9 (hM9.less sR sR (λ_ h=>h) (λφ h=>by rcases List.mem_cons.1 h with rfl|h;exact .head _;exact .tail _ (.tail _ h))))
 have hD1:w.heap.size≤b1:=G.hnw _ (.tail _ (.head _)) C;have hD2:w.heap.size≤b2:=G.hnw _ (.head _) C;have hne:b2≠b1:=λe=>by have:=G.nd;simp[CD,e] at this
 refine Jh (Dd (BL (C4 (Ab C (C3 C AH hI.k3 C) (A9 C C C AH C hI.k2 C C λV2 hb2 hC=>Al (Dd (JV ?_)))))));obtain⟨U,Y,Z,h4⟩:=hI.fin hD1 hD hK hC;exact⟨D,C,Z,_,A3 C (Ac C AH (show AE _ b1 _ 123 from (World.putObj_heap_other (Ne.symm h4)).trans hb2) C),(a2,c2),f2,C,tQ,U,Y,tQ⟩
theorem Qo(n:Nat)(ih:Zp prog 41 114 131 222 n)(w:wO)(f:Fq)(hv:Vl w f)(A:Ad)(hA:A.ok)(s:CS)(hC:Aq 131 222 A s w f)(hf:∀b,B2 A b→f b=0)(hw:D1 s)(nds:Nd)(na:oA)(nc:Nat)(e:By)(ea:oA)(hm:nds.size≤n)(hsz:nds.size≤200000)(D:nds.wfm 0)(hN:AJ w f nds na nc)(heB:FN e)(hE:AV w f e ea)(hfb:s.fresh+200002*nds.size≤800000000000) :
  BB prog 137 #[pB A.cb,.slice na nds.len nc,.pointer ea] w (CY (α:=(Ty×oA×Nat)×CS) (λx=>.slice x.1.2.1 x.1.1.len x.1.2.2) (λx=>EJ (Ce n) e s nds=.ok (x.1.1,x.2)∧x.1.1.len=nds.len∧x.1.1.bnd∧D1 x.2∧x.2.fresh≤s.fresh+200002*nds.size) (B2 A) (λx=>Aq 131 222 A x.2) (λx=>[λw f=>Ae w f x.1.1 x.1.2.1 x.1.2.2]) w f) (PanE 114 (B2 A) (λer=>EJ (Ce n) e s nds=.error er) w f):=by
 have hkl:=Nd.len_le nds;have hfr0:=hw.fr;refine OJ (X:=XC 131 222 A s w f) (H:=[]) (R:=[]) (B:=[]) (Fs:=[λw f=>AJ w f nds na nc,λw f=>AV w f e ea]) (f:=f) func137 C C C (L2 hv hC hf ⟨hN,hE,tQ⟩ ⟨AJ.mono,AV.mono,tQ⟩)<|Aa 19 (λ_=>KR 123 4 ?_);refine D6 (α:=Nat×Nd×Ty×lV×oA×Nat×CS) (λx=>x.2.1.len) (λx=>x.1+x.2.1.len=nds.len∧x.2.2.1.len=x.1∧EJ (Ce n) e s nds=(match EJ (Ce n) e x.2.2.2.2.2.2 x.2.1 with|.error x=>.error x|.ok (l,s3)=>.ok (x.2.2.1.app l,s3))∧x.2.2.1.bnd∧x.2.1.wfm 0∧D1 x.2.2.2.2.2.2∧x.2.1.size≤nds.size∧x.2.2.2.2.2.2.fresh+200002*x.2.1.size≤s.fresh+200002*nds.size) (λx=>(E6 0 (pB A.cb) 2 (.pointer ea) 7 (.slice x.2.2.2.2.1 x.1 x.2.2.2.2.2.1) 10 (.slice na nds.len nc) 11 (iV (nds.len:Int)) 12 (iV (x.1:Int)))) (λx=>⟨B2 A,B2 A,Aq 131 222 A x.2.2.2.2.2.2,w,f⟩) (λx=>[]) (λx=>[⟨123,4,x.2.2.2.2.1,x.2.2.2.2.2.1,x.1,x.2.2.2.1⟩]) (λx=>[]) (λx=>[λw f=>Bc w f na x.1 x.2.1,λw f=>AU w f x.2.2.1 x.2.2.2.1,λw f=>AV w f e ea]) (0,nds,.nil,[],none,0,s) ⟨Nat.zero_add _,C,SZ,tQ,D,hw,Nat.le_refl _,by dsimp only;omega⟩ lE (λw f d=>d.more (B':=[]) (F':=[λw f=>Bc w f na 0 nds,λw f=>AU w f .nil []]) nE (AA.mem ⟨AJ.at d.f0,C,tQ⟩) (Ap.mem ⟨Bc.mono,AU.mono,tQ⟩) |>.less sR sR nE (mR [0,1,3])) ?_;rintro⟨i,r,G,xs,ra,rc,K⟩ ⟨hi,O,J,Q,D,U,hrs,F⟩;dsimp only at hi O J Q D U hrs F ⊢;refine Aa 6 (λ_=>A6 13 C C (λh1=>?_) (λh1=>?_));refine Aa 6 (λ_=>?_);have hil:i<nds.len:=by have:=dT h1;omega
 obtain⟨W,Y,Z,tx2,nm2,k2,r,rfl⟩:=Nd.cases1 r oM;have hi2:i+(r.len+1)=nds.len:=hi;have hrs2:k2.size+r.size+1≤nds.size:=hrs;rw[wM] at D;have L:K.fresh+200002*((k2.size+r.size+1:Nat):Int)≤s.fresh+200002*nds.size:=F;refine H4 0 C ?_;rintro⟨eb,eo,ka,kc⟩ rfl;refine Af 12 [100,0,0,0] (aI oM<|y2<|λb1=>y<|y<|λ_=>DC C C (eC CB C C) (λ_ h=>h) (λw f d=>ih w f d.vl A hA K d.res d.mz U W Y Z nm2 tx2 k2 ka kc e ea oM oM D.1 d.f0 heB d.f4 oM) (λ_=>Aq.stab) (λ_=>⟨Ae.mono,tQ⟩) (λer w2 f2 he hE=>⟨C,er,f2,C,(by rw[J,show EJ (Ce n) e K (.cons W Y Z tx2 nm2 k2 r)=.error er by rw[EJ,he]]),hE⟩) ?_);rintro⟨⟨q5,qa,qc⟩,s5⟩ ⟨hp5,hqb,hw5,hf5⟩;dsimp only at hp5 hqb hw5 hf5 ⊢;exact Aa 1 (λb2=>λ_=>BW 0 0 C C Cu C C C C C C C C (λ_ _=>C) oM oM λra2 rc2=>Aa 8 (aI ⟨oM,oM⟩<|λ_=>C0 ((i+1,r,G.snoc q5,xs++tC q5 qa qc,ra2,rc2,s5)) (show r.len<(Nd.cons W Y Z tx2 nm2 k2 r).len from Nat.lt_succ_self _) ⟨show i+1+r.len=_ by omega,show (G.snoc _).len=i+1 by rw[Ty.len_snoc,O],J.trans (UN hp5),show (G.snoc _).bnd from Ty.bnd_snoc Q hqb,D.2,hw5,show r.size≤_ by omega,show s5.fresh+200002*(r.size:Int)≤_ by omega⟩ lE (λw f d=>⟨_,(d.more (B':=[]) (F':=[λw f=>AU w f (G.snoc q5) (xs++tC q5 qa qc)]) nE (AA.mem ⟨AU.snoc d.f0 d.f4,tQ⟩) (Ap.mem ⟨AU.mono,tQ⟩)).less (.cons _ (.cons _ sR)) sR nE (mR [3,0,6])⟩)));refine Aa 3 (λ_=>Dl<|Aa 3 (λ_=>?_));obtain rfl:r=.nil:=Nd.len0 (by have:=dF h1;omega);have hea2:EJ (Ce n) e s nds=.ok (G,K):=by rw[J];show (Except.ok (G.app .nil,K):RI (Ty×CS))=_;rw[Ty.app_nil]
 have L:K.fresh≤s.fresh+200002*nds.size:=by have h9:K.fresh+200002*((0:Nat):Int)≤_:=F;omega
 have hdk:G.len=nds.len:=by have:i+0=nds.len:=hi;omega
 subst O;exact Ud (λw f=>Ae w f G ra rc) Ae.mono (λw f d=>El d d.f1)<|Aa 6 (λ_=>AK (Cy C C) (λw f d=>⟨((G,ra,rc),K),f,C,⟨hea2,hdk,Q,U,L⟩,d.exm,d.res,⟨d.f0,tQ⟩⟩))
theorem YV(n:Nat)(U:∀ (w:wO) (f:Fq) (hv:Vl w f) (A:Ad) (W:A.ok) (s:CS) (hC:Aq 131 222 A s w f) (hf:∀b,B2 A b→f b=0) (hw:D1 s) (op ln co nm:Int) (tx:lU) (kids:Nd) (D:oA) (nc:Nat) (e:By) (F:oA),kids.size<n+1→kids.size≤200000→G7 op kids→AJ w f kids D nc→FN e→AV w f e F→s.fresh+200002*(kids.size+1)≤800000000000→BB prog 93 #[pB A.cb,.agg #[iV op,iV ln,iV co,S tx,iV nm,.slice D kids.len nc],.pointer F] w (CY (α:=(T1×oA×Nat)×CS) (λx=>tV x.1.1 x.1.2.1 x.1.2.2) (λx=>Bl n (Ce n) s e op ln co tx kids=.ok (x.1.1,x.2)∧x.1.1.bnd∧D1 x.2∧x.2.fresh+1≤s.fresh+200002*(kids.size+1)) (B2 A) (λx=>Aq 131 222 A x.2) (λx=>[λw f=>Ae w f x.1.1.kids x.1.2.1 x.1.2.2]) w f) (PanE 114 (B2 A) (λer=>Bl n (Ce n) s e op ln co tx kids=.error er) w f))(w:wO)(f:Fq)(hv:Vl w f)(A:Ad)(W:A.ok)(s:CS)(hC:Aq 131 222 A s w f)(hf:∀b,B2 A b→f b=0)(hw:D1 s)(op ln co nm:Int)(tx:lU)(kids:Nd)(D:oA)(nc:Nat)(e:By)(F:oA)(hm:kids.size<n+1)(Y:kids.size≤200000)(Z:G7 op kids)(hN:AJ w f kids D nc)(heB:FN e)(L:AV w f e F)(hfb:s.fresh+200002*(kids.size+1)≤800000000000) :
  BB prog 41 #[pB A.cb,.agg #[iV op,iV ln,iV co,S tx,iV nm,.slice D kids.len nc],.pointer F] w (CY (α:=(T1×oA×Nat)×CS) (λx=>tV x.1.1 x.1.2.1 x.1.2.2) (ExpQ (n+1) s e op ln co tx nm kids) (B2 A) (λx=>Aq 131 222 A x.2) (λx=>[λw f=>Ae w f x.1.1.kids x.1.2.1 x.1.2.2]) w f) (PanE 114 (B2 A) (λer=>Ce (n+1) s e op ln co tx nm kids=.error er) w f):=by
 refine OJ (X:=XC 131 222 A s w f) (H:=[]) (R:=[]) (B:=[]) (Fs:=[λw f=>AJ w f kids D nc,λw f=>AV w f e F]) (f:=f) func41 C C C (L2 hv hC hf ⟨hN,L,tQ⟩ ⟨AJ.mono,AV.mono,tQ⟩)<|Af 11 [1] (λb1=>λb2=>y<|λ_=>DC C C (eC rY C C) (λ_ h=>h) (λw f d=>U w f d.vl A W s d.res d.mz hw op ln co nm tx kids D nc e F hm Y Z d.f0 heB d.f1 hfb) (λ_=>Aq.stab) (λ_=>⟨Ae.mono,tQ⟩) (λer w2 f2 he L=>⟨C,er,f2,C,(by rw[Ce,he]),L⟩) ?_);rintro⟨⟨t,ta,tc⟩,s1⟩ ⟨G,J,K,O⟩;dsimp only at G J K O ⊢;refine Af 10 [0,0,2] (λb3=>y<|y<|y<|λ_=>DC C C (eC Fx C C) (λ_ h=>h) (λw f d=>Cf w f d.vl A W s1 d.res d.mz K t ta tc J d.f0 ln co) (λ_=>Aq.stab) (λ_=>⟨Ae.mono,tQ⟩) (λer w2 f2 he L=>⟨C,er,f2,C,(by rw[Ce,G];simp only;rw[he]),L⟩) ?_);rintro⟨tf,fa9,fc9⟩ ⟨Q,-,-⟩;dsimp only at Q ⊢;exact Af 9 [0,1] (y<|y<|λ_=>AK (λw f d=>A3 C (Ac C AH d.k1 C)) (λw f d=>⟨((t,ta,tc),s1),f,C,⟨(by rw[Ce,G];simp only;rw[Q]),J,K,O⟩,d.exm,d.res,⟨d.f1,tQ⟩⟩))
theorem Th(n:Nat)(ih:Zp prog 41 114 131 222 n)(w:wO)(f:Fq)(hv:Vl w f)(A:Ad)(hA:A.ok)(s:CS)(hC:Aq 131 222 A s w f)(hf:∀b,B2 A b→f b=0)(hw:D1 s)(op ln co nm:Int)(tx:lU)(D G J K:Int)(L:lU)(k2 r:Nd)(na:oA)(nc:Nat)(e:By)(ea:oA)(hm:k2.size<n)(hsz:k2.size≤200000)(hwf:G7 D k2)(hN:AJ w f (.cons D G J L K k2 r) na nc)(heB:FN e)(U:AV w f e ea)(hfb:s.fresh+200002*(k2.size+2)≤800000000000) :
  BB prog 45 #[pB A.cb,.agg #[iV op,iV ln,iV co,S tx,iV nm,.slice na (Nd.cons D G J L K k2 r).len nc],.pointer ea] w (CY (α:=(T1×oA×Nat)×CS) (λx=>tV x.1.1 x.1.2.1 x.1.2.2) (λx=>Kg (Ce n) s e ln co tx D G J L K k2=.ok (x.1.1,x.2)∧x.1.1.bnd∧D1 x.2∧x.2.fresh≤s.fresh+200002*(k2.size+1)) (B2 A) (λx=>Aq 131 222 A x.2) (λx=>[λw f=>Ae w f x.1.1.kids x.1.2.1 x.1.2.2]) w f) (PanE 114 (B2 A) (λer=>Kg (Ce n) s e ln co tx D G J L K k2=.error er) w f):=by
 have hfr0:=hw.fr;have hkl:0<(Nd.cons D G J L K k2 r).len:=Nat.succ_pos _;refine OJ (X:=XC 131 222 A s w f) (H:=[]) (R:=[]) (B:=[]) (Fs:=[λw f=>AJ w f (.cons D G J L K k2 r) na nc,λw f=>AV w f e ea]) (f:=f) func45 C C C (L2 hv hC hf ⟨hN,U,tQ⟩ ⟨AJ.mono,AV.mono,tQ⟩)<|Aa 11 (λb1=>λb2=>λ_=>Cz C C (λw f d=>Ai C Hc d.res.blk C)<|jC λpr=>JK (α:=CS) (val:=λ_=>tV (A5 s).1 none 0) (q:=λx=>x=(A5 s).2∧D1 x∧x.fresh=s.fresh+1) (I':=λx=>Aq 131 222 A x) (F':=λ_=>[]) (XX:=λ_ _=>False) C C (eC K8 C C) (λw f d=>(EA w f d.vl A hA s hw pr d.res.1 d.res.2 d.mz oM).retP) (λ_=>Aq.stab) (λ_=>trivial) (λ_ _ _ _ _ h=>h.elim) ?_);rintro s1 ⟨Z,hw1,hw1f⟩;refine Af 5 [0] (λb3=>y<|λ_=>mna 0 C<|H4 0 C ?_);rintro⟨eb,eo,ka,kc⟩ rfl;refine Ca [0,1,2] Aj (rd [0,1,2,3,4,5,6,7,8,9,10,11] (.br 12 (.br 13 (.br 14 (.br 15 .fin .fin) .fin) (.br 14 (.br 13 (.br 15 .fin .fin) .fin) .fin)) (.br 14 (.br 12 (.br 13 (.br 15 .fin .fin) .fin) .fin) .fin))) C kR<|Bh 12 [2,100,0,2,0,2] (y<|aI oM<|y2<|y<|y<|y<|λ_=>?_)
 ·
  refine Bj C ?_ ?_;refine DC C C (eC Ia C C) (λ_ h=>h) (λw f d=>DH w f d.vl A hA s1 d.res d.mz hw1 e ea heB d.f4 tx (A5 s).1 none 0 (B8 _) (Ae.nil _ _ _ _) false ln co) (λ_=>Aq.stab) (λ_=>⟨AV.mono,tQ⟩) (λer w2 f2 he U=>⟨C,er,f2,C,(by cases he),U⟩) ?_;rintro⟨e2,ea2⟩ ⟨he2,F⟩;dsimp only at he2 F ⊢;have W:e2=⟨tx,(A5 s).1,[]⟩::e:=by cases he2;rfl
  refine Aa 1 (λ_=>Am [0,1,2] C<|Bj C ?_ ?_);refine DC C C (eC CB C C) (λ_ h=>h) (λw f d=>ih w f d.vl A hA s1 d.res d.mz hw1 D G J K L k2 ka kc e2 ea2 oM oM hwf d.f1 F d.f0 oM) (λ_=>Aq.stab) (λ_=>⟨Ae.mono,tQ⟩) (λer w2 f2 he U=>⟨C,er,f2,C,(by rw[Kg,← Z,← W,he]),U⟩) ?_;rintro⟨⟨t,ta,tc⟩,s2⟩ ⟨O,Q,Y,hf2⟩;dsimp only at O Q Y hf2 ⊢;refine Aa 1 (λ_=>Am [0,1,2] C<|Ah C<|Aa 2 (λb4=>λ_=>?_))
  rotate_left
  refine Ah C<|Aa 2 (λb4=>λ_=>Am [1,2,3] C<|Ah C<|DC C C (eC CB C C) (λ_ h=>h) (λw f d=>ih w f d.vl A hA s1 d.res d.mz hw1 D G J K L k2 ka kc e2 ea2 oM oM hwf d.f1 F d.f0 oM) (λ_=>Aq.stab) (λ_=>⟨Ae.mono,tQ⟩) (λer w2 f2 he U=>⟨C,er,f2,C,(by rw[Kg,← Z,← W,he]),U⟩) ?_);rintro⟨⟨t,ta,tc⟩,s2⟩ ⟨O,Q,Y,hf2⟩;dsimp only at O Q Y hf2 ⊢;refine Aa 1 (λ_=>?_)
  rotate_left
  refine Ah C<|Aa 2 (λb4=>λ_=>Am [1,2,3] C<|Ah C<|DC C C (eC Ia C C) (λ_ h=>h) (λw f d=>DH w f d.vl A hA s1 d.res d.mz hw1 e ea heB d.f4 tx (A5 s).1 none 0 (B8 _) (Ae.nil _ _ _ _) false ln co) (λ_=>Aq.stab) (λ_=>⟨AV.mono,tQ⟩) (λer w2 f2 he U=>⟨C,er,f2,C,(by cases he),U⟩) ?_);rintro⟨e2,ea2⟩ ⟨he2,F⟩;dsimp only at he2 F ⊢;have W:e2=⟨tx,(A5 s).1,[]⟩::e:=by cases he2;rfl
  refine Aa 1 (λ_=>Am [1,2,3] C<|Ah C<|DC C C (eC CB C C) (λ_ h=>h) (λw f d=>ih w f d.vl A hA s1 d.res d.mz hw1 D G J K L k2 ka kc e2 ea2 oM oM hwf d.f1 F d.f0 oM) (λ_=>Aq.stab) (λ_=>⟨Ae.mono,tQ⟩) (λer w2 f2 he U=>⟨C,er,f2,C,(by rw[Kg,← Z,← W,he]),U⟩) ?_);rintro⟨⟨t,ta,tc⟩,s2⟩ ⟨O,Q,Y,hf2⟩;dsimp only at O Q Y hf2 ⊢;refine Aa 1 (λ_=>?_)
  all_goals
   refine Am [1,2,3] C<|Ah C<|Af 2 [0] (y<|λ_=>Am [1,2,3] C<|Bp<|Af 8 [1,0,3] (y<|y<|y<|λ_=>DC C C (eC H2 C C) (λ_ h=>h) (λw f d=>D0 w f d.vl A hA s2 d.res d.mz Y (A5 s).1 t none 0 ta tc (B8 _) Q (Ae.nil _ _ _ _) d.f0 ln co) (λ_=>Aq.stab) (λ_=>trivial) (λer w2 f2 he U=>⟨C,er,f2,C,(by rw[Kg,← Z,← W,O];simp only;rw[he]),U⟩) ?_));rintro s3 ⟨hh3,hw3,hf3⟩;exact Af 9 [0,2] (y<|y<|λ_=>AK (λw f d=>A3 C (Ac C AH d.k2 C)) (λw f d=>⟨((t,ta,tc),s3),f,C,⟨(by rw[Kg,← Z,← W,O];simp only;rw[hh3]),Q,hw3,by dsimp only;rw[hf3];omega⟩,d.exm,d.res,⟨d.f0,tQ⟩⟩))

theorem P9(n:Nat)(ih:Zp prog 41 114 131 222 n)(w:wO)(f:Fq)(hv:Vl w f)(A:Ad)(hA:A.ok)(s:CS)(hC:Aq 131 222 A s w f)(hf:∀b,B2 A b→f b=0)(hw:D1 s)(nds:Nd)(na:oA)(nc:Nat)(e:By)(ea:oA)(pt:T1)(pa:oA)(pc:Nat)(tk:Option T1)(ta:oA)(tc:Nat)(hpb:pt.bnd)(hP:Ae w f pt.kids pa pc)(htb:(tk.getD (.var 0)).bnd)(hT:Ae w f (tk.getD (.var 0)).kids ta tc)(hm:nds.size≤n)(hsz:nds.size≤200000)(hwf:nds.wfm 1)(hN:AJ w f nds na nc)(heB:FN e)(hE:AV w f e ea)(hfb:s.fresh+200002*nds.size≤800000000000) :
  BB prog 138 #[pB A.cb,.slice na nds.len nc,.pointer ea,tV pt pa pc,tV (tk.getD (.var 0)) ta tc,.bool tk.isSome] w (CY (α:=(T1×oA×Nat)×CS) (λx=>tV x.1.1 x.1.2.1 x.1.2.2) (λx=>DW n (Ce n) e pt s tk nds=.ok (x.1.1,x.2)∧x.1.1.bnd∧D1 x.2∧x.2.fresh≤s.fresh+200002*nds.size) (B2 A) (λx=>Aq 131 222 A x.2) (λx=>[λw f=>Ae w f x.1.1.kids x.1.2.1 x.1.2.2]) w f) (PanE 114 (B2 A) (λer=>DW n (Ce n) e pt s tk nds=.error er) w f):=by
 have hkl:=Nd.len_le nds;have hfr0:=hw.fr;refine OJ (X:=XC 131 222 A s w f) (H:=[]) (R:=[]) (B:=[]) (Fs:=[λw f=>AJ w f nds na nc,λw f=>AV w f e ea,λw f=>Ae w f pt.kids pa pc,λw f=>Ae w f (tk.getD (.var 0)).kids ta tc]) (f:=f) func138 C C C (L2 hv hC hf ⟨hN,hE,hP,hT,tQ⟩ ⟨AJ.mono,AV.mono,Ae.mono,Ae.mono,tQ⟩)<|Aa 16 (λb1=>λb2=>λb3=>λ_=>?_);refine D6 (α:=Nat×Nd×Option T1×oA×Nat×CS) (λx=>x.2.1.len) (λx=>x.1+x.2.1.len=nds.len∧DW n (Ce n) e pt s tk nds=DW n (Ce n) e pt x.2.2.2.2.2 x.2.2.1 x.2.1∧(x.2.2.1.getD (.var 0)).bnd∧x.2.1.wfm 1∧D1 x.2.2.2.2.2∧x.2.1.size≤nds.size∧x.2.2.2.2.2.fresh+200002*x.2.1.size≤s.fresh+200002*nds.size) (λx=>(E9 0 (pB A.cb) 2 (.pointer ea) 5 (.bool x.2.2.1.isSome) 9 (pB b1) 10 (pB b2) 12 (pB b3) 20 (.slice na nds.len nc) 21 (iV (nds.len:Int)) 22 (iV (x.1:Int)))) (λx=>⟨B2 A,B2 A,Aq 131 222 A x.2.2.2.2.2,w,f⟩) (λx=>[⟨b3,zT,123,true⟩,⟨b2,tC (x.2.2.1.getD (.var 0)) x.2.2.2.1 x.2.2.2.2.1,123,true⟩,⟨b1,tC pt pa pc,123,true⟩]) (λx=>[]) (λx=>[]) (λx=>[λw f=>Bc w f na x.1 x.2.1,λw f=>Ae w f (x.2.2.1.getD (.var 0)).kids x.2.2.2.1 x.2.2.2.2.1,λw f=>AV w f e ea,λw f=>Ae w f pt.kids pa pc]) (0,nds,tk,ta,tc,s) ⟨Nat.zero_add _,C,htb,hwf,hw,Nat.le_refl _,by dsimp only;omega⟩ lE (λw f d=>d.more (B':=[]) (F':=[λw f=>Bc w f na 0 nds]) nE (AA.mem ⟨AJ.at d.f0,tQ⟩) (Ap.mem ⟨Bc.mono,tQ⟩) |>.less sR sR nE (mR [0,4,2,3])) ?_;rintro⟨i,r,O,ta4,tc4,s4⟩ ⟨hi,F,htb4,hwf4,hw4,hrs,hfr4⟩;dsimp only at hi F htb4 hwf4 hw4 hrs hfr4 ⊢;refine Aa 6 (λ_=>A6 23 C C (λh1=>?_) (λh1=>?_));refine Aa 6 (λ_=>?_);have hil:i<nds.len:=by have:=dT h1;omega
 obtain⟨op2,ln2,co2,tx2,nm2,k2,r,rfl⟩:=Nd.cases1 r oM;have hi2:i+(r.len+1)=nds.len:=hi;have hrs2:k2.size+r.size+1≤nds.size:=hrs;rw[wfm1] at hwf4;obtain⟨D,hwf1⟩:=hwf4;obtain⟨Q,G,J,U,W,k3,r3,rfl⟩:=C5 D dC;replace D:=(wfm8.1 D).2;obtain⟨Y,K,L,Z,nm4,k4,r4,rfl⟩:=C5 D dC;rw[XZ] at D;have hsz3:(Nd.cons Q G J U W k3 (Nd.cons Y K L Z nm4 k4 r4)).size=k3.size+(k4.size+r4.size+1)+1:=rfl;rw[hsz3] at hrs2;have hfr5:s4.fresh+200002*((k3.size+(k4.size+r4.size+1)+1+r.size+1:Nat):Int)≤s.fresh+200002*nds.size:=hfr4;have hk0:(Nd.cons Q G J U W k3 (Nd.cons Y K L Z nm4 k4 r4)).len=r4.len+1+1:=rfl;refine H4 0 C ?_;rintro⟨eb,eo,ka,kc⟩ rfl;refine mna 0 C<|H4 0 C ?_;rintro⟨eb3,eo3,ka3,kc3⟩ rfl;refine H4 1 C ?_;rintro⟨eb4,eo4,ka4,kc4⟩ h44;obtain⟨rfl,rfl⟩:eb3=eb4∧eo3=eo4:=by cases h44;exact⟨C,C⟩
 refine Af 8 [102,0,0] (aI oM<|y2<|λb4=>y<|λ_=>?_);refine RP (α:=Nat×Nat) (λx=>True) (λx=>(E11 0 (pB A.cb) 2 (.pointer ea) 5 (.bool O.isSome) 9 (pB b1) 10 (pB b2) 12 (pB b3) 15 (pB x.1) 16 (pB x.2) 20 (.slice (some ⟨eb,eo,none⟩) nds.len nc) 21 (iV (nds.len:Int)) 22 (iV (i:Int)))) (λx=>⟨B2 A,B2 A,Aq 131 222 A s4,w,f⟩) (λx=>[⟨x.2,Kd Y K L Z nm4 ka4 k4.len kc4,121,true⟩,⟨x.1,Kd Q G J U W ka3 k3.len kc3,121,true⟩,⟨b4,Kd op2 ln2 co2 tx2 nm2 (some ⟨eb3,eo3,none⟩) (Nd.cons Q G J U W k3 (Nd.cons Y K L Z nm4 k4 r4)).len kc,121,true⟩,⟨b3,zT,123,true⟩,⟨b2,tC (O.getD (.var 0)) ta4 tc4,123,true⟩,⟨b1,tC pt pa pc,123,true⟩]) (λx=>[]) (λx=>[]) (λx=>[λw f=>Bc w f (some ⟨eb,eo,none⟩) (i+1) r,λw f=>Ae w f (O.getD (.var 0)).kids ta4 tc4,λw f=>AV w f e ea,λw f=>Ae w f pt.kids pa pc,λw f=>AJ w f k3 ka3 kc3,λw f=>AJ w f k4 ka4 kc4]) ?_ ?_;refine Ca [0,1,2,3] Aj (rd [0,1,2,3,4,5,6,7] (.br 8 (.br 9 (.br 10 (.br 11 .fin .fin) .fin) .fin) (.br 9 (.br 8 (.br 10 (.br 11 .fin .fin) .fin) .fin) .fin))) C kR<|Bh 8 [0,101,0,0,100,0] (y<|aI oM<|y2<|y<|aI oM<|y2<|λ_=>Bj C ?_ ?_);refine Aa 2 (λb5=>λ_=>Am [1,2,3,4] C<|Ah C<|Aa 2 (λb6=>λ_=>Am [2,3,4,5] C<|Ah C<|Af 2 [1] (y<|λ_=>Am [2,3,4,5] C<|Ah C<|Af 2 [0] (y<|λ_=>?_))));exact Am [2,3,4,5] C<|Bp<|Ph (b5,b6) tQ lE (λw f d=>⟨f,(d).less sR sR nE (mR [6,8,9,10,2,0])⟩);refine Ah C<|Aa 2 (λb5=>λ_=>Am [1,2,3,4] C<|Ah C<|Aa 2 (λb6=>λ_=>Am [2,3,4,5] C<|Ah C<|Af 2 [0] (y<|λ_=>Am [2,3,4,5] C<|Ah C ?_)));exact Af 2 [1] (y<|λ_=>Am [2,3,4,5] C<|Bp<|Ph (b6,b5) tQ lE (λw f d=>⟨f,(d.perm (List.Perm.swap _ _ _)).less sR sR nE (mR [6,8,9,10,2,0])⟩));rintro⟨b15,b16⟩ -;dsimp only;refine Af 6 [1] (y<|λ_=>DC C C (eC QD C C) (λ_ h=>h) (λw f d=>Sk n w f d.vl A hA s4 d.res d.mz hw4 Q G J W U k3 ka3 kc3 e ea oM oM d.f4 heB d.f2 oM) (λ_=>Aq.stab) (λ_=>⟨Ae.mono,AV.mono,tQ⟩) (λer w2 f2 he hE=>⟨C,er,f2,C,(by rw[F];simp only[DW,he]),hE⟩) ?_);rintro⟨⟨q5,qa,qc⟩,⟨e5,ea5⟩,s5⟩ ⟨hp5,hqb,heB5,hw5,hfr6⟩;dsimp only at hp5 hqb heB5 hw5 hfr6 ⊢;refine Af 15 [0,6,0,2] (λb5=>y<|y<|y<|y<|λ_=>DC C C (eC H2 C C) (λ_ h=>h) (λw f d=>D0 w f d.vl A hA s5 d.res d.mz hw5 pt q5 pa pc qa qc hpb hqb d.f5 d.f0 G J) (λ_=>Aq.stab) (λ_=>trivial) (λer w2 f2 he hE=>⟨C,er,f2,C,(by rw[F];simp only[DW,hp5,he]),hE⟩) ?_);rintro s6 ⟨hh6,hw6,hf6⟩;refine Af 7 [1] (y<|λ_=>DC C C (eC CB C C) (λ_ h=>h) (λw f d=>ih w f d.vl A hA s6 d.res d.mz hw6 Y K L nm4 Z k4 ka4 kc4 e5 ea5 oM oM D d.f7 heB5 d.f1 oM) (λ_=>Aq.stab) (λ_=>⟨Ae.mono,tQ⟩) (λer w2 f2 he hE=>⟨C,er,f2,C,(by rw[F];simp only[DW,hp5,hh6,he]),hE⟩) ?_);rintro⟨⟨rt,ra7,rc7⟩,s7⟩ ⟨hp7,hrb7,hw7,hf7⟩;dsimp only at hp7 hrb7 hw7 hf7 ⊢;refine Af 9 [0] (λb6=>y<|λ_=>A6 51 C C (λh2=>?_) (λh2=>?_));refine Af 7 [6,0,2] (y<|y<|y<|λ_=>?_)
 obtain⟨t0,rfl⟩:=Option.isSome_iff_exists.1 h2;refine DC C C (eC H2 C C) (λ_ h=>h) (λw f d=>D0 w f d.vl A hA s7 d.res d.mz hw7 t0 rt ta4 tc4 ra7 rc7 htb4 hrb7 d.f4 d.f0 K L) (λ_=>Aq.stab) (λ_=>trivial) (λer w2 f2 he hE=>⟨C,er,f2,C,(by rw[F];simp only[DW,hp5,hh6,hp7,he]),hE⟩) ?_;rintro s9 ⟨hh9,hw9,hf9⟩;exact Aa 7 (aI ⟨oM,oM⟩<|λ_=>C0 ((i+1,r,some t0,ta4,tc4,s9)) (show r.len<(Nd.cons op2 ln2 co2 tx2 nm2 (.cons Q G J U W k3 (.cons Y K L Z nm4 k4 r4)) r).len from Nat.lt_succ_self _) ⟨show i+1+r.len=_ by omega,F.trans (UU hp5 hh6 hp7 hh9),htb4,hwf1,hw9,show r.size≤_ by omega,show s9.fresh+200002*(r.size:Int)≤_ by omega⟩ lE (λw f d=>⟨_,d.less (.cons _ (.cons _ (.cons _ (.cons _ (.cons _ sR))))) sR nE (mR [3,4,5,6])⟩));obtain rfl:O=none:=Option.isNone_iff_eq_none.1 (by cases O with|none=>rfl|some z=>cases h2);exact Af 12 [0,6] (y<|y<|aI ⟨oM,oM⟩<|λ_=>C0 ((i+1,r,some rt,ra7,rc7,s7)) (show r.len<(Nd.cons op2 ln2 co2 tx2 nm2 (.cons Q G J U W k3 (.cons Y K L Z nm4 k4 r4)) r).len from Nat.lt_succ_self _) ⟨show i+1+r.len=_ by omega,F.trans (Un hp5 hh6 hp7),hrb7,hwf1,hw7,show r.size≤_ by omega,show s7.fresh+200002*(r.size:Int)≤_ by omega⟩ lE (λw f d=>⟨_,d.less (.cons _ (.cons _ (.cons _ (.cons _ (.cons _ sR))))) sR nE (mR [3,0,5,6])⟩));refine Aa 3 (λ_=>Dl<|Af 9 [1,0] (y<|y<|λ_=>?_));obtain rfl:r=.nil:=Nd.len0 (by have:=dF h1;omega);have har2:DW n (Ce n) e pt s tk nds=.ok (O.getD (.var 0),s4):=F;exact AK (λw f d=>A3 C (Ac C AH d.k0 C)) (λw f d=>⟨((O.getD (.var 0),ta4,tc4),s4),f,C,⟨har2,htb4,hw4,by have h9:s4.fresh+200002*((0:Nat):Int)≤_:=hfr4;dsimp only;omega⟩,d.exm,d.res,⟨d.f1,tQ⟩⟩)
theorem Xm{k:Ty}(h:k.bnd):(KH k).bnd:=fL k.len k (Nat.le_refl _) h
theorem dQ(w:wO)(f:Fq)(h:Vl w f)(x t:T1)(b:Nat)(D:x.bnd)(F:t.bnd)(G:Ae w f (x.cons t.one) (some ⟨b,0,none⟩) 2) :
  AO prog 130 #[.slice (some ⟨b,0,none⟩) 2 2] w (AF (α:=oA×Nat) (λy=>tV (.con FF (x.cons t.one)) y.1 y.2) (λ_=>True) (λy=>[λw f=>Ae w f (T1.con FF (x.cons t.one)).kids y.1 y.2]) w f):=by
 have e:(x.cons t.one).len=2:=by simp[T1.len_cons,T1.one,Ty.len]
 have J:KH (x.cons t.one)=.con FF (x.cons t.one):=by rw[show t.one=t.cons .nil from C,Ou];rw[show t.cons .nil=t.one from C,R5]
 have d:=MP w f h (x.cons t.one) (some ⟨b,0,none⟩) 2 oM oM (T1.bnd_cons.2 ⟨D,F7 F⟩) G;rw[e,J] at d;exact d
theorem Zh(n:Nat)(Y:Zp prog 41 114 131 222 n)(w:wO)(f:Fq)(Z:Vl w f)(A:Ad)(hA:A.ok)(s:CS)(hC:Aq 131 222 A s w f)(hf:∀b,B2 A b→f b=0)(hw:D1 s)(op ln co nm:Int)(tx:lU)(kids:Nd)(d h D F:Int)(G:lU)(k2 r:Nd)(J:kids=.cons d h D G F k2 r)(K:oA)(nc:Nat)(e:By)(L:oA)(hm:k2.size<n)(O:k2.size≤200000)(Q:G7 d k2)(hN:AJ w f kids K nc)(U:FN e)(hE:AV w f e L)(W:s.fresh+200002*(k2.size+2)≤800000000000) :
  BB prog 45 #[pB A.cb,.agg #[iV op,iV ln,iV co,S tx,iV nm,.slice K kids.len nc],.pointer L] w (CY (α:=(T1×oA×Nat)×CS) (λx=>tV x.1.1 x.1.2.1 x.1.2.2) (λx=>Kg (Ce n) s e ln co tx d h D G F k2=.ok (x.1.1,x.2)∧x.1.1.bnd∧D1 x.2∧x.2.fresh≤s.fresh+200002*(k2.size+1)) (B2 A) (λx=>Aq 131 222 A x.2) (λx=>[λw f=>Ae w f x.1.1.kids x.1.2.1 x.1.2.2]) w f) (PanE 114 (B2 A) (λer=>Kg (Ce n) s e ln co tx d h D G F k2=.error er) w f):=by
 subst J;exact Th n Y w f Z A hA s hC hf hw op ln co nm tx d h D F G k2 r K nc e L hm O Q hN U hE W
set_option maxHeartbeats 2000000 in
theorem Yo(n:Nat)(ih:Zp prog 41 114 131 222 n)(w:wO)(f:Fq)(hv:Vl w f)(A:Ad)(hA:A.ok)(s:CS)(hC:Aq 131 222 A s w f)(hf:∀b,B2 A b→f b=0)(hw:D1 s)(op ln co nm:Int)(tx:lU)(kids:Nd)(na:oA)(nc:Nat)(e:By)(ea:oA)(hm:kids.size<n+1)(hsz:kids.size≤200000)(hwf:G7 op kids)(hN:AJ w f kids na nc)(heB:FN e)(hE:AV w f e ea)(hfb:s.fresh+200002*(kids.size+1)≤800000000000) :
  BB prog 93 #[pB A.cb,.agg #[iV op,iV ln,iV co,S tx,iV nm,.slice na kids.len nc],.pointer ea] w (CY (α:=(T1×oA×Nat)×CS) (λx=>tV x.1.1 x.1.2.1 x.1.2.2) (λx=>Bl n (Ce n) s e op ln co tx kids=.ok (x.1.1,x.2)∧x.1.1.bnd∧D1 x.2∧x.2.fresh+1≤s.fresh+200002*(kids.size+1)) (B2 A) (λx=>Aq 131 222 A x.2) (λx=>[λw f=>Ae w f x.1.1.kids x.1.2.1 x.1.2.2]) w f) (PanE 114 (B2 A) (λer=>Bl n (Ce n) s e op ln co tx kids=.error er) w f):=by
 have hkl:=Nd.len_le kids;have hfr0:=hw.fr;refine OJ (X:=XC 131 222 A s w f) (H:=[]) (R:=[]) (B:=[]) (Fs:=[λw f=>AJ w f kids na nc,λw f=>AV w f e ea]) (f:=f) func93 C C C (L2 hv hC hf ⟨hN,hE,tQ⟩ ⟨AJ.mono,AV.mono,tQ⟩)<|Af 27 [1,1] (λb1=>λb2=>y<|y<|λ_=>A6 28 C C (λh1=>?_) (λh1=>?_));exact Aa 3 (λ_=>B3 C C (eC Bz C C) (λw f d=>Br w f d.vl [105,110,116])<|Af 6 [0] (y<|λ_=>AK (λw f d=>A3 C (Ac C AH d.k0 C)) (λw f d=>⟨(((c0 bI),none,0),s),f,C,⟨(by simp only[Bl,h1,Bool.false_eq_true,if_false,if_true]),(CN dC),hw,by dsimp only;omega⟩,d.exm,d.res,⟨Ae.nil _ _ _ _,tQ⟩⟩)));refine Aa 7 (λ_=>A6 31 C C (λh2=>?_) (λh2=>?_));exact Aa 3 (λ_=>B3 C C (eC Bz C C) (λw f d=>Br w f d.vl [102,108,111,97,116])<|Af 6 [0] (y<|λ_=>AK (λw f d=>A3 C (Ac C AH d.k0 C)) (λw f d=>⟨(((c0 bF),none,0),s),f,C,⟨(by simp only[Bl,h1,h2,Bool.false_eq_true,if_false,if_true]),(CN dC),hw,by dsimp only;omega⟩,d.exm,d.res,⟨Ae.nil _ _ _ _,tQ⟩⟩)));refine Aa 7 (λ_=>A6 34 C C (λh3=>?_) (λh3=>?_));exact Aa 3 (λ_=>B3 C C (eC Bz C C) (λw f d=>Br w f d.vl [115,116,114,105,110,103])<|Af 6 [0] (y<|λ_=>AK (λw f d=>A3 C (Ac C AH d.k0 C)) (λw f d=>⟨(((c0 bS),none,0),s),f,C,⟨(by simp only[Bl,h1,h2,h3,Bool.false_eq_true,if_false,if_true]),(CN dC),hw,by dsimp only;omega⟩,d.exm,d.res,⟨Ae.nil _ _ _ _,tQ⟩⟩)));refine Aa 7 (λ_=>A6 37 C C (λh4=>?_) (λh4=>?_));exact Aa 3 (λ_=>B3 C C (eC Bz C C) (λw f d=>Br w f d.vl [117,110,105,116])<|Af 6 [0] (y<|λ_=>AK (λw f d=>A3 C (Ac C AH d.k0 C)) (λw f d=>⟨(((c0 bU),none,0),s),f,C,⟨(by simp only[Bl,h1,h2,h3,h4,Bool.false_eq_true,if_false,if_true]),(CN dC),hw,by dsimp only;omega⟩,d.exm,d.res,⟨Ae.nil _ _ _ _,tQ⟩⟩)));refine Aa 7 (λ_=>A6 40 C C (λh5=>?_) (λh5=>?_));refine Af 6 [1] (y<|λ_=>DC C C (eC nX C C) (λ_ h=>h) (λw f d=>Zb w f d.vl A hA s d.res d.mz hw op ln co nm tx kids na nc e ea heB d.f1 oM) (λ_=>Aq.stab) (λ_=>⟨Ae.mono,tQ⟩) (λer w2 f2 he hE=>⟨C,er,f2,C,(by simp only[Bl,h1,h2,h3,h4,h5,Bool.false_eq_true,if_false,if_true];exact he),hE⟩) ?_);rintro⟨⟨t,ta,tc⟩,s1⟩ ⟨hlk,htb,K,hf1⟩;dsimp only at hlk htb K hf1 ⊢;exact Af 6 [0] (y<|λ_=>AK (λw f d=>A3 C (Ac C AH d.k0 C)) (λw f d=>⟨((t,ta,tc),s1),f,C,⟨(by simp only[Bl,h1,h2,h3,h4,h5,Bool.false_eq_true,if_false,if_true];exact hlk),htb,K,by dsimp only;omega⟩,d.exm,d.res,⟨d.f0,tQ⟩⟩));refine Aa 7 (λ_=>A6 46 C C (λh6=>?_) (λh6=>?_));refine Af 5 [1] (y<|λ_=>DC C C (eC Xp C C) (λ_ h=>h) (λw f d=>Qq w f d.vl A hA s d.res d.mz hw op ln co nm tx kids na nc oM) (λ_=>Aq.stab) (λ_=>⟨Ae.mono,Ae.mono,tQ⟩) (λer w2 f2 he hE=>⟨C,er,f2,C,(by simp only[Bl,h1,h2,h3,h4,h5,h6,Bool.false_eq_true,if_false,if_true];rw[he]),hE⟩) ?_);rintro⟨⟨args,aa,ac⟩,⟨out,oa,oc⟩,s1⟩ ⟨hmk,hal,hab,hob,K,hfr1⟩
 dsimp only at hmk hal hab hob K hfr1 ⊢;refine Af 17 [0] (λb3=>y<|λ_=>?_);have G:=wf6 ((beq_iff_eq.1 h6)▸hwf);refine D6 (α:=Nat×Nd×Ty×CS) (λx=>x.2.1.len) (λx=>x.1+x.2.1.len=kids.len∧x.2.2.1.len=x.2.1.len∧Hu (Ce n) e s1 args kids=Hu (Ce n) e x.2.2.2 x.2.2.1 x.2.1∧x.2.2.1.bnd∧x.2.1.wfm 0∧D1 x.2.2.2∧x.2.1.size≤kids.size∧x.2.2.2.fresh+200002*x.2.1.size≤s.fresh+200000+200002*kids.size) (λx=>(E8 0 (pB A.cb) 2 (.pointer ea) 6 (pB b2) 8 (.slice aa args.len ac) 9 (pB b3) 54 (.slice na kids.len nc) 55 (iV (kids.len:Int)) 56 (iV (x.1:Int)))) (λx=>⟨B2 A,B2 A,Aq 131 222 A x.2.2.2,w,f⟩) (λx=>[⟨b3,tC out oa oc,123,true⟩,⟨b2,zT,123,true⟩,⟨b1,[iV op,iV ln,iV co,S tx,iV nm,.slice na kids.len nc],121,true⟩]) (λx=>[]) (λx=>[]) (λx=>[λw f=>Bc w f na x.1 x.2.1,λw f=>Bn w f aa x.1 x.2.2.1,λw f=>AV w f e ea,λw f=>Ae w f out.kids oa oc]) (0,kids,args,s1) ⟨Nat.zero_add _,hal,C,hab,G,K,Nat.le_refl _,by dsimp only;omega⟩ lE (λw f d=>d.more (B':=[]) (F':=[λw f=>Bc w f na 0 kids,λw f=>Bn w f aa 0 args]) nE (AA.mem ⟨AJ.at d.f2,Ae.at d.f0,tQ⟩) (Ap.mem ⟨Bc.mono,Bn.mono,tQ⟩) |>.less sR sR nE (mR [0,1,5,3])) ?_;rintro⟨i,r,ar,s4⟩ ⟨hi,harl,hpc,harb,hwf4,hw4,hrs,hfr4⟩;dsimp only at hi harl hpc harb hwf4 hw4 hrs hfr4 ⊢;refine Aa 6 (λ_=>A6 57 C C (λh7=>?_) (λh7=>?_));refine Aa 6 (λ_=>?_);have hil:i<kids.len:=by have:=dT h7;omega
 obtain⟨J,U,W,Y,nm2,k2,r,rfl⟩:=Nd.cases1 r oM;have hi2:i+(r.len+1)=kids.len:=hi;have harl2:ar.len=r.len+1:=harl;obtain⟨t2,ar,rfl⟩:=Ty.cases1 ar oM;rw[T1.len_cons] at harl2;have hrs2:k2.size+r.size+1≤kids.size:=hrs;rw[wM] at hwf4;have hfr5:s4.fresh+200002*((k2.size+r.size+1:Nat):Int)≤s.fresh+200000+200002*kids.size:=hfr4;refine H4 0 C ?_;rintro⟨eb,eo,ka,kc⟩ rfl;refine Te 3 C ?_;rintro⟨ab,ao,ka2,kc2⟩ rfl;refine Af 9 [101,0,0] (aI oM<|y2<|λb4=>y<|λ_=>Ca [0,1,2,3] Aj (rd [0,1,2,3,4,5,6,7,9,10] (.br 8 (.br 11 .fin .fin) .fin)) C kR<|Bh 10 [100,0,0,0] (aI oM<|y2<|y<|y<|λ_=>Ah C<|DC C C (eC CB C C) (λ_ h=>h) (λw f d=>ih w f d.vl A hA s4 d.res d.mz hw4 J U W nm2 Y k2 ka kc e ea oM oM hwf4.1 d.f2 heB d.f6 oM) (λ_=>Aq.stab) (λ_=>⟨Ae.mono,tQ⟩) (λer w2 f2 he hE=>⟨C,er,f2,C,(by simp only[Bl,h1,h2,h3,h4,h5,h6,Bool.false_eq_true,if_false,if_true];rw[hmk];simp only;rw[hpc,show Hu (Ce n) e s4 (t2.cons ar) (.cons J U W Y nm2 k2 r)=.error er by rw[Hu,he]]),hE⟩) ?_));rintro⟨⟨q5,qa,qc⟩,s5⟩ ⟨hp5,hqb,hw5,hf5⟩;dsimp only at hp5 hqb hw5 hf5 ⊢;refine Aa 1 (λ_=>Am [0,1,2,3] C<|Ah C<|DC C C (eC H2 C C) (λ_ h=>h) (λw f d=>D0 w f d.vl A hA s5 d.res d.mz hw5 t2 q5 ka2 kc2 qa qc (T1.bnd_cons.1 harb).1 hqb d.f1 d.f0 U W) (λ_=>Aq.stab) (λ_=>trivial) (λer w2 f2 he hE=>⟨C,er,f2,C,(by simp only[Bl,h1,h2,h3,h4,h5,h6,Bool.false_eq_true,if_false,if_true];rw[hmk];simp only;rw[hpc,show Hu (Ce n) e s4 (t2.cons ar) (.cons J U W Y nm2 k2 r)=.error er by rw[Hu,hp5];simp only;rw[T1.hd_cons,he]]),hE⟩) ?_);rintro s6 ⟨hh6,hw6,hf6⟩;exact Aa 1 (λ_=>Am [0,1,2,3] C<|Bp<|Aa 6 (aI ⟨oM,oM⟩<|λ_=>C0 ((i+1,r,ar,s6)) (show r.len<(Nd.cons J U W Y nm2 k2 r).len from Nat.lt_succ_self _) ⟨show i+1+r.len=_ by omega,show ar.len=r.len by omega,hpc.trans (U4 hp5 hh6),(T1.bnd_cons.1 harb).2,hwf4.2,hw6,show r.size≤_ by omega,show s6.fresh+200002*(r.size:Int)≤_ by omega⟩ lE (λw f d=>⟨_,d.less (.cons _ sR) sR nE (mR [4,2,7,8])⟩)));refine Aa 3 (λ_=>Dl<|Aa 3 (λ_=>?_));obtain rfl:r=.nil:=Nd.len0 (by have:=dF h7;omega);have hpc2:Hu (Ce n) e s1 args kids=.ok s4:=hpc;have hfr5:s4.fresh≤s.fresh+200000+200002*kids.size:=by have F:s4.fresh+200002*((0:Nat):Int)≤_:=hfr4;omega
 exact Af 8 [0,1] (y<|y<|λ_=>AK (λw f d=>A3 C (Ac C AH d.k1 C)) (λw f d=>⟨((out,oa,oc),s4),f,C,⟨(by simp only[Bl,h1,h2,h3,h4,h5,h6,Bool.false_eq_true,if_false,if_true];rw[hmk];simp only;rw[hpc2]),hob,hw4,by dsimp only;omega⟩,d.exm,d.res,⟨d.f3,tQ⟩⟩));refine Aa 7 (λ_=>A6 75 C C (λh7=>?_) (λh7=>?_));refine Aa 8 (λ_=>?_);have G:=wf7 ((beq_iff_eq.1 h7)▸hwf);have hk0:0<kids.len:=by obtain⟨_,_,_,_,_,_,_,F⟩:=C5 G dC;rw[F];exact Nat.succ_pos _
 obtain⟨m,hm2⟩:∃m,kids.len=m+1:=⟨kids.len-1,oM⟩;refine Aa 5 (aI ⟨oM,oM⟩<|λ_=>Cz C C (λw f d=>Ow (i:=m) (show ((kids.len:Int)-1)=(m:Int) by omega) C C SE (by have:=hN.1;omega))<|Aa 5 (λ_=>KR 123 4 ?_));refine D6 (α:=Nat×Nd×Ty×lV×oA×Nat×By×oA×CS) (λx=>x.2.1.len) (λx=>x.1+x.2.1.len=kids.len∧0<x.2.1.len∧x.2.2.1.len=x.1∧Fb s e kids=(x.2.2.1.app (Fb x.2.2.2.2.2.2.2.2 x.2.2.2.2.2.2.1 x.2.1).1,(Fb x.2.2.2.2.2.2.2.2 x.2.2.2.2.2.2.1 x.2.1).2)∧kids.last=x.2.1.last∧x.2.2.1.bnd∧x.2.1.wfm 4∧FN x.2.2.2.2.2.2.1∧D1 x.2.2.2.2.2.2.2.2∧x.2.1.size≤kids.size∧x.2.2.2.2.2.2.2.2.fresh+200002*x.2.1.size≤s.fresh+200002*kids.size) (λx=>(E9 0 (pB A.cb) 2 (.pointer x.2.2.2.2.2.2.2.1) 4 (pB b1) 6 (pB b2) 7 (.slice na kids.len nc) 12 (.slice x.2.2.2.2.1 x.1 x.2.2.2.2.2.1) 81 (.slice na m nc) 82 (iV (m:Int)) 83 (iV (x.1:Int)))) (λx=>⟨B2 A,B2 A,Aq 131 222 A x.2.2.2.2.2.2.2.2,w,f⟩) (λx=>[⟨b2,zT,123,true⟩,⟨b1,[iV op,iV ln,iV co,S tx,iV nm,.slice na kids.len nc],121,true⟩]) (λx=>[⟨123,4,x.2.2.2.2.1,x.2.2.2.2.2.1,x.1,x.2.2.2.1⟩]) (λx=>[]) (λx=>[λw f=>Bc w f na x.1 x.2.1,λw f=>AU w f x.2.2.1 x.2.2.2.1,λw f=>AV w f x.2.2.2.2.2.2.1 x.2.2.2.2.2.2.2.1]) (0,kids,.nil,[],none,0,e,ea,s) ⟨Nat.zero_add _,by dsimp only;omega,C,C,C,tQ,G,heB,hw,Nat.le_refl _,by dsimp only;omega⟩ lE (λw f d=>d.more (B':=[]) (F':=[λw f=>Bc w f na 0 kids,λw f=>AU w f .nil []]) nE (AA.mem ⟨AJ.at d.f0,C,tQ⟩) (Ap.mem ⟨Bc.mono,AU.mono,tQ⟩) |>.less sR sR nE (mR [0,1,3])) ?_;rintro⟨i,r,dn,xs,ra,rc,e4,ea4,s4⟩ ⟨hi,hr0,hdl,hpa,hla,hdb,hwf4,heB4,hw4,hrs,hfr4⟩;dsimp only at hi hr0 hdl hpa hla hdb hwf4 heB4 hw4 hrs hfr4 ⊢;refine Aa 6 (λ_=>A6 84 C C (λh8=>?_) (λh8=>?_));refine Aa 6 (λ_=>?_);have hil:i<m:=by have:=dT h8;omega
 obtain⟨J,U,W,Y,nm2,k2,r,rfl⟩:=Nd.cases1 r oM;have hi2:i+(r.len+1)=kids.len:=hi;have hrs2:k2.size+r.size+1≤kids.size:=hrs;have hfr5:s4.fresh+200002*((k2.size+r.size+1:Nat):Int)≤s.fresh+200002*kids.size:=hfr4;have hwf5:r.wfm 4:=by rw[wfm4] at hwf4;rcases hwf4 with F|F;exact absurd F.1 (Nd.ne_nil oM);exact F.2
 refine H4 0 C ?_;rintro⟨eb,eo,ka,kc⟩ rfl;refine Af 12 [100,0,0] (aI oM<|y2<|λb3=>y<|λ_=>Cz C C (λw f d=>Ai C Hc d.res.blk C)<|jC λpr=>JK (α:=CS) (val:=λ_=>tV (A5 s4).1 none 0) (q:=λx=>x=(A5 s4).2∧D1 x∧x.fresh=s4.fresh+1) (I':=λx=>Aq 131 222 A x) (F':=λ_=>[]) (XX:=λ_ _=>False) C C (eC K8 C C) (λw f d=>(EA w f d.vl A hA s4 hw4 pr d.res.1 d.res.2 d.mz oM).retP) (λ_=>Aq.stab) (λ_=>trivial) (λ_ _ _ _ _ h=>h.elim) ?_);rintro s5 ⟨hs5,hw5,hw5f⟩;refine Af 9 [0,0] (λb4=>y<|y<|λb5=>λ_=>BW 0 0 C C Cu C C C C C C C C (λ_ _=>C) oM oM λra2 rc2=>Af 10 [2] (y<|λ_=>A6 98 C C (λF=>?_) (λF=>?_)));refine Af 9 [2,1,4] (y<|y<|y<|λ_=>DC C C (eC Ia C C) (λ_ h=>h) (λw f d=>DH w f d.vl A hA s5 d.res d.mz hw5 e4 ea4 heB4 d.f4 Y (A5 s4).1 none 0 (B8 _) (Ae.nil _ _ _ _) false ln co) (λ_=>Aq.stab) (λ_=>⟨AV.mono,tQ⟩) (λer w2 f2 he hE=>⟨C,er,f2,C,(by cases he),hE⟩) ?_);rintro⟨e5,ea5⟩ ⟨he5,heB5⟩;dsimp only at he5 heB5 ⊢;have hee:e5=⟨Y,(A5 s4).1,[]⟩::e4:=by cases he5;rfl
 exact Aa 8 (aI ⟨oM,oM⟩<|λ_=>C0 ((i+1,r,dn.snoc (A5 s4).1,xs++tC (A5 s4).1 none 0,ra2,rc2,e5,ea5,s5)) (show r.len<(Nd.cons J U W Y nm2 k2 r).len from Nat.lt_succ_self _) ⟨show i+1+r.len=_ by omega,show 0<r.len by omega,show (dn.snoc _).len=i+1 by rw[Ty.len_snoc,hdl],hpa.trans ((OS (Nd.ne_nil oM)).trans (by rw[hs5,F,hee];simp)),hla.trans (Nd.last_step (Nd.ne_nil oM)),show (dn.snoc _).bnd from Ty.bnd_snoc hdb (B8 _),hwf5,heB5,hw5,show r.size≤_ by omega,show s5.fresh+200002*(r.size:Int)≤_ by rw[hw5f];omega⟩ lE (λw f d=>⟨_,(d.more (B':=[]) (F':=[λw f=>AU w f (dn.snoc (A5 s4).1) (xs++tC (A5 s4).1 none 0)]) nE (AA.mem ⟨AU.snoc (Ae.nil _ _ _ _) d.f4,tQ⟩) (Ap.mem ⟨AU.mono,tQ⟩)).less (.cons _ (.cons _ (.cons _ sR))) sR nE (mR [3,0,1])⟩));exact Aa 8 (aI ⟨oM,oM⟩<|λ_=>C0 ((i+1,r,dn.snoc (A5 s4).1,xs++tC (A5 s4).1 none 0,ra2,rc2,e4,ea4,s5)) (show r.len<(Nd.cons J U W Y nm2 k2 r).len from Nat.lt_succ_self _) ⟨show i+1+r.len=_ by omega,show 0<r.len by omega,show (dn.snoc _).len=i+1 by rw[Ty.len_snoc,hdl],hpa.trans ((OS (Nd.ne_nil oM)).trans (by rw[hs5,F];simp)),hla.trans (Nd.last_step (Nd.ne_nil oM)),show (dn.snoc _).bnd from Ty.bnd_snoc hdb (B8 _),hwf5,heB4,hw5,show r.size≤_ by omega,show s5.fresh+200002*(r.size:Int)≤_ by rw[hw5f];omega⟩ lE (λw f d=>⟨_,(d.more (B':=[]) (F':=[λw f=>AU w f (dn.snoc (A5 s4).1) (xs++tC (A5 s4).1 none 0)]) nE (AA.mem ⟨AU.snoc (Ae.nil _ _ _ _) d.f3,tQ⟩) (Ap.mem ⟨AU.mono,tQ⟩)).less (.cons _ (.cons _ (.cons _ sR))) sR nE (mR [2,0,5])⟩));refine Aa 3 (λ_=>Dl<|Aa 3 (λ_=>?_));have hie:i=m:=by have:=dF h8;omega
 obtain⟨J,U,W,Y,nm2,k2,r,rfl⟩:=Nd.cases1 r hr0;obtain rfl:r=.nil:=Nd.len0 (by have F:i+(r.len+1)=kids.len:=hi;omega);have hwk1:G7 J k2:=by rw[wfm4] at hwf4;rcases hwf4 with F|F;exact F.2;exact absurd C F.1
 have hrs2:k2.size+0+1≤kids.size:=hrs;have hfr5:s4.fresh+200002*((k2.size+0+1:Nat):Int)≤s.fresh+200002*kids.size:=hfr4;have hpa2:Fb s e kids=(dn,e4,s4):=by rw[hpa];show (dn.app .nil,e4,s4)=_;rw[Ty.app_nil]
 refine Ja (α:=Nat×Nat×oA×Nat) (λx=>na=some ⟨x.1,x.2.1,none⟩) (λx=>[⟨x.1,x.2.1+((kids.len:Int)-1).toNat*6,Kd J U W Y nm2 x.2.2.1 k2.len x.2.2.2⟩]) (λx=>[λw f=>AJ w f k2 x.2.2.1 x.2.2.2]) (λw f d=>let ⟨b,off,ka,kc,h1,h2,h3,h4⟩:=Bc.head d.f0;⟨(b,off,ka,kc),h1,(λe he=>by cases he with|head=>(rw[show ((kids.len:Int)-1).toNat=i by omega];exact h2)|tail _ h=>cases h),AA.mem ⟨h3,tQ⟩⟩) (λx=>Ap.mem ⟨AJ.mono,tQ⟩) ?_;rintro⟨eb,eo,ka2,kc2⟩ rfl;refine Af 10 [100,0] (aI ⟨oM,oM⟩<|aI oM<|y2<|λ_=>DC C C (eC CB C C) (λ_ h=>h) (λw f d=>ih w f d.vl A hA s4 d.res d.mz hw4 J U W nm2 Y k2 ka2 kc2 e4 ea4 oM oM hwk1 d.f0 heB4 d.f3 oM) (λ_=>Aq.stab) (λ_=>⟨Ae.mono,tQ⟩) (λer w2 f2 he hE=>⟨C,er,f2,C,(by simp only[Bl,h1,h2,h3,h4,h5,h6,h7,Bool.false_eq_true,if_false,if_true];rw[hla];show (match Ce n (Fb s e kids).2.2 (Fb s e kids).2.1 J U W Y nm2 k2 with|.error x=>.error x|.ok (t,s1)=>.ok (KH ((Fb s e kids).1.snoc t),s1):RI (T1×CS))=_;rw[hpa2,he]),hE⟩) ?_);rintro⟨⟨q5,qa,qc⟩,s5⟩ ⟨hp5,hqb,hw5,hf5⟩;dsimp only at hp5 hqb hw5 hf5 ⊢;refine Aa 1 (λb3=>λ_=>BW 0 0 C C Cu C C C C C C C C (λ_ _=>C) oM oM λra9 rc9=>Ud (λw f=>Ae w f (dn.snoc q5) ra9 rc9) Ae.mono (λw f d=>El d (AU.snoc d.f0 d.f3)) ?_);have hdn:(dn.snoc q5).len=i+1:=by rw[Ty.len_snoc,hdl]
 refine BV (α:=oA×Nat) (val:=λy=>tV (KH (dn.snoc q5)) y.1 y.2) (q:=λ_=>True) (F':=λy=>[λw f=>Ae w f (KH (dn.snoc q5)).kids y.1 y.2]) C C (eC Nv C C) (λw f d=>by have F:=MP w f d.vl (dn.snoc q5) ra9 rc9 oM oM (Ty.bnd_snoc hdb hqb) d.f0;rw[hdn] at F;exact F) (λ_=>⟨Ae.mono,tQ⟩) ?_;rintro⟨ta,tc⟩ -;exact Af 6 [1] (y<|λ_=>AK (λw f d=>A3 C (Ac C AH d.k1 C)) (λw f d=>⟨(((KH (dn.snoc q5)),ta,tc),s5),f,C,⟨(by simp only[Bl,h1,h2,h3,h4,h5,h6,h7,Bool.false_eq_true,if_false,if_true];rw[hla];show (match Ce n (Fb s e kids).2.2 (Fb s e kids).2.1 J U W Y nm2 k2 with|.error x=>.error x|.ok (t,s1)=>.ok (KH ((Fb s e kids).1.snoc t),s1):RI (T1×CS))=_;rw[hpa2,hp5]),(Xm (Ty.bnd_snoc hdb hqb)),hw5,by dsimp only;omega⟩,d.exm,d.res,⟨d.f0,tQ⟩⟩));refine Aa 7 (λ_=>A6 121 C C (λh8=>?_) (λh8=>?_));refine Aa 2 (λ_=>?_);have G:=wf8 ((beq_iff_eq.1 h8)▸hwf);obtain⟨J,U,W,Y,nm2,k2,r2,D⟩:=Nd.cases1 kids G.1;have hwk1:G7 J k2:=by have F:=G.2;rw[D] at F;exact F.1
 have Z:r2.wfm 0:=by have F:=G.2;rw[D] at F;exact F.2
 have hks:kids.size=k2.size+r2.size+1:=by rw[D];rfl
 have hkl2:kids.len=r2.len+1:=by rw[D];rfl
 refine mnr 0 C D<|dB 1 C D<|H4 0 C ?_;rintro⟨eb,eo,ka2,kc2⟩ rfl;refine Af 6 [100,0] (aI oM<|y2<|λ_=>DC C C (eC CB C C) (λ_ h=>h) (λw f d=>ih w f d.vl A hA s d.res d.mz hw J U W nm2 Y k2 ka2 kc2 e ea oM oM hwk1 d.f0 heB d.f5 oM) (λ_=>Aq.stab) (λ_=>⟨Ae.mono,tQ⟩) (λer w2 f2 he hE=>⟨C,er,f2,C,(by simp only[Bl,h1,h2,h3,h4,h5,h6,h7,h8,Bool.false_eq_true,if_false,if_true];rw[D];simp only;rw[he]),hE⟩) ?_);rintro⟨⟨t0,ta0,tc0⟩,s1⟩ ⟨Q,L,K,hf1⟩;dsimp only at Q L K hf1 ⊢;refine Af 8 [0] (λb3=>y<|λ_=>Cz C C (λw f d=>Ox hkl2 C C SE)<|Aa 5 (λ_=>?_));refine D6 (α:=Nat×Nd×T1×oA×Nat×CS) (λx=>x.2.1.len) (λx=>x.1+x.2.1.len=r2.len∧KU (Ce n) e s1 t0 r2=KU (Ce n) e x.2.2.2.2.2 x.2.2.1 x.2.1∧x.2.2.1.bnd∧x.2.1.wfm 0∧D1 x.2.2.2.2.2∧x.2.1.size≤r2.size∧x.2.2.2.2.2.fresh+1+200002*x.2.1.size≤s.fresh+200002*kids.size) (λx=>(E7 0 (pB A.cb) 2 (.pointer ea) 6 (pB b2) 16 (pB b3) 130 (.slice (E1 (some (⟨eb,eo,none⟩:Addr)) nc 6) r2.len (nc-1)) 131 (iV (r2.len:Int)) 132 (iV (x.1:Int)))) (λx=>⟨B2 A,B2 A,Aq 131 222 A x.2.2.2.2.2,w,f⟩) (λx=>[⟨b3,tC x.2.2.1 x.2.2.2.1 x.2.2.2.2.1,123,true⟩,⟨b2,zT,123,true⟩,⟨b1,[iV op,iV ln,iV co,S tx,iV nm,.slice (some (⟨eb,eo,none⟩:Addr)) kids.len nc],121,true⟩]) (λx=>[]) (λx=>[]) (λx=>[λw f=>Bc w f (E1 (some (⟨eb,eo,none⟩:Addr)) nc 6) x.1 x.2.1,λw f=>Ae w f x.2.2.1.kids x.2.2.2.1 x.2.2.2.2.1,λw f=>AV w f e ea]) (0,r2,t0,ta0,tc0,s1) ⟨Nat.zero_add _,C,L,Z,K,Nat.le_refl _,by dsimp only;omega⟩ lE (λw f d=>d.more (B':=[]) (F':=[λw f=>Bc w f (E1 (some (⟨eb,eo,none⟩:Addr)) nc 6) 0 r2]) nE (AA.mem ⟨AJ.at d.f4,tQ⟩) (Ap.mem ⟨Bc.mono,tQ⟩) |>.less sR sR nE (mR [0,1,7])) ?_;rintro⟨i,r,t4,ta4,tc4,s4⟩ ⟨hi,hpc,htb4,hwf4,hw4,hrs,hfr4⟩;dsimp only at hi hpc htb4 hwf4 hw4 hrs hfr4 ⊢;obtain⟨nr,hnr⟩:∃z,E1 (some (⟨eb,eo,none⟩:Addr)) nc 6=z:=⟨_,C⟩;rw[hnr];refine Aa 6 (λ_=>A6 133 C C (λF=>?_) (λF=>?_));refine Aa 6 (λ_=>?_);have hil:i<r2.len:=by have:=dT F;omega
 obtain⟨op3,ln3,co3,tx3,nm3,k3,r,rfl⟩:=Nd.cases1 r oM;have hi2:i+(r.len+1)=r2.len:=hi;have hrs2:k3.size+r.size+1≤r2.size:=hrs;rw[wM] at hwf4;have hfr5:s4.fresh+1+200002*((k3.size+r.size+1:Nat):Int)≤s.fresh+200002*kids.size:=hfr4;have hkr:=Nd.len_le r2;refine H4 0 C ?_;rintro⟨eb3,eo3,ka3,kc3⟩ rfl;refine Af 12 [100,0,0,0] (aI oM<|y2<|λb4=>y<|y<|λ_=>DC C C (eC CB C C) (λ_ h=>h) (λw f d=>ih w f d.vl A hA s4 d.res d.mz hw4 op3 ln3 co3 nm3 tx3 k3 ka3 kc3 e ea oM oM hwf4.1 d.f0 heB d.f4 oM) (λ_=>Aq.stab) (λ_=>⟨Ae.mono,tQ⟩) (λer w2 f2 he hE=>⟨C,er,f2,C,(by simp only[Bl,h1,h2,h3,h4,h5,h6,h7,h8,Bool.false_eq_true,if_false,if_true];rw[D];simp only;rw[Q];simp only;rw[hpc,show KU (Ce n) e s4 t4 (.cons op3 ln3 co3 tx3 nm3 k3 r)=.error er by rw[KU,he]]),hE⟩) ?_);rintro⟨⟨q5,qa,qc⟩,s5⟩ ⟨hp5,hqb,hw5,hf5⟩;dsimp only at hp5 hqb hw5 hf5 ⊢;refine Af 9 [0] (λb5=>y<|λ_=>Cz C C (λw f d=>Ai C Hc d.res.blk C)<|jC λpr=>JK (α:=CS) (val:=λ_=>tV (A5 s5).1 none 0) (q:=λx=>x=(A5 s5).2∧D1 x∧x.fresh=s5.fresh+1) (I':=λx=>Aq 131 222 A x) (F':=λ_=>[]) (XX:=λ_ _=>False) C C (eC K8 C C) (λw f d=>(EA w f d.vl A hA s5 hw5 pr d.res.1 d.res.2 d.mz oM).retP) (λ_=>Aq.stab) (λ_=>trivial) (λ_ _ _ _ _ h=>h.elim) ?_);rintro s6 ⟨hs6,hw6,hw6f⟩;refine Af 5 [0] (λb6=>y<|λ_=>Ca [0,1,2,3,4,5] Aj (rd [0,1,2,3,6,7] (.br 4 (.br 5 (.br 8 .fin .fin) .fin) .fin)) C kR<|Bh 6 [3,1,0,2] (y<|y<|y<|y<|λ_=>Ah C<|Aa 2 (λb7=>λ_=>Am [1,2,3,4,5,6] C<|Ah C<|CJ 0 C C<|Cj (λw f=>Ae w f (q5.cons (A5 s5).1.one) (some ⟨b7,0,none⟩) 2) (λw f d=>Wz d.b0 d.f0 (Ae.nil _ _ _ _)) Ae.mono<|BV (α:=oA×Nat) (val:=λy=>tV (.con FF (q5.cons (A5 s5).1.one)) y.1 y.2) (q:=λ_=>True) (F':=λy=>[λw f=>Ae w f (T1.con FF (q5.cons (A5 s5).1.one)).kids y.1 y.2]) C C (eC Nv C C) (λw f d=>dQ w f d.vl q5 (A5 s5).1 b7 hqb (B8 _) d.f0) (λ_=>⟨Ae.mono,tQ⟩) ?_)));rintro⟨ya,yc⟩ -;have hyb:(T1.con FF (q5.cons (A5 s5).1.one)).bnd:=BS dC (by simp[T1.len_cons,T1.one,Ty.len]) (T1.bnd_cons.2 ⟨hqb,F7 (B8 _)⟩);refine Aa 1 (λ_=>AS [0,1,2,3,4,5] DG C (λ_ h=>.tail _ h)<|Ah C<|DC C C (eC H2 C C) (λ_ h=>h) (λw f d=>D0 w f d.vl A hA s6 d.res d.mz hw6 t4 (.con FF (q5.cons (A5 s5).1.one)) ta4 tc4 ya yc htb4 hyb d.f6 d.f0 ln3 co3) (λ_=>Aq.stab) (λ_=>trivial) (λer w2 f2 he hE=>⟨C,er,f2,C,(by simp only[Bl,h1,h2,h3,h4,h5,h6,h7,h8,Bool.false_eq_true,if_false,if_true];rw[D];simp only;rw[Q];simp only;rw[hpc,show KU (Ce n) e s4 t4 (.cons op3 ln3 co3 tx3 nm3 k3 r)=.error er by rw[KU,hp5];simp only;rw[← hs6,he]]),hE⟩) ?_);rintro s7 ⟨hh7,hw7,hf7⟩
 exact Aa 1 (λ_=>AS [0,1,2,3,4,5] DG C (λ_ h=>.tail _ h)<|Bp<|Af 11 [0,3] (y<|y<|aI ⟨oM,oM⟩<|λ_=>C0 ((i+1,r,(A5 s5).1,none,0,s7)) (show r.len<(Nd.cons op3 ln3 co3 tx3 nm3 k3 r).len from Nat.lt_succ_self _) ⟨show i+1+r.len=_ by omega,hpc.trans (Zn hp5 (by rw[← hs6];exact hh7)),B8 _,hwf4.2,hw7,show r.size≤_ by omega,show s7.fresh+1+200002*(r.size:Int)≤_ by omega⟩ lE (λw f d=>⟨_,(d.more (B':=[]) (F':=[λw f=>Ae w f (A5 s5).1.kids none 0]) nE (AA.mem ⟨Ae.nil _ _ _ _,tQ⟩) (Ap.mem ⟨Ae.mono,tQ⟩)).less (sD (sD (sD (sK (sK (sK sZ)))))) sR nE (mR [5,0,8])⟩)));refine Aa 3 (λ_=>Dl<|Aa 3 (λ_=>?_));obtain rfl:r=.nil:=Nd.len0 (by have:=dF F;omega);have hpc2:KU (Ce n) e s1 t0 r2=.ok (t4,s4):=hpc;have hfr5:s4.fresh+1≤s.fresh+200002*kids.size:=by have F:s4.fresh+1+200002*((0:Nat):Int)≤_:=hfr4;omega
 exact Af 8 [0,1] (y<|y<|λ_=>AK (λw f d=>A3 C (Ac C AH d.k1 C)) (λw f d=>⟨((t4,ta4,tc4),s4),f,C,⟨(by simp only[Bl,h1,h2,h3,h4,h5,h6,h7,h8,Bool.false_eq_true,if_false,if_true];rw[D];simp only;rw[Q];simp only;rw[hpc2]),htb4,hw4,by dsimp only;omega⟩,d.exm,d.res,⟨d.f1,tQ⟩⟩));refine Aa 7 (λ_=>A6 157 C C (λF=>?_) (λF=>?_));refine Aa 2 (λ_=>?_);have G:=wf9 ((beq_iff_eq.1 F)▸hwf);obtain⟨J,U,W,Y,nm2,k2,r2,D⟩:=C5 G dC;have hwk1:G7 J k2:=by have F:=G;rw[D] at F;exact F.1
 have Z:r2.wfm 3:=by have F:=G;rw[D] at F;exact F.2
 obtain⟨op3,ln3,co3,tx3,nm3,k3,r3,rfl⟩:=C5 Z dC;rw[XZ] at Z;have hks:kids.size=k2.size+(Nd.cons op3 ln3 co3 tx3 nm3 k3 r3).size+1:=by rw[D];rfl
 have hkl2:kids.len=(Nd.cons op3 ln3 co3 tx3 nm3 k3 r3).len+1:=by rw[D];rfl
 have hks2:(Nd.cons op3 ln3 co3 tx3 nm3 k3 r3).size=k3.size+r3.size+1:=rfl;have hkl3:(Nd.cons op3 ln3 co3 tx3 nm3 k3 r3).len=r3.len+1:=rfl;refine dB 0 C D<|H4 0 C ?_;rintro⟨eb,eo,ka2,kc2⟩ rfl;refine H4 1 C ?_;rintro⟨eb3,eo3,ka3,kc3⟩ h43;obtain⟨rfl,rfl⟩:eb=eb3∧eo=eo3:=by cases h43;exact⟨C,C⟩
 refine Af 6 [101,0] (aI oM<|y2<|λ_=>DC C C (eC CB C C) (λ_ h=>h) (λw f d=>ih w f d.vl A hA s d.res d.mz hw J U W nm2 Y k2 ka2 kc2 e ea oM oM hwk1 d.f2 heB d.f6 oM) (λ_=>Aq.stab) (λ_=>⟨Ae.mono,tQ⟩) (λer w2 f2 he hE=>⟨C,er,f2,C,(by simp only[Bl,h1,h2,h3,h4,h5,h6,h7,h8,F,Bool.false_eq_true,if_false,if_true];rw[D];simp only;rw[he]),hE⟩) ?_);rintro⟨⟨t0,ta0,tc0⟩,s1⟩ ⟨Q,L,K,hf1⟩;dsimp only at Q L K hf1 ⊢;refine Af 12 [0,2] (λb3=>y<|y<|λ_=>A6 167 C C (λO=>?_) (λO=>?_));refine Aa 1 (λ_=>Ca [0,1,2] Aj (rd [0,1,2,3,4,5,6,7,9,10] (.br 8 (.br 11 (.rd 12 .fin) .fin) .fin)) C kR<|Bh 10 [2,0,101,0,2] (y<|y<|aI oM<|y2<|y<|λ_=>Ah C<|B3 C C (eC Wr C C) (λw f d=>Ky (n+1) w f d.vl J U W nm2 Y k2 ka2 kc2 oM oM d.f3)<|Aa 1 (λ_=>Am [0,1,2] C<|Ah C<|DC C C (eC Ia C C) (λ_ h=>h) (λw f d=>DH w f d.vl A hA s1 d.res d.mz K e ea heB d.f7 tx t0 ta0 tc0 L d.f0 (Ct (n+1) J k2) ln co) (λ_=>Aq.stab) (λ_=>⟨AV.mono,tQ⟩) (λer w2 f2 he hE=>⟨C,er,f2,C,(by simp only[Bl,h1,h2,h3,h4,h5,h6,h7,h8,F,Bool.false_eq_true,if_false,if_true];rw[D];simp only;rw[Q];simp only;rw[if_neg (by rw[show (tx==[95])=false from Ee O];decide),he]),hE⟩) ?_)));rintro⟨e1,ea1⟩ ⟨he1,heB1⟩;dsimp only at he1 heB1 ⊢;refine Aa 1 (λ_=>Am [0,1,2] C<|AN 1 (λ_=>Bp<|Af 8 [100,0] (aI oM<|y2<|λ_=>DC C C (eC CB C C) (λ_ h=>h) (λw f d=>ih w f d.vl A hA s1 d.res d.mz K op3 ln3 co3 nm3 tx3 k3 ka3 kc3 e1 ea1 oM oM Z d.f2 heB1 d.f0 oM) (λ_=>Aq.stab) (λ_=>⟨Ae.mono,tQ⟩) (λer w2 f2 he hE=>⟨C,er,f2,C,(by simp only[Bl,h1,h2,h3,h4,h5,h6,h7,h8,F,Bool.false_eq_true,if_false,if_true];rw[D];simp only;rw[Q];simp only;rw[if_neg (by rw[show (tx==[95])=false from Ee O];decide),he1];simp only;exact he),hE⟩) ?_)));rintro⟨⟨t1,ta1,tc1⟩,s2⟩ ⟨hp1,htb1,hw2,hf2⟩;dsimp only at hp1 htb1 hw2 hf2 ⊢;exact Af 6 [1] (y<|λ_=>AK (λw f d=>A3 C (Ac C AH d.k1 C)) (λw f d=>⟨((t1,ta1,tc1),s2),f,C,⟨(by simp only[Bl,h1,h2,h3,h4,h5,h6,h7,h8,F,Bool.false_eq_true,if_false,if_true];rw[D];simp only;rw[Q];simp only;rw[if_neg (by rw[show (tx==[95])=false from Ee O];decide),he1];simp only;exact hp1),htb1,hw2,by dsimp only;omega⟩,d.exm,d.res,⟨d.f0,tQ⟩⟩));refine Af 10 [100,0] (aI oM<|y2<|λ_=>DC C C (eC CB C C) (λ_ h=>h) (λw f d=>ih w f d.vl A hA s1 d.res d.mz K op3 ln3 co3 nm3 tx3 k3 ka3 kc3 e ea oM oM Z d.f1 heB d.f7 oM) (λ_=>Aq.stab) (λ_=>⟨Ae.mono,tQ⟩) (λer w2 f2 he hE=>⟨C,er,f2,C,(by simp only[Bl,h1,h2,h3,h4,h5,h6,h7,h8,F,Bool.false_eq_true,if_false,if_true];rw[D];simp only;rw[Q];simp only;rw[if_pos (show (tx==[95])=true from Eh O)];exact he),hE⟩) ?_);rintro⟨⟨t1,ta1,tc1⟩,s2⟩ ⟨hp1,htb1,hw2,hf2⟩;dsimp only at hp1 htb1 hw2 hf2 ⊢
 exact Af 6 [1] (y<|λ_=>AK (λw f d=>A3 C (Ac C AH d.k1 C)) (λw f d=>⟨((t1,ta1,tc1),s2),f,C,⟨(by simp only[Bl,h1,h2,h3,h4,h5,h6,h7,h8,F,Bool.false_eq_true,if_false,if_true];rw[D];simp only;rw[Q];simp only;rw[if_pos (show (tx==[95])=true from Eh O)];exact hp1),htb1,hw2,by dsimp only;omega⟩,d.exm,d.res,⟨d.f0,tQ⟩⟩));refine Aa 7 (λ_=>A6 186 C C (λO=>?_) (λO=>?_));refine Aa 2 (λ_=>?_);have G:=wf10 ((beq_iff_eq.1 O)▸hwf);obtain⟨J,U,W,Y,nm2,k2,r2,D⟩:=C5 G dC;have hwk1:G7 J k2:=by have F:=G;rw[D] at F;exact F.1
 have Z:r2.wfm 3:=by have F:=G;rw[D] at F;exact F.2
 obtain⟨op3,ln3,co3,tx3,nm3,k3,r3,rfl⟩:=C5 Z dC;rw[XZ] at Z;have hks:kids.size=k2.size+(Nd.cons op3 ln3 co3 tx3 nm3 k3 r3).size+1:=by rw[D];rfl
 have hkl2:kids.len=(Nd.cons op3 ln3 co3 tx3 nm3 k3 r3).len+1:=by rw[D];rfl
 have hks2:(Nd.cons op3 ln3 co3 tx3 nm3 k3 r3).size=k3.size+r3.size+1:=rfl;have hkl3:(Nd.cons op3 ln3 co3 tx3 nm3 k3 r3).len=r3.len+1:=rfl;refine dB 0 C D<|H4 0 C ?_;rintro⟨eb,eo,ka2,kc2⟩ rfl;refine H4 1 C ?_;rintro⟨eb3,eo3,ka3,kc3⟩ h43;obtain⟨rfl,rfl⟩:eb=eb3∧eo=eo3:=by cases h43;exact⟨C,C⟩
 refine Ca [1] Aj (rd [0,1,2,3,4,5,6,7,8,9,10,12,13] (.br 11 (.br 14 (.br 15 (.br 16 .fin .fin) .fin) .fin) .fin)) C kR<|Bh 13 [100,0,0,0,0] (aI oM<|y2<|y<|y<|y<|λ_=>Ah C<|DC C C (eC ZU C C) (λ_ h=>h) (λw f d=>Zh n ih w f d.vl A hA s d.res d.mz hw op ln co nm tx kids J U W nm2 Y k2 (.cons op3 ln3 co3 tx3 nm3 k3 r3) D (some ⟨eb,eo,none⟩) nc e ea oM oM hwk1 d.f5 heB d.f6 oM) (λ_=>Aq.stab) (λ_=>⟨Ae.mono,tQ⟩) (λer w2 f2 he hE=>⟨C,er,f2,C,(by simp only[Bl,h1,h2,h3,h4,h5,h6,h7,h8,F,O,Bool.false_eq_true,if_false,if_true];rw[D];simp only;rw[he]),hE⟩) ?_);rintro⟨⟨t0,ta0,tc0⟩,s1⟩ ⟨hrc,L,K,hf1⟩;dsimp only at hrc L K hf1 ⊢;refine Aa 1 (λ_=>Am [1] C<|Ah C<|DC C C (eC Ia C C) (λ_ h=>h) (λw f d=>DH w f d.vl A hA s1 d.res d.mz K e ea heB d.f7 tx t0 ta0 tc0 L d.f0 true ln co) (λ_=>Aq.stab) (λ_=>⟨AV.mono,tQ⟩) (λer w2 f2 he hE=>⟨C,er,f2,C,(by simp only[Bl,h1,h2,h3,h4,h5,h6,h7,h8,F,O,Bool.false_eq_true,if_false,if_true];rw[D];simp only;rw[hrc];simp only;rw[he]),hE⟩) ?_);rintro⟨e1,ea1⟩ ⟨he1,heB1⟩;dsimp only at he1 heB1 ⊢;refine Aa 1 (λ_=>Am [1] C<|Ah C<|DC C C (eC CB C C) (λ_ h=>h) (λw f d=>ih w f d.vl A hA s1 d.res d.mz K op3 ln3 co3 nm3 tx3 k3 ka3 kc3 e1 ea1 oM oM Z d.f2 heB1 d.f0 oM) (λ_=>Aq.stab) (λ_=>⟨Ae.mono,tQ⟩) (λer w2 f2 he hE=>⟨C,er,f2,C,(by simp only[Bl,h1,h2,h3,h4,h5,h6,h7,h8,F,O,Bool.false_eq_true,if_false,if_true];rw[D];simp only;rw[hrc];simp only;rw[he1];simp only;exact he),hE⟩) ?_);rintro⟨⟨t1,ta1,tc1⟩,s2⟩ ⟨hp1,htb1,hw2,hf2⟩;dsimp only at hp1 htb1 hw2 hf2 ⊢;exact Aa 1 (λ_=>Am [1] C<|Ah C<|Af 2 [0] (y<|λ_=>Am [1] C<|Bp<|Aa 4 (λ_=>AK (λw f d=>A3 C (Ac C AH d.k0 C)) (λw f d=>⟨((t1,ta1,tc1),s2),f,C,⟨(by simp only[Bl,h1,h2,h3,h4,h5,h6,h7,h8,F,O,Bool.false_eq_true,if_false,if_true];rw[D];simp only;rw[hrc];simp only;rw[he1];simp only;exact hp1),htb1,hw2,by dsimp only;omega⟩,d.exm,d.res,⟨d.f0,tQ⟩⟩))));refine Aa 7 (λ_=>A6 204 C C (λh11=>?_) (λh11=>?_));refine Aa 2 (λ_=>?_);have G:=wf11 ((beq_iff_eq.1 h11)▸hwf);obtain⟨J,U,W,Y,nm2,k2,r2,D⟩:=C5 G dC;have hwk1:G7 J k2:=by have F:=G;rw[D] at F;exact F.1
 have Z:r2.wfm 6:=by have F:=G;rw[D] at F;exact F.2
 obtain⟨op3,ln3,co3,tx3,nm3,k3,r3,rfl⟩:=C5 Z dC;rw[wfm6] at Z;obtain⟨Z,hwk3⟩:=Z;obtain⟨op4,ln4,co4,tx4,nm4,k4,r4,rfl⟩:=C5 hwk3 dC;rw[XZ] at hwk3;have hks:kids.size=k2.size+(Nd.cons op3 ln3 co3 tx3 nm3 k3 (.cons op4 ln4 co4 tx4 nm4 k4 r4)).size+1:=by rw[D];rfl
 have hkl2:kids.len=(Nd.cons op3 ln3 co3 tx3 nm3 k3 (.cons op4 ln4 co4 tx4 nm4 k4 r4)).len+1:=by rw[D];rfl
 have hks2:(Nd.cons op3 ln3 co3 tx3 nm3 k3 (.cons op4 ln4 co4 tx4 nm4 k4 r4)).size=k3.size+(k4.size+r4.size+1)+1:=rfl;have hkl3:(Nd.cons op3 ln3 co3 tx3 nm3 k3 (.cons op4 ln4 co4 tx4 nm4 k4 r4)).len=r4.len+1+1:=rfl;refine dB 0 C D<|H4 0 C ?_;rintro⟨eb,eo,ka2,kc2⟩ rfl;refine H4 1 C ?_;rintro⟨eb3,eo3,ka3,kc3⟩ h43;obtain⟨rfl,rfl⟩:eb=eb3∧eo=eo3:=by cases h43;exact⟨C,C⟩
 refine H4 1 C ?_;rintro⟨eb4,eo4,ka4,kc4⟩ h44;obtain⟨rfl,rfl⟩:eb=eb4∧eo=eo4:=by cases h44;exact⟨C,C⟩
 refine Ca [0,1] Aj (rd [0,2,3,4,5,6,8,9,10,11] (.br 1 (.br 7 (.br 12 .fin .fin) .fin) .fin)) C kR<|Bh 10 [102,0,102,1] (aI oM<|y2<|aI oM<|y2<|λ_=>Ah C<|B3 C C (eC Bz C C) (λw f d=>Br w f d.vl [98,111,111,108])<|Aa 1 (λ_=>Am [0,1] C<|Ah C<|DC C C (eC CB C C) (λ_ h=>h) (λw f d=>ih w f d.vl A hA s d.res d.mz hw J U W nm2 Y k2 ka2 kc2 e ea oM oM hwk1 d.f4 heB d.f8 oM) (λ_=>Aq.stab) (λ_=>⟨Ae.mono,tQ⟩) (λer w2 f2 he hE=>⟨C,er,f2,C,(by simp only[Bl,h1,h2,h3,h4,h5,h6,h7,h8,F,O,h11,Bool.false_eq_true,if_false,if_true];rw[D];simp only;rw[he]),hE⟩) ?_));rintro⟨⟨t0,ta0,tc0⟩,s1⟩ ⟨Q,L,K,hf1⟩;dsimp only at Q L K hf1 ⊢;refine Aa 1 (λ_=>Am [0,1] C<|Ah C<|DC C C (eC H2 C C) (λ_ h=>h) (λw f d=>D0 w f d.vl A hA s1 d.res d.mz K (c0 bB) t0 none 0 ta0 tc0 (CN dC) L (Ae.nil _ _ _ _) d.f0 U W) (λ_=>Aq.stab) (λ_=>trivial) (λer w2 f2 he hE=>⟨C,er,f2,C,(by simp only[Bl,h1,h2,h3,h4,h5,h6,h7,h8,F,O,h11,Bool.false_eq_true,if_false,if_true];rw[D];simp only;rw[Q];simp only;rw[he]),hE⟩) ?_);rintro s2 ⟨hh2,hw2,hf2⟩;refine Aa 1 (λ_=>Am [0,1] C<|Bp<|Af 8 [101,0] (aI oM<|y2<|λ_=>DC C C (eC CB C C) (λ_ h=>h) (λw f d=>ih w f d.vl A hA s2 d.res d.mz hw2 op3 ln3 co3 nm3 tx3 k3 ka3 kc3 e ea oM oM Z d.f3 heB d.f9 oM) (λ_=>Aq.stab) (λ_=>⟨Ae.mono,tQ⟩) (λer w2 f2 he hE=>⟨C,er,f2,C,(by simp only[Bl,h1,h2,h3,h4,h5,h6,h7,h8,F,O,h11,Bool.false_eq_true,if_false,if_true];rw[D];simp only;rw[Q];simp only;rw[hh2];simp only;rw[he]),hE⟩) ?_));rintro⟨⟨t1,ta1,tc1⟩,s3⟩ ⟨hp1,htb1,hw3,hf3⟩;dsimp only at hp1 htb1 hw3 hf3 ⊢;refine Af 5 [0] (λb3=>y<|λ_=>Ca [0,1,2] Aj (rd [0,1,2,3,4,5,6,8,9,10,11] (.br 7 (.br 12 .fin .fin) .fin)) C kR<|Bh 11 [0,100,0,100,1] (y<|aI oM<|y2<|aI oM<|y2<|λ_=>Ah C<|DC C C (eC CB C C) (λ_ h=>h) (λw f d=>ih w f d.vl A hA s3 d.res d.mz hw3 op4 ln4 co4 nm4 tx4 k4 ka4 kc4 e ea oM oM hwk3 d.f2 heB d.f10 oM) (λ_=>Aq.stab) (λ_=>⟨Ae.mono,tQ⟩) (λer w2 f2 he hE=>⟨C,er,f2,C,(by simp only[Bl,h1,h2,h3,h4,h5,h6,h7,h8,F,O,h11,Bool.false_eq_true,if_false,if_true];rw[D];simp only;rw[Q];simp only;rw[hh2];simp only;rw[hp1];simp only;rw[he]),hE⟩) ?_));rintro⟨⟨t2,ta2,tc2⟩,s4⟩ ⟨hp2,htb2,hw4,hf4⟩;dsimp only at hp2 htb2 hw4 hf4 ⊢;refine Aa 1 (λ_=>Am [0,1,2] C<|Ah C<|DC C C (eC H2 C C) (λ_ h=>h) (λw f d=>D0 w f d.vl A hA s4 d.res d.mz hw4 t1 t2 ta1 tc1 ta2 tc2 htb1 htb2 d.f1 d.f0 ln4 co4) (λ_=>Aq.stab) (λ_=>trivial) (λer w2 f2 he hE=>⟨C,er,f2,C,(by simp only[Bl,h1,h2,h3,h4,h5,h6,h7,h8,F,O,h11,Bool.false_eq_true,if_false,if_true];rw[D];simp only;rw[Q];simp only;rw[hh2];simp only;rw[hp1];simp only;rw[hp2];simp only;rw[he]),hE⟩) ?_);rintro s5 ⟨hh3,hw5,hf5⟩
 exact Aa 1 (λ_=>Am [0,1,2] C<|Bp<|Af 10 [0,1] (y<|y<|λ_=>AK (λw f d=>A3 C (Ac C AH d.k1 C)) (λw f d=>⟨((t1,ta1,tc1),s5),f,C,⟨(by simp only[Bl,h1,h2,h3,h4,h5,h6,h7,h8,F,O,h11,Bool.false_eq_true,if_false,if_true];rw[D];simp only;rw[Q];simp only;rw[hh2];simp only;rw[hp1];simp only;rw[hp2];simp only;rw[hh3]),htb1,hw5,by dsimp only;omega⟩,d.exm,d.res,⟨d.f1,tQ⟩⟩)));refine Aa 7 (λ_=>A6 239 C C (λh12=>?_) (λh12=>?_));refine Aa 6 (λ_=>?_);have G:=wf12 ((beq_iff_eq.1 h12)▸hwf);refine DC C C (eC Xg C C) (λ_ h=>h) (λw f d=>Qo n ih w f d.vl A hA s d.res d.mz hw kids na nc e ea oM hsz G.2 d.f0 heB d.f1 oM) (λ_=>Aq.stab) (λ_=>⟨Ae.mono,tQ⟩) (λer w2 f2 he hE=>⟨C,er,f2,C,(by simp only[Bl,h1,h2,h3,h4,h5,h6,h7,h8,F,O,h11,h12,Bool.false_eq_true,if_false,if_true];rw[he]),hE⟩) ?_;rintro⟨⟨l,la,lc⟩,s1⟩ ⟨hea,hll,hlb,K,hf1⟩;dsimp only at hea hll hlb K hf1 ⊢;have hk0:=G.1;refine Aa 4 (λ_=>?_);obtain⟨m,hm2⟩:∃m,l.len=m+1:=⟨l.len-1,oM⟩;have hlg:=Ty.last_get hm2;refine Ja (α:=Nat×Nat×oA×Nat) (λx=>la=some ⟨x.1,x.2.1,none⟩) (λx=>[⟨x.1,x.2.1+((l.len:Int)-1).toNat*4,tC l.last x.2.2.1 x.2.2.2⟩]) (λx=>[λw f=>Ae w f l.last.kids x.2.2.1 x.2.2.2]) (λw f d=>let ⟨b,off,ka,kc,h1,h2,h3⟩:=Ae.nth d.f0 hlg;⟨(b,off,ka,kc),h1,(λe he=>by cases he with|head=>(rw[show ((l.len:Int)-1).toNat=m by omega];exact h2)|tail _ h=>cases h),AA.mem ⟨h3,tQ⟩⟩) (λx=>Ap.mem ⟨Ae.mono,tQ⟩) ?_;rintro⟨lb,lo,ta,tc⟩ rfl;exact Af 13 [100,0,0] (aI ⟨oM,oM⟩<|aI oM<|y2<|y<|λ_=>AK (λw f d=>A3 C (Ac C AH d.k0 C)) (λw f d=>⟨((l.last,ta,tc),s1),f,C,⟨(by simp only[Bl,h1,h2,h3,h4,h5,h6,h7,h8,F,O,h11,h12,Bool.false_eq_true,if_false,if_true];rw[hea]),(FA hlb hlg),K,by dsimp only;omega⟩,d.exm,d.res,⟨d.f0,tQ⟩⟩));refine Aa 7 (λ_=>A6 251 C C (λh13=>?_) (λh13=>?_));refine Aa 6 (λ_=>?_);have G:=wf13 ((beq_iff_eq.1 h13)▸hwf);refine DC C C (eC Xg C C) (λ_ h=>h) (λw f d=>Qo n ih w f d.vl A hA s d.res d.mz hw kids na nc e ea oM hsz G d.f0 heB d.f1 oM) (λ_=>Aq.stab) (λ_=>⟨Ae.mono,tQ⟩) (λer w2 f2 he hE=>⟨C,er,f2,C,(by simp only[Bl,h1,h2,h3,h4,h5,h6,h7,h8,F,O,h11,h12,h13,Bool.false_eq_true,if_false,if_true];rw[he]),hE⟩) ?_;rintro⟨⟨l,la,lc⟩,s1⟩ ⟨hea,hll,hlb,K,hf1⟩;dsimp only at hea hll hlb K hf1 ⊢;refine BV C C (eC Bz C C) (λw f d=>CC w f d.vl SX l la lc oM d.f0) (λx=>⟨Ae.mono,tQ⟩) ?_;rintro⟨ta,tc⟩ -;exact Af 6 [0] (y<|λ_=>AK (λw f d=>A3 C (Ac C AH d.k0 C)) (λw f d=>⟨(((.con SX l),ta,tc),s1),f,C,⟨(by simp only[Bl,h1,h2,h3,h4,h5,h6,h7,h8,F,O,h11,h12,h13,Bool.false_eq_true,if_false,if_true];rw[hea]),(BS dC oM hlb),K,by dsimp only;omega⟩,d.exm,d.res,⟨d.f0,tQ⟩⟩));refine Aa 7 (λ_=>A6 258 C C (λh14=>?_) (λh14=>?_));refine Aa 2 (λ_=>?_);have G:=wf14 ((beq_iff_eq.1 h14)▸hwf)
 obtain⟨J,U,W,Y,nm2,k2,r2,D⟩:=C5 G dC;have hwk1:G7 J k2:=by have F:=G;rw[D] at F;exact F.1
 have Z:r2.wfm 1:=by have F:=G;rw[D] at F;exact F.2.2
 have hks:kids.size=k2.size+r2.size+1:=by rw[D];rfl
 have hkl2:kids.len=r2.len+1:=by rw[D];rfl
 refine mnr 0 C D<|dB 1 C D<|H4 0 C ?_;rintro⟨eb,eo,ka2,kc2⟩ rfl;refine Ca [1] Aj (rd [0,1,2,3,4,5,6,7,8,10] (.br 9 (.br 11 (.br 12 .fin .fin) .fin) .fin)) C kR<|AN 2 (λ_=>CP C C C (λw hK=>Ox hkl2 C C SE)<|Bh 7 [100,0] (aI oM<|y2<|λ_=>Ah C<|DC C C (eC CB C C) (λ_ h=>h) (λw f d=>ih w f d.vl A hA s d.res d.mz hw J U W nm2 Y k2 ka2 kc2 e ea oM oM hwk1 d.f0 heB d.f5 oM) (λ_=>Aq.stab) (λ_=>⟨Ae.mono,tQ⟩) (λer w2 f2 he hE=>⟨C,er,f2,C,(by simp only[Bl,h1,h2,h3,h4,h5,h6,h7,h8,F,O,h11,h12,h13,h14,Bool.false_eq_true,if_false,if_true];rw[D];simp only;rw[he]),hE⟩) ?_));rintro⟨⟨t0,ta0,tc0⟩,s1⟩ ⟨Q,L,K,hf1⟩;dsimp only at Q L K hf1 ⊢;refine Aa 1 (λ_=>Am [1] C<|Ah C<|DC C C (eC WW C C) (λ_ h=>h) (λw f d=>P9 n ih w f d.vl A hA s1 d.res d.mz K r2 (E1 (some ⟨eb,eo,none⟩) nc 6) (nc-1) e ea t0 ta0 tc0 none none 0 L d.f0 (B8 _) (Ae.nil _ _ _ _) oM oM Z d.f4 heB d.f6 oM) (λ_=>Aq.stab) (λ_=>⟨Ae.mono,tQ⟩) (λer w2 f2 he hE=>⟨C,er,f2,C,(by simp only[Bl,h1,h2,h3,h4,h5,h6,h7,h8,F,O,h11,h12,h13,h14,Bool.false_eq_true,if_false,if_true];rw[D];simp only;rw[Q];simp only;rw[he]),hE⟩) ?_);rintro⟨⟨t1,ta1,tc1⟩,s2⟩ ⟨har,htb1,hw2,hf2⟩;dsimp only at har htb1 hw2 hf2 ⊢;exact Aa 1 (λ_=>Am [1] C<|Ah C<|Af 2 [0] (y<|λ_=>Am [1] C<|Bp<|Aa 4 (λ_=>AK (λw f d=>A3 C (Ac C AH d.k0 C)) (λw f d=>⟨((t1,ta1,tc1),s2),f,C,⟨(by simp only[Bl,h1,h2,h3,h4,h5,h6,h7,h8,F,O,h11,h12,h13,h14,Bool.false_eq_true,if_false,if_true];rw[D];simp only;rw[Q];simp only;rw[har]),htb1,hw2,by dsimp only;omega⟩,d.exm,d.res,⟨d.f0,tQ⟩⟩))));refine Aa 7 (λ_=>A6 272 C C (λh15=>?_) (λh15=>?_));refine Aa 2 (λ_=>?_);have G:=wf15 ((beq_iff_eq.1 h15)▸hwf);obtain⟨J,U,W,Y,nm2,k2,r2,D⟩:=C5 G dC;have hwk1:G7 J k2:=by have F:=G;rw[D] at F;exact F.1
 have Z:r2.wfm 1:=by have F:=G;rw[D] at F;exact F.2.2
 have hks:kids.size=k2.size+r2.size+1:=by rw[D];rfl
 have hkl2:kids.len=r2.len+1:=by rw[D];rfl
 refine mnr 0 C D<|dB 1 C D<|H4 0 C ?_;rintro⟨eb,eo,ka2,kc2⟩ rfl;refine Ca [1] Aj (rd [0,1,2,3,5,6,7,8,9] (.br 4 (.br 10 (.br 11 (.br 12 .fin .fin) .fin) .fin) .fin)) C kR<|AN 2 (λ_=>CP C C C (λw hK=>Ox hkl2 C C SE)<|Bh 6 [100,0] (aI oM<|y2<|λ_=>Ah C<|B3 C C (eC Bz C C) (λw f d=>Br w f d.vl [101,120,110])<|Aa 1 (λ_=>Am [1] C<|Ah C<|DC C C (eC CB C C) (λ_ h=>h) (λw f d=>ih w f d.vl A hA s d.res d.mz hw J U W nm2 Y k2 ka2 kc2 e ea oM oM hwk1 d.f0 heB d.f5 oM) (λ_=>Aq.stab) (λ_=>⟨Ae.mono,tQ⟩) (λer w2 f2 he hE=>⟨C,er,f2,C,(by simp only[Bl,h1,h2,h3,h4,h5,h6,h7,h8,F,O,h11,h12,h13,h14,h15,Bool.false_eq_true,if_false,if_true];rw[D];simp only;rw[he]),hE⟩) ?_)));rintro⟨⟨t0,ta0,tc0⟩,s1⟩ ⟨Q,L,K,hf1⟩;dsimp only at Q L K hf1 ⊢;refine Aa 1 (λ_=>Am [1] C<|Ah C<|DC C C (eC WW C C) (λ_ h=>h) (λw f d=>P9 n ih w f d.vl A hA s1 d.res d.mz K r2 (E1 (some ⟨eb,eo,none⟩) nc 6) (nc-1) e ea (c0 bX) none 0 (some t0) ta0 tc0 (CN dC) (Ae.nil _ _ _ _) L d.f0 oM oM Z d.f4 heB d.f6 oM) (λ_=>Aq.stab) (λ_=>⟨Ae.mono,tQ⟩) (λer w2 f2 he hE=>⟨C,er,f2,C,(by simp only[Bl,h1,h2,h3,h4,h5,h6,h7,h8,F,O,h11,h12,h13,h14,h15,Bool.false_eq_true,if_false,if_true];rw[D];simp only;rw[Q];simp only;rw[he]),hE⟩) ?_);rintro⟨⟨t1,ta1,tc1⟩,s2⟩ ⟨har,htb1,hw2,hf2⟩;dsimp only at har htb1 hw2 hf2 ⊢;exact Aa 1 (λ_=>Am [1] C<|Ah C<|Af 2 [0] (y<|λ_=>Am [1] C<|Bp<|Aa 4 (λ_=>AK (λw f d=>A3 C (Ac C AH d.k0 C)) (λw f d=>⟨((t1,ta1,tc1),s2),f,C,⟨(by simp only[Bl,h1,h2,h3,h4,h5,h6,h7,h8,F,O,h11,h12,h13,h14,h15,Bool.false_eq_true,if_false,if_true];rw[D];simp only;rw[Q];simp only;rw[har]),htb1,hw2,by dsimp only;omega⟩,d.exm,d.res,⟨d.f0,tQ⟩⟩))));refine Aa 7 (λ_=>A6 286 C C (λHT=>?_) (λHT=>?_));refine Aa 2 (λ_=>?_);have G:=wf16 ((beq_iff_eq.1 HT)▸hwf);obtain⟨J,U,W,Y,nm2,k2,r2,D⟩:=C5 G dC;have hwk1:G7 J k2:=by have F:=G;rw[D] at F;exact F
 have hks:kids.size=k2.size+r2.size+1:=by rw[D];rfl
 have hkl2:kids.len=r2.len+1:=by rw[D];rfl
 refine dB 0 C D<|H4 0 C ?_;rintro⟨eb,eo,ka2,kc2⟩ rfl;refine Ca [0,1] Aj (rd [0,2,3,4,5,6,8,9,10,11] (.br 1 (.br 7 (.br 12 .fin .fin) .fin) .fin)) C kR<|Bh 10 [100,0,100,1] (aI oM<|y2<|aI oM<|y2<|λ_=>Ah C<|B3 C C (eC Bz C C) (λw f d=>Br w f d.vl [101,120,110])<|Aa 1 (λ_=>Am [0,1] C<|Ah C<|DC C C (eC CB C C) (λ_ h=>h) (λw f d=>ih w f d.vl A hA s d.res d.mz hw J U W nm2 Y k2 ka2 kc2 e ea oM oM hwk1 d.f0 heB d.f4 oM) (λ_=>Aq.stab) (λ_=>⟨Ae.mono,tQ⟩) (λer w2 f2 he hE=>⟨C,er,f2,C,(by simp only[Bl,h1,h2,h3,h4,h5,h6,h7,h8,F,O,h11,h12,h13,h14,h15,HT,Bool.false_eq_true,if_false,if_true];rw[D];simp only;rw[he]),hE⟩) ?_));rintro⟨⟨t0,ta0,tc0⟩,s1⟩ ⟨Q,L,K,hf1⟩;dsimp only at Q L K hf1 ⊢;refine Aa 1 (λ_=>Am [0,1] C<|Ah C<|DC C C (eC H2 C C) (λ_ h=>h) (λw f d=>D0 w f d.vl A hA s1 d.res d.mz K (c0 bX) t0 none 0 ta0 tc0 (CN dC) L (Ae.nil _ _ _ _) d.f0 U W) (λ_=>Aq.stab) (λ_=>trivial) (λer w2 f2 he hE=>⟨C,er,f2,C,(by simp only[Bl,h1,h2,h3,h4,h5,h6,h7,h8,F,O,h11,h12,h13,h14,h15,HT,Bool.false_eq_true,if_false,if_true];rw[D];simp only;rw[Q];simp only;rw[he]),hE⟩) ?_);rintro s2 ⟨hh2,hw2,hf2⟩;refine Aa 1 (λ_=>Am [0,1] C<|Bp<|Aa 6 (λ_=>Cz C C (λw f d=>Ai C Hc d.res.blk C)<|jC λpr=>JK (α:=CS) (val:=λ_=>tV (A5 s2).1 none 0) (q:=λx=>x=(A5 s2).2∧D1 x∧x.fresh=s2.fresh+1) (I':=λx=>Aq 131 222 A x) (F':=λ_=>[]) (XX:=λ_ _=>False) C C (eC K8 C C) (λw f d=>(EA w f d.vl A hA s2 hw2 pr d.res.1 d.res.2 d.mz oM).retP) (λ_=>Aq.stab) (λ_=>trivial) (λ_ _ _ _ _ h=>h.elim) ?_));rintro s3 ⟨hs3,hw3,hw3f⟩;exact Af 6 [0] (y<|λ_=>AK (λw f d=>A3 C (Ac C AH d.k0 C)) (λw f d=>⟨(((A5 s2).1,none,0),s3),f,C,⟨(by simp only[Bl,h1,h2,h3,h4,h5,h6,h7,h8,F,O,h11,h12,h13,h14,h15,HT,Bool.false_eq_true,if_false,if_true];rw[D];simp only;rw[Q];simp only;rw[hh2];simp only;rw[hs3]),(B8 _),hw3,by dsimp only;rw[hw3f];omega⟩,d.exm,d.res,⟨Ae.nil _ _ _ _,tQ⟩⟩));refine Aa 5 (λ_=>?_);have G:=wf17 hwf h1 h2 h3 h4 h5 h6 h7 h8 F O h11 h12 h13 h14 h15 HT;obtain⟨J,U,W,Y,nm2,k2,r2,D⟩:=C5 G dC;have hwk1:G7 J k2:=by have F:=G;rw[D] at F;exact F
 have hks:kids.size=k2.size+r2.size+1:=by rw[D];rfl
 have hkl2:kids.len=r2.len+1:=by rw[D];rfl
 refine dB 0 C D<|H4 0 C ?_;rintro⟨eb,eo,ka2,kc2⟩ rfl;refine Af 6 [100,0] (aI oM<|y2<|λ_=>DC C C (eC CB C C) (λ_ h=>h) (λw f d=>ih w f d.vl A hA s d.res d.mz hw J U W nm2 Y k2 ka2 kc2 e ea oM oM hwk1 d.f0 heB d.f4 oM) (λ_=>Aq.stab) (λ_=>⟨Ae.mono,tQ⟩) (λer w2 f2 he hE=>⟨C,er,f2,C,(by simp only[Bl,h1,h2,h3,h4,h5,h6,h7,h8,F,O,h11,h12,h13,h14,h15,HT,Bool.false_eq_true,if_false,if_true];rw[D];exact he),hE⟩) ?_);rintro⟨⟨t0,ta0,tc0⟩,s1⟩ ⟨Q,L,K,hf1⟩;dsimp only at Q L K hf1 ⊢;exact Af 4 [0] (y<|λ_=>AK (λw f d=>A3 C (Ac C AH d.k0 C)) (λw f d=>⟨((t0,ta0,tc0),s1),f,C,⟨(by simp only[Bl,h1,h2,h3,h4,h5,h6,h7,h8,F,O,h11,h12,h13,h14,h15,HT,Bool.false_eq_true,if_false,if_true];rw[D];exact Q),L,K,by dsimp only;omega⟩,d.exm,d.res,⟨d.f0,tQ⟩⟩))
theorem Jc:∀n,Zp prog 41 114 131 222 n
 |0=>λ_ _ _ _ _ _ _ _ _ _ _ _ _ _ _ _ _ _ _ h=>absurd h (Nat.not_lt_zero _)
 |n+1=>λw f J A K s L O hw op ln co nm tx kids Q nc e U hm d D W F Y G=>YV n (λw f J A K s L O hw op ln co nm tx kids Q nc e U hm d D W F Y G=>Yo n (Jc n) w f J A K s L O hw op ln co nm tx kids Q nc e U hm d D W F Y G) w f J A K s L O hw op ln co nm tx kids Q nc e U hm d D W F Y G
end Go.Proofs.YtplnpgpagkpnmaaGreatDoor
namespace Go.Proofs.YtplnpgpagkpnmaaGreatDoor
open Go.SW Go.SP Go.RowKit Go.Shelf Go.Lib Go.Proofs.Tryz
structure EY(w:wO)(f:Fq):Prop where
 maxLen:∃m:Int,Cs w f 2 0 [.int .i64 m]
 space:∀c:Nat,c<256→c<f 0 ∧ w.cell? ⟨0,c,none⟩=some (.int .u8 (if Lib.isSp (UInt8.ofNat c) then 1 else 0))
theorem EY.mono:Ea (λw f=>EY w f):=λ_ _ _ _ h d=>⟨let ⟨m,hm⟩:=h.maxLen;⟨m,hm.mono d⟩,λc D=>⟨Nat.lt_of_lt_of_le (h.space c D).1 (d _).1,((d _).2 c (h.space c D).1).trans (h.space c D).2⟩⟩
theorem GY(w:wO)(f:Fq)(d:Vl w f)(D:EY w f)(a b:lU)(F:a.length<4294967281):AO prog 90 #[S a,S b] w (AF (α:=Unit) (λ_=>.bool (Dm a b)) (λ_=>True) (λ_=>[]) w f):=by
 obtain⟨m,hm⟩:=D.maxLen;have h:=Any.strings_Contains Tryz.lays144 ⟨a.toArray⟩ ⟨b.toArray⟩ m w (by rw[KL];exact F) (hm 0 _ C).2;rw[EK,EK,J4] at h;exact Calls.mono h λ_ _ ⟨he,hw⟩=>⟨_,he,(),f,C,tQ,(by subst hw;exact C6.refl _ d),tQ⟩
def dN(w:wO)(f:Fq)(l:List lU)(a:oA)(c:Nat):Prop:=l.length≤c∧∃b,a=some ⟨b,0,none⟩∧Cs w f b 0 (l.map S)
variable {a:oA}
theorem dN.mono{l:List lU}{c:Nat}:Ea (λw f=>dN w f l a c):=λ_ _ _ _ h d=>⟨h.1,let ⟨b,D,F⟩:=h.2;⟨b,D,F.mono d⟩⟩
theorem Ua(w:wO)(f:Fq)(G:Vl w f)(J:EY w f)(s:lU)(O:s.length≤1000)(K:s.all (λc=>decide (c.toNat<128))=true):AO prog 129 #[S s] w (AF (α:=oA×Nat) (λx=>.slice x.1 (Lib.fields s).length x.2) (λ_=>True) (λx=>[λw f=>dN w f (Lib.fields s) x.1 x.2]) w f):=by
 have h:=Any.strings_Fields_core Tryz.lays157 kR ⟨s.toArray⟩ w (by rw[KL];omega) (λj c d=>by
   rw[EK] at d;have:=List.all_eq_true.1 K c (List.mem_of_getElem? d);simpa using this) (λc L=>(J.space c L).2)
 rw[EK] at h;refine Calls.mono h λ_ w' ⟨he,hw⟩=>⟨_,he,(some ⟨w.heap.size,0,none⟩,(Lib.fields s).length),λb=>if b=w.heap.size then (Lib.fields s).length else f b,C,tQ,?_,⟨⟨Nat.le_refl _,w.heap.size,C,λj v d=>?_⟩,tQ⟩⟩
 · subst hw
   exact C6.done (C6.of_ext (JU w _) G) (Nat.le_refl _) (by rw[GW];omega) _
 · subst hw
   have D:j<((Lib.fields s).map S).length:=(List.getElem?_eq_some_iff.1 d).1;rw[List.length_map] at D;refine⟨by simp only[if_true];omega,?_⟩;have Q:=heap_alloc_new w (.cells ((Lib.fields s).map λl=>Value.string ⟨l.toArray⟩).toArray 9);have F:((Lib.fields s).map λl=>Value.string ⟨l.toArray⟩)[j]?=some v:=d;simp only[World.cell?];rw[show (w.alloc (.cells ((Lib.fields s).map λl=>Value.string ⟨l.toArray⟩).toArray _)).heap[w.heap.size]?=_ from heap_alloc_new w _];simpa using F
end Go.Proofs.YtplnpgpagkpnmaaGreatDoor
namespace Go.Proofs.YtplnpgpagkpnmaaGreatDoor
open Go.SW Go.SP Go.RowKit Go.Proofs.Tryz
set_option maxHeartbeats 1000000 in
theorem YF(n:Nat)(ih:TypF prog EY 39 114 131 222 n)(w:wO)(f:Fq)(hv:Vl w f)(A:Ad)(s:CS)(hC:Aq 131 222 A s w f)(hw:D1 s)(hG:EY w f)(op ln co nm:Int)(tx:lU)(kids:Nd)(na:oA)(nc:Nat)(vv:Value)(vars:List (lU×T1))(hm:kids.size<n+1)(hsz:kids.size≤200000)(htx:tx.length≤100000)(htb0:kids.txb)(hV:Ot vv vars w)(hN:AJ w f kids na nc) :
  BB prog 39 #[pB A.cb,.agg #[iV op,iV ln,iV co,S tx,iV nm,.slice na kids.len nc],vv] w (AF (α:=T1×oA×Nat) (λx=>tV x.1 x.2.1 x.2.2) (λx=>CR s.datas vars op ln co tx kids=.ok x.1∧x.1.bnd) (λx=>[λw f=>Ae w f x.1.kids x.2.1 x.2.2]) w f) (PanE 114 (λ_=>False) (λer=>CR s.datas vars op ln co tx kids=.error er) w f):=by
 have hkl:=Nd.len_le kids;refine OJ (X:=X0 w f) (H:=[]) (R:=[]) (B:=[]) (Fs:=[λw f=>AJ w f kids na nc,λw f=>EY w f]) (f:=f) func39 C C C (AR hv ⟨hN,hG,tQ⟩ ⟨AJ.mono,EY.mono,tQ⟩)<|Af 14 [1] (λb1=>λb2=>y<|λ_=>A6 17 C C (λW=>?_) (λW=>?_));refine Aa 2 (λ_=>?_);rcases hV with ⟨rfl,rfl⟩|⟨vm,rfl,hVm,hVd,hVv⟩
 ·
  have hl:Bo ([]:List (lU×T1)) tx=none:=rfl;exact Af 4 [1] (y<|λ_=>Cz C C (λw f d=>vN (a:=tx) C C Mi Fp K2)<|Af 13 [0,2] (λb3=>y<|y<|λ_=>Pq C C (eC Ew C C) (λ_ h=>h.elim) (λw f d=>(Cd w f d.vl false ln co).mono (λ_ _ ⟨_,_,_,h,_⟩=>by cases h) λ_ _ h=>h) (λer w2 f2 he O=>⟨C,er,f2,C,(by rw[CR,if_pos W,hl,he.2]),O⟩)))
 ·
  cases hl:Bo vars tx with
  |none =>
   exact Af 4 [1] (y<|λ_=>Cz C C (λw f d=>K4 (K:=Ck) (a:=tx) C C Mi Fp K2 (hVm.heap (d.exm.stp.block _ hVm.lt (λh=>h))) hVd (by rw[Ej (λt=>tV t none 0),hl];rfl))<|Af 13 [0,2] (λb3=>y<|y<|λ_=>Pq C C (eC Ew C C) (λ_ h=>h.elim) (λw f d=>(Cd w f d.vl false ln co).mono (λ_ _ ⟨_,_,_,h,_⟩=>by cases h) λ_ _ h=>h) (λer w2 f2 he O=>⟨C,er,f2,C,(by rw[CR,if_pos W,hl,he.2]),O⟩)))
  |some tv =>
   obtain⟨q0,rfl⟩:=hVv tx tv hl;refine Af 4 [1] (y<|λ_=>Cz C C (λw f d=>K5 (K:=Ck) (a:=tx) (v:=tV (.var q0) none 0) C C Mi Fp K2 (hVm.heap (d.exm.stp.block _ hVm.lt (λh=>h))) hVd (by rw[Ej (λt=>tV t none 0),hl];rfl))<|Af 13 [0,2] (λb3=>y<|y<|λ_=>DC (α:=Unit) (val:=λ_=>.tuple #[]) (q:=λ_=>true=true) (I':=λ_ _ _=>True) (F':=λ_=>[]) (pe:=λer=>true=false∧er=(ln,co,11)) (M:=λ_=>False) (T:=114) C C (eC Ew C C) (λ_ h=>h.elim) (λw f d=>(Cd w f d.vl true ln co).mono (λ_ _ ⟨x,f2,W,L,Z,h4⟩=>⟨x,f2,W,L,Z,tQ,h4⟩) λ_ _ h=>h) (λ_ _ _ _ _ _ _ _=>trivial) (λ_=>trivial) (λer w2 f2 he O=>⟨C,er,f2,C,(by cases he.1),O⟩) ?_));rintro⟨⟩ hnd;exact Af 10 [0,1] (y<|y<|λ_=>AK (λw f d=>A3 C (Ac C AH d.k1 C)) (λw f d=>⟨(.var q0,none,0),f,C,⟨(by rw[CR,if_pos W,hl]),B8 _⟩,d.exm,⟨Ae.nil _ _ _ _,tQ⟩⟩))
 refine Aa 4 (λ_=>?_);refine RP (α:=Int×Bool) (λx=>Bo s.datas tx=if x.2 then some x.1 else none) (λx=>(E6 0 (pB A.cb) 2 (vv) 4 (pB b1) 6 (pB b2) 9 (iV x.1) 10 (.bool x.2))) (λx=>X0 w f) (λx=>[⟨b2,zT,123,true⟩,⟨b1,[iV op,iV ln,iV co,S tx,iV nm,.slice na kids.len nc],121,true⟩]) (λx=>[]) (λx=>[]) (λx=>[λw f=>AJ w f kids na nc,λw f=>EY w f]) ?_ ?_
 cases hdl:Bo s.datas tx with
 |none =>
  exact IQ (λw=>AE w A.cb [pB A.sb,.map (some A.km),.map (some A.dm),.map (some A.rm),iV s.vars] 131∧BM Ck w A.dm (s.datas.map λp=>(p.1,iV p.2))) (λw f _ O=>⟨(O.stp.block _ (hC.lt (.inl C)) (λh=>h)).trans hC.blk,hC.datas.heap (O.stp.block _ hC.datas.lt (λh=>h))⟩) [0,1] Aj (rd [0,1,2,3,4,5,6,7,8,9,10,11] .fin) C kR kR kR (λ_ _ _ _ _ h=>h)<|AN 3 (λ_=>CP C C C (λw hK=>Ai C OB hK.2.2.1 C)<|Bh 2 [1] (y<|λ_=>CP C C C (λw hK=>K4 (K:=Ck) (a:=tx) C C NA Fp lT hK.2.2.2 hw.dd (by rw[Ej (λc=>Value.int .i64 c),hdl];rfl))<|AN 5 (λ_=>Bp<|Ph (0,false) C lE (λw f d=>⟨f,d.less (sK (sK sZ)) sR nE (mR [0,1])⟩))))
 |some cnt =>
  exact IQ (λw=>AE w A.cb [pB A.sb,.map (some A.km),.map (some A.dm),.map (some A.rm),iV s.vars] 131∧BM Ck w A.dm (s.datas.map λp=>(p.1,iV p.2))) (λw f _ O=>⟨(O.stp.block _ (hC.lt (.inl C)) (λh=>h)).trans hC.blk,hC.datas.heap (O.stp.block _ hC.datas.lt (λh=>h))⟩) [0,1] Aj (rd [0,1,2,3,4,5,6,7,8,9,10,11] .fin) C kR kR kR (λ_ _ _ _ _ h=>h)<|AN 3 (λ_=>CP C C C (λw hK=>Ai C OB hK.2.2.1 C)<|Bh 2 [1] (y<|λ_=>CP C C C (λw hK=>K5 (K:=Ck) (a:=tx) (v:=iV cnt) C C NA Fp lT hK.2.2.2 hw.dd (by rw[Ej (λc=>Value.int .i64 c),hdl];rfl))<|AN 5 (λ_=>Bp<|Ph (cnt,true) C lE (λw f d=>⟨f,d.less (sK (sK sZ)) sR nE (mR [0,1])⟩))))
 rintro⟨cnt,dk⟩ hdl;dsimp only at hdl;refine Af 11 [1] (y<|aI (by simp;omega)<|aI (by simp;omega)<|λ_=>?_);refine RP (α:=Bool) (λx=>x=N6 s.datas tx kids) (λx=>(E5 0 (pB A.cb) 2 (vv) 4 (pB b1) 6 (pB b2) 10 (.bool x))) (λx=>X0 w f) (λx=>[⟨b2,zT,123,true⟩,⟨b1,[iV op,iV ln,iV co,S tx,iV nm,.slice na kids.len nc],121,true⟩]) (λx=>[]) (λx=>[]) (λx=>[λw f=>AJ w f kids na nc,λw f=>EY w f]) ?_ ?_;refine Aa 4 (λ_=>B3 C C (eC Qz C C) (λw f d=>GY w f d.vl d.f1 GQ ([32]++tx++[32]) dC)<|Aa 3 (λ_=>A6 52 C C (λL=>?_) (λL=>?_)));exact Af 9 [1] (y<|λ_=>Ph (((kids.len:Int)==0)) (by rw[N6,if_pos L]) lE (λw f d=>⟨f,d.less (sK (sK sZ)) sR nE (mR [0,1])⟩));refine Af 9 [1] (y<|λ_=>A6 59 C C (λZ=>?_) (λZ=>?_));exact Af 9 [1] (y<|λ_=>Ph (((kids.len:Int)==2)) (by rw[N6,if_neg (by rw[L];decide),if_pos (show (tx==FF)=true from Z)]) lE (λw f d=>⟨f,d.less (sK (sK sZ)) sR nE (mR [0,1])⟩));refine Aa 4 (λ_=>B3 C C (eC Qz C C) (λw f d=>GY w f d.vl d.f1 Rp ([32]++tx++[32]) dC)<|Aa 3 (λ_=>A6 67 C C (λh4=>?_) (λh4=>?_)));exact Aa 5 (λ_=>Ph (true) (by rw[N6,if_neg (by rw[L];decide),if_neg (by rw[show (tx==FF)=false from Z];decide),if_pos h4]) lE (λw f d=>⟨f,d.less (sK (sK sZ)) sR nE (mR [0,1])⟩));refine Aa 4 (λ_=>A6 45 C C (λh5=>?_) (λh5=>?_));exact Af 9 [1] (y<|λ_=>Ph ((cnt==(kids.len:Int))) (by rw[N6,if_neg (by rw[L];decide),if_neg (by rw[show (tx==FF)=false from Z];decide),if_neg (by rw[h4];decide),hdl,if_pos (show dk=true from h5)]) lE (λw f d=>⟨f,d.less (sK (sK sZ)) sR nE (mR [0,1])⟩));exact Aa 9 (λ_=>Ph (false) (by rw[N6,if_neg (by rw[L];decide),if_neg (by rw[show (tx==FF)=false from Z];decide),if_neg (by rw[h4];decide),hdl,if_neg (by rw[show dk=false from h5];decide)]) lE (λw f d=>⟨f,d.less (sK (sK sZ)) sR nE (mR [0,1])⟩));rintro ok hok;refine Af 6 [1] (y<|λ_=>DC (α:=Unit) (val:=λ_=>.tuple #[]) (q:=λ_=>ok=true) (I':=λ_ _ _=>True) (F':=λ_=>[]) (pe:=λer=>ok=false∧er=(ln,co,11)) (M:=λ_=>False) (T:=114) C C (eC Ew C C) (λ_ h=>h.elim) (λw f d=>(Cd w f d.vl ok ln co).mono (λ_ _ ⟨x,f2,W,L,Z,h4⟩=>⟨x,f2,W,L,Z,tQ,h4⟩) λ_ _ h=>h) (λ_ _ _ _ _ _ _ _=>trivial) (λ_=>trivial) (λer w2 f2 he O=>⟨C,er,f2,C,(by rw[CR,if_neg (by rw[W];decide),if_neg (by rw[← hok,he.1];decide),he.2]),O⟩) ?_);rintro⟨⟩ hnd;refine Af 6 [1] (y<|λ_=>B3 C C (eC Bz C C) (λw f d=>Br w f d.vl tx)<|Af 14 [0,2] (λb3=>y<|y<|λ_=>KR 123 4 ?_))
 refine D6 (α:=Nat×Nd×Ty×lV×oA×Nat) (λx=>x.2.1.len) (λx=>x.1+x.2.1.len=kids.len∧x.2.2.1.len=x.1∧Gr s.datas vars kids=(match Gr s.datas vars x.2.1 with|.error x=>.error x|.ok l=>.ok (x.2.2.1.app l))∧x.2.2.1.bnd∧x.2.1.txb∧x.2.1.size≤kids.size) (λx=>(E7 0 (pB A.cb) 2 (vv) 6 (pB b2) 12 (pB b3) 78 (.slice na kids.len nc) 79 (iV (kids.len:Int)) 80 (iV (x.1:Int)))) (λx=>X0 w f) (λx=>[⟨b3,[iV 1,iV 0,S tx,.slice x.2.2.2.2.1 x.1 x.2.2.2.2.2],123,true⟩,⟨b2,zT,123,true⟩,⟨b1,[iV op,iV ln,iV co,S tx,iV nm,.slice na kids.len nc],121,true⟩]) (λx=>[⟨123,4,x.2.2.2.2.1,x.2.2.2.2.2,x.1,x.2.2.2.1⟩]) (λx=>[]) (λx=>[λw f=>Bc w f na x.1 x.2.1,λw f=>AU w f x.2.2.1 x.2.2.2.1,λw f=>EY w f]) (0,kids,.nil,[],none,0) ⟨Nat.zero_add _,C,OF,tQ,htb0,Nat.le_refl _⟩ lE (λw f d=>d.more (B':=[]) (F':=[λw f=>Bc w f na 0 kids,λw f=>AU w f .nil []]) nE (AA.mem ⟨AJ.at d.f0,C,tQ⟩) (Ap.mem ⟨Bc.mono,AU.mono,tQ⟩) |>.less sR sR nE (mR [0,1,3])) ?_;rintro⟨i,r,Q,xs,ra,rc⟩ ⟨hi,U,Y,hdb,htxb,hrs⟩;dsimp only at hi U Y hdb htxb hrs ⊢;refine Aa 6 (λ_=>A6 81 C C (λL=>?_) (λL=>?_));refine Aa 6 (λ_=>?_);have hil:i<kids.len:=by have:=dT L;omega
 obtain⟨D,F,G,J,nm2,k2,r,rfl⟩:=Nd.cases1 r oM;have hi2:i+(r.len+1)=kids.len:=hi;have hrs2:k2.size+r.size+1≤kids.size:=hrs;obtain⟨htx2,hkx2,hrx2⟩:=htxb;refine H4 0 C ?_;rintro⟨eb,eo,ka,kc⟩ rfl;refine Af 7 [100,0,0] (aI oM<|y2<|λb4=>y<|λ_=>Ca [0,2,3] Aj (rd [0,2,3,4] (.br 1 (.br 5 (.br 6 (.br 7 (.rd 8 (.br 9 .fin .fin)) .fin) .fin) .fin) (.br 5 (.br 1 (.br 6 (.br 7 (.rd 8 (.br 9 .fin .fin)) .fin) .fin) (.br 6 (.br 1 (.br 7 (.rd 8 (.br 9 .fin .fin)) .fin) .fin) .fin)) .fin))) C kR<|Bh 4 [0] (y<|λ_=>Bj C ?_ ?_));refine Af 2 [1] (y<|λ_=>Am [0,2,3] C<|Ah C<|DC (I':=λ_ _ _=>True) (M:=λ_=>False) (α:=T1×oA×Nat) (val:=λx=>tV x.1 x.2.1 x.2.2) (q:=λx=>CR s.datas vars D F G J k2=.ok x.1∧x.1.bnd) (F':=λx=>[λw f=>Ae w f x.1.kids x.2.1 x.2.2]) (pe:=λer=>CR s.datas vars D F G J k2=.error er) (T:=114) C C (eC NN C C) (λ_ h=>h.elim) (λw f d=>(ih w f d.vl A s (Aq.stab _ _ _ _ hC (d.exm.fle hv (λ_ h=>h.elim)) (λb hb=>d.exm.stp.block b (hC.lt hb) (λh=>h))) hw d.f4 D F G nm2 J k2 ka kc vv vars oM oM htx2 hkx2 (Ot.keep hV d.exm) d.f0).mono (λ_ _ ⟨x,f2,W,L,Z,h4⟩=>⟨x,f2,W,L,Z,tQ,h4⟩) λ_ _ h=>h) (λ_ _ _ _ _ _ _ _=>trivial) (λ_=>⟨Ae.mono,tQ⟩) (λer w2 f2 he O=>⟨C,er,f2,C,(by rw[CR,if_neg (by rw[W];decide),if_pos (hok▸hnd),Y,Jd he]),O⟩) ?_);rintro⟨q5,qa,qc⟩ ⟨hp5,hqb⟩;dsimp only at hp5 hqb ⊢;refine Aa 1 (λ_=>Am [0,2,3] C<|Ah C<|Aa 2 (λb5=>λ_=>Am [1,3,4] C<|Ah C<|BW 0 0 C C Cu C C C C C C C C (λ_ _=>C) oM oM λra2 rc2=>Aa 1 (λ_=>Am [1,3,4] C<|AN 1 (λ_=>?_))));exact Ah C<|Af 2 [2] (y<|λ_=>Am [1,3,4] C<|Bp<|Aa 6 (aI ⟨oM,oM⟩<|λ_=>C0 ((i+1,r,Q.snoc q5,xs++tC q5 qa qc,ra2,rc2)) (show r.len<(Nd.cons D F G J nm2 k2 r).len from Nat.lt_succ_self _) ⟨show i+1+r.len=_ by omega,show (Q.snoc _).len=i+1 by rw[Ty.len_snoc,U],Y.trans (GA hp5),show (Q.snoc _).bnd from Ty.bnd_snoc hdb hqb,hrx2,show r.size≤_ by omega⟩ lE (λw f d=>⟨_,(d.more (B':=[]) (F':=[λw f=>AU w f (Q.snoc q5) (xs++tC q5 qa qc)]) nE (AA.mem ⟨AU.snoc d.f0 d.f4,tQ⟩) (Ap.mem ⟨AU.mono,tQ⟩)).less (.cons _ (.cons _ sR)) sR nE (mR [3,0,6])⟩)))
 refine Ah C<|DC (I':=λ_ _ _=>True) (M:=λ_=>False) (α:=T1×oA×Nat) (val:=λx=>tV x.1 x.2.1 x.2.2) (q:=λx=>CR s.datas vars D F G J k2=.ok x.1∧x.1.bnd) (F':=λx=>[λw f=>Ae w f x.1.kids x.2.1 x.2.2]) (pe:=λer=>CR s.datas vars D F G J k2=.error er) (T:=114) C C (eC NN C C) (λ_ h=>h.elim) (λw f d=>(ih w f d.vl A s (Aq.stab _ _ _ _ hC (d.exm.fle hv (λ_ h=>h.elim)) (λb hb=>d.exm.stp.block b (hC.lt hb) (λh=>h))) hw d.f4 D F G nm2 J k2 ka kc vv vars oM oM htx2 hkx2 (Ot.keep hV d.exm) d.f0).mono (λ_ _ ⟨x,f2,W,L,Z,h4⟩=>⟨x,f2,W,L,Z,tQ,h4⟩) λ_ _ h=>h) (λ_ _ _ _ _ _ _ _=>trivial) (λ_=>⟨Ae.mono,tQ⟩) (λer w2 f2 he O=>⟨C,er,f2,C,(by rw[CR,if_neg (by rw[W];decide),if_pos (hok▸hnd),Y,Jd he]),O⟩) ?_;rintro⟨q5,qa,qc⟩ ⟨hp5,hqb⟩;dsimp only at hp5 hqb ⊢;refine Aa 1 (λ_=>Am [0,2,3] C<|Bj C ?_ ?_);refine Af 2 [1] (y<|λ_=>Am [0,2,3] C<|Ah C<|Aa 2 (λb5=>λ_=>Am [1,3,4] C<|Ah C<|BW 0 0 C C Cu C C C C C C C C (λ_ _=>C) oM oM λra2 rc2=>Aa 1 (λ_=>Am [1,3,4] C<|AN 1 (λ_=>?_))));exact Ah C<|Af 2 [2] (y<|λ_=>Am [1,3,4] C<|Bp<|Aa 6 (aI ⟨oM,oM⟩<|λ_=>C0 ((i+1,r,Q.snoc q5,xs++tC q5 qa qc,ra2,rc2)) (show r.len<(Nd.cons D F G J nm2 k2 r).len from Nat.lt_succ_self _) ⟨show i+1+r.len=_ by omega,show (Q.snoc _).len=i+1 by rw[Ty.len_snoc,U],Y.trans (GA hp5),show (Q.snoc _).bnd from Ty.bnd_snoc hdb hqb,hrx2,show r.size≤_ by omega⟩ lE (λw f d=>⟨_,(d.more (B':=[]) (F':=[λw f=>AU w f (Q.snoc q5) (xs++tC q5 qa qc)]) nE (AA.mem ⟨AU.snoc d.f0 d.f4,tQ⟩) (Ap.mem ⟨AU.mono,tQ⟩)).less (.cons _ (.cons _ sR)) sR nE (mR [3,0,6])⟩)));refine Ah C<|Aa 2 (λb5=>λ_=>Am [1,3,4] C<|Ah C<|Af 2 [2] (y<|λ_=>Am [1,3,4] C<|Ah C<|BW 0 0 C C Cu C C C C C C C C (λ_ _=>C) oM oM λra2 rc2=>Aa 1 (λ_=>Am [1,3,4] C ?_)));exact AN 1 (λ_=>Ah C<|Af 2 [2] (y<|λ_=>Am [1,3,4] C<|Bp<|Aa 6 (aI ⟨oM,oM⟩<|λ_=>C0 ((i+1,r,Q.snoc q5,xs++tC q5 qa qc,ra2,rc2)) (show r.len<(Nd.cons D F G J nm2 k2 r).len from Nat.lt_succ_self _) ⟨show i+1+r.len=_ by omega,show (Q.snoc _).len=i+1 by rw[Ty.len_snoc,U],Y.trans (GA hp5),show (Q.snoc _).bnd from Ty.bnd_snoc hdb hqb,hrx2,show r.size≤_ by omega⟩ lE (λw f d=>⟨_,(d.more (B':=[]) (F':=[λw f=>AU w f (Q.snoc q5) (xs++tC q5 qa qc)]) nE (AA.mem ⟨AU.snoc d.f0 d.f4,tQ⟩) (Ap.mem ⟨AU.mono,tQ⟩)).less (.cons _ (.cons _ sR)) sR nE (mR [3,0,6])⟩))));refine Aa 3 (λ_=>Dl<|Aa 3 (λ_=>?_));obtain rfl:r=.nil:=Nd.len0 (by have:=dF L;omega);have hty2:Gr s.datas vars kids=.ok Q:=by rw[Y];show (Except.ok (Q.app .nil):RI Ty)=_;rw[Ty.app_nil]
 have hdk:Q.len≤200000:=by have:i+0=kids.len:=hi;omega
 subst U;exact Ud (λw f=>Ae w f Q ra rc) Ae.mono (λw f d=>El d d.f1)<|Af 6 [0,1] (y<|y<|λ_=>AK (λw f d=>A3 C (Ac C AH d.k1 C)) (λw f d=>⟨(.con tx Q,ra,rc),f,C,⟨(by rw[CR,if_neg (by rw[W];decide),if_pos (hok▸hnd),hty2]),BS oM hdk hdb⟩,d.exm,⟨d.f0,tQ⟩⟩))
theorem KX:∀n,TypF prog EY 39 114 131 222 n
 |0=>λ_ _ _ _ _ _ _ _ _ _ _ _ _ _ _ _ _ _ h=>absurd h (Nat.not_lt_zero _)
 |n+1=>λw f G A s J hw K op ln co nm tx kids L nc O vars hm d D F Q U=>YF n (KX n) w f G A s J hw K op ln co nm tx kids L nc O vars hm d D F Q U
set_option maxHeartbeats 2000000 in
theorem Yg(w:wO)(f:Fq)(hv:Vl w f)(A:Ad)(hA:A.ok)(s:CS)(hC:Aq 131 222 A s w f)(hf:∀b,B2 A b→f b=0)(hw:D1 s)(hG:EY w f)(op ln co nm:Int)(tx:lU)(kids:Nd)(na:oA)(nc:Nat)(hsz:kids.size≤200000)(htx:tx.length≤100000)(htb0:kids.txb)(hN:AJ w f kids na nc)(hvb : -800000000000≤s.vars-kids.len)(hvb2:s.vars≤0) :
  BB prog 37 #[pB A.cb,.agg #[iV op,iV ln,iV co,S tx,iV nm,.slice na kids.len nc]] w (CY (α:=CS) (λ_=>.tuple #[]) (λx=>IH s ln co tx kids=.ok x∧D1 x∧x.fresh=s.fresh∧s.vars-kids.len≤x.vars∧x.vars≤s.vars) (B2 A) (λx=>Aq 131 222 A x) (λ_=>[]) w f) (PanE 114 (B2 A) (λer=>IH s ln co tx kids=.error er) w f):=by
 have hkl:=Nd.len_le kids;refine OJ (X:=XC 131 222 A s w f) (H:=[]) (R:=[]) (B:=[]) (Fs:=[λw f=>AJ w f kids na nc,λw f=>EY w f]) (f:=f) func37 C C C (L2 hv hC hf ⟨hN,hG,tQ⟩ ⟨AJ.mono,EY.mono,tQ⟩)<|Aa 6 (λb1=>λ_=>?_)
 cases hdl:Bo s.datas tx with
 |none =>
  refine IQ (λw=>AE w A.cb [pB A.sb,.map (some A.km),.map (some A.dm),.map (some A.rm),iV s.vars] 131∧BM Ck w A.dm (s.datas.map λp=>(p.1,iV p.2))) (λw f h _=>⟨h.blk,h.datas⟩) [0] Aj (rd [0,1,2,3,4,5,6,7,8,9,10,11] .fin) C kR kR kR (λ_ _ _ _ _ h=>h)<|AN 3 (λ_=>CP C C C (λw L=>Ai C OB L.2.2.1 C)<|Bh 2 [0] (y<|λ_=>CP C C C (λw L=>K4 (K:=Ck) (a:=tx) C C NA Fp lT L.2.2.2 hw.dd (by rw[Ej (λc=>Value.int .i64 c),hdl];rfl))<|AN 5 (λ_=>Bp<|Aa 2 (λ_=>Ca [0] Aj (rd [0,1,2,3,4,5,6,10,11] (.br 7 (.rd 8 (.rd 9 (.br 12 .fin .fin))) .fin)) C kR<|Bh 9 [0,0] (y<|aI (by simp;omega)<|aI (by simp;omega)<|y<|λ_=>?_)))));refine Ah C<|B3 C C (eC Qz C C) (λw f D=>GY w f D.vl D.f1 GQ ([32]++tx++[32]) dC)<|Aa 1 (λ_=>Am [0] C<|AN 2 (λ_=>Ah C<|DC (α:=Unit) (val:=λ_=>.tuple #[]) (q:=λ_=>(!Dm GQ ([32]++tx++[32]))=true) (I':=λ_=>Aq 131 222 A s) (F':=λ_=>[]) (pe:=λer=>(!Dm GQ ([32]++tx++[32]))=false∧er=(ln,co,11)) (M:=λ_=>False) (T:=114) C C (eC Ew C C) (λ_ h=>h.elim) (λw f D=>(Cd w f D.vl (!Dm GQ ([32]++tx++[32])) ln co).mono (λ_ _ ⟨x,f2,h1,Z,h3,h4⟩=>⟨x,f2,h1,Z,h3.mono (λ_ h=>h.elim),(D.call0 h3).res,h4⟩) λ_ _ h=>h) (λ_=>Aq.stab) (λ_=>trivial) (λer w2 f2 he hE=>⟨C,er,f2,C,(by have h9:Dm GQ ([32]++tx++[32])=true:=Eh he.1;rw[IH,if_pos (by rw[hdl,h9];rfl),he.2]),hE⟩) ?_));rintro⟨⟩ hnd;have hnd0:¬((Bo s.datas tx).isSome||Dm GQ ([32]++tx++[32]))=true:=by rw[hdl,show Dm GQ ([32]++tx++[32])=false from Ee hnd];decide
  refine Aa 1 (λ_=>Am [0] C<|Bp<|Aa 3 (λ_=>eY (K:=Ck) C C λvm hvm=>Af 7 [0] (y<|λ_=>B3 C C (eC Bz C C) (λw f D=>Br w f D.vl tx)<|Af 19 [0,1] (λb2=>y<|y<|λ_=>KR 3 1<|KR 123 4 ?_))));refine D6 (α:=Nat×Nd×Int×List (lU×T1)×Ty×lV×oA×Nat×List Int×oA×Nat) (λx=>x.2.1.len) (λx=>x.1+x.2.1.len=kids.len∧EN ln co kids s.vars [] .nil []=EN ln co x.2.1 x.2.2.1 x.2.2.2.1 x.2.2.2.2.1 x.2.2.2.2.2.2.2.2.1∧x.2.2.2.2.1.len=x.2.2.2.2.2.2.2.2.1.length∧x.2.2.2.2.2.2.2.2.1.length≤x.1∧x.2.2.2.2.1.bnd∧Kq (vEs x.2.2.2.1)∧(∀n t,Bo x.2.2.2.1 n=some t→∃q,t=.var q)∧s.vars-x.1≤x.2.2.1∧x.2.2.1≤s.vars) (λx=>(E8 0 (pB A.cb) 3 (pB b1) 6 (.map (some vm)) 7 (pB b2) 8 (.slice x.2.2.2.2.2.2.2.2.2.1 x.2.2.2.2.2.2.2.2.1.length x.2.2.2.2.2.2.2.2.2.2) 48 (.slice na kids.len nc) 49 (iV (kids.len:Int)) 50 (iV (x.1:Int)))) (λx=>⟨B2 A,λb=>B2 A b∨b=vm,Ef 131 222 A ({s with vars:=x.2.2.1}:CS) vm x.2.2.2.1,w,f⟩) (λx=>[⟨b2,[iV 1,iV 0,S tx,.slice x.2.2.2.2.2.2.1 x.2.2.2.2.2.2.2.2.1.length x.2.2.2.2.2.2.2.1],123,true⟩,⟨b1,[iV op,iV ln,iV co,S tx,iV nm,.slice na kids.len nc],121,true⟩]) (λx=>[⟨123,4,x.2.2.2.2.2.2.1,x.2.2.2.2.2.2.2.1,x.2.2.2.2.2.2.2.2.1.length,x.2.2.2.2.2.1⟩,⟨3,1,x.2.2.2.2.2.2.2.2.2.1,x.2.2.2.2.2.2.2.2.2.2,x.2.2.2.2.2.2.2.2.1.length,x.2.2.2.2.2.2.2.2.1.map λn=>iV n⟩]) (λx=>[]) (λx=>[λw f=>Bc w f na x.1 x.2.1,λw f=>AU w f x.2.2.2.2.1 x.2.2.2.2.2.1,λw f=>EY w f,λw f=>AJ w f kids na nc]) (0,kids,s.vars,[],.nil,[],none,0,[],none,0) ⟨Nat.zero_add _,C,C,Nat.le_refl _,tQ,tQ,λ_ _ h=>(by cases h),by dsimp only;omega,Int.le_refl _⟩ lE (λw f D=>D.more (B':=[]) (F':=[λw f=>Bc w f na 0 kids,λw f=>AU w f .nil []]) nE (AA.mem ⟨AJ.at D.f0,C,tQ⟩) (Ap.mem ⟨Bc.mono,AU.mono,tQ⟩) |>.less sR sR nE (mR [0,1,3,2])) ?_;rintro⟨i,r,v,m,self,xs,ra,rc,d,na2,nc2⟩ ⟨hi,hdv,hsl,hnl,hsb,W,hmv,hv1,hv2⟩;dsimp only at hi hdv hsl hnl hsb W hmv hv1 hv2 ⊢;refine Aa 6 (λ_=>A6 51 C C (λh1=>?_) (λh1=>?_));refine Aa 6 (λ_=>?_);have hil:i<kids.len:=by have:=dT h1;omega
  obtain⟨J,O,Q,F,nm2,k2,r,rfl⟩:=Nd.cases1 r oM;have hi2:i+(r.len+1)=kids.len:=hi;refine H4 0 C ?_;rintro⟨eb,eo,ka,kc⟩ rfl;refine Af 15 [100,0,0,0] (aI oM<|y2<|λb3=>y<|y<|λ_=>A6 56 C C (λZ=>?_) (λZ=>?_));exact Aa 9 (aI ⟨oM,oM⟩<|λ_=>C0 ((i+1,r,v,m,self,xs,ra,rc,d,na2,nc2)) (show r.len<(Nd.cons J O Q F nm2 k2 r).len from Nat.lt_succ_self _) ⟨show i+1+r.len=_ by omega,hdv.trans (TN (by simpa using Z)),hsl,show d.length≤i+1 by omega,hsb,W,hmv,show s.vars-((i+1:Nat):Int)≤v by omega,hv2⟩ lE (λw f D=>⟨_,D.less (sD (sK (sK sZ))) sR nE (mR [1,3,4,5])⟩));refine Aa 4 (λ_=>?_);have G:(J==31)=true:=by have h9:(J != 31)=false:=Z;simpa using h9
  cases U:Bo m F with
  |none =>
   refine Af 4 [0] (y<|λ_=>Cz C C (λw f D=>K4 (K:=Ck) (a:=F) C C Mi Fp K2 D.res.2 W (by rw[Ej (λt=>tV t none 0),U];rfl))<|Af 14 [0,3] (λb4=>y<|y<|λ_=>DC (α:=Unit) (val:=λ_=>.tuple #[]) (q:=λ_=>true=true) (I':=λ_=>Ef 131 222 A ({s with vars:=v}:CS) vm m) (F':=λ_=>[]) (pe:=λer=>true=false∧er=(ln,co,11)) (M:=λ_=>False) (T:=114) C C (eC Ew C C) (λ_ h=>h.elim) (λw f D=>(Cd w f D.vl true ln co).mono (λ_ _ ⟨x,f2,h1,Z,h3,h4⟩=>⟨x,f2,h1,Z,h3.mono (λ_ h=>h.elim),(D.call0 h3).res,h4⟩) λ_ _ h=>h) (λ_=>Ef.stab) (λ_=>trivial) (λer w2 f2 he hE=>⟨C,er,f2,C,(by cases he.1),hE⟩) ?_));rintro⟨⟩ hnd;refine Aa 7 (λ_=>Cz (v:=iV v) C C (λw f D=>Ai C Gu D.res.1.blk C)<|Aa 3 (aI ⟨oM,oM⟩<|λ_=>dSet hA hvm C C C Gu<|Aa 3 (λ_=>IQ (λw=>AE w A.cb [pB A.sb,.map (some A.km),.map (some A.dm),.map (some A.rm),iV (v-1)] 131) (λw f h _=>h.1.blk) [0,1,2,3] Aj (rd [0,1,2,3,4,5,6] (.br 7 (.br 8 .fin .fin) .fin)) C kR kR kR (λ_ _ _ _ _ h=>h)<|Bh 6 [1] (y<|λ_=>CP C C C (λw L=>(Ai C Gu L.2.2 C:AM _ _ _ _ _ (iV (v-1)) _))<|Ah C<|B3 C C (eC GL C C) (λw f D=>D8 w f D.vl (v-1)) ?_))));refine Aa 1 (λ_=>AS [0,1,2,3] (λw f h _=>h.1.blk) C (λ_ h=>h)<|Ah C<|dVar (q:=v-1) hvm C C C C Mi Fp W U<|Aa 1 (λ_=>AS [0,1,2,3] (λw f h _=>h.1.blk) C (λ_ h=>h)<|Bp<|Aa 2 (λ_=>IQ (λw=>AE w A.cb [pB A.sb,.map (some A.km),.map (some A.dm),.map (some A.rm),iV (v-1)] 131) (λw f h _=>h.1.blk) [0,1,3] Aj (rd [0,2,3,4,5] (.br 1 (.br 6 (.br 7 (.br 8 (.rd 9 (.br 10 .fin .fin)) .fin) .fin) .fin) (.br 6 (.br 1 (.br 7 (.br 8 (.rd 9 (.br 10 .fin .fin)) .fin) .fin) (.br 7 (.br 1 (.br 8 (.rd 9 (.br 10 .fin .fin)) .fin) .fin) .fin)) .fin))) C kR kR kR (λ_ _ _ _ _ h=>h)<|AN 4 (λ_=>?_))));refine CP C C C (λw L=>(Ai C Gu L.2.2 C:AM _ _ _ _ _ (iV (v-1)) _))<|Bj C ?_ ?_;refine Af 2 [2] (y<|λ_=>AS [0,1,3] (λw f h _=>h.1.blk) C (λ_ h=>h)<|Ah C<|B3 C C (eC GL C C) (λw f D=>D8 w f D.vl (v-1))<|Aa 1 (λ_=>AS [0,1,3] (λw f h _=>h.1.blk) C (λ_ h=>h)<|Ah C<|Aa 2 (λb5=>λ_=>AS [1,2,4] (λw f h _=>h.1.blk) C (λ_ h=>h)<|Ah C ?_)));refine BW 0 0 C C Cu C C C C C C C C (λ_ _=>C) oM oM λra2 rc2=>Aa 1 (λ_=>AS [1,2,4] (λw f h _=>h.1.blk) C (λ_ h=>h)<|AN 1 (λ_=>Ah C<|Af 2 [3] (y<|λ_=>AS [1,2,4] (λw f h _=>h.1.blk) C (λ_ h=>h)<|Bp<|Aa 6 (λ_=>Cz (v:=iV (v-1)) C C (λw f D=>Ai C Gu D.res.1.blk C) ?_))));refine Aa 1 (λb6=>λ_=>BW 1 0 C C N9 C C C C C C C C (λ_ _=>C) oM oM λna3 nc3=>Aa 8 (aI ⟨oM,oM⟩<|λ_=>?_))
   exact C0 ((i+1,r,v-1,(F,.var (v-1))::m,self.snoc (.var (v-1)),xs++tC (.var (v-1)) none 0,ra2,rc2,(d++[v-1]),na3,nc3)) (show r.len<(Nd.cons J O Q F nm2 k2 r).len from Nat.lt_succ_self _) ⟨show i+1+r.len=_ by omega,hdv.trans (K3 G U),show (self.snoc _).len=_ by rw[Ty.len_snoc,hsl,List.length_append];rfl,show (d++[v-1]).length≤i+1 by rw[List.length_append];simp;omega,Ty.bnd_snoc hsb (B8 _),Jp (λt=>tV t none 0) W U,λn t h=>by rw[It] at h;split at h;(cases h;exact⟨_,C⟩);exact hmv n t h,show s.vars-((i+1:Nat):Int)≤v-1 by omega,show v-1≤s.vars by omega⟩ (lu8 C C C C (Eq.trans (b:=some (Value.slice na3 (d.length+1) nc3)) C (by dsimp only;rw[List.length_append];rfl)) C C C) (λw f D=>⟨_,by have hM9:=(D.more (B':=[]) (F':=[λw f=>AU w f (self.snoc (.var (v-1))) (xs++tC (.var (v-1)) none 0)]) nE (AA.mem ⟨AU.snoc (Ae.nil _ _ _ _) D.f3,tQ⟩) (Ap.mem ⟨AU.mono,tQ⟩)).less (sD (sD (sD (sD (sK (sK sZ)))))) sR (B':=[]) nE (F':=[λw f=>Bc w f (some ⟨eb,eo,none⟩) (i+1) r,λw f=>AU w f (self.snoc (.var (v-1))) (xs++tC (.var (v-1)) none 0),λw f=>EY w f,λw f=>AJ w f kids (some ⟨eb,eo,none⟩) nc]) (mR [2,0,5,6]);dsimp only;rw[show (d++[v-1]).length=d.length+1 by rw[List.length_append];rfl,List.map_append];exact hM9⟩);refine Ah C<|B3 C C (eC GL C C) (λw f D=>D8 w f D.vl (v-1))<|Aa 1 (λ_=>AS [0,1,3] (λw f h _=>h.1.blk) C (λ_ h=>h)<|Bj C ?_ ?_);refine Af 2 [2] (y<|λ_=>AS [0,1,3] (λw f h _=>h.1.blk) C (λ_ h=>h)<|Ah C<|Aa 2 (λb5=>λ_=>AS [1,2,4] (λw f h _=>h.1.blk) C (λ_ h=>h)<|Ah C<|BW 0 0 C C Cu C C C C C C C C (λ_ _=>C) oM oM λra2 rc2=>Aa 1 (λ_=>AS [1,2,4] (λw f h _=>h.1.blk) C (λ_ h=>h)<|AN 1 (λ_=>?_))));refine Ah C<|Af 2 [3] (y<|λ_=>AS [1,2,4] (λw f h _=>h.1.blk) C (λ_ h=>h)<|Bp<|Aa 6 (λ_=>Cz (v:=iV (v-1)) C C (λw f D=>Ai C Gu D.res.1.blk C)<|Aa 1 (λb6=>λ_=>BW 1 0 C C N9 C C C C C C C C (λ_ _=>C) oM oM λna3 nc3=>Aa 8 (aI ⟨oM,oM⟩<|λ_=>?_))))
   exact C0 ((i+1,r,v-1,(F,.var (v-1))::m,self.snoc (.var (v-1)),xs++tC (.var (v-1)) none 0,ra2,rc2,(d++[v-1]),na3,nc3)) (show r.len<(Nd.cons J O Q F nm2 k2 r).len from Nat.lt_succ_self _) ⟨show i+1+r.len=_ by omega,hdv.trans (K3 G U),show (self.snoc _).len=_ by rw[Ty.len_snoc,hsl,List.length_append];rfl,show (d++[v-1]).length≤i+1 by rw[List.length_append];simp;omega,Ty.bnd_snoc hsb (B8 _),Jp (λt=>tV t none 0) W U,λn t h=>by rw[It] at h;split at h;(cases h;exact⟨_,C⟩);exact hmv n t h,show s.vars-((i+1:Nat):Int)≤v-1 by omega,show v-1≤s.vars by omega⟩ (lu8 C C C C (Eq.trans (b:=some (Value.slice na3 (d.length+1) nc3)) C (by dsimp only;rw[List.length_append];rfl)) C C C) (λw f D=>⟨_,by have hM9:=(D.more (B':=[]) (F':=[λw f=>AU w f (self.snoc (.var (v-1))) (xs++tC (.var (v-1)) none 0)]) nE (AA.mem ⟨AU.snoc (Ae.nil _ _ _ _) D.f3,tQ⟩) (Ap.mem ⟨AU.mono,tQ⟩)).less (sD (sD (sD (sD (sK (sK sZ)))))) sR (B':=[]) nE (F':=[λw f=>Bc w f (some ⟨eb,eo,none⟩) (i+1) r,λw f=>AU w f (self.snoc (.var (v-1))) (xs++tC (.var (v-1)) none 0),λw f=>EY w f,λw f=>AJ w f kids (some ⟨eb,eo,none⟩) nc]) (mR [2,0,5,6]);dsimp only;rw[show (d++[v-1]).length=d.length+1 by rw[List.length_append];rfl,List.map_append];exact hM9⟩);refine Ah C<|Aa 2 (λb5=>λ_=>AS [1,2,4] (λw f h _=>h.1.blk) C (λ_ h=>h)<|Ah C<|Af 2 [3] (y<|λ_=>AS [1,2,4] (λw f h _=>h.1.blk) C (λ_ h=>h)<|Ah C<|BW 0 0 C C Cu C C C C C C C C (λ_ _=>C) oM oM λra2 rc2=>Aa 1 (λ_=>AS [1,2,4] (λw f h _=>h.1.blk) C (λ_ h=>h) ?_)));refine AN 1 (λ_=>Ah C<|Af 2 [3] (y<|λ_=>AS [1,2,4] (λw f h _=>h.1.blk) C (λ_ h=>h)<|Bp<|Aa 6 (λ_=>Cz (v:=iV (v-1)) C C (λw f D=>Ai C Gu D.res.1.blk C)<|Aa 1 (λb6=>λ_=>BW 1 0 C C N9 C C C C C C C C (λ_ _=>C) oM oM λna3 nc3=>Aa 8 (aI ⟨oM,oM⟩<|λ_=>?_)))))
   exact C0 ((i+1,r,v-1,(F,.var (v-1))::m,self.snoc (.var (v-1)),xs++tC (.var (v-1)) none 0,ra2,rc2,(d++[v-1]),na3,nc3)) (show r.len<(Nd.cons J O Q F nm2 k2 r).len from Nat.lt_succ_self _) ⟨show i+1+r.len=_ by omega,hdv.trans (K3 G U),show (self.snoc _).len=_ by rw[Ty.len_snoc,hsl,List.length_append];rfl,show (d++[v-1]).length≤i+1 by rw[List.length_append];simp;omega,Ty.bnd_snoc hsb (B8 _),Jp (λt=>tV t none 0) W U,λn t h=>by rw[It] at h;split at h;(cases h;exact⟨_,C⟩);exact hmv n t h,show s.vars-((i+1:Nat):Int)≤v-1 by omega,show v-1≤s.vars by omega⟩ (lu8 C C C C (Eq.trans (b:=some (Value.slice na3 (d.length+1) nc3)) C (by dsimp only;rw[List.length_append];rfl)) C C C) (λw f D=>⟨_,by have hM9:=(D.more (B':=[]) (F':=[λw f=>AU w f (self.snoc (.var (v-1))) (xs++tC (.var (v-1)) none 0)]) nE (AA.mem ⟨AU.snoc (Ae.nil _ _ _ _) D.f3,tQ⟩) (Ap.mem ⟨AU.mono,tQ⟩)).less (sD (sD (sD (sD (sK (sK sZ)))))) sR (B':=[]) nE (F':=[λw f=>Bc w f (some ⟨eb,eo,none⟩) (i+1) r,λw f=>AU w f (self.snoc (.var (v-1))) (xs++tC (.var (v-1)) none 0),λw f=>EY w f,λw f=>AJ w f kids (some ⟨eb,eo,none⟩) nc]) (mR [2,0,5,6]);dsimp only;rw[show (d++[v-1]).length=d.length+1 by rw[List.length_append];rfl,List.map_append];exact hM9⟩)
  |some tv =>
   obtain⟨q0,rfl⟩:=hmv F tv U;exact Af 4 [0] (y<|λ_=>Cz C C (λw f D=>K5 (K:=Ck) (a:=F) (v:=tV (.var q0) none 0) C C Mi Fp K2 D.res.2 W (by rw[Ej (λt=>tV t none 0),U];rfl))<|Af 14 [0,3] (λb4=>y<|y<|λ_=>Pq C C (eC Ew C C) (λ_ h=>h.elim) (λw f D=>(Cd w f D.vl false ln co).mono (λ_ _ ⟨_,_,_,h,_⟩=>by cases h) λ_ _ h=>h) (λer w2 f2 he hE=>⟨C,er,f2,C,(by rw[IH,if_neg hnd0,hdv,VG G U,he.2]),hE⟩)))
  refine Aa 3 (λ_=>Dl<|Aa 3 (λ_=>?_));obtain rfl:r=.nil:=Nd.len0 (by have:=dF h1;omega);have hdv2:EN ln co kids s.vars [] .nil []=.ok (v,m,self,d):=hdv;have hil0:i≤kids.len:=oM;refine Ud (λw f=>Ae w f self ra rc) Ae.mono (λw f D=>El D D.f1)<|Ud (λw f=>B7 w f d na2 nc2) B7.mono (λw f D=>Ns D) ?_;have hwv:D1 ({s with vars:=v}:CS):=hw.setVars;refine IQ (λw=>AE w A.cb [pB A.sb,.map (some A.km),.map (some A.dm),.map (some A.rm),iV v] 131) (λw f h _=>h.1.blk) [0,1] Aj (rd [0,1,2,3,4,5,6,7] (.br 8 .fin .fin)) C kR kR kR (λ_ _ _ _ _ h=>h)<|AN 3 (λ_=>CP C C C (λw L=>Ai C OB L.2.2 C)<|Bh 4 [1] (y<|λ_=>Ah C<|dData hA hvm hwv C C C C NA Fp hdl<|Aa 1 (λ_=>AS [0,1] (λw f h _=>h.1.blk) C (λ_ h=>h)<|Bp<|Af 10 [1] (y<|λ_=>?_))));refine D6 (α:=Nat×Nd×List (lU×Mk)) (λx=>x.2.1.len) (λx=>x.1+x.2.1.len=kids.len∧Ed ((tx,(d.length:Int))::s.datas) m (.con tx self) d kids s.cons=Ed ((tx,(d.length:Int))::s.datas) m (.con tx self) d x.2.1 x.2.2∧D1 ({s with vars:=v,datas:=(tx,(d.length:Int))::s.datas,cons:=x.2.2}:CS)∧x.2.1.txb∧x.2.1.size≤kids.size) (λx=>(E7 0 (pB A.cb) 6 (.map (some vm)) 7 (pB b2) 8 (.slice na2 d.length nc2) 111 (.slice na kids.len nc) 112 (iV (kids.len:Int)) 113 (iV (x.1:Int)))) (λx=>⟨B2 A,λb=>B2 A b∨b=vm,Ef 131 222 A ({s with vars:=v,datas:=(tx,(d.length:Int))::s.datas,cons:=x.2.2}:CS) vm m,w,f⟩) (λx=>[⟨b2,[iV 1,iV 0,S tx,.slice ra d.length rc],123,true⟩,⟨b1,[iV op,iV ln,iV co,S tx,iV nm,.slice na kids.len nc],121,true⟩]) (λx=>[]) (λx=>[]) (λx=>[λw f=>Bc w f na x.1 x.2.1,λw f=>B7 w f d na2 nc2,λw f=>Ae w f self ra rc,λw f=>EY w f]) (0,kids,s.cons) ⟨Nat.zero_add _,C,(hwv.addData hdl),htb0,Nat.le_refl _⟩ lE (λw f D=>D.more (B':=[]) (F':=[λw f=>Bc w f na 0 kids]) nE (AA.mem ⟨AJ.at D.f5,tQ⟩) (Ap.mem ⟨Bc.mono,tQ⟩) |>.less sR sR nE (mR [0,1,2,5])) ?_;rintro⟨j,r,cl⟩ ⟨hi3,hdc,hwc,htxb,hrs⟩;dsimp only at hi3 hdc hwc htxb hrs ⊢;refine Aa 6 (λ_=>A6 114 C C (λZ=>?_) (λZ=>?_));refine Aa 6 (λ_=>?_);have hil:j<kids.len:=by have:=dT Z;omega
  obtain⟨J,O,Q,F,nm2,k2,r,rfl⟩:=Nd.cases1 r oM;have hi2:j+(r.len+1)=kids.len:=hi3;obtain⟨htx2,hkx2,hrx2⟩:=htxb;have hrs2:k2.size+r.size+1≤kids.size:=hrs;have hkl2:=Nd.len_le k2;refine H4 0 C ?_;rintro⟨eb,eo,ka,kc⟩ rfl;refine Af 15 [100,0,0,0] (aI oM<|y2<|λb3=>y<|y<|λ_=>A6 119 C C (λh3=>?_) (λh3=>?_));exact Aa 9 (aI ⟨oM,oM⟩<|λ_=>C0 ((j+1,r,cl)) (show r.len<(Nd.cons J O Q F nm2 k2 r).len from Nat.lt_succ_self _) ⟨show j+1+r.len=_ by omega,hdc.trans (Uc (by simpa using h3)),hwc,hrx2,show r.size≤_ by omega⟩ lE (λw f D=>⟨_,D.less (sD (sK (sK sZ))) sR nE (mR [1,3,4,5])⟩));refine Aa 4 (λ_=>?_);have G:(J==42)=true:=by have h9:(J != 42)=false:=h3;simpa using h9
  refine mxi (λes w f=>Ef 131 222 A ({s with vars:=v,datas:=(tx,(d.length:Int))::s.datas,cons:=cl}:CS) vm m w f∧BM Ck w A.km es∧BN w f cl es) (λw f h=>let ⟨es,h1,Z⟩:=h.1.cons;⟨es,h,h1,Z⟩) (λes w f w' f' h hF hb=>⟨Ef.stab w f w' f' h.1 hF hb,h.2.1.heap (hb _ (.inl (.inr (.inr (.inr (.inl C)))))),BN.mono hF _ _ h.2.2⟩) λes=>IF (λw f D=>(show Kq es from BN.dis D.res.2.2 hwc.dc)) λhdis=>?_
  cases hcl:Bo cl F with
  |none =>
   refine IF (λw f D=>(BN.look D.res.2.2).1 hcl) λhlk=>IQ (λw=>AE w A.cb [pB A.sb,.map (some A.km),.map (some A.dm),.map (some A.rm),iV v] 131∧BM Ck w A.km es) (λw f h _=>⟨h.1.1.blk,h.2.1⟩) [0,1,2] Aj (rd [0,1,2,3,4,5,6,7,8,9] (.br 10 (.br 11 (.rd 12 .fin) .fin) .fin)) C kR kR kR (λ_ _ _ _ _ h=>h)<|AN 3 (λ_=>CP C C C (λw L=>Ai C Mg L.2.2.1 C)<|Bh 2 [0] (y<|λ_=>CP C C C (λw L=>K4 (K:=Ck) (a:=F) C C LM Fp QB L.2.2.2 hdis hlk)<|AN 3 (λ_=>Ah C<|Aa 2 (λb4=>λ_=>AS [1,2,3] (λw f h _=>⟨h.1.1.blk,h.2.1⟩) C (λ_ h=>h) ?_))));refine Ah C<|Af 2 [0] (y<|λ_=>AS [1,2,3] (λw f h _=>⟨h.1.1.blk,h.2.1⟩) C (λ_ h=>h)<|AN 1 (λ_=>Bp<|Af 7 [1] (y<|λ_=>DC (α:=Unit) (val:=λ_=>.tuple #[]) (q:=λ_=>true=true) (I':=λ_=>Ef 131 222 A ({s with vars:=v,datas:=(tx,(d.length:Int))::s.datas,cons:=cl}:CS) vm m) (F':=λ_=>[]) (pe:=λer=>true=false∧er=(O,Q,11)) (M:=λ_=>False) (T:=114) C C (eC Ew C C) (λ_ h=>h.elim) (λw f D=>(Cd w f D.vl true O Q).mono (λ_ _ ⟨x,f2,h1,Z,h3,h4⟩=>⟨x,f2,h1,Z,h3.mono (λ_ h=>h.elim),(D.call0 h3).res.1,h4⟩) λ_ _ h=>h) (λ_=>Ef.stab) (λ_=>trivial) (λer w2 f2 he hE=>⟨C,er,f2,C,(by cases he.1),hE⟩) ?_)));rintro⟨⟩ hnd;refine Af 21 [2,0,2] (y<|λb5=>y<|y<|λ_=>KR 123 4 ?_);refine D6 (α:=Nat×Nd×Ty×lV×oA×Nat) (λx=>x.2.1.len) (λx=>x.1+x.2.1.len=k2.len∧x.2.2.1.len=x.1∧Gr ((tx,(d.length:Int))::s.datas) m k2=(match Gr ((tx,(d.length:Int))::s.datas) m x.2.1 with|.error x=>.error x|.ok l=>.ok (x.2.2.1.app l))∧x.2.2.1.bnd∧x.2.1.txb∧x.2.1.size≤k2.size) (λx=>(E12 0 (pB A.cb) 6 (.map (some vm)) 7 (pB b2) 8 (.slice na2 d.length nc2) 14 (pB b3) 17 (pB b5) 111 (.slice (some ⟨eb,eo,none⟩) kids.len nc) 112 (iV (kids.len:Int)) 113 (iV (j:Int)) 139 (.slice ka k2.len kc) 140 (iV (k2.len:Int)) 141 (iV (x.1:Int)))) (λx=>⟨B2 A,λb=>B2 A b∨b=vm,Ef 131 222 A ({s with vars:=v,datas:=(tx,(d.length:Int))::s.datas,cons:=cl}:CS) vm m,w,f⟩) (λx=>[⟨b5,[.slice x.2.2.2.2.1 x.1 x.2.2.2.2.2,iV 1,iV 0,S tx,.slice ra d.length rc,.slice na2 d.length nc2],174,true⟩,⟨b3,Kd J O Q F nm2 ka k2.len kc,121,true⟩,⟨b2,[iV 1,iV 0,S tx,.slice ra d.length rc],123,true⟩,⟨b1,[iV op,iV ln,iV co,S tx,iV nm,.slice (some ⟨eb,eo,none⟩) kids.len nc],121,true⟩]) (λx=>[⟨123,4,x.2.2.2.2.1,x.2.2.2.2.2,x.1,x.2.2.2.1⟩]) (λx=>[]) (λx=>[λw f=>Bc w f ka x.1 x.2.1,λw f=>AU w f x.2.2.1 x.2.2.2.1,λw f=>EY w f,λw f=>B7 w f d na2 nc2,λw f=>Ae w f self ra rc,λw f=>Bc w f (some ⟨eb,eo,none⟩) (j+1) r]) (0,k2,.nil,[],none,0) ⟨Nat.zero_add _,C,OF,tQ,hkx2,Nat.le_refl _⟩ lE (λw f D=>D.more (B':=[]) (F':=[λw f=>Bc w f ka 0 k2,λw f=>AU w f .nil []]) nE (AA.mem ⟨AJ.at D.f0,C,tQ⟩) (Ap.mem ⟨Bc.mono,AU.mono,tQ⟩) |>.less (sK (sD (sK (sK (sK sZ))))) sR nE (mR [0,1,7,5,6,3])) ?_;rintro⟨i4,Y,dn,xs4,ra5,rc5⟩ ⟨hi4,hdl2,hty,hdb,htxb4,hrs4⟩
   dsimp only at hi4 hdl2 hty hdb htxb4 hrs4 ⊢;refine Aa 6 (λ_=>A6 142 C C (λh4=>?_) (λh4=>?_));refine Aa 6 (λ_=>?_);have hil4:i4<k2.len:=by have:=dT h4;omega
   obtain⟨op3,ln3,co3,tx3,nm3,k3,Y,rfl⟩:=Nd.cases1 Y oM;have hi5:i4+(Y.len+1)=k2.len:=hi4;obtain⟨htx3,hkx3,hrx3⟩:=htxb4;have hrs4b:k3.size+Y.size+1≤k2.size:=hrs4;refine H4 0 C ?_;rintro⟨eb4,eo4,ka4,kc4⟩ rfl;refine Af 7 [100,0,0] (aI oM<|y2<|λb6=>y<|λ_=>Ca [0,2,3,4] Aj (rd [0,2,3,4] (.br 1 (.br 5 (.br 6 (.br 7 (.rd 8 (.br 9 .fin .fin)) .fin) .fin) .fin) (.br 5 (.br 1 (.br 6 (.br 7 (.rd 8 (.br 9 .fin .fin)) .fin) .fin) (.br 6 (.br 1 (.br 7 (.rd 8 (.br 9 .fin .fin)) .fin) .fin) .fin)) .fin))) C kR<|Bh 4 [0] (y<|λ_=>Bj C ?_ ?_));refine Af 2 [1] (y<|λ_=>Am [0,2,3,4] C<|Ah C<|DC (I':=λ_=>Ef 131 222 A ({s with vars:=v,datas:=(tx,(d.length:Int))::s.datas,cons:=cl}:CS) vm m) (M:=λ_=>False) (α:=T1×oA×Nat) (val:=λx=>tV x.1 x.2.1 x.2.2) (q:=λx=>CR ((tx,(d.length:Int))::s.datas) m op3 ln3 co3 tx3 k3=.ok x.1∧x.1.bnd) (F':=λx=>[λw f=>Ae w f x.1.kids x.2.1 x.2.2]) (pe:=λer=>CR ((tx,(d.length:Int))::s.datas) m op3 ln3 co3 tx3 k3=.error er) (T:=114) C C (eC NN C C) (λ_ h=>h.elim) (λw f D=>(KX (k3.size+1) w f D.vl A ({s with vars:=v,datas:=(tx,(d.length:Int))::s.datas,cons:=cl}:CS) D.res.1 hwc D.f4 op3 ln3 co3 nm3 tx3 k3 ka4 kc4 (.map (some vm)) m (Nat.lt_succ_self _) oM htx3 hkx3 (.inr ⟨vm,C,D.res.2,W,hmv⟩) D.f0).mono (λ_ _ ⟨x,f2,h1,Z,h3,h4⟩=>⟨x,f2,h1,Z,h3.mono (λ_ h=>h.elim),(D.call0 h3).res,h4⟩) λ_ _ h=>h) (λ_=>Ef.stab) (λ_=>⟨Ae.mono,tQ⟩) (λer w2 f2 he hE=>⟨C,er,f2,C,(by rw[IH,if_neg hnd0,hdv2];simp only;rw[hdc,Od G hcl (by rw[hty,Jd he])]),hE⟩) ?_);rintro⟨q5,qa,qc⟩ ⟨hp5,hqb⟩;dsimp only at hp5 hqb ⊢;refine Aa 1 (λ_=>Am [0,2,3,4] C<|Ah C<|Aa 2 (λb7=>λ_=>Am [1,3,4,5] C<|Ah C<|BW 0 0 C C Cu C C C C C C C C (λ_ _=>C) oM oM λra6 rc6=>Aa 1 (λ_=>Am [1,3,4,5] C<|AN 1 (λ_=>?_))));exact Ah C<|Af 2 [2] (y<|λ_=>Am [1,3,4,5] C<|Bp<|Aa 6 (aI ⟨oM,oM⟩<|λ_=>C0 ((i4+1,Y,dn.snoc q5,xs4++tC q5 qa qc,ra6,rc6)) (show Y.len<(Nd.cons op3 ln3 co3 tx3 nm3 k3 Y).len from Nat.lt_succ_self _) ⟨show i4+1+Y.len=_ by omega,show (dn.snoc _).len=i4+1 by rw[Ty.len_snoc,hdl2],hty.trans (GA hp5),show (dn.snoc _).bnd from Ty.bnd_snoc hdb hqb,hrx3,show Y.size≤_ by omega⟩ lE (λw f D=>⟨_,(D.more (B':=[]) (F':=[λw f=>AU w f (dn.snoc q5) (xs4++tC q5 qa qc)]) nE (AA.mem ⟨AU.snoc D.f0 D.f4,tQ⟩) (Ap.mem ⟨AU.mono,tQ⟩)).less (sD (sD (sK (sK (sK (sK sZ)))))) sR nE (mR [3,0,6,7,8,9])⟩)))
   refine Ah C<|DC (I':=λ_=>Ef 131 222 A ({s with vars:=v,datas:=(tx,(d.length:Int))::s.datas,cons:=cl}:CS) vm m) (M:=λ_=>False) (α:=T1×oA×Nat) (val:=λx=>tV x.1 x.2.1 x.2.2) (q:=λx=>CR ((tx,(d.length:Int))::s.datas) m op3 ln3 co3 tx3 k3=.ok x.1∧x.1.bnd) (F':=λx=>[λw f=>Ae w f x.1.kids x.2.1 x.2.2]) (pe:=λer=>CR ((tx,(d.length:Int))::s.datas) m op3 ln3 co3 tx3 k3=.error er) (T:=114) C C (eC NN C C) (λ_ h=>h.elim) (λw f D=>(KX (k3.size+1) w f D.vl A ({s with vars:=v,datas:=(tx,(d.length:Int))::s.datas,cons:=cl}:CS) D.res.1 hwc D.f4 op3 ln3 co3 nm3 tx3 k3 ka4 kc4 (.map (some vm)) m (Nat.lt_succ_self _) oM htx3 hkx3 (.inr ⟨vm,C,D.res.2,W,hmv⟩) D.f0).mono (λ_ _ ⟨x,f2,h1,Z,h3,h4⟩=>⟨x,f2,h1,Z,h3.mono (λ_ h=>h.elim),(D.call0 h3).res,h4⟩) λ_ _ h=>h) (λ_=>Ef.stab) (λ_=>⟨Ae.mono,tQ⟩) (λer w2 f2 he hE=>⟨C,er,f2,C,(by rw[IH,if_neg hnd0,hdv2];simp only;rw[hdc,Od G hcl (by rw[hty,Jd he])]),hE⟩) ?_;rintro⟨q5,qa,qc⟩ ⟨hp5,hqb⟩;dsimp only at hp5 hqb ⊢;refine Aa 1 (λ_=>Am [0,2,3,4] C<|Bj C ?_ ?_);refine Af 2 [1] (y<|λ_=>Am [0,2,3,4] C<|Ah C<|Aa 2 (λb7=>λ_=>Am [1,3,4,5] C<|Ah C<|BW 0 0 C C Cu C C C C C C C C (λ_ _=>C) oM oM λra6 rc6=>Aa 1 (λ_=>Am [1,3,4,5] C<|AN 1 (λ_=>?_))));exact Ah C<|Af 2 [2] (y<|λ_=>Am [1,3,4,5] C<|Bp<|Aa 6 (aI ⟨oM,oM⟩<|λ_=>C0 ((i4+1,Y,dn.snoc q5,xs4++tC q5 qa qc,ra6,rc6)) (show Y.len<(Nd.cons op3 ln3 co3 tx3 nm3 k3 Y).len from Nat.lt_succ_self _) ⟨show i4+1+Y.len=_ by omega,show (dn.snoc _).len=i4+1 by rw[Ty.len_snoc,hdl2],hty.trans (GA hp5),show (dn.snoc _).bnd from Ty.bnd_snoc hdb hqb,hrx3,show Y.size≤_ by omega⟩ lE (λw f D=>⟨_,(D.more (B':=[]) (F':=[λw f=>AU w f (dn.snoc q5) (xs4++tC q5 qa qc)]) nE (AA.mem ⟨AU.snoc D.f0 D.f4,tQ⟩) (Ap.mem ⟨AU.mono,tQ⟩)).less (sD (sD (sK (sK (sK (sK sZ)))))) sR nE (mR [3,0,6,7,8,9])⟩)));refine Ah C<|Aa 2 (λb7=>λ_=>Am [1,3,4,5] C<|Ah C<|Af 2 [2] (y<|λ_=>Am [1,3,4,5] C<|Ah C<|BW 0 0 C C Cu C C C C C C C C (λ_ _=>C) oM oM λra6 rc6=>Aa 1 (λ_=>Am [1,3,4,5] C ?_)));exact AN 1 (λ_=>Ah C<|Af 2 [2] (y<|λ_=>Am [1,3,4,5] C<|Bp<|Aa 6 (aI ⟨oM,oM⟩<|λ_=>C0 ((i4+1,Y,dn.snoc q5,xs4++tC q5 qa qc,ra6,rc6)) (show Y.len<(Nd.cons op3 ln3 co3 tx3 nm3 k3 Y).len from Nat.lt_succ_self _) ⟨show i4+1+Y.len=_ by omega,show (dn.snoc _).len=i4+1 by rw[Ty.len_snoc,hdl2],hty.trans (GA hp5),show (dn.snoc _).bnd from Ty.bnd_snoc hdb hqb,hrx3,show Y.size≤_ by omega⟩ lE (λw f D=>⟨_,(D.more (B':=[]) (F':=[λw f=>AU w f (dn.snoc q5) (xs4++tC q5 qa qc)]) nE (AA.mem ⟨AU.snoc D.f0 D.f4,tQ⟩) (Ap.mem ⟨AU.mono,tQ⟩)).less (sD (sD (sK (sK (sK (sK sZ)))))) sR nE (mR [3,0,6,7,8,9])⟩))));refine Aa 3 (λ_=>Dl<|Aa 2 (λ_=>?_));obtain rfl:Y=.nil:=Nd.len0 (by have:=dF h4;omega)
   have hty2:Gr ((tx,(d.length:Int))::s.datas) m k2=.ok dn:=by rw[hty];show (Except.ok (dn.app .nil):RI Ty)=_;rw[Ty.app_nil]
   have hdk:dn.len≤200000:=by have:i4+0=k2.len:=hi4;omega
   subst hdl2;refine Ud (λw f=>Ae w f dn ra5 rc5) Ae.mono (λw f D=>El D D.f1)<|IQ (λw=>AE w A.cb [pB A.sb,.map (some A.km),.map (some A.dm),.map (some A.rm),iV v] 131) (λw f h _=>h.1.blk) [0,1,2,3] Aj (rd [0,1,2,3,4,5,6] (.br 7 .fin .fin)) C kR kR kR (λ_ _ _ _ _ h=>h)<|AN 3 (λ_=>CP C C C (λw L=>Ai C Mg L.2.2 C)<|Bh 3 [1,0] (y<|y<|λ_=>Ah C<|dCons (m:=⟨dn,.con tx self,d⟩) (aa:=ra5) (ac:=rc5) (oa:=ra) (oc:=rc) (va:=na2) (vc:=nc2) (i1:=0) (i2:=5) (i3:=4) hA hvm hwc C C C C (by unfold iZ tC;simp only[T1.kids,hsl];rfl) LM Fp hcl C C C<|Aa 1 (λ_=>AS [0,1,2,3] (λw f h _=>h.1.blk) C (λ_ h=>h)<|Bp ?_)));exact Aa 6 (aI ⟨oM,oM⟩<|λ_=>C0 ((j+1,r,(F,⟨dn,.con tx self,d⟩)::cl)) (show r.len<(Nd.cons J O Q F nm2 k2 r).len from Nat.lt_succ_self _) ⟨show j+1+r.len=_ by omega,hdc.trans (Wx G hcl hty2),hwc.addCons hcl ⟨hdk,hdb,BS oM oM hsb,by dsimp only;omega⟩,hrx2,show r.size≤_ by omega⟩ lE (λw f D=>⟨_,D.less (sD (sD (sK (sK sZ)))) sR nE (mR [6,4,5,3])⟩))
  |some mk =>
   refine Ja (α:=oA×Nat×oA×Nat×oA×Nat) (λx=>EF es F=some (.agg (iZ mk x.1 x.2.1 x.2.2.1 x.2.2.2.1 x.2.2.2.2.1 x.2.2.2.2.2).toArray)) (λx=>[]) (λx=>[]) (λw f D=>let ⟨aa,ac,oa,oc,va,vc,h1,_⟩:=(BN.look D.res.2.2).2 mk hcl;⟨(aa,ac,oa,oc,va,vc),h1,nE,nE⟩) (λx _ h=>by cases h) ?_;rintro⟨aa,ac,oa,oc,va,vc⟩ hlk;refine IQ (λw=>AE w A.cb [pB A.sb,.map (some A.km),.map (some A.dm),.map (some A.rm),iV v] 131∧BM Ck w A.km es) (λw f h _=>⟨h.1.1.blk,h.2.1⟩) [0,1,2] Aj (rd [0,1,2,3,4,5,6,7,8,9] (.br 10 (.br 11 (.rd 12 .fin) .fin) .fin)) C kR kR kR (λ_ _ _ _ _ h=>h)<|AN 3 (λ_=>CP C C C (λw L=>Ai C Mg L.2.2.1 C)<|Bh 2 [0] (y<|λ_=>CP C C C (λw L=>K5 (K:=Ck) (a:=F) C C LM Fp QB L.2.2.2 hdis hlk)<|AN 3 (λ_=>Ah C<|Aa 2 (λb4=>λ_=>AS [1,2,3] (λw f h _=>⟨h.1.1.blk,h.2.1⟩) C (λ_ h=>h)<|Ah C ?_))));exact Af 2 [0] (y<|λ_=>AS [1,2,3] (λw f h _=>⟨h.1.1.blk,h.2.1⟩) C (λ_ h=>h)<|AN 1 (λ_=>Bp<|Af 7 [1] (y<|λ_=>Pq C C (eC Ew C C) (λ_ h=>h.elim) (λw f D=>(Cd w f D.vl false O Q).mono (λ_ _ ⟨_,_,_,h,_⟩=>by cases h) λ_ _ h=>h) (λer w2 f2 he hE=>⟨C,er,f2,C,(by rw[IH,if_neg hnd0,hdv2];simp only;rw[hdc,RS G hcl,he.2]),hE⟩))))
  refine Aa 3 (λ_=>Dl<|Aa 1 (λ_=>?_));obtain rfl:r=.nil:=Nd.len0 (by have:=dF Z;omega);have hdc2:Ed ((tx,(d.length:Int))::s.datas) m (.con tx self) d kids s.cons=.ok cl:=hdc;exact iW (λw f D=>Gp C) (λw f D=>⟨({s with vars:=v,datas:=(tx,(d.length:Int))::s.datas,cons:=cl}:CS),f,C,⟨(by rw[IH,if_neg hnd0,hdv2];simp only;rw[hdc2]),hwc,C,by dsimp only;omega,hv2⟩,D.exm,D.res.1,tQ⟩)
 |some cnt =>
  refine IQ (λw=>AE w A.cb [pB A.sb,.map (some A.km),.map (some A.dm),.map (some A.rm),iV s.vars] 131∧BM Ck w A.dm (s.datas.map λp=>(p.1,iV p.2))) (λw f h _=>⟨h.blk,h.datas⟩) [0] Aj (rd [0,1,2,3,4,5,6,7,8,9,10,11] .fin) C kR kR kR (λ_ _ _ _ _ h=>h)<|AN 3 (λ_=>CP C C C (λw L=>Ai C OB L.2.2.1 C)<|Bh 2 [0] (y<|λ_=>CP C C C (λw L=>K5 (K:=Ck) (a:=tx) (v:=iV cnt) C C NA Fp lT L.2.2.2 hw.dd (by rw[Ej (λc=>Value.int .i64 c),hdl];rfl))<|AN 5 (λ_=>Bp<|Aa 2 (λ_=>Ca [0] Aj (rd [0,1,2,3,4,5,6,10,11] (.br 7 (.rd 8 (.rd 9 (.br 12 .fin .fin))) .fin)) C kR<|Bh 9 [0] (y<|λ_=>?_)))));exact Ah C<|Aa 2 (λ_=>Am [0] C<|AN 2 (λ_=>Ah C<|Pq C C (eC Ew C C) (λ_ h=>h.elim) (λw f D=>(Cd w f D.vl false ln co).mono (λ_ _ ⟨_,_,_,h,_⟩=>by cases h) λ_ _ h=>h) (λer w2 f2 he hE=>⟨C,er,f2,C,(by rw[IH,if_pos (by rw[hdl];rfl),he.2]),hE⟩)))
theorem eH(w:wO)(f:Fq)(hv:Vl w f)(hG:EY w f)(ob:Nat)(oa:oA)(oc D:Nat)(F:lV)(l:List Tr)(hP:Fi 175 178 ob (.slice oa D oc) oa oc D F w f)(hL:Dp w f l F)(hf:∀b,RW ob oa b→f b=0)(hn0:D≤1000)(G:lU)(fs:List lU)(hfs:Lib.fields G=fs)(hns:G.length≤1000)(L:G.all (λc=>decide (c.toNat<128))=true)(hfl:fs.length≤1000)(k:Ty)(ka:oA)(kc:Nat)(O:0<k.len)(hkl:k.len≤1000)(Q:k.bnd)(hT:Ae w f k ka kc) :
  AO prog 128 #[S G,.slice ka k.len kc,pB ob] w (NG (α:=oA×Nat×lV) (λ_=>.tuple #[]) (λ_=>True) (RW ob oa) (λx=>RW ob x.1) (λx=>Fi 175 178 ob (.slice x.1 (D+fs.length) x.2.1) x.1 x.2.1 (D+fs.length) x.2.2) (λx=>[λw f=>Dp w f (l++fs.map (λnm=>(nm,(k.len:Int)-1,KH k))) x.2.2]) w f):=by
 refine Hm (X:=⟨RW ob oa,RW ob oa,Fi 175 178 ob (.slice oa D oc) oa oc D F,w,f⟩) (H:=[]) (R:=[]) (B:=[]) (Fs:=[λw f=>EY w f,λw f=>Ae w f k ka kc,λw f=>Dp w f l F]) (f:=f) func128 C C C (LX (M:=RW ob oa) hv hP Fi.stab (λb K=>⟨hP.lt K,hf b K⟩) ⟨hG,hT,hL,tQ⟩ ⟨EY.mono,Ae.mono,Dp.mono,tQ⟩)<|Aa 3 (λ_=>BV C C (eC kJ C C) (λw f d=>Ua w f d.vl d.f0 G oM L) (λx=>⟨dN.mono,tQ⟩) ?_);rintro⟨sa,sc⟩ -;rw[hfs];refine Aa 5 (λ_=>?_);refine D6 (α:=Nat×oA×Nat×lV) (λx=>fs.length-x.1) (λx=>x.1≤fs.length) (λx=>(E5 1 (.slice ka k.len kc) 2 (pB ob) 8 (.slice sa fs.length sc) 9 (iV (fs.length:Int)) 10 (iV (x.1:Int)))) (λx=>⟨RW ob oa,RW ob x.2.1,Fi 175 178 ob (.slice x.2.1 (D+x.1) x.2.2.1) x.2.1 x.2.2.1 (D+x.1) x.2.2.2,w,f⟩) (λx=>[]) (λx=>[]) (λx=>[]) (λx=>[λw f=>dN w f fs sa sc,λw f=>Ae w f k ka kc,λw f=>Dp w f (l++(fs.take x.1).map (λnm=>(nm,(k.len:Int)-1,KH k))) x.2.2.2]) (0,oa,oc,F) (Nat.zero_le _) lE (λw f d=>(by have hM9:=d.more (B':=[]) (F':=[λw f=>Dp w f (l++(fs.take 0).map (λnm=>(nm,(k.len:Int)-1,KH k))) F]) nE (AA.mem ⟨by simpa using d.f3,tQ⟩) (Ap.mem ⟨Dp.mono,tQ⟩);exact hM9.less sR sR nE (mR [1,3,0]))) ?_;rintro⟨i,U,W,xs⟩ hi;dsimp only at hi ⊢;refine Aa 6 (λ_=>?_)
 ·
  refine A6 11 C C (λJ=>?_) (λJ=>?_);refine Aa 6 (λ_=>?_);have hil:i<fs.length:=by have:=dT J;omega
  obtain⟨nm,hx⟩:∃v,fs[i]?=some v:=⟨_,List.getElem?_eq_getElem hil⟩;refine Ja (α:=Nat) (λx=>sa=some ⟨x,0,none⟩) (λx=>[⟨x,0+i*1,[S nm]⟩]) (λx=>[]) (λw f d=>let ⟨_,b,J,h2⟩:=d.f0;⟨b,J,(λe he=>by cases he with|head=>(rw[Nat.mul_one];exact Cs.at h2 (by rw[List.getElem?_map,hx];rfl))|tail _ h=>cases h),λ_ h=>by cases h⟩) (λx=>Ap.mem tQ) ?_;rintro sb rfl;refine Af 6 [100,0] (aI oM<|y2<|λ_=>Ca [] Aj (rd [1,2,3,4,5] (.br 0 (.br 6 (.rd 7 (.br 8 (.br 9 (.br 10 .fin .fin) .fin) .fin)) .fin) (.br 6 (.rd 7 (.br 0 (.br 8 (.br 9 (.br 10 .fin .fin) .fin) .fin) (.br 8 (.br 0 (.br 9 (.br 10 .fin .fin) .fin) .fin) .fin))) .fin))) C kR<|AN 5 (aI ⟨oM,oM⟩<|λ_=>Bj C ?_ ?_));refine Cz C C (λw f d=>Ai C Om d.res.blk C)<|Aa 1 (λ_=>Am [] C<|Ah C<|BV C C (eC Nv C C) (λw f d=>MP w f d.vl k ka kc O oM Q d.f1) (λx=>⟨Ae.mono,tQ⟩) ?_);rintro⟨Y,Z⟩ -;refine Aa 1 (λ_=>Am [] C<|AN 1 (λ_=>Ah C<|Aa 2 (λb1=>λ_=>?_)))
  rotate_left
  refine Ah C<|BV C C (eC Nv C C) (λw f d=>MP w f d.vl k ka kc O oM Q d.f1) (λx=>⟨Ae.mono,tQ⟩) ?_;rintro⟨Y,Z⟩ -;refine Aa 1 (λ_=>Am [] C<|AN 1 (λ_=>Bj C ?_ ?_));refine Cz C C (λw f d=>Ai C Om d.res.blk C)<|Aa 1 (λ_=>Am [] C<|Ah C<|Aa 2 (λb1=>λ_=>?_))
  rotate_left
  refine Ah C<|Aa 2 (λb1=>λ_=>Am [] C<|Ah C<|Cz C C (λw f d=>Ai C Om d.res.blk C)<|Aa 1 (λ_=>?_))
  rotate_left
  refine Aa 3 (λ_=>Dl<|Aa 1 (λ_=>?_));obtain rfl:i=fs.length:=by have:=dF J;omega
  exact iW (λw f d=>Gp C) (λw f d=>⟨(U,W,xs),f,C,tQ,d.exm,(λb K=>let ⟨J,h2,h3⟩:=d.mi b K;h3.elim (λh=>.inr ⟨h,J,h2⟩) .inl),d.res,⟨by have h9:=d.f2;rw[List.take_length] at h9;exact h9,tQ⟩⟩)
  all_goals
   refine Am [] C<|Ah C<|ZP (MI':=RW ob) (I':=λa' c'=>Fi 175 178 ob (.slice U (D+i) W) a' c' (D+i+1) (xs++pC (nm,(k.len:Int)-1,KH k) Y Z)) 0 C C rZ C C C C C C C oM oM (λw f h=>h.row) (λb h=>.inr h) (λ_ _ h=>RW.or h) (λw f w2 a2 c2 h d hr hG=>h.app hr hG) (λ_ _=>Fi.stab) λa2 c2=>Aa 1 (λ_=>Am [] C<|Ah C<|lZ (b:=ob) (I':=Fi 175 178 ob (.slice a2 (D+i+1) c2) a2 c2 (D+i+1) (xs++pC (nm,(k.len:Int)-1,KH k) Y Z)) C C C C Om C C C (.inl C) (λw f h=>h.blk) (λw f w2 h d hC K=>h.store hC K) Fi.stab<|Aa 1 (λ_=>Am [] C<|Bp ?_));exact Aa 6 (aI ⟨oM,oM⟩<|λ_=>C0 ((i+1,a2,c2,xs++pC (nm,(k.len:Int)-1,KH k) Y Z)) (show fs.length-(i+1)<fs.length-i by omega) (show i+1≤_ by omega) lE (λw f d=>⟨_,(d.more (B':=[]) (F':=[λw f=>Dp w f (l++(fs.take (i+1)).map (λnm=>(nm,(k.len:Int)-1,KH k))) (xs++pC (nm,(k.len:Int)-1,KH k) Y Z)]) nE (AA.mem ⟨by rw[Dx hx,List.map_append,← List.append_assoc];exact Dp.snoc (p:=(nm,(k.len:Int)-1,KH k)) d.f0 d.f3,tQ⟩) (Ap.mem ⟨Dp.mono,tQ⟩)).less (sD sZ) sR nE (mR [2,3,0])⟩))

def Rt:lV:=[S [70,97,108,115,101],S [98,111,111,108],iV 0,iV 0,S [84,114,117,101],S [98,111,111,108],iV 1,iV 0,S [68,105,118],S [101,120,110],iV 0,iV 0,S [77,97,116,99,104],S [101,120,110],iV 1,iV 0,S [65,98,111,114,116],S [101,120,110],iV 2,iV 0,S [75,101,101,112],S [101,120,110],iV 3,iV 0,S [79,117,116],S [101,120,110],iV 4,iV 0,S [70,97,105,108],S [101,120,110],iV 5,iV 1]
theorem Wy(w:wO)(f:Fq)(h:Vl w f)  :
  AO prog 86 #[.slice none 0 0] w (AF (α:=Nat) (λb=>.slice (some ⟨b,0,none⟩) 8 8) (λ_=>True) (λb=>[λw f=>Cs w f b 0 Rt]) w f):=by
 refine Dq [] func86 C C C (AR h tQ tQ)<|Aa 28 (λb1=>λ_=>?_);refine D6 (α:=Unit) (λx=>0) (λx=>True) (λx=>(E3 3 (.slice (some ⟨b1,0,none⟩) 8 8) 19 (iV ((0:Nat):Int)) 20 (iV 0))) (λx=>X0 w f) (λx=>[⟨b1,Rt,172,true⟩]) (λx=>[]) (λx=>[]) (λx=>[]) (()) tQ lE (λw f d=>d) ?_;rintro⟨⟩ -;exact Aa 9 (λ_=>Dl<|Aa 9 (λ_=>CJ 0 C C<|AK (Cy C C) (λw f d=>⟨b1,f,C,tQ,d.exm,⟨d.b0,tQ⟩⟩)))
abbrev zA:=Nat×Nat×Nat×Nat×(oA×Nat)×(oA×Nat)
abbrev Q3:=T1×oA×Nat
abbrev qI:Q3:=(c0 bI,none,0)
abbrev qF:Q3:=(c0 bF,none,0)
abbrev qS:Q3:=(c0 bS,none,0)
abbrev qB:Q3:=(c0 bB,none,0)
abbrev qU:Q3:=(c0 bU,none,0)
abbrev qV:Q3:=(.var 1,none,0)
abbrev qR(a:oA)(c:Nat):Q3:=(T1.con Gw (T1.var 1).one,a,c)
abbrev qP(a:oA)(c:Nat):Q3:=(T1.con Cl (T1.var 1).one,a,c)
def pm(x:lU)(l:List Q3):Tr:=(x,((Pj l).len:Int)-1,KH (Pj l))
theorem kI:(c0 bI).bnd:=CN dC
theorem kF:(c0 bF).bnd:=CN dC
theorem kS:(c0 bS).bnd:=CN dC
theorem kB:(c0 bB).bnd:=CN dC
theorem kU:(c0 bU).bnd:=CN dC
theorem kV:(T1.var 1).bnd:=B8 _
variable {Q:AQ}{σ:AW}{f:Fq}{F0:List (wO→Fq→Prop)}{ds:List Deferred}{B:List FB}{fs:List Fr}{H H':List HB}{xs:lV}{b d n n0 ob oc:Nat}{M:Nat→Prop}{g:Option (Nat×Bool)}{oa:oA}{T:tI}{w w0:wO}
theorem qN:Ae w f .nil none 0:=Ae.nil _ _ _ _
def H3:List Nat→Nat→Bool
 | [],_=>false
 |a::l,b=>bif Nat.beq a b then true else H3 l b
def sU(c:Bool)(d:Nat)(v:Value)(σ:AW):AW:=bif c then AD σ d v else σ
def sL{α:Type}(c:Bool)(e:α)(l:List α):List α:=bif c then e::l else l
def LF(b1 b2 b3 b4 b5 b6:Nat)(S:List Nat)(x:zA):AW :=
 sU (H3 S 7) 8 (pB x.2.2.2.1)<|sU (H3 S 6) 7 (pB x.2.2.1)<|sU (H3 S 5) 22 (tV (T1.con Cl (T1.var 1).one) x.2.2.2.2.2.1 x.2.2.2.2.2.2)<|sU (H3 S 2) 19 (tV (T1.con Gw (T1.var 1).one) x.2.2.2.2.1.1 x.2.2.2.2.1.2) <|
 sU (H3 S 4) 21 (.slice (some ⟨x.2.1,0,none⟩) 1 1)<|sU (H3 S 1) 18 (.slice (some ⟨x.1,0,none⟩) 1 1)<|E8 1 (pB b1) 2 (pB b2) 3 (pB b3) 4 (pB b4) 5 (pB b5) 6 (pB b6) 17 (tV (.var 1) none 0) 20 (tV (.var 1) none 0)
def HT(b1 b2 b3 b4 b5 b6:Nat)(S:List Nat)(x:zA):List HB :=
 sL (H3 S 7) ⟨x.2.2.2.1,zT,123,true⟩<|sL (H3 S 6) ⟨x.2.2.1,zT,123,true⟩<|sL (H3 S 4&&!H3 S 5) ⟨x.2.1,tC (.var 1) none 0,123,true⟩<|sL (H3 S 1&&!H3 S 2) ⟨x.1,tC (.var 1) none 0,123,true⟩ [⟨b6,tC (.var 1) none 0,123,true⟩,⟨b5,tC (c0 bU) none 0,123,true⟩,⟨b4,tC (c0 bB) none 0,123,true⟩,⟨b3,tC (c0 bS) none 0,123,true⟩,⟨b2,tC (c0 bF) none 0,123,true⟩,⟨b1,tC (c0 bI) none 0,123,true⟩]
def f16(S:List Nat)(x:zA):List (wO→Fq→Prop) :=
 sL (H3 S 5) (λw f=>Ae w f (T1.var 1).one x.2.2.2.2.2.1 x.2.2.2.2.2.2)<|sL (H3 S 2) (λw f=>Ae w f (T1.var 1).one x.2.2.2.2.1.1 x.2.2.2.2.1.2) [λw f=>EY w f]
def BZ:List Tr:=[pm [43] [qI,qI,qI],pm [45] [qI,qI,qI],pm [42] [qI,qI,qI],pm [100,105,118] [qI,qI,qI],pm [109,111,100] [qI,qI,qI],pm [110,101,103] [qI,qI],pm [60] [qI,qI,qB],pm [60,61] [qI,qI,qB],pm [61] [qI,qI,qB],pm [102,43] [qF,qF,qF],pm [102,45] [qF,qF,qF],pm [102,42] [qF,qF,qF],pm [102,47] [qF,qF,qF],pm [102,115,113,114,116] [qF,qF],pm [102,110,101,103] [qF,qF],pm [102,60] [qF,qF,qB],pm [102,61] [qF,qF,qB],pm [102,97,104,101,97,100] [qF,qF,qB],pm [105,116,111,102] [qI,qF],pm [102,116,111,105] [qF,qI],pm [102,98,105,116,115] [qF,qS],pm [110,97,110] [qF],pm [105,110,102] [qF],pm [99,97,116] [qS,qS,qS],pm [108,101,110] [qS,qI],pm [111,114,100] [qS,qI],pm [97,116,111,105] [qS,qI],pm [115,117,98] [qS,qI,qI,qS],pm [115,61] [qS,qS,qB],pm [115,60] [qS,qS,qB],pm [105,116,111,97] [qI,qS],pm [99,104,114] [qI,qS],pm [112,114,105,110,116] [qS,qU],pm [114,101,97,100] [qU,qS],pm [114,101,102] [qV,(qR none 0)],pm [103,101,116] [(qR none 0),qV],pm [115,101,116] [(qR none 0),qV,qU],pm [110,101,119] [qV,(qP none 0)],pm [108,111,97,100] [(qP none 0),qV],pm [115,116,111,114,101] [(qP none 0),qV,qU]]
def Y7:List (T1×oA×Nat)→Prop
 | []=>True
 |t::l=>t.1.bnd∧Y7 l
theorem MR:∀{l:List (T1×oA×Nat)},Y7 l→(Pj l).bnd
 | [],_=>trivial
 |_::_,h=>T1.bnd_cons.2 ⟨h.1,MR h.2⟩
theorem GC{f0:Fq}{all r:List Oper}{L:Operand}{args:List Operand}{ts:Array tI}{ty:tI}{pos:String}{af:Array Edge}{G:lU}(O K:Nat)(D:List Q3)
  (U:ev σ L=some (.func (.func 128) #[] [Value.pointer (some ⟨ob,0,none⟩)].toArray)) (W:IA σ args=some [S G,.slice (some ⟨b,0,none⟩) D.length D.length]) (hg:gd all σ g=some true) (hd:Nat.blt d n=true) (hk:GP H O=some ⟨b,wG D,T,true⟩) (hs:Kb H O=some H')
  (hG:∀w f H B,AP ⟨M,RW ob oa,Fi 175 178 ob (.slice oa n0 oc) oa oc n0 xs,w0,f0⟩ w f H [] B ((λw f=>Dp w f (BZ.take n0) xs)::F0)→EY w f∧hoL w f D) (Y:Y7 D)
  (h:∀a c xs,Aw prog n Q ds ⟨M,RW ob a,Fi 175 178 ob (.slice a K c) a c K xs,w0,f0⟩ [] B ((λw f=>Dp w f (BZ.take K) xs)::F0) (.ops all r) fs (AD σ d (.tuple #[])) H')
  (hp:BZ.take n0++(Lib.fields G).map (λnm=>(nm,((Pj D).len:Int)-1,KH (Pj D)))=BZ.take K:=by kernel_rfl) (hn:n0+(Lib.fields G).length=K:=by kernel_rfl)
  (hc:(Nat.ble n0 1000&&(Nat.ble G.length 1000&&(G.all (λc=>decide (c.toNat<128))&&(Nat.ble (Lib.fields G).length 1000&&(Nat.blt 0 D.length&&Nat.ble D.length 1000)))))=true:=by kernel_rfl) :
  Aw prog n Q ds ⟨M,RW ob oa,Fi 175 178 ob (.slice oa n0 oc) oa oc n0 xs,w0,f0⟩ [] B ((λw f=>Dp w f (BZ.take n0) xs)::F0) (.ops all (⟨some d,.call {callee:=.value L,args:=args.toArray,argTypes:=ts},ty,pos,af,g⟩::r)) fs σ H:=by
 simp only[Bool.and_eq_true] at hc;obtain⟨h1,h2,h3,h4,h5,h6⟩:=hc;have e:=MQ D;have Z:0<(Pj D).len:=by rw[e];exact Nat.le_of_ble_eq_true h5
 have h6':(Pj D).len≤1000:=by rw[e];exact Nat.le_of_ble_eq_true h6
 subst hn;have he':∀w,SW.Enters prog σ (.call {callee:=.value L,args:=args.toArray,argTypes:=ts}) ty w 128 #[S G,.slice (some ⟨b,0,none⟩) (Pj D).len D.length,pB ob]:=by rw[e];exact λ_=>Uy kC U W
 refine CJ O hk hs<|Cj (λw f=>Ae w f (Pj D) (some ⟨b,0,none⟩) D.length) (λw f F=>BD (hG w f _ _ F).2 F.b0) Ae.mono<|iY (XX:=λ_ _=>False) hg hd he' (λw f F=>(eH w f F.vl (hG w f _ _ (F.less sR sR (λ_ h=>h) (λ_ h=>.tail _ h))).1 ob oa oc n0 xs (BZ.take n0) F.res F.f1 F.mz (Nat.le_of_ble_eq_true h1) G (Lib.fields G) C (Nat.le_of_ble_eq_true h2) h3 (Nat.le_of_ble_eq_true h4) (Pj D) (some ⟨b,0,none⟩) D.length Z h6' (MR Y) F.f0).retP) (λ_=>Fi.stab) (λ_=>⟨Dp.mono,tQ⟩) (λ_ _ _ _ _ h=>h.elim) ?_;rintro⟨a,c,xs'⟩ -;refine λw f F=>h a c xs' w f ?_;rw[← hp];refine F.less sR sR (λe he=>.tail _ he) (λφ J=>?_);rcases List.mem_cons.1 J with rfl|J
 · exact .head _
 · exact .tail _ (.tail _ (.tail _ J))
def TJ:OT:=.br 9 .fin .fin
def Ig:OT:=.br 8 TJ .fin
def HS:OT:=.br 5 Ig .fin
def J7:OT:=.br 2 HS .fin
def MS:OT:=.br 1 J7 .fin
def L9:OT:=.br 4 HS .fin
def MW:OT:=.br 2 L9 (.br 4 J7 .fin)
def Ur:OT:=.br 1 MW (.br 4 MS .fin)
def LH:OT:=.br 6 Ig .fin
def LB:OT:=.br 5 LH (.br 6 HS .fin)
def Nq:OT:=.br 2 LB (.br 6 J7 .fin)
def Us:OT:=.br 1 Nq (.br 6 MS .fin)
def RR:OT:=.br 4 LB (.br 6 L9 .fin)
def Uk:OT:=.br 2 RR (.br 4 Nq (.br 6 MW .fin))
def qK:OT:=.br 1 Uk (.br 4 Us (.br 6 Ur .fin))
def Mz:OT:=.br 7 Ig .fin
def Ln:OT:=.br 5 Mz (.br 7 HS .fin)
def MX:OT:=.br 2 Ln (.br 7 J7 .fin)
def UF:OT:=.br 1 MX (.br 7 MS .fin)
def Qy:OT:=.br 4 Ln (.br 7 L9 .fin)
def Vm:OT:=.br 2 Qy (.br 4 MX (.br 7 MW .fin))
def pV:OT:=.br 1 Vm (.br 4 UF (.br 7 Ur .fin))
def SR:OT:=.br 6 Mz (.br 7 LH .fin)
def RM:OT:=.br 5 SR (.br 6 Ln (.br 7 LB .fin))
def VR:OT:=.br 2 RM (.br 6 MX (.br 7 Nq .fin))
def rQ:OT:=.br 1 VR (.br 6 UF (.br 7 Us .fin))
def ZN:OT:=.br 4 RM (.br 6 Qy (.br 7 RR .fin))
def pL:OT:=.br 2 ZN (.br 4 VR (.br 6 Vm (.br 7 Uk .fin)))
def t16_:OT:=.br 1 pL (.br 4 rQ (.br 6 pV (.br 7 qK .fin)))
set_option maxHeartbeats 2000000 in
theorem VW(w:wO)(f:Fq)(hv:Vl w f)(hG:EY w f) :
  AO prog 87 #[] w (AF (α:=oA×Nat) (λx=>.slice x.1 BZ.length x.2) (λ_=>True) (λx=>[λw f=>Vw w f BZ x.1 x.2]) w f):=by
 refine Dq [λw f=>EY w f] func87 C C C (AR hv ⟨hG,tQ⟩ ⟨EY.mono,tQ⟩)<|Aa 7 (λ_=>B3 C C (eC Bz C C) (λw f D=>Br w f D.vl [105,110,116])<|B3 C C (eC Bz C C) (λw f D=>Br w f D.vl [102,108,111,97,116])<|B3 C C (eC Bz C C) (λw f D=>Br w f D.vl [115,116,114,105,110,103])<|B3 C C (eC Bz C C) (λw f D=>Br w f D.vl [98,111,111,108])<|B3 C C (eC Bz C C) (λw f D=>Br w f D.vl [117,110,105,116])<|Af 14 [4,3,2,1,0] (λb1=>λb2=>λb3=>λb4=>λb5=>y<|y<|y<|y<|y<|λ_=>B3 C C (eC GL C C) (λw f D=>D8 w f D.vl 1)<|Af 5 [0] (λb6=>y<|λ_=>?_)));refine RP (α:=Nat×Nat×(oA×Nat)×(oA×Nat)) (λx=>True) (λx=>(E8 1 (pB b1) 2 (pB b2) 3 (pB b3) 4 (pB b4) 5 (pB b5) 6 (pB b6) 7 (pB x.1) 8 (pB x.2.1))) (λx=>X0 w f) (λx=>[⟨x.2.1,tC (T1.con Cl (T1.var 1).one) x.2.2.2.1 x.2.2.2.2,123,true⟩,⟨x.1,tC (T1.con Gw (T1.var 1).one) x.2.2.1.1 x.2.2.1.2,123,true⟩,⟨b6,tC (.var 1) none 0,123,true⟩,⟨b5,tC (c0 bU) none 0,123,true⟩,⟨b4,tC (c0 bB) none 0,123,true⟩,⟨b3,tC (c0 bS) none 0,123,true⟩,⟨b2,tC (c0 bF) none 0,123,true⟩,⟨b1,tC (c0 bI) none 0,123,true⟩]) (λx=>[]) (λx=>[]) (λx=>[λw f=>Ae w f (T1.var 1).one x.2.2.2.1 x.2.2.2.2,λw f=>Ae w f (T1.var 1).one x.2.2.1.1 x.2.2.1.2,λw f=>EY w f]) ?_ ?_;refine Ca [0,1,2,3,4,5] Aj (.rd 0 (.rd 3 t16_)) C kR<|Bh 2 [0,0] (y<|y<|λ_=>CW Ig (LF b1 b2 b3 b4 b5 b6 [1,2,4,5,6,7]) (HT b1 b2 b3 b4 b5 b6 [1,2,4,5,6,7]) (λ_=>[]) (f16 [1,2,4,5,6,7]) ?_ (λW=>?_))
 ·
  rintro⟨F,G,b7,O,⟨L,rc⟩,⟨J,K⟩⟩;exact Ah C<|Af 2 [1] (y<|λ_=>Am [2,3,4,5,6,7] C<|Ah C<|Af 2 [0] (y<|λ_=>Am [2,3,4,5,6,7] C<|Bp<|Ph (b7,O,(L,rc),(J,K)) tQ lE (λw f D=>⟨f,D⟩)))
 refine CW LH (LF b1 b2 b3 b4 b5 b6 [1,2,4,5,7]) (HT b1 b2 b3 b4 b5 b6 [1,2,4,5,7]) (λ_=>[]) (f16 [1,2,4,5,7]) ?_ (λhS12457=>?_)
 ·
  rintro⟨F,G,b7,O,⟨L,rc⟩,⟨J,K⟩⟩;exact Ah C<|Aa 2 (λq=>λ_=>Am [2,3,4,5,6,7] C<|AX W (F,G,q,O,(L,rc),(J,K)) lE (λw f D=>D.perm (List.perm_middle (l₁:=[_]))))
 refine CW Mz (LF b1 b2 b3 b4 b5 b6 [1,2,4,5,6]) (HT b1 b2 b3 b4 b5 b6 [1,2,4,5,6]) (λ_=>[]) (f16 [1,2,4,5,6]) ?_ (λhS12456=>?_)
 ·
  rintro⟨F,G,b7,O,⟨L,rc⟩,⟨J,K⟩⟩;exact Ah C<|Aa 2 (λq=>λ_=>Am [2,3,4,5,6,7] C<|AX W (F,G,b7,q,(L,rc),(J,K)) lE (λw f D=>D))
 refine CW HS (LF b1 b2 b3 b4 b5 b6 [1,2,4,6,7]) (HT b1 b2 b3 b4 b5 b6 [1,2,4,6,7]) (λ_=>[]) (f16 [1,2,4,6,7]) ?_ (λU=>?_)
 ·
  rintro⟨F,G,b7,O,⟨L,rc⟩,⟨J,K⟩⟩;refine Ah C<|CJ 2 C C<|Cj (λw f=>Ae w f (T1.var 1).one (some ⟨G,0,none⟩) 1) (λw f D=>BD (l:=[(.var 1,none,0)]) ⟨Ae.nil _ _ _ _,tQ⟩ D.b0) Ae.mono<|BV C C (eC Bz C C) (λw f D=>CC w f D.vl Cl (T1.var 1).one (some ⟨G,0,none⟩) 1 dC D.f0) (λ_=>⟨Ae.mono,tQ⟩) ?_;rintro⟨Z,qc⟩ -;exact Aa 1 (λ_=>AS [2,3,4,5,6,7] DG C (λ_ h=>.tail _ h)<|AX W (F,G,b7,O,(L,rc),(Z,qc)) lE (λw f D=>D.less sR sR nE (mR [0,2,3])))
 refine CW LB (LF b1 b2 b3 b4 b5 b6 [1,2,4,7]) (HT b1 b2 b3 b4 b5 b6 [1,2,4,7]) (λ_=>[]) (f16 [1,2,4,7]) ?_ (λhS1247=>?_)
 ·
  rintro⟨F,G,b7,O,⟨L,rc⟩,⟨J,K⟩⟩;refine Bj C ?_ ?_;refine CJ 1 C C<|Cj (λw f=>Ae w f (T1.var 1).one (some ⟨G,0,none⟩) 1) (λw f D=>BD (l:=[(.var 1,none,0)]) ⟨Ae.nil _ _ _ _,tQ⟩ D.b0) Ae.mono<|BV C C (eC Bz C C) (λw f D=>CC w f D.vl Cl (T1.var 1).one (some ⟨G,0,none⟩) 1 dC D.f0) (λ_=>⟨Ae.mono,tQ⟩) ?_;rintro⟨Z,qc⟩ -;exact Aa 1 (λ_=>AS [1,2,3,4,5,6] DG C (λ_ h=>.tail _ h)<|AX hS12457 (F,G,b7,O,(L,rc),(Z,qc)) lE (λw f D=>D.less sR sR nE (mR [0,2,3])));exact Ah C<|Aa 2 (λq=>λ_=>Am [3,4,5,6,7,8] C<|AX U (F,G,q,O,(L,rc),(J,K)) lE (λw f D=>D.perm (List.perm_middle (l₁:=[_]))))
 refine CW L9 (LF b1 b2 b3 b4 b5 b6 [1,2,6,7]) (HT b1 b2 b3 b4 b5 b6 [1,2,6,7]) (λ_=>[]) (f16 [1,2,6,7]) ?_ (λhS1267=>?_)
 ·
  rintro⟨F,G,b7,O,⟨L,rc⟩,⟨J,K⟩⟩;exact Ah C<|Aa 2 (λq=>λ_=>Am [3,4,5,6,7,8] C<|AX U (F,q,b7,O,(L,rc),(J,K)) lE (λw f D=>D.perm (List.perm_middle (l₁:=[_,_]))))
 refine CW Ln (LF b1 b2 b3 b4 b5 b6 [1,2,4,6]) (HT b1 b2 b3 b4 b5 b6 [1,2,4,6]) (λ_=>[]) (f16 [1,2,4,6]) ?_ (λhS1246=>?_)
 ·
  rintro⟨F,G,b7,O,⟨L,rc⟩,⟨J,K⟩⟩;refine Bj C ?_ ?_;refine CJ 1 C C<|Cj (λw f=>Ae w f (T1.var 1).one (some ⟨G,0,none⟩) 1) (λw f D=>BD (l:=[(.var 1,none,0)]) ⟨Ae.nil _ _ _ _,tQ⟩ D.b0) Ae.mono<|BV C C (eC Bz C C) (λw f D=>CC w f D.vl Cl (T1.var 1).one (some ⟨G,0,none⟩) 1 dC D.f0) (λ_=>⟨Ae.mono,tQ⟩) ?_;rintro⟨Z,qc⟩ -;exact Aa 1 (λ_=>AS [1,2,3,4,5,6] DG C (λ_ h=>.tail _ h)<|AX hS12456 (F,G,b7,O,(L,rc),(Z,qc)) lE (λw f D=>D.less sR sR nE (mR [0,2,3])));exact Ah C<|Aa 2 (λq=>λ_=>Am [3,4,5,6,7,8] C<|AX U (F,G,b7,q,(L,rc),(J,K)) lE (λw f D=>D))
 refine CW SR (LF b1 b2 b3 b4 b5 b6 [1,2,4,5]) (HT b1 b2 b3 b4 b5 b6 [1,2,4,5]) (λ_=>[]) (f16 [1,2,4,5]) ?_ (λhS1245=>?_)
 ·
  rintro⟨F,G,b7,O,⟨L,rc⟩,⟨J,K⟩⟩;refine Bj C ?_ ?_;exact Aa 2 (λq=>λ_=>Am [1,2,3,4,5,6] C<|AX hS12456 (F,G,q,O,(L,rc),(J,K)) lE (λw f D=>D));exact Ah C<|Aa 2 (λq=>λ_=>Am [1,2,3,4,5,6] C<|AX hS12457 (F,G,b7,q,(L,rc),(J,K)) lE (λw f D=>D))
 refine CW J7 (LF b1 b2 b3 b4 b5 b6 [1,4,6,7]) (HT b1 b2 b3 b4 b5 b6 [1,4,6,7]) (λ_=>[]) (f16 [1,4,6,7]) ?_ (λY=>?_)
 ·
  rintro⟨F,G,b7,O,⟨L,rc⟩,⟨J,K⟩⟩;refine Ah C<|CJ 3 C C<|Cj (λw f=>Ae w f (T1.var 1).one (some ⟨F,0,none⟩) 1) (λw f D=>BD (l:=[(.var 1,none,0)]) ⟨Ae.nil _ _ _ _,tQ⟩ D.b0) Ae.mono<|BV C C (eC Bz C C) (λw f D=>CC w f D.vl Gw (T1.var 1).one (some ⟨F,0,none⟩) 1 dC D.f0) (λ_=>⟨Ae.mono,tQ⟩) ?_;rintro⟨Z,qc⟩ -;exact Aa 1 (λ_=>AS [3,4,5,6,7,8] DG C (λ_ h=>.tail _ h)<|AX U (F,G,b7,O,(Z,qc),(J,K)) lE (λw f D=>D.less sR sR nE (mR [0,2])))
 refine CW MX (LF b1 b2 b3 b4 b5 b6 [1,4,6]) (HT b1 b2 b3 b4 b5 b6 [1,4,6]) (λ_=>[]) (f16 [1,4,6]) ?_ (λhS146=>?_)
 ·
  rintro⟨F,G,b7,O,⟨L,rc⟩,⟨J,K⟩⟩;refine Bj C ?_ ?_;refine CJ 2 C C<|Cj (λw f=>Ae w f (T1.var 1).one (some ⟨F,0,none⟩) 1) (λw f D=>BD (l:=[(.var 1,none,0)]) ⟨Ae.nil _ _ _ _,tQ⟩ D.b0) Ae.mono<|BV C C (eC Bz C C) (λw f D=>CC w f D.vl Gw (T1.var 1).one (some ⟨F,0,none⟩) 1 dC D.f0) (λ_=>⟨Ae.mono,tQ⟩) ?_;rintro⟨Z,qc⟩ -;exact Aa 1 (λ_=>AS [2,3,4,5,6,7] DG C (λ_ h=>.tail _ h)<|AX hS1246 (F,G,b7,O,(Z,qc),(J,K)) lE (λw f D=>D.less sR sR nE (mR [0,2])));exact Ah C<|Aa 2 (λq=>λ_=>Am [4,5,6,7,8,9] C<|AX Y (F,G,b7,q,(L,rc),(J,K)) lE (λw f D=>D))
 refine CW Nq (LF b1 b2 b3 b4 b5 b6 [1,4,7]) (HT b1 b2 b3 b4 b5 b6 [1,4,7]) (λ_=>[]) (f16 [1,4,7]) ?_ (λhS147=>?_)
 ·
  rintro⟨F,G,b7,O,⟨L,rc⟩,⟨J,K⟩⟩;refine Bj C ?_ ?_;refine CJ 2 C C<|Cj (λw f=>Ae w f (T1.var 1).one (some ⟨F,0,none⟩) 1) (λw f D=>BD (l:=[(.var 1,none,0)]) ⟨Ae.nil _ _ _ _,tQ⟩ D.b0) Ae.mono<|BV C C (eC Bz C C) (λw f D=>CC w f D.vl Gw (T1.var 1).one (some ⟨F,0,none⟩) 1 dC D.f0) (λ_=>⟨Ae.mono,tQ⟩) ?_;rintro⟨Z,qc⟩ -;exact Aa 1 (λ_=>AS [2,3,4,5,6,7] DG C (λ_ h=>.tail _ h)<|AX hS1247 (F,G,b7,O,(Z,qc),(J,K)) lE (λw f D=>D.less sR sR nE (mR [0,2])));exact Ah C<|Aa 2 (λq=>λ_=>Am [4,5,6,7,8,9] C<|AX Y (F,G,q,O,(L,rc),(J,K)) lE (λw f D=>D.perm (List.perm_middle (l₁:=[_]))))
 refine CW RR (LF b1 b2 b3 b4 b5 b6 [1,2,7]) (HT b1 b2 b3 b4 b5 b6 [1,2,7]) (λ_=>[]) (f16 [1,2,7]) ?_ (λhS127=>?_)
 ·
  rintro⟨F,G,b7,O,⟨L,rc⟩,⟨J,K⟩⟩;refine Bj C ?_ ?_;exact Aa 2 (λq=>λ_=>Am [2,3,4,5,6,7] C<|AX hS1247 (F,q,b7,O,(L,rc),(J,K)) lE (λw f D=>D.perm (List.perm_middle (l₁:=[_]))));exact Ah C<|Aa 2 (λq=>λ_=>Am [2,3,4,5,6,7] C<|AX hS1267 (F,G,q,O,(L,rc),(J,K)) lE (λw f D=>D.perm (List.perm_middle (l₁:=[_]))))
 refine CW MW (LF b1 b2 b3 b4 b5 b6 [1,6,7]) (HT b1 b2 b3 b4 b5 b6 [1,6,7]) (λ_=>[]) (f16 [1,6,7]) ?_ (λhS167=>?_)
 ·
  rintro⟨F,G,b7,O,⟨L,rc⟩,⟨J,K⟩⟩;refine Bj C ?_ ?_;refine CJ 2 C C<|Cj (λw f=>Ae w f (T1.var 1).one (some ⟨F,0,none⟩) 1) (λw f D=>BD (l:=[(.var 1,none,0)]) ⟨Ae.nil _ _ _ _,tQ⟩ D.b0) Ae.mono<|BV C C (eC Bz C C) (λw f D=>CC w f D.vl Gw (T1.var 1).one (some ⟨F,0,none⟩) 1 dC D.f0) (λ_=>⟨Ae.mono,tQ⟩) ?_;rintro⟨Z,qc⟩ -;exact Aa 1 (λ_=>AS [2,3,4,5,6,7] DG C (λ_ h=>.tail _ h)<|AX hS1267 (F,G,b7,O,(Z,qc),(J,K)) lE (λw f D=>D.less sR sR nE (mR [0,2])));exact Ah C<|Aa 2 (λq=>λ_=>Am [4,5,6,7,8,9] C<|AX Y (F,q,b7,O,(L,rc),(J,K)) lE (λw f D=>D.perm (List.perm_middle (l₁:=[_,_]))))
 refine CW Qy (LF b1 b2 b3 b4 b5 b6 [1,2,6]) (HT b1 b2 b3 b4 b5 b6 [1,2,6]) (λ_=>[]) (f16 [1,2,6]) ?_ (λhS126=>?_)
 ·
  rintro⟨F,G,b7,O,⟨L,rc⟩,⟨J,K⟩⟩;refine Bj C ?_ ?_;exact Aa 2 (λq=>λ_=>Am [2,3,4,5,6,7] C<|AX hS1246 (F,q,b7,O,(L,rc),(J,K)) lE (λw f D=>D.perm (List.perm_middle (l₁:=[_]))));exact Ah C<|Aa 2 (λq=>λ_=>Am [2,3,4,5,6,7] C<|AX hS1267 (F,G,b7,q,(L,rc),(J,K)) lE (λw f D=>D))
 refine CW MS (LF b1 b2 b3 b4 b5 b6 [4,6,7]) (HT b1 b2 b3 b4 b5 b6 [4,6,7]) (λ_=>[]) (f16 [4,6,7]) ?_ (λhS467=>?_)
 ·
  rintro⟨F,G,b7,O,⟨L,rc⟩,⟨J,K⟩⟩;exact Ah C<|Aa 2 (λq=>λ_=>Am [4,5,6,7,8,9] C<|AX Y (q,G,b7,O,(L,rc),(J,K)) lE (λw f D=>D.perm (List.perm_middle (l₁:=[_,_,_]))))
 refine CW RM (LF b1 b2 b3 b4 b5 b6 [1,2,4]) (HT b1 b2 b3 b4 b5 b6 [1,2,4]) (λ_=>[]) (f16 [1,2,4]) ?_ (λhS124=>?_)
 ·
  rintro⟨F,G,b7,O,⟨L,rc⟩,⟨J,K⟩⟩;refine Bj C ?_ ?_;refine CJ 0 C C<|Cj (λw f=>Ae w f (T1.var 1).one (some ⟨G,0,none⟩) 1) (λw f D=>BD (l:=[(.var 1,none,0)]) ⟨Ae.nil _ _ _ _,tQ⟩ D.b0) Ae.mono<|BV C C (eC Bz C C) (λw f D=>CC w f D.vl Cl (T1.var 1).one (some ⟨G,0,none⟩) 1 dC D.f0) (λ_=>⟨Ae.mono,tQ⟩) ?_;rintro⟨Z,qc⟩ -;exact Aa 1 (λ_=>AS [0,1,2,3,4,5] DG C (λ_ h=>.tail _ h)<|AX hS1245 (F,G,b7,O,(L,rc),(Z,qc)) lE (λw f D=>D.less sR sR nE (mR [0,2,3])));refine Bj C ?_ ?_;exact Aa 2 (λq=>λ_=>Am [2,3,4,5,6,7] C<|AX hS1246 (F,G,q,O,(L,rc),(J,K)) lE (λw f D=>D));exact Ah C<|Aa 2 (λq=>λ_=>Am [2,3,4,5,6,7] C<|AX hS1247 (F,G,b7,q,(L,rc),(J,K)) lE (λw f D=>D))
 refine CW VR (LF b1 b2 b3 b4 b5 b6 [1,4]) (HT b1 b2 b3 b4 b5 b6 [1,4]) (λ_=>[]) (f16 [1,4]) ?_ (λhS14=>?_)
 ·
  rintro⟨F,G,b7,O,⟨L,rc⟩,⟨J,K⟩⟩;refine Bj C ?_ ?_;refine CJ 1 C C<|Cj (λw f=>Ae w f (T1.var 1).one (some ⟨F,0,none⟩) 1) (λw f D=>BD (l:=[(.var 1,none,0)]) ⟨Ae.nil _ _ _ _,tQ⟩ D.b0) Ae.mono<|BV C C (eC Bz C C) (λw f D=>CC w f D.vl Gw (T1.var 1).one (some ⟨F,0,none⟩) 1 dC D.f0) (λ_=>⟨Ae.mono,tQ⟩) ?_;rintro⟨Z,qc⟩ -;exact Aa 1 (λ_=>AS [1,2,3,4,5,6] DG C (λ_ h=>.tail _ h)<|AX hS124 (F,G,b7,O,(Z,qc),(J,K)) lE (λw f D=>D.less sR sR nE (mR [0,2])));refine Bj C ?_ ?_;exact Aa 2 (λq=>λ_=>Am [3,4,5,6,7,8] C<|AX hS146 (F,G,q,O,(L,rc),(J,K)) lE (λw f D=>D));exact Ah C<|Aa 2 (λq=>λ_=>Am [3,4,5,6,7,8] C<|AX hS147 (F,G,b7,q,(L,rc),(J,K)) lE (λw f D=>D))
 refine CW UF (LF b1 b2 b3 b4 b5 b6 [4,6]) (HT b1 b2 b3 b4 b5 b6 [4,6]) (λ_=>[]) (f16 [4,6]) ?_ (λhS46=>?_)
 ·
  rintro⟨F,G,b7,O,⟨L,rc⟩,⟨J,K⟩⟩;refine Bj C ?_ ?_;exact Aa 2 (λq=>λ_=>Am [3,4,5,6,7,8] C<|AX hS146 (q,G,b7,O,(L,rc),(J,K)) lE (λw f D=>D.perm (List.perm_middle (l₁:=[_,_]))));exact Ah C<|Aa 2 (λq=>λ_=>Am [3,4,5,6,7,8] C<|AX hS467 (F,G,b7,q,(L,rc),(J,K)) lE (λw f D=>D))
 refine CW Uk (LF b1 b2 b3 b4 b5 b6 [1,7]) (HT b1 b2 b3 b4 b5 b6 [1,7]) (λ_=>[]) (f16 [1,7]) ?_ (λhS17=>?_)
 ·
  rintro⟨F,G,b7,O,⟨L,rc⟩,⟨J,K⟩⟩;refine Bj C ?_ ?_;refine CJ 1 C C<|Cj (λw f=>Ae w f (T1.var 1).one (some ⟨F,0,none⟩) 1) (λw f D=>BD (l:=[(.var 1,none,0)]) ⟨Ae.nil _ _ _ _,tQ⟩ D.b0) Ae.mono<|BV C C (eC Bz C C) (λw f D=>CC w f D.vl Gw (T1.var 1).one (some ⟨F,0,none⟩) 1 dC D.f0) (λ_=>⟨Ae.mono,tQ⟩) ?_;rintro⟨Z,qc⟩ -;exact Aa 1 (λ_=>AS [1,2,3,4,5,6] DG C (λ_ h=>.tail _ h)<|AX hS127 (F,G,b7,O,(Z,qc),(J,K)) lE (λw f D=>D.less sR sR nE (mR [0,2])));refine Bj C ?_ ?_;exact Aa 2 (λq=>λ_=>Am [3,4,5,6,7,8] C<|AX hS147 (F,q,b7,O,(L,rc),(J,K)) lE (λw f D=>D.perm (List.perm_middle (l₁:=[_]))));exact Ah C<|Aa 2 (λq=>λ_=>Am [3,4,5,6,7,8] C<|AX hS167 (F,G,q,O,(L,rc),(J,K)) lE (λw f D=>D.perm (List.perm_middle (l₁:=[_]))))
 refine CW Vm (LF b1 b2 b3 b4 b5 b6 [1,6]) (HT b1 b2 b3 b4 b5 b6 [1,6]) (λ_=>[]) (f16 [1,6]) ?_ (λhS16=>?_)
 ·
  rintro⟨F,G,b7,O,⟨L,rc⟩,⟨J,K⟩⟩;refine Bj C ?_ ?_;refine CJ 1 C C<|Cj (λw f=>Ae w f (T1.var 1).one (some ⟨F,0,none⟩) 1) (λw f D=>BD (l:=[(.var 1,none,0)]) ⟨Ae.nil _ _ _ _,tQ⟩ D.b0) Ae.mono<|BV C C (eC Bz C C) (λw f D=>CC w f D.vl Gw (T1.var 1).one (some ⟨F,0,none⟩) 1 dC D.f0) (λ_=>⟨Ae.mono,tQ⟩) ?_;rintro⟨Z,qc⟩ -;exact Aa 1 (λ_=>AS [1,2,3,4,5,6] DG C (λ_ h=>.tail _ h)<|AX hS126 (F,G,b7,O,(Z,qc),(J,K)) lE (λw f D=>D.less sR sR nE (mR [0,2])));refine Bj C ?_ ?_;exact Aa 2 (λq=>λ_=>Am [3,4,5,6,7,8] C<|AX hS146 (F,q,b7,O,(L,rc),(J,K)) lE (λw f D=>D.perm (List.perm_middle (l₁:=[_]))));exact Ah C<|Aa 2 (λq=>λ_=>Am [3,4,5,6,7,8] C<|AX hS167 (F,G,b7,q,(L,rc),(J,K)) lE (λw f D=>D))
 refine CW Us (LF b1 b2 b3 b4 b5 b6 [4,7]) (HT b1 b2 b3 b4 b5 b6 [4,7]) (λ_=>[]) (f16 [4,7]) ?_ (λhS47=>?_)
 ·
  rintro⟨F,G,b7,O,⟨L,rc⟩,⟨J,K⟩⟩;refine Bj C ?_ ?_;exact Aa 2 (λq=>λ_=>Am [3,4,5,6,7,8] C<|AX hS147 (q,G,b7,O,(L,rc),(J,K)) lE (λw f D=>D.perm (List.perm_middle (l₁:=[_,_]))));exact Ah C<|Aa 2 (λq=>λ_=>Am [3,4,5,6,7,8] C<|AX hS467 (F,G,q,O,(L,rc),(J,K)) lE (λw f D=>D.perm (List.perm_middle (l₁:=[_]))))
 refine CW Ur (LF b1 b2 b3 b4 b5 b6 [6,7]) (HT b1 b2 b3 b4 b5 b6 [6,7]) (λ_=>[]) (f16 [6,7]) ?_ (λhS67=>?_)
 ·
  rintro⟨F,G,b7,O,⟨L,rc⟩,⟨J,K⟩⟩;refine Bj C ?_ ?_;exact Aa 2 (λq=>λ_=>Am [3,4,5,6,7,8] C<|AX hS167 (q,G,b7,O,(L,rc),(J,K)) lE (λw f D=>D.perm (List.perm_middle (l₁:=[_,_]))));exact Ah C<|Aa 2 (λq=>λ_=>Am [3,4,5,6,7,8] C<|AX hS467 (F,q,b7,O,(L,rc),(J,K)) lE (λw f D=>D.perm (List.perm_middle (l₁:=[_,_]))))
 refine CW ZN (LF b1 b2 b3 b4 b5 b6 [1,2]) (HT b1 b2 b3 b4 b5 b6 [1,2]) (λ_=>[]) (f16 [1,2]) ?_ (λhS12=>?_)
 ·
  rintro⟨F,G,b7,O,⟨L,rc⟩,⟨J,K⟩⟩;refine Bj C ?_ ?_;exact Aa 2 (λq=>λ_=>Am [1,2,3,4,5,6] C<|AX hS124 (F,q,b7,O,(L,rc),(J,K)) lE (λw f D=>D));refine Bj C ?_ ?_;exact Aa 2 (λq=>λ_=>Am [1,2,3,4,5,6] C<|AX hS126 (F,G,q,O,(L,rc),(J,K)) lE (λw f D=>D));exact Ah C<|Aa 2 (λq=>λ_=>Am [1,2,3,4,5,6] C<|AX hS127 (F,G,b7,q,(L,rc),(J,K)) lE (λw f D=>D))
 refine CW pL (LF b1 b2 b3 b4 b5 b6 [1]) (HT b1 b2 b3 b4 b5 b6 [1]) (λ_=>[]) (f16 [1]) ?_ (λhS1=>?_)
 ·
  rintro⟨F,G,b7,O,⟨L,rc⟩,⟨J,K⟩⟩;refine Bj C ?_ ?_;refine CJ 0 C C<|Cj (λw f=>Ae w f (T1.var 1).one (some ⟨F,0,none⟩) 1) (λw f D=>BD (l:=[(.var 1,none,0)]) ⟨Ae.nil _ _ _ _,tQ⟩ D.b0) Ae.mono<|BV C C (eC Bz C C) (λw f D=>CC w f D.vl Gw (T1.var 1).one (some ⟨F,0,none⟩) 1 dC D.f0) (λ_=>⟨Ae.mono,tQ⟩) ?_;rintro⟨Z,qc⟩ -;exact Aa 1 (λ_=>AS [0,1,2,3,4,5] DG C (λ_ h=>.tail _ h)<|AX hS12 (F,G,b7,O,(Z,qc),(J,K)) lE (λw f D=>D.less sR sR nE (mR [0,2])));refine Bj C ?_ ?_;exact Aa 2 (λq=>λ_=>Am [2,3,4,5,6,7] C<|AX hS14 (F,q,b7,O,(L,rc),(J,K)) lE (λw f D=>D));refine Bj C ?_ ?_;exact Aa 2 (λq=>λ_=>Am [2,3,4,5,6,7] C<|AX hS16 (F,G,q,O,(L,rc),(J,K)) lE (λw f D=>D));exact Ah C<|Aa 2 (λq=>λ_=>Am [2,3,4,5,6,7] C<|AX hS17 (F,G,b7,q,(L,rc),(J,K)) lE (λw f D=>D))
 refine CW rQ (LF b1 b2 b3 b4 b5 b6 [4]) (HT b1 b2 b3 b4 b5 b6 [4]) (λ_=>[]) (f16 [4]) ?_ (λhS4=>?_)
 ·
  rintro⟨F,G,b7,O,⟨L,rc⟩,⟨J,K⟩⟩;refine Bj C ?_ ?_;exact Aa 2 (λq=>λ_=>Am [2,3,4,5,6,7] C<|AX hS14 (q,G,b7,O,(L,rc),(J,K)) lE (λw f D=>D.perm (List.perm_middle (l₁:=[_]))));refine Bj C ?_ ?_;exact Aa 2 (λq=>λ_=>Am [2,3,4,5,6,7] C<|AX hS46 (F,G,q,O,(L,rc),(J,K)) lE (λw f D=>D));exact Ah C<|Aa 2 (λq=>λ_=>Am [2,3,4,5,6,7] C<|AX hS47 (F,G,b7,q,(L,rc),(J,K)) lE (λw f D=>D))
 refine CW qK (LF b1 b2 b3 b4 b5 b6 [7]) (HT b1 b2 b3 b4 b5 b6 [7]) (λ_=>[]) (f16 [7]) ?_ (λhS7=>?_)
 ·
  rintro⟨F,G,b7,O,⟨L,rc⟩,⟨J,K⟩⟩;refine Bj C ?_ ?_;exact Aa 2 (λq=>λ_=>Am [2,3,4,5,6,7] C<|AX hS17 (q,G,b7,O,(L,rc),(J,K)) lE (λw f D=>D.perm (List.perm_middle (l₁:=[_]))));refine Bj C ?_ ?_;exact Aa 2 (λq=>λ_=>Am [2,3,4,5,6,7] C<|AX hS47 (F,q,b7,O,(L,rc),(J,K)) lE (λw f D=>D.perm (List.perm_middle (l₁:=[_]))));exact Ah C<|Aa 2 (λq=>λ_=>Am [2,3,4,5,6,7] C<|AX hS67 (F,G,q,O,(L,rc),(J,K)) lE (λw f D=>D.perm (List.perm_middle (l₁:=[_]))))
 refine CW pV (LF b1 b2 b3 b4 b5 b6 [6]) (HT b1 b2 b3 b4 b5 b6 [6]) (λ_=>[]) (f16 [6]) ?_ (λhS6=>?_)
 ·
  rintro⟨F,G,b7,O,⟨L,rc⟩,⟨J,K⟩⟩;refine Bj C ?_ ?_;exact Aa 2 (λq=>λ_=>Am [2,3,4,5,6,7] C<|AX hS16 (q,G,b7,O,(L,rc),(J,K)) lE (λw f D=>D.perm (List.perm_middle (l₁:=[_]))));refine Bj C ?_ ?_;exact Aa 2 (λq=>λ_=>Am [2,3,4,5,6,7] C<|AX hS46 (F,q,b7,O,(L,rc),(J,K)) lE (λw f D=>D.perm (List.perm_middle (l₁:=[_]))));exact Ah C<|Aa 2 (λq=>λ_=>Am [2,3,4,5,6,7] C<|AX hS67 (F,G,b7,q,(L,rc),(J,K)) lE (λw f D=>D))
 refine CW t16_ (LF b1 b2 b3 b4 b5 b6 []) (HT b1 b2 b3 b4 b5 b6 []) (λ_=>[]) (f16 []) ?_ (λhS=>?_)
 ·
  rintro⟨F,G,b7,O,⟨L,rc⟩,⟨J,K⟩⟩;refine Bj C ?_ ?_;exact Aa 2 (λq=>λ_=>Am [1,2,3,4,5,6] C<|AX hS1 (q,G,b7,O,(L,rc),(J,K)) lE (λw f D=>D));refine Bj C ?_ ?_;exact Aa 2 (λq=>λ_=>Am [1,2,3,4,5,6] C<|AX hS4 (F,q,b7,O,(L,rc),(J,K)) lE (λw f D=>D));refine Bj C ?_ ?_;exact Aa 2 (λq=>λ_=>Am [1,2,3,4,5,6] C<|AX hS6 (F,G,q,O,(L,rc),(J,K)) lE (λw f D=>D));exact Ah C<|Aa 2 (λq=>λ_=>Am [1,2,3,4,5,6] C<|AX hS7 (F,G,b7,q,(L,rc),(J,K)) lE (λw f D=>D))
 exact AX hS (0,0,0,0,(none,0),(none,0)) lE (λw f D=>D);rintro⟨b7,O,⟨L,rc⟩,⟨J,K⟩⟩ -;dsimp only;refine Aa 8 (λb31=>λ_=>Cz C C (λw f D=>Rw C)<|Aa 4 (λ_=>vL 0 C C<|mmi (RW b31 none) (Fi 175 178 b31 (.slice none 0 0) none 0 0 []) (λb h=>h.elim .inr λh=>by cases h) (λw f h=>⟨h.2,⟨C,.inl ⟨C,C,C⟩⟩,λh=>by cases h⟩) Fi.stab<|Cj (λw f=>Dp w f [] []) (λw f D=>C) Dp.mono<|Af 6 [7,7,7] (y<|y<|y<|λb32=>λ_=>GC 0 5 [qI,qI,qI] C C C C C C (λw f _ _ D=>⟨D.f3,⟨qN,⟨qN,⟨qN,tQ⟩⟩⟩⟩) ⟨kI,⟨kI,⟨kI,tQ⟩⟩⟩ λa1 c1 xs1=>Af 8 [7,7] (y<|y<|λb33=>λ_=>GC 0 6 [qI,qI] C C C C C C (λw f _ _ D=>⟨D.f3,⟨qN,⟨qN,tQ⟩⟩⟩) ⟨kI,⟨kI,tQ⟩⟩ λa2 c2 xs2=>?_))));refine Af 9 [7,7,4] (y<|y<|y<|λb34=>λ_=>GC 0 9 [qI,qI,qB] C C C C C C (λw f _ _ D=>⟨D.f3,⟨qN,⟨qN,⟨qN,tQ⟩⟩⟩⟩) ⟨kI,⟨kI,⟨kB,tQ⟩⟩⟩ λa3 c3 xs3=>Af 9 [6,6,6] (y<|y<|y<|λb35=>λ_=>GC 0 13 [qF,qF,qF] C C C C C C (λw f _ _ D=>⟨D.f3,⟨qN,⟨qN,⟨qN,tQ⟩⟩⟩⟩) ⟨kF,⟨kF,⟨kF,tQ⟩⟩⟩ λa4 c4 xs4=>Af 8 [6,6] (y<|y<|λb36=>λ_=>GC 0 15 [qF,qF] C C C C C C (λw f _ _ D=>⟨D.f3,⟨qN,⟨qN,tQ⟩⟩⟩) ⟨kF,⟨kF,tQ⟩⟩ λa5 c5 xs5=>Af 9 [6,6,4] (y<|y<|y<|λb37=>λ_=>GC 0 18 [qF,qF,qB] C C C C C C (λw f _ _ D=>⟨D.f3,⟨qN,⟨qN,⟨qN,tQ⟩⟩⟩⟩) ⟨kF,⟨kF,⟨kB,tQ⟩⟩⟩ λa6 c6 xs6=>Af 8 [7,6] (y<|y<|λb38=>λ_=>GC 0 19 [qI,qF] C C C C C C (λw f _ _ D=>⟨D.f3,⟨qN,⟨qN,tQ⟩⟩⟩) ⟨kI,⟨kF,tQ⟩⟩ λa7 c7 xs7=>?_)))));refine Af 8 [6,7] (y<|y<|λb39=>λ_=>GC 0 20 [qF,qI] C C C C C C (λw f _ _ D=>⟨D.f3,⟨qN,⟨qN,tQ⟩⟩⟩) ⟨kF,⟨kI,tQ⟩⟩ λa8 c8 xs8=>Af 8 [6,5] (y<|y<|λb40=>λ_=>GC 0 21 [qF,qS] C C C C C C (λw f _ _ D=>⟨D.f3,⟨qN,⟨qN,tQ⟩⟩⟩) ⟨kF,⟨kS,tQ⟩⟩ λa9 c9 xs9=>Af 7 [6] (y<|λb41=>λ_=>GC 0 23 [qF] C C C C C C (λw f _ _ D=>⟨D.f3,⟨qN,tQ⟩⟩) ⟨kF,tQ⟩ λa10 c10 xs10=>Af 9 [5,5,5] (y<|y<|y<|λb42=>λ_=>GC 0 24 [qS,qS,qS] C C C C C C (λw f _ _ D=>⟨D.f3,⟨qN,⟨qN,⟨qN,tQ⟩⟩⟩⟩) ⟨kS,⟨kS,⟨kS,tQ⟩⟩⟩ λa11 c11 xs11=>Af 8 [5,7] (y<|y<|λb43=>λ_=>GC 0 27 [qS,qI] C C C C C C (λw f _ _ D=>⟨D.f3,⟨qN,⟨qN,tQ⟩⟩⟩) ⟨kS,⟨kI,tQ⟩⟩ λa12 c12 xs12=>?_)))))
 refine Af 10 [5,7,7,5] (y<|y<|y<|y<|λb44=>λ_=>GC 0 28 [qS,qI,qI,qS] C C C C C C (λw f _ _ D=>⟨D.f3,⟨qN,⟨qN,⟨qN,⟨qN,tQ⟩⟩⟩⟩⟩) ⟨kS,⟨kI,⟨kI,⟨kS,tQ⟩⟩⟩⟩ λa13 c13 xs13=>Af 9 [5,5,4] (y<|y<|y<|λb45=>λ_=>GC 0 30 [qS,qS,qB] C C C C C C (λw f _ _ D=>⟨D.f3,⟨qN,⟨qN,⟨qN,tQ⟩⟩⟩⟩) ⟨kS,⟨kS,⟨kB,tQ⟩⟩⟩ λa14 c14 xs14=>Af 8 [7,5] (y<|y<|λb46=>λ_=>GC 0 32 [qI,qS] C C C C C C (λw f _ _ D=>⟨D.f3,⟨qN,⟨qN,tQ⟩⟩⟩) ⟨kI,⟨kS,tQ⟩⟩ λa15 c15 xs15=>Af 8 [5,3] (y<|y<|λb47=>λ_=>GC 0 33 [qS,qU] C C C C C C (λw f _ _ D=>⟨D.f3,⟨qN,⟨qN,tQ⟩⟩⟩) ⟨kS,⟨kU,tQ⟩⟩ λa16 c16 xs16=>Af 8 [3,5] (y<|y<|λb48=>λ_=>GC 0 34 [qU,qS] C C C C C C (λw f _ _ D=>⟨D.f3,⟨qN,⟨qN,tQ⟩⟩⟩) ⟨kU,⟨kS,tQ⟩⟩ λa17 c17 xs17=>?_)))));refine Af 8 [2,1] (y<|y<|λb49=>λ_=>GC 0 35 [qV,(qR L rc)] C C C C C C (λw f _ _ D=>⟨D.f3,⟨qN,⟨D.f2,tQ⟩⟩⟩) ⟨kV,⟨(BS dC dC tQ),tQ⟩⟩ λa18 c18 xs18=>Af 8 [1,2] (y<|y<|λb50=>λ_=>GC 0 36 [(qR L rc),qV] C C C C C C (λw f _ _ D=>⟨D.f3,⟨D.f2,⟨qN,tQ⟩⟩⟩) ⟨(BS dC dC tQ),⟨kV,tQ⟩⟩ λa19 c19 xs19=>Af 9 [1,2,3] (y<|y<|y<|λb51=>λ_=>GC 0 37 [(qR L rc),qV,qU] C C C C C C (λw f _ _ D=>⟨D.f3,⟨D.f2,⟨qN,⟨qN,tQ⟩⟩⟩⟩) ⟨(BS dC dC tQ),⟨kV,⟨kU,tQ⟩⟩⟩ λa20 c20 xs20=>Af 8 [2,0] (y<|y<|λb52=>λ_=>GC 0 38 [qV,(qP J K)] C C C C C C (λw f _ _ D=>⟨D.f3,⟨qN,⟨D.f1,tQ⟩⟩⟩) ⟨kV,⟨(BS dC dC tQ),tQ⟩⟩ λa21 c21 xs21=>Af 8 [0,2] (y<|y<|λb53=>λ_=>GC 0 39 [(qP J K),qV] C C C C C C (λw f _ _ D=>⟨D.f3,⟨D.f1,⟨qN,tQ⟩⟩⟩) ⟨(BS dC dC tQ),⟨kV,tQ⟩⟩ λa22 c22 xs22=>?_)))));exact Af 9 [0,2,3] (y<|y<|y<|λb54=>λ_=>GC 0 40 [(qP J K),qV,qU] C C C C C C (λw f _ _ D=>⟨D.f3,⟨D.f1,⟨qN,⟨qN,tQ⟩⟩⟩⟩) ⟨(BS dC dC tQ),⟨kV,⟨kU,tQ⟩⟩⟩ λa23 c23 xs23=>Aa 4 (λ_=>Cz C C (λw f D=>Ai C Om D.res.blk C)<|Aa 4 (λ_=>AK (Cy C C) (λw f D=>by obtain⟨f2,h1,h2⟩:=D.res.fin (l:=BZ) D.exm (λb hb=>(D.mi b (.inr hb)).2.2.elim id λh=>h.elim) D.f0 C dC;exact⟨(a23,c23),f2,C,tQ,h1,⟨h2,tQ⟩⟩))))
def ZH(p:Tr):Bd:=⟨p.1,Co p.2.2 [1] (T1.var (0-1)).one,[0-1]⟩
def Kv(i:Nat):By:=((BZ.take i).map ZH).reverse
variable {nu:Int}{i:Nat}{dt:lU}
theorem Yx{p:Tr}(h:BZ[i]?=some p):Kv (i+1)=ZH p::Kv i:=by
 unfold Kv;rw[Dx h,List.map_append,List.reverse_append];rfl
theorem Sd:Kv BZ.length=Rx:=kR
theorem Oq:∀p,p∈BZ→p.2.2.bnd:=by
 intro p D;simp only[BZ,List.mem_cons,List.not_mem_nil,or_false] at D;have F:∀{l:List (T1×oA×Nat)},Y7 l→(KH (Pj l)).bnd:=λh=>Xm (MR h);have J:=B8 1;have d:∀{t:lU},t.length≤1000000→(c0 t).bnd:=λh=>CN h;have K:(T1.con Gw (T1.var 1).one).bnd:=BS dC dC tQ;have G:(T1.con Cl (T1.var 1).one).bnd:=BS dC dC tQ;have bi:=d (t:=bI) dC;have L:=d (t:=bF) dC;have O:=d (t:=bS) dC;have Q:=d (t:=bB) dC;have U:=d (t:=bU) dC
 repeat' (rcases D with rfl|D)
 all_goals first|(subst D)|skip
 all_goals (refine F ?_;simp only[Y7,and_true];simp[*])
theorem Sy{nm:lU}{d:Nat}(h:H8[i]?=some (nm,dt,nu,d)):d≤1:=by
 have:∀p∈H8,p.2.2.2≤1:=dC;exact this _ (List.mem_of_getElem? h)
theorem Tj{nm:lU}{d:Nat}(h:H8[i]?=some (nm,dt,nu,d)):dt.length≤1000000:=by
 have:∀p∈H8,p.2.1.length≤1000000:=dC;exact this _ (List.mem_of_getElem? h)
theorem WFc0:D1 (⟨[],0,Zw 0,[],[],0⟩:CS):=⟨tQ,λ_ _ h=>(by cases h),tQ,tQ,tQ,Int.le_refl _⟩
set_option maxHeartbeats 2000000 in
theorem Wt(w:wO)(f:Fq)(hv:Vl w f)(hG:EY w f) :
  AO prog 36 #[] w (NG (α:=Ad×oA) (λx=>.tuple #[pB x.1.cb,.pointer x.2]) (λx=>x.1.ok) (λ_=>False) (λx=>B2 x.1) (λx=>Aq 131 222 x.1 jA) (λx=>[λw f=>AV w f Rx x.2]) w f):=by
 refine Dq [λw f=>EY w f] func36 C C C (AR hv ⟨hG,tQ⟩ ⟨EY.mono,tQ⟩)<|Aa 8 (λ_=>iY (XX:=λ_ _=>False) C C (eC uN C C) (λw f d=>(iG w f d.vl).retP) (λ_=>B9.stab (.inl C) (.inr C)) (λ_=>trivial) (λ_ _ _ _ _ h=>h.elim) ?_);rintro⟨sb,mb⟩ hsm;dsimp only at hsm ⊢;refine eY (K:=Ck) C C λkm hkm=>eY (K:=Ck) C C λdm hdm=>eY (K:=Ck) C C λrm Z=>Aa 7 (λb1=>λ_=>IF (λw f d=>(d.own b1 (.head _)).2.2) λO=>vL 0 C C ?_);obtain⟨A,rfl,rfl,rfl,rfl,rfl,rfl⟩:∃A:Ad,A.cb=b1∧A.sb=sb∧A.mb=mb∧A.km=km∧A.dm=dm∧A.rm=rm:=⟨⟨b1,sb,mb,km,dm,rm⟩,C,C,C,C,C,C⟩;have hA:A.ok:=⟨λe=>O (.inl (.inl (.inl (.inl e)))),⟨λe=>O (.inl (.inl (.inl (.inr e)))),λe=>O (.inl (.inl (.inr e))),λe=>O (.inl (.inr e)),λe=>O (.inr e)⟩,⟨hsm,λe=>hkm (.inl e.symm),λe=>hdm (.inl (.inl e.symm)),λe=>Z (.inl (.inl (.inl e.symm)))⟩,⟨λe=>hkm (.inr e.symm),λe=>hdm (.inl (.inr e.symm)),λe=>Z (.inl (.inl (.inr e.symm))),λe=>hdm (.inr e.symm),λe=>Z (.inl (.inr e.symm)),λe=>Z (.inr e.symm)⟩⟩;refine mmi (B2 A) (Aq 131 222 A (⟨[],0,Zw 0,[],[],0⟩:CS)) (λb h=>by rcases h with h|h|h|h|h|h;exact .inr h;exact .inl (.inl (.inl (.inl (.inl h))));exact .inl (.inl (.inl (.inl (.inr h))));exact .inl (.inl (.inl (.inr h)));exact .inl (.inl (.inr h));exact .inl (.inr h)) (λw f h=>⟨h.2,⟨0,h.1.1.1.1⟩,⟨[],h.1.1.1.2,C⟩,h.1.1.2,h.1.2⟩) Aq.stab<|Aa 1 (λ_=>BV C C (eC xS C C) (λw f d=>Wy w f d.vl) (λx=>⟨λ_ _ _ _ h hF=>Cs.mono h hF,tQ⟩) ?_);rintro kb -;refine Aa 5 (λ_=>?_);refine D6 (α:=Nat) (λi=>8-i) (λi=>i≤8∧D1 (⟨[],0,Zw i,[],[],0⟩:CS)) (λi=>(E4 2 (pB A.cb) 15 (.slice (some ⟨kb,0,none⟩) 8 8) 16 (iV ((8:Nat):Int)) 17 (iV (i:Int)))) (λi=>⟨λ_=>False,B2 A,Aq 131 222 A (⟨[],0,Zw i,[],[],0⟩:CS),w,f⟩) (λi=>[]) (λi=>[]) (λi=>[]) (λi=>[λw f=>Cs w f kb 0 Rt,λw f=>EY w f]) (0) ⟨Nat.zero_le _,WFc0⟩ lE (λw f d=>d.less sR sR nE (mR [0,1])) ?_;rintro i ⟨hi,hwi⟩;refine Aa 6 (λ_=>?_)
 ·
  refine A6 18 C C (λh1=>?_) (λh1=>?_);refine Aa 6 (λ_=>?_);have Q:i<8:=by have:=dT h1;omega
  obtain⟨⟨nm,dt,nu,U⟩,W⟩:∃v,H8[i]?=some v:=⟨_,List.getElem?_eq_getElem (l:=H8) Q⟩;have har:U≤1:=Sy W;refine Ja (α:=Unit) (λx=>True) (λx=>[⟨kb,0+i*4,cC (nm,dt,nu,U)⟩]) (λx=>[]) (λw f d=>⟨(),tQ,(λe he=>by cases he with|head=>exact Cs.flat cC 4 (λ_=>C) H8 0 i _ d.f0 W|tail _ h=>cases h),λ_ h=>by cases h⟩) (λx=>Ap.mem tQ) ?_;rintro⟨⟩ -;refine Af 11 [100,0,0,0] (aI oM<|y2<|λb2=>y<|y<|λ_=>B3 C C (eC Bz C C) (λw f d=>Br w f d.vl dt)<|Af 14 [0,1] (λb3=>y<|y<|λ_=>KR 123 4 ?_));refine D6 (α:=Nat×lV×oA×Nat) (λx=>U-x.1) (λx=>x.1≤U) (λx=>(E8 2 (pB A.cb) 4 (pB b2) 5 (pB b3) 15 (.slice (some ⟨kb,0,none⟩) 8 8) 16 (iV ((8:Nat):Int)) 17 (iV (i:Int)) 26 (iV (U:Int)) 27 (iV (x.1:Int)))) (λx=>⟨λ_=>False,B2 A,Aq 131 222 A (⟨[],0,Zw i,[],[],0⟩:CS),w,f⟩) (λx=>[⟨b3,[.slice x.2.2.1 x.1 x.2.2.2,iV 1,iV 0,S dt,.slice none 0 0,.slice none 0 0],174,true⟩,⟨b2,cC (nm,dt,nu,U),172,true⟩]) (λx=>[⟨123,4,x.2.2.1,x.2.2.2,x.1,x.2.1⟩]) (λx=>[]) (λx=>[λw f=>AU w f (QA x.1) x.2.1,λw f=>Cs w f kb 0 Rt,λw f=>EY w f]) (0,[],none,0) (Nat.zero_le _) lE (λw f d=>d.more (B':=[]) (F':=[λw f=>AU w f .nil []]) nE (AA.mem ⟨C,tQ⟩) (Ap.mem ⟨AU.mono,tQ⟩) |>.less (sK (sK sZ)) sR nE (mR [0,1,2])) ?_;rintro⟨j,xs,ra,rc⟩ hj;dsimp only at hj ⊢;have hj0:=hj;refine Aa 6 (λ_=>?_)
  ·
   refine A6 28 C C (λY=>?_) (λY=>?_);refine Aa 5 (λ_=>?_);have hjl:j<U:=by have:=dT Y;omega
   refine Ca [1] Aj (.rd 0 (.br 1 (.br 2 (.br 3 (.br 4 (.rd 5 (.br 6 .fin .fin)) .fin) .fin) .fin) (.br 2 (.br 1 (.br 3 (.br 4 (.rd 5 (.br 6 .fin .fin)) .fin) .fin) (.br 3 (.br 1 (.br 4 (.rd 5 (.br 6 .fin .fin)) .fin) .fin) .fin)) .fin))) C kR<|AN 1 (λ_=>Bj C ?_ ?_);refine Af 2 [0] (y<|λ_=>Am [1] C<|Ah C<|B3 C C (eC Bz C C) (λw f d=>Br w f d.vl [115,116,114,105,110,103])<|Aa 1 (λ_=>Am [1] C<|Ah C<|Aa 2 (λb4=>λ_=>?_)))
   rotate_left
   refine Ah C<|B3 C C (eC Bz C C) (λw f d=>Br w f d.vl [115,116,114,105,110,103])<|Aa 1 (λ_=>Am [1] C<|Bj C ?_ ?_);refine Af 2 [0] (y<|λ_=>Am [1] C<|Ah C<|Aa 2 (λb4=>λ_=>?_))
   rotate_left
   refine Ah C<|Aa 2 (λb4=>λ_=>Am [2] C<|Ah C<|Af 2 [1] (y<|λ_=>?_))
   rotate_left
   refine Aa 3 (λ_=>Dl<|Aa 2 (λ_=>?_));obtain rfl:j=U:=by have:=dF Y;omega
   refine Ud (λw f=>Ae w f (QA j) ra rc) Ae.mono (λw f d=>El d d.f0)<|IQ (λw=>AE w A.cb [pB A.sb,.map (some A.km),.map (some A.dm),.map (some A.rm),iV 0] 131) (λw f h _=>h.blk) [0,1] Aj (rd [0,1,2,3,4,5,6] (.br 7 .fin .fin)) C kR kR kR (λ_ _ _ _ _ h=>h)<|AN 3 (λ_=>CP C C C (λw hK=>Ai C Mg hK.2.2 C)<|Bh 3 [1,0] (y<|y<|λ_=>Ah C<|cCons (m:=⟨QA j,c0 dt,[]⟩) (aa:=ra) (ac:=rc) (oa:=none) (oc:=0) (va:=none) (vc:=0) (i1:=0) hA hwi C C C C (by unfold iZ tC;simp only[L4];rfl) LM Fp (O4 i Q _ W) C C C<|Aa 1 (λ_=>AS [0,1] (λw f h _=>h.blk) C (λ_ h=>h)<|Bp ?_)));exact Aa 6 (aI ⟨oM,oM⟩<|λ_=>C0 (i+1) (show 8-(i+1)<8-i by omega) ⟨show i+1≤8 by omega,(by rw[O8 W];exact hwi.addCons (O4 i Q _ W) ⟨by rw[L4];dsimp only;omega,NF _,CN (Tj W),Nat.zero_le _⟩)⟩ lE (λw f d=>⟨_,by rw[O8 W];exact d.less (sD (sD sZ)) sR nE (mR [2,3])⟩))
   all_goals
    refine Am [2] C<|Ah C<|BW 0 0 C C Cu C C C C C C C C (λ_ _=>C) oM oM λra2 rc2=>Aa 1 (λ_=>Am [2] C<|AN 1 (λ_=>Ah C<|Af 2 [1] (y<|λ_=>Am [2] C<|Bp ?_)));exact Aa 6 (aI ⟨oM,oM⟩<|λ_=>C0 ((j+1,xs++tC (c0 bS) none 0,ra2,rc2)) (show U-(j+1)<U-j by omega) (show j+1≤U by omega) lE (λw f d=>⟨_,(d.more (B':=[]) (F':=[λw f=>AU w f (QA (j+1)) (xs++tC (c0 bS) none 0)]) nE (AA.mem ⟨AU.snoc (Ae.nil _ _ _ _) d.f0,tQ⟩) (Ap.mem ⟨AU.mono,tQ⟩)).less (sD (sK (sK sZ))) sR nE (mR [0,2,3])⟩))
  refine Aa 3 (λ_=>Dl<|Aa 3 (λ_=>?_));obtain rfl:i=8:=by have:=dF h1;omega
  refine Aa 4 (λ_=>Cz (v:=iV 0) C C (λw f d=>Ai C Gu d.res.blk C)<|Aa 3 (aI ⟨oM,oM⟩<|λ_=>cSet (v:=0-1) hA C C C Gu<|Aa 10 (λ_=>BV C C (eC rW C C) (λw f d=>VW w f d.vl d.f1) (λx=>⟨Vw.mono,tQ⟩) ?_)));rintro⟨pa,pc⟩ -;refine Aa 5 (λ_=>?_);refine D6 (α:=Nat×oA) (λx=>BZ.length-x.1) (λx=>x.1≤BZ.length) (λx=>(E5 2 (pB A.cb) 6 (.pointer x.2) 51 (.slice pa BZ.length pc) 52 (iV (BZ.length:Int)) 53 (iV (x.1:Int)))) (λx=>⟨λ_=>False,B2 A,Aq 131 222 A (⟨[],0,Zw 8,[],[],0-1⟩:CS),w,f⟩) (λx=>[]) (λx=>[]) (λx=>[]) (λx=>[λw f=>Vw w f BZ pa pc,λw f=>AV w f (Kv x.1) x.2]) (0,none) (Nat.zero_le _) lE (λw f d=>d.more (B':=[]) (F':=[λw f=>AV w f (Kv 0) none]) nE (AA.mem ⟨C,tQ⟩) (Ap.mem ⟨AV.mono,tQ⟩) |>.less sR sR nE (mR [1,0])) ?_;rintro⟨i,ea⟩ hi;dsimp only at hi ⊢;refine Aa 6 (λ_=>A6 54 C C (λY=>?_) (λY=>?_));refine Aa 6 (λ_=>?_);have hpl:BZ.length≤1000:=dC;have Q:i<BZ.length:=by have:=dT Y;omega
  obtain⟨p,W⟩:∃v,BZ[i]?=some v:=⟨_,List.getElem?_eq_getElem Q⟩;have D:p.2.2.bnd:=Oq p (List.mem_of_getElem? W);refine Ja (α:=Nat×oA×Nat) (λx=>pa=some ⟨x.1,0,none⟩) (λx=>[⟨x.1,0+i*6,pC p x.2.1 x.2.2⟩]) (λx=>[λw f=>Ae w f p.2.2.kids x.2.1 x.2.2]) (λw f d=>let ⟨_,b,xs,h1,Y,h3⟩:=d.f0;let ⟨a,c,h4,h5⟩:=Dp.get h3 Y W;⟨(b,a,c),h1,(λe he=>by cases he with|head=>exact h4|tail _ h=>cases h),AA.mem ⟨h5,tQ⟩⟩) (λx=>Ap.mem ⟨Ae.mono,tQ⟩) ?_;rintro⟨pb,J,L⟩ rfl;refine Af 7 [100,0,0] (aI oM<|y2<|λb2=>y<|λ_=>?_);refine RP (α:=oA) (λx=>True) (λx=>(E5 2 (pB A.cb) 6 (.pointer x) 51 (.slice (some (⟨pb,0,none⟩:Addr)) BZ.length pc) 52 (iV (BZ.length:Int)) 53 (iV (i:Int)))) (λx=>⟨λ_=>False,B2 A,Aq 131 222 A (⟨[],0,Zw 8,[],[],0-1⟩:CS),w,f⟩) (λx=>[]) (λx=>[]) (λx=>[]) (λx=>[λw f=>Vw w f BZ (some (⟨pb,0,none⟩:Addr)) pc,λw f=>AV w f (ZH p::Kv i) x]) ?_ ?_;refine IQ (λw=>AE w A.cb [pB A.sb,.map (some A.km),.map (some A.dm),.map (some A.rm),iV (0-1)] 131) (λw f h _=>h.blk) [0] Aj (rd [0,1,2,3,5,6,7,8,12,13,14,15,18] (.br 4 (.br 9 (.br 10 (.br 11 (.br 16 (.rd 17 (.rd 19 (.br 20 (.rd 21 .fin) .fin))) .fin) (.br 16 (.br 11 (.rd 17 (.rd 19 (.br 20 (.rd 21 .fin) .fin))) .fin) .fin)) (.br 16 (.br 10 (.br 11 (.rd 17 (.rd 19 (.br 20 (.rd 21 .fin) .fin))) .fin) .fin) .fin)) (.br 16 (.br 9 (.br 10 (.br 11 (.rd 17 (.rd 19 (.br 20 (.rd 21 .fin) .fin))) .fin) .fin) .fin) .fin)) (.br 9 (.br 4 (.br 10 (.br 11 (.br 16 (.rd 17 (.rd 19 (.br 20 (.rd 21 .fin) .fin))) .fin) (.br 16 (.br 11 (.rd 17 (.rd 19 (.br 20 (.rd 21 .fin) .fin))) .fin) .fin)) (.br 16 (.br 10 (.br 11 (.rd 17 (.rd 19 (.br 20 (.rd 21 .fin) .fin))) .fin) .fin) .fin)) (.br 10 (.br 4 (.br 11 (.br 16 (.rd 17 (.rd 19 (.br 20 (.rd 21 .fin) .fin))) .fin) (.br 16 (.br 11 (.rd 17 (.rd 19 (.br 20 (.rd 21 .fin) .fin))) .fin) .fin)) (.br 16 (.br 4 (.br 11 (.rd 17 (.rd 19 (.br 20 (.rd 21 .fin) .fin))) .fin) .fin) .fin)) (.br 16 (.br 4 (.br 10 (.br 11 (.rd 17 (.rd 19 (.br 20 (.rd 21 .fin) .fin))) .fin) .fin) (.br 10 (.br 4 (.br 11 (.rd 17 (.rd 19 (.br 20 (.rd 21 .fin) .fin))) .fin) .fin) .fin)) .fin))) (.br 16 (.br 4 (.br 9 (.br 10 (.br 11 (.rd 17 (.rd 19 (.br 20 (.rd 21 .fin) .fin))) .fin) .fin) .fin) (.br 9 (.br 4 (.br 10 (.br 11 (.rd 17 (.rd 19 (.br 20 (.rd 21 .fin) .fin))) .fin) .fin) (.br 10 (.br 4 (.br 11 (.rd 17 (.rd 19 (.br 20 (.rd 21 .fin) .fin))) .fin) .fin) .fin)) .fin)) .fin)))) C kR kR kR (λ_ _ _ _ _ h=>h)<|Bh 7 [0,0] (y<|y<|λ_=>CP C C C (λw hK=>(Ai C Gu hK.2.2 C:AM _ _ _ _ _ (iV (0-1)) _))<|AN 3 (λ_=>CP C C C (λw hK=>(Ai C Gu hK.2.2 C:AM _ _ _ _ _ (iV (0-1)) _))<|AN 1 (λ_=>Bj C ?_ ?_)));refine Aa 2 (λb3=>λ_=>AS [1] (λw f h _=>h.blk) C (λ_ h=>h)<|Bj C ?_ ?_);refine B3 C C (eC GL C C) (λw f d=>D8 w f d.vl (0-1))<|Aa 1 (λ_=>?_)
  rotate_left
  refine Ah C<|Aa 2 (λb4=>λ_=>AS [2] (λw f h _=>h.blk) C (λ_ h=>h)<|Ah C<|B3 C C (eC GL C C) (λw f d=>D8 w f d.vl (0-1))<|Aa 1 (λ_=>AS [2] (λw f h _=>h.blk) C (λ_ h=>h)<|Ah C<|Aa 2 (λb5=>λ_=>AS [3] (λw f h _=>h.blk) C (λ_ h=>h) ?_)));refine Ah C<|CJ 2 C C<|CJ 0 C C<|BV (α:=oA×Nat) C C (eC DA C C) (λw f d=>BU w f d.vl [1] (some ⟨b3,0,none⟩) 1 (T1.var (0-1)).one (some ⟨b5,0,none⟩) 1 dC dC tQ ⟨Nat.le_refl _,.inr ⟨b3,0,C,d.b1⟩⟩ (BD (l:=[(.var (0-1),none,0)]) ⟨Ae.nil _ _ _ _,tQ⟩ d.b0) p.2.2 J L D d.f0) (λ_=>⟨Ae.mono,tQ⟩) ?_;rintro⟨F,G⟩ -;refine Aa 1 (λ_=>AS [1] (λw f h _=>h.blk) C (λ_ h=>.tail _ (.tail _ h))<|AN 2 (λ_=>Ah C<|Aa 2 (λb6=>λ_=>AS [2] (λw f h _=>h.blk) C (λ_ h=>.tail _ (.tail _ h))<|AN 1 (λ_=>Bp<|CJ 0 C C<|CJ 0 C C ?_))));exact Ph (some ⟨b6,0,none⟩) tQ lE (λw f d=>⟨f,(d.more (B':=[]) (F':=[λw f=>AV w f (ZH p::Kv i) (some ⟨b6,0,none⟩)]) nE (AA.mem ⟨⟨b6,F,G,some ⟨b4,0,none⟩,1,ea,C,d.b1,d.f0,⟨Nat.le_refl _,.inr ⟨b4,0,C,d.b0⟩⟩,d.f3⟩,tQ⟩) (Ap.mem ⟨AV.mono,tQ⟩)).less (sD sZ) sR nE (mR [3,0])⟩);refine Bj C ?_ ?_;refine B3 C C (eC GL C C) (λw f d=>D8 w f d.vl (0-1))<|Aa 1 (λ_=>AS [0] (λw f h _=>h.blk) C (λ_ h=>h)<|Bj C ?_ ?_);refine Aa 2 (λb3=>λ_=>?_)
  rotate_left
  ·
   refine Bj C ?_ ?_;refine Aa 2 (λb3=>λ_=>AS [1] (λw f h _=>h.blk) C (λ_ h=>h) ?_)
   ·
    refine Bj C ?_ ?_;refine Aa 2 (λb4=>λ_=>AS [2] (λw f h _=>h.blk) C (λ_ h=>h)<|Bj C ?_ ?_);refine CJ 0 C C<|CJ 0 C C<|BV (α:=oA×Nat) C C (eC DA C C) (λw f d=>BU w f d.vl [1] (some ⟨b4,0,none⟩) 1 (T1.var (0-1)).one (some ⟨b3,0,none⟩) 1 dC dC tQ ⟨Nat.le_refl _,.inr ⟨b4,0,C,d.b1⟩⟩ (BD (l:=[(.var (0-1),none,0)]) ⟨Ae.nil _ _ _ _,tQ⟩ d.b0) p.2.2 J L D d.f0) (λ_=>⟨Ae.mono,tQ⟩) ?_;rintro⟨F,G⟩ -;refine Aa 1 (λ_=>AS [0] (λw f h _=>h.blk) C (λ_ h=>.tail _ (.tail _ h))<|Ah C<|Aa 2 (λb5=>λ_=>?_))
    rotate_left
    refine Ah C<|Aa 2 (λb5=>λ_=>AS [3] (λw f h _=>h.blk) C (λ_ h=>h)<|Ah C<|CJ 1 C C<|CJ 1 C C<|BV (α:=oA×Nat) C C (eC DA C C) (λw f d=>BU w f d.vl [1] (some ⟨b4,0,none⟩) 1 (T1.var (0-1)).one (some ⟨b3,0,none⟩) 1 dC dC tQ ⟨Nat.le_refl _,.inr ⟨b4,0,C,d.b1⟩⟩ (BD (l:=[(.var (0-1),none,0)]) ⟨Ae.nil _ _ _ _,tQ⟩ d.b0) p.2.2 J L D d.f0) (λ_=>⟨Ae.mono,tQ⟩) ?_);rintro⟨F,G⟩ -;refine Aa 1 (λ_=>?_)
    rotate_left
    refine Ah C<|Aa 2 (λb4=>λ_=>AS [2] (λw f h _=>h.blk) C (λ_ h=>h)<|Ah C<|Aa 2 (λb5=>λ_=>AS [3] (λw f h _=>h.blk) C (λ_ h=>h)<|Ah C<|CJ 0 C C<|CJ 1 C C<|BV (α:=oA×Nat) C C (eC DA C C) (λw f d=>BU w f d.vl [1] (some ⟨b5,0,none⟩) 1 (T1.var (0-1)).one (some ⟨b3,0,none⟩) 1 dC dC tQ ⟨Nat.le_refl _,.inr ⟨b5,0,C,d.b1⟩⟩ (BD (l:=[(.var (0-1),none,0)]) ⟨Ae.nil _ _ _ _,tQ⟩ d.b0) p.2.2 J L D d.f0) (λ_=>⟨Ae.mono,tQ⟩) ?_));rintro⟨F,G⟩ -;refine Aa 1 (λ_=>AS [1] (λw f h _=>h.blk) C (λ_ h=>.tail _ (.tail _ h))<|AN 2 (λ_=>Ah C<|Aa 2 (λb6=>λ_=>AS [2] (λw f h _=>h.blk) C (λ_ h=>.tail _ (.tail _ h))<|AN 1 (λ_=>Bp<|CJ 0 C C<|CJ 0 C C ?_))));exact Ph (some ⟨b6,0,none⟩) tQ lE (λw f d=>⟨f,(d.more (B':=[]) (F':=[λw f=>AV w f (ZH p::Kv i) (some ⟨b6,0,none⟩)]) nE (AA.mem ⟨⟨b6,F,G,some ⟨b4,0,none⟩,1,ea,C,d.b1,d.f0,⟨Nat.le_refl _,.inr ⟨b4,0,C,d.b0⟩⟩,d.f3⟩,tQ⟩) (Ap.mem ⟨AV.mono,tQ⟩)).less (sD sZ) sR nE (mR [3,0])⟩)
    all_goals
     exact AS [1] (λw f h _=>h.blk) C (λ_ h=>.tail _ (.tail _ h))<|AN 2 (λ_=>Ah C<|Aa 2 (λb6=>λ_=>AS [2] (λw f h _=>h.blk) C (λ_ h=>.tail _ (.tail _ h))<|AN 1 (λ_=>Bp<|CJ 0 C C<|CJ 0 C C<|Ph (some ⟨b6,0,none⟩) tQ lE (λw f d=>⟨f,(d.more (B':=[]) (F':=[λw f=>AV w f (ZH p::Kv i) (some ⟨b6,0,none⟩)]) nE (AA.mem ⟨⟨b6,F,G,some ⟨b5,0,none⟩,1,ea,C,d.b1,d.f0,⟨Nat.le_refl _,.inr ⟨b5,0,C,d.b0⟩⟩,d.f3⟩,tQ⟩) (Ap.mem ⟨AV.mono,tQ⟩)).less (sD sZ) sR nE (mR [3,0])⟩))))
   refine Ah C<|Aa 2 (λb3=>λ_=>AS [1] (λw f h _=>h.blk) C (λ_ h=>h)<|Bj C ?_ ?_);refine Aa 2 (λb4=>λ_=>AS [2] (λw f h _=>h.blk) C (λ_ h=>h)<|Ah C<|Aa 2 (λb5=>λ_=>AS [3] (λw f h _=>h.blk) C (λ_ h=>h)<|Ah C<|CJ 1 C C<|CJ 0 C C<|BV (α:=oA×Nat) C C (eC DA C C) (λw f d=>BU w f d.vl [1] (some ⟨b4,0,none⟩) 1 (T1.var (0-1)).one (some ⟨b5,0,none⟩) 1 dC dC tQ ⟨Nat.le_refl _,.inr ⟨b4,0,C,d.b1⟩⟩ (BD (l:=[(.var (0-1),none,0)]) ⟨Ae.nil _ _ _ _,tQ⟩ d.b0) p.2.2 J L D d.f0) (λ_=>⟨Ae.mono,tQ⟩) ?_))
   rotate_left
   refine Ah C<|Aa 2 (λb4=>λ_=>AS [2] (λw f h _=>h.blk) C (λ_ h=>h)<|Ah C<|Aa 2 (λb5=>λ_=>AS [3] (λw f h _=>h.blk) C (λ_ h=>h)<|Ah C<|CJ 0 C C<|CJ 0 C C<|BV (α:=oA×Nat) C C (eC DA C C) (λw f d=>BU w f d.vl [1] (some ⟨b5,0,none⟩) 1 (T1.var (0-1)).one (some ⟨b4,0,none⟩) 1 dC dC tQ ⟨Nat.le_refl _,.inr ⟨b5,0,C,d.b1⟩⟩ (BD (l:=[(.var (0-1),none,0)]) ⟨Ae.nil _ _ _ _,tQ⟩ d.b0) p.2.2 J L D d.f0) (λ_=>⟨Ae.mono,tQ⟩) ?_))
   all_goals
    rintro⟨F,G⟩ -;refine Aa 1 (λ_=>AS [1] (λw f h _=>h.blk) C (λ_ h=>.tail _ (.tail _ h))<|AN 2 (λ_=>Ah C<|Aa 2 (λb6=>λ_=>AS [2] (λw f h _=>h.blk) C (λ_ h=>.tail _ (.tail _ h))<|AN 1 (λ_=>Bp<|CJ 0 C C<|CJ 0 C C ?_))));exact Ph (some ⟨b6,0,none⟩) tQ lE (λw f d=>⟨f,(d.more (B':=[]) (F':=[λw f=>AV w f (ZH p::Kv i) (some ⟨b6,0,none⟩)]) nE (AA.mem ⟨⟨b6,F,G,some ⟨b3,0,none⟩,1,ea,C,d.b1,d.f0,⟨Nat.le_refl _,.inr ⟨b3,0,C,d.b0⟩⟩,d.f3⟩,tQ⟩) (Ap.mem ⟨AV.mono,tQ⟩)).less (sD sZ) sR nE (mR [3,0])⟩)
  refine Ah C<|Aa 2 (λb3=>λ_=>AS [1] (λw f h _=>h.blk) C (λ_ h=>h) ?_)
  ·
   refine Bj C ?_ ?_;refine Aa 2 (λb4=>λ_=>AS [2] (λw f h _=>h.blk) C (λ_ h=>h)<|Ah C<|B3 C C (eC GL C C) (λw f d=>D8 w f d.vl (0-1))<|Aa 1 (λ_=>AS [2] (λw f h _=>h.blk) C (λ_ h=>h)<|Ah C<|Aa 2 (λb5=>λ_=>AS [3] (λw f h _=>h.blk) C (λ_ h=>h)<|Ah C ?_)));refine CJ 1 C C<|CJ 0 C C<|BV (α:=oA×Nat) C C (eC DA C C) (λw f d=>BU w f d.vl [1] (some ⟨b4,0,none⟩) 1 (T1.var (0-1)).one (some ⟨b5,0,none⟩) 1 dC dC tQ ⟨Nat.le_refl _,.inr ⟨b4,0,C,d.b1⟩⟩ (BD (l:=[(.var (0-1),none,0)]) ⟨Ae.nil _ _ _ _,tQ⟩ d.b0) p.2.2 J L D d.f0) (λ_=>⟨Ae.mono,tQ⟩) ?_
   rotate_left
   refine Ah C<|B3 C C (eC GL C C) (λw f d=>D8 w f d.vl (0-1))<|Aa 1 (λ_=>AS [1] (λw f h _=>h.blk) C (λ_ h=>h)<|Bj C ?_ ?_);refine Aa 2 (λb4=>λ_=>AS [2] (λw f h _=>h.blk) C (λ_ h=>h)<|Ah C<|Aa 2 (λb5=>λ_=>AS [3] (λw f h _=>h.blk) C (λ_ h=>h)<|Ah C<|CJ 1 C C<|CJ 0 C C<|BV (α:=oA×Nat) C C (eC DA C C) (λw f d=>BU w f d.vl [1] (some ⟨b4,0,none⟩) 1 (T1.var (0-1)).one (some ⟨b5,0,none⟩) 1 dC dC tQ ⟨Nat.le_refl _,.inr ⟨b4,0,C,d.b1⟩⟩ (BD (l:=[(.var (0-1),none,0)]) ⟨Ae.nil _ _ _ _,tQ⟩ d.b0) p.2.2 J L D d.f0) (λ_=>⟨Ae.mono,tQ⟩) ?_))
   rotate_left
   refine Ah C<|Aa 2 (λb4=>λ_=>AS [2] (λw f h _=>h.blk) C (λ_ h=>h)<|Ah C<|Aa 2 (λb5=>λ_=>AS [3] (λw f h _=>h.blk) C (λ_ h=>h)<|Ah C<|CJ 0 C C<|CJ 0 C C<|BV (α:=oA×Nat) C C (eC DA C C) (λw f d=>BU w f d.vl [1] (some ⟨b5,0,none⟩) 1 (T1.var (0-1)).one (some ⟨b4,0,none⟩) 1 dC dC tQ ⟨Nat.le_refl _,.inr ⟨b5,0,C,d.b1⟩⟩ (BD (l:=[(.var (0-1),none,0)]) ⟨Ae.nil _ _ _ _,tQ⟩ d.b0) p.2.2 J L D d.f0) (λ_=>⟨Ae.mono,tQ⟩) ?_))
   all_goals
    rintro⟨F,G⟩ -;refine Aa 1 (λ_=>AS [1] (λw f h _=>h.blk) C (λ_ h=>.tail _ (.tail _ h))<|AN 2 (λ_=>Ah C<|Aa 2 (λb6=>λ_=>AS [2] (λw f h _=>h.blk) C (λ_ h=>.tail _ (.tail _ h))<|AN 1 (λ_=>Bp<|CJ 0 C C<|CJ 0 C C ?_))));exact Ph (some ⟨b6,0,none⟩) tQ lE (λw f d=>⟨f,(d.more (B':=[]) (F':=[λw f=>AV w f (ZH p::Kv i) (some ⟨b6,0,none⟩)]) nE (AA.mem ⟨⟨b6,F,G,some ⟨b3,0,none⟩,1,ea,C,d.b1,d.f0,⟨Nat.le_refl _,.inr ⟨b3,0,C,d.b0⟩⟩,d.f3⟩,tQ⟩) (Ap.mem ⟨AV.mono,tQ⟩)).less (sD sZ) sR nE (mR [3,0])⟩)
  rintro ea2 -;dsimp only;exact Aa 6 (aI ⟨oM,oM⟩<|λ_=>C0 ((i+1,ea2)) (show BZ.length-(i+1)<BZ.length-i by omega) (show i+1≤_ by omega) lE (λw f d=>⟨_,by dsimp only;rw[Yx W];exact d⟩));refine Aa 3 (λ_=>Dl<|Aa 11 (λ_=>?_));obtain rfl:i=BZ.length:=by have:=dF Y;omega
  exact AK (λw f d=>B5 C (Ak C) (Ak C)) (λw f d=>⟨(A,ea),f,C,hA,d.exm,(λb hb=>let ⟨h1,Y,h3⟩:=d.mi b hb;h3.elim (λh=>.inr ⟨h,h1,Y⟩) .inl),d.res,⟨Sd▸d.f1,tQ⟩⟩)
  all_goals
   refine AS [1] (λw f h _=>h.blk) C (λ_ h=>h) ?_
   ·
    refine Bj C ?_ ?_;refine Aa 2 (λb4=>λ_=>AS [2] (λw f h _=>h.blk) C (λ_ h=>h)<|Bj C ?_ ?_);refine CJ 1 C C<|CJ 0 C C<|BV (α:=oA×Nat) C C (eC DA C C) (λw f d=>BU w f d.vl [1] (some ⟨b3,0,none⟩) 1 (T1.var (0-1)).one (some ⟨b4,0,none⟩) 1 dC dC tQ ⟨Nat.le_refl _,.inr ⟨b3,0,C,d.b1⟩⟩ (BD (l:=[(.var (0-1),none,0)]) ⟨Ae.nil _ _ _ _,tQ⟩ d.b0) p.2.2 J L D d.f0) (λ_=>⟨Ae.mono,tQ⟩) ?_;rintro⟨F,G⟩ -;refine Aa 1 (λ_=>AS [0] (λw f h _=>h.blk) C (λ_ h=>.tail _ (.tail _ h))<|Ah C<|Aa 2 (λb5=>λ_=>?_))
    rotate_left
    refine Ah C<|Aa 2 (λb5=>λ_=>AS [3] (λw f h _=>h.blk) C (λ_ h=>h)<|Ah C<|CJ 2 C C<|CJ 1 C C<|BV (α:=oA×Nat) C C (eC DA C C) (λw f d=>BU w f d.vl [1] (some ⟨b3,0,none⟩) 1 (T1.var (0-1)).one (some ⟨b4,0,none⟩) 1 dC dC tQ ⟨Nat.le_refl _,.inr ⟨b3,0,C,d.b1⟩⟩ (BD (l:=[(.var (0-1),none,0)]) ⟨Ae.nil _ _ _ _,tQ⟩ d.b0) p.2.2 J L D d.f0) (λ_=>⟨Ae.mono,tQ⟩) ?_);rintro⟨F,G⟩ -;refine Aa 1 (λ_=>?_)
    rotate_left
    refine Ah C<|Aa 2 (λb4=>λ_=>AS [2] (λw f h _=>h.blk) C (λ_ h=>h)<|Ah C<|Aa 2 (λb5=>λ_=>AS [3] (λw f h _=>h.blk) C (λ_ h=>h)<|Ah C<|CJ 2 C C<|CJ 0 C C<|BV (α:=oA×Nat) C C (eC DA C C) (λw f d=>BU w f d.vl [1] (some ⟨b3,0,none⟩) 1 (T1.var (0-1)).one (some ⟨b5,0,none⟩) 1 dC dC tQ ⟨Nat.le_refl _,.inr ⟨b3,0,C,d.b1⟩⟩ (BD (l:=[(.var (0-1),none,0)]) ⟨Ae.nil _ _ _ _,tQ⟩ d.b0) p.2.2 J L D d.f0) (λ_=>⟨Ae.mono,tQ⟩) ?_));rintro⟨F,G⟩ -;refine Aa 1 (λ_=>AS [1] (λw f h _=>h.blk) C (λ_ h=>.tail _ (.tail _ h))<|AN 2 (λ_=>Ah C<|Aa 2 (λb6=>λ_=>AS [2] (λw f h _=>h.blk) C (λ_ h=>.tail _ (.tail _ h))<|AN 1 (λ_=>Bp<|CJ 0 C C<|CJ 0 C C ?_))));exact Ph (some ⟨b6,0,none⟩) tQ lE (λw f d=>⟨f,(d.more (B':=[]) (F':=[λw f=>AV w f (ZH p::Kv i) (some ⟨b6,0,none⟩)]) nE (AA.mem ⟨⟨b6,F,G,some ⟨b4,0,none⟩,1,ea,C,d.b1,d.f0,⟨Nat.le_refl _,.inr ⟨b4,0,C,d.b0⟩⟩,d.f3⟩,tQ⟩) (Ap.mem ⟨AV.mono,tQ⟩)).less (sD sZ) sR nE (mR [3,0])⟩)
    all_goals
     exact AS [1] (λw f h _=>h.blk) C (λ_ h=>.tail _ (.tail _ h))<|AN 2 (λ_=>Ah C<|Aa 2 (λb6=>λ_=>AS [2] (λw f h _=>h.blk) C (λ_ h=>.tail _ (.tail _ h))<|AN 1 (λ_=>Bp<|CJ 0 C C<|CJ 0 C C<|Ph (some ⟨b6,0,none⟩) tQ lE (λw f d=>⟨f,(d.more (B':=[]) (F':=[λw f=>AV w f (ZH p::Kv i) (some ⟨b6,0,none⟩)]) nE (AA.mem ⟨⟨b6,F,G,some ⟨b5,0,none⟩,1,ea,C,d.b1,d.f0,⟨Nat.le_refl _,.inr ⟨b5,0,C,d.b0⟩⟩,d.f3⟩,tQ⟩) (Ap.mem ⟨AV.mono,tQ⟩)).less (sD sZ) sR nE (mR [3,0])⟩))))

theorem SK(w:wO)(c2 c3 c4:Nat) :
  CallsD prog 35 [pB c2,pB c3,pB c4].toArray .returning w λr m w'=>∃x,r=.returned x∧m=.returning∧AT w w':=by
 refine De (R:=λw'=>AT w w') func35 C C C C NS<|(?_:Aw prog _ (Ep prog _ (λ_ w'=>AT w w') λ_ _=>False) [] (X0 w (λ_=>0)) [] [] [] (.code _) [] _ []) w (λ_=>0) (AR (λ_ _=>C) tQ tQ);exact Aa 3 (λ_=>Cz C C (λw f d=>R4 QT C)<|Aa 7 (λ_=>iW (λw f d=>Gp C) (λw f d=>d.exm.stp.ext)))
theorem UC(w:wO)(f:Fq)(J:Vl w f)(c2 c3 c4:Nat)(v2 G y3 v4:Value)(h:AE w c2 [v2] 25)(D:AE w c3 [G,y3] 27)(F:AE w c4 [v4] 28)(K:f c2=0∧f c3=0∧f c4=0)(L:c2≠c3∧c2≠c4∧c3≠c4)(er:Er) :
  CallsD prog 35 [pB c2,pB c3,pB c4].toArray (.panicking (trI 114 er)) w λr m w'=>∃x,r=.returned x∧m=.panicking [{v:=.iface 114 (.agg #[iV er.1,iV er.2.1,iV er.2.2]),recovered:=true}]∧(∃f',C6 (λb=>b=c2∨b=c3∨b=c4) w f w' f'∧AE w' c2 [.slice none 0 0] 25∧AE w' c3 [iV er.1,iV er.2.1] 27∧AE w' c4 [iV er.2.2] 28):=by
 refine De (R:=λw'=>∃f',C6 (λb=>b=c2∨b=c3∨b=c4) w f w' f'∧AE w' c2 [.slice none 0 0] 25∧AE w' c3 [iV er.1,iV er.2.1] 27∧AE w' c4 [iV er.2.2] 28) func35 C C C C RV<|(?_:Aw prog _ (Ep prog _ (λ_ w'=>∃f',C6 (λb=>b=c2∨b=c3∨b=c4) w f w' f'∧AE w' c2 [.slice none 0 0] 25∧AE w' c3 [iV er.1,iV er.2.1] 27∧AE w' c4 [iV er.2.2] 28) λ_ _=>False) [] ⟨λb=>b=c2∨b=c3∨b=c4,λ_=>False,λ_ _=>True,w,f⟩ [] [] [] (.code _) [] _ [⟨c2,[v2],25,false⟩,⟨c3,[G,y3],27,false⟩,⟨c4,[v4],28,false⟩]) w f (rF J h D F K L);refine Aa 3 (λ_=>Cz C C (λw f d=>QM QT C)<|Aa 5 (λ_=>Cz C C (λw f d=>Vr C mP)<|Af 11 [0] (λb1=>y<|λ_=>Ca [0] Aj (rd [0,1,2,3] (.br 4 (.br 5 (.br 6 .fin .fin) .fin) .fin)) C kR<|Bh 4 [0,0] (y<|y<|λ_=>Ah C<|Af 2 [1] (y<|λ_=>Am [0] C ?_)))));exact Ah C<|Af 2 [2] (y<|λ_=>Am [0] C<|Ah C<|Af 2 [3] (y<|λ_=>Am [0] C<|Bp<|Aa 1 (λ_=>iW (λw f d=>Gp C) (λw f d=>⟨f,d.exm,d.blk _ qC,d.blk _ WK,d.blk _ WE⟩))))
end Go.Proofs.YtplnpgpagkpnmaaGreatDoor
namespace Go.SP
open Go.SW Go.RowKit
def Nd.wft:Nd→Prop
 |.nil=>True
 |.cons op _ _ _ _ k r=>(op=41∨(op=43∧k.wfm 2)∨((op=44∨op=45∨op=46)∧k.wfm 3))∧r.wft
def F3:List (lU×T1)→Ty
 | []=>.nil
 |b::l=>b.2.cons (F3 l)
theorem DN(b:lU×T1):∀l:List (lU×T1),F3 (l++[b])=(F3 l).snoc b.2
 | []=>by simp[F3,Ty.snoc,Ty.app,T1.one]
 |c::l=>by
   simp only[List.cons_append,F3,DN b l]
   cases c.2 <;> rfl
def bC:List (lU×lU)→lV
 | []=>[]
 |b::l=>S b.1::S b.2::bC l
theorem bC_app:∀a b:List (lU×lU),bC (a++b)=bC a++bC b
 | [],_=>rfl
 |x::a,b=>by simp only[List.cons_append,bC,bC_app a b]
theorem aD:∀a:List (lU×lU),(bC a).length=a.length*2
 | []=>rfl
 |x::a=>by simp only[bC,List.length_cons,aD a];omega
abbrev Wo(l:List (lU×T1)):List (lU×lU):=l.map λb=>(b.1,[])
section
variable{s s1:CS}{e e1:By}{op ln co nm:Int}{tx:lU}{k r:Nd}{out:List (lU×T1)}{er:Er}
theorem VH(h:DJ s e op ln co tx k=.ok (none,e1,s1)):Gi s e (.cons op ln co tx nm k r) out=Gi s1 e1 r out:=by rw[Gi,h]
theorem I4{b:lU×T1}(h:DJ s e op ln co tx k=.ok (some b,e1,s1)):Gi s e (.cons op ln co tx nm k r) out=Gi s1 e1 r (out++[b]):=by rw[Gi,h]
theorem D3(h:DJ s e op ln co tx k=.error er):Gi s e (.cons op ln co tx nm k r) out=.error er:=by rw[Gi,h]
end
structure Rel(Rl:CS→CS→Prop):Prop where
 refl:∀s,Rl s s
 trans:∀{s t u},Rl s t→Rl t u→Rl s u
 fresh:∀s,Rl s (A5 s).2
 has:∀{s a b ln co s'},Fu s a b ln co=.ok s'→Rl s s'
section
variable{Rl:CS→CS→Prop}(hR:Rel Rl)
include hR
theorem N7:∀(l:List Int)(s:CS),Rl s (Bx l s).2
 | [],s=>hR.refl s
 |_::l,s=>hR.trans (hR.fresh s) (N7 l _)
variable {s':CS}{co ln:Int}{k n:Nat}
theorem Sa{s:CS}{tx:lU}{a:Ty}{o:T1}(h:Kj s tx k ln co=.ok (a,o,s')):Rl s s':=by
 unfold Kj at h
 split at h
 · cases h
 · split at h
   · cases h
     exact N7 hR _ _
   · cases h
theorem aU{s:CS}{e:By}{tx:lU}{t:T1}(h:IG s e tx ln co=.ok (t,s')):Rl s s':=by
 unfold IG at h
 split at h
 · cases h
 · split at h
   · cases h
   · cases h
     exact N7 hR _ _
def RelF(Rl:CS→CS→Prop)(p:MG):Prop:=∀{s e op ln co tx nm k t s'},p s e op ln co tx nm k=.ok (t,s')→Rl s s'
def RelP(Rl:CS→CS→Prop)(p:OE):Prop:=∀{s e op ln co tx nm k t d s'},p s e op ln co tx nm k=.ok (t,d,s')→Rl s s'
variable{p:MG}(hp:RelF Rl p)
include hp
theorem Og{e:By}:∀(k:Nd){s s':CS}{l:Ty},EJ p e s k=.ok (l,s')→Rl s s'
 |.nil,_,_,_,h=>by cases h;exact hR.refl _
 |.cons op ln co tx nm k r,s,s',l,h=>by
   unfold EJ at h
   split at h
   · cases h
   · rename_i d
     split at h
     · cases h
     · rename_i D
       cases h
       exact hR.trans (hp d) (Og r D)
theorem SY{e:By}:∀(k:Nd){s s':CS}{l:Ty},Hu p e s l k=.ok s'→Rl s s'
 |.nil,_,_,_,h=>by cases h;exact hR.refl _
 |.cons op ln co tx nm k r,s,s',l,h=>by
   unfold Hu at h
   split at h
   · cases h
   · rename_i d
     split at h
     · cases h
     · rename_i D
       exact hR.trans (hp d) (hR.trans (hR.has D) (SY r h))
theorem WS{e:By}:∀(k:Nd){s s':CS}{t t':T1},KU p e s t k=.ok (t',s')→Rl s s'
 |.nil,_,_,_,_,h=>by cases h;exact hR.refl _
 |.cons op ln co tx nm k r,s,s',t,t',h=>by
   unfold KU at h
   split at h
   · cases h
   · rename_i d
     split at h
     · cases h
     · rename_i D
       exact hR.trans (hp d) (hR.trans (hR.fresh _) (hR.trans (hR.has D) (WS r h)))
theorem W5{s:CS}{e:By}{o l c m:Int}{tx x:lU}{k:Nd}{t:T1}(h:Kg p s e ln co tx o l c x m k=.ok (t,s')):Rl s s':=by
 unfold Kg at h
 split at h
 · cases h
 · rename_i d
   split at h
   · cases h
   · rename_i D
     cases h
     exact hR.trans (hR.fresh _) (hR.trans (hp d) (hR.has D))
omit hp
theorem S1:∀(k:Nd){s:CS}{e:By},Rl s (Fb s e k).2.2
 |.nil,_,_=>hR.refl _
 |.cons _ _ _ _ _ _ .nil,_,_=>hR.refl _
 |.cons _ _ _ _ _ _ (.cons o l c x m k r),_,_=>hR.trans (hR.fresh _) (S1 (.cons o l c x m k r))
variable{q:OE}(hq:RelP Rl q)
include hq
theorem PE:∀(k:Nd){s s':CS}{e d:By}{l:Ty},Hn q s e l k=.ok (d,s')→Rl s s'
 |.nil,_,_,_,_,_,h=>by cases h;exact hR.refl _
 |.cons op ln co tx nm k r,s,s',e,d,l,h=>by
   unfold Hn at h
   split at h
   · cases h
   · rename_i D
     split at h
     · cases h
     · rename_i F
       exact hR.trans (hq D) (hR.trans (hR.has F) (PE r h))
theorem PU:∀(k:Nd){s s':CS}{e d:By}{l:Ty},Gg q s e k=.ok (l,d,s')→Rl s s'
 |.nil,_,_,_,_,_,h=>by cases h;exact hR.refl _
 |.cons op ln co tx nm k r,s,s',e,d,l,h=>by
   unfold Gg at h
   split at h
   · cases h
   · rename_i D
     split at h
     · cases h
     · rename_i F
       cases h
       exact hR.trans (hq D) (PU r F)
theorem ZM{s:CS}{e d:By}{op:Int}{tx:lU}{k:Nd}{t:T1}(h:Dc q s e op ln co tx k=.ok (t,d,s')):Rl s s':=by
 unfold Dc at h
 repeat' (split at h)
 all_goals first|(cases h;first|exact hR.refl _|exact hR.fresh _|exact hR.trans (Sa hR (by assumption)) (PE hR hq _ (by assumption))|exact PU hR hq _ (by assumption))|cases h
omit hq
theorem Xf:∀n,RelP Rl (Cw n)
 |0=>λh=>by cases h
 |n+1=>λh=>by
   unfold Cw at h
   split at h
   · cases h
   · rename_i d
     split at h
     · cases h
     · cases h
       exact ZM hR (Xf n) d
include hp
theorem KV{e:By}{pt:T1}:∀(k:Nd){s s':CS}{t:Option T1}{u:T1},DW n p e pt s t k=.ok (u,s')→Rl s s'
 |.nil,_,_,_,_,h=>by unfold DW at h;cases h;exact hR.refl _
 |.cons _ _ _ _ _ J r,s,s',t,u,h=>by
   unfold DW at h
   split at h
   · split at h
     · cases h
     · rename_i d
       split at h
       · cases h
       · rename_i D
         split at h
         · cases h
         · rename_i F
           refine hR.trans (Xf hR _ d) (hR.trans (hR.has D) (hR.trans (hp F) ?_))
           split at h
           · split at h
             · cases h
             · rename_i G
               exact hR.trans (hR.has G) (KV r h)
           · exact KV r h
   · cases h
     exact hR.refl _
theorem gW{s:CS}{e:By}{op:Int}{tx:lU}{k:Nd}{t:T1}(h:Bl n p s e op ln co tx k=.ok (t,s')):Rl s s':=by
 have D:=@Rel.trans _ hR;have W:=@Rel.has _ hR;unfold Bl at h
 by_cases Y:(op==1)=true
 · rw[if_pos Y] at h
   cases h;exact hR.refl _
 rw[if_neg Y] at h
 by_cases Z:(op==2)=true
 · rw[if_pos Z] at h
   cases h;exact hR.refl _
 rw[if_neg Z] at h
 by_cases o3:(op==3)=true
 · rw[if_pos o3] at h
   cases h;exact hR.refl _
 rw[if_neg o3] at h
 by_cases o4:(op==4)=true
 · rw[if_pos o4] at h
   cases h;exact hR.refl _
 rw[if_neg o4] at h
 by_cases o5:(op==5)=true
 · rw[if_pos o5] at h
   exact aU hR h
 rw[if_neg o5] at h
 by_cases o6:(op==6)=true
 · rw[if_pos o6] at h
   split at h
   · cases h
   rename_i d
   split at h
   · cases h
   rename_i F
   cases h
   exact D (Sa hR d) (SY hR hp _ F)
 rw[if_neg o6] at h
 by_cases o7:(op==7)=true
 · rw[if_pos o7] at h
   split at h
   · cases h
     exact hR.refl _
   simp only at h
   split at h
   · cases h
   rename_i d
   cases h
   exact D (S1 hR _) (hp d)
 rw[if_neg o7] at h
 by_cases o8:(op==8)=true
 · rw[if_pos o8] at h
   split at h
   · cases h
     exact hR.refl _
   split at h
   · cases h
   rename_i d;exact D (hp d) (WS hR hp _ h)
 rw[if_neg o8] at h
 by_cases o9:(op==9)=true
 · rw[if_pos o9] at h
   split at h
   · split at h
     · cases h
     rename_i d
     split at h
     · cases h
     exact D (hp d) (hp h)
   · cases h
     exact hR.refl _
 rw[if_neg o9] at h
 by_cases G:(op==10)=true
 · rw[if_pos G] at h
   split at h
   · split at h
     · cases h
     rename_i d
     split at h
     · cases h
     exact D (W5 hR hp d) (hp h)
   · cases h
     exact hR.refl _
 rw[if_neg G] at h
 by_cases J:(op==11)=true
 · rw[if_pos J] at h
   split at h
   · split at h
     · cases h
     rename_i d
     split at h
     · cases h
     rename_i F
     split at h
     · cases h
     rename_i h3
     split at h
     · cases h
     rename_i h4
     split at h
     · cases h
     rename_i h5
     cases h
     exact D (hp d) (D (W F) (D (hp h3) (D (hp h4) (W h5))))
   · cases h
     exact hR.refl _
 rw[if_neg J] at h
 by_cases K:(op==12)=true
 · rw[if_pos K] at h
   split at h
   · cases h
   rename_i d
   cases h
   exact Og hR hp _ d
 rw[if_neg K] at h
 by_cases L:(op==13)=true
 · rw[if_pos L] at h
   split at h
   · cases h
   rename_i d
   cases h
   exact Og hR hp _ d
 rw[if_neg L] at h
 by_cases O:(op==14)=true
 · rw[if_pos O] at h
   split at h
   · cases h
     exact hR.refl _
   split at h
   · cases h
   rename_i d;exact D (hp d) (KV hR hp _ h)
 rw[if_neg O] at h
 by_cases Q:(op==15)=true
 · rw[if_pos Q] at h
   split at h
   · cases h
     exact hR.refl _
   split at h
   · cases h
   rename_i d;exact D (hp d) (KV hR hp _ h)
 rw[if_neg Q] at h
 by_cases U:(op==16)=true
 · rw[if_pos U] at h
   split at h
   · cases h
     exact hR.refl _
   split at h
   · cases h
   rename_i d
   split at h
   · cases h
   rename_i F
   cases h
   exact D (hp d) (D (W F) (hR.fresh _))
 rw[if_neg U] at h
 split at h
 · cases h
   exact hR.refl _
 exact hp h
omit hp
theorem L0:∀n,RelF Rl (Ce n)
 |0=>λh=>by cases h
 |n+1=>λh=>by
   unfold Ce at h
   split at h
   · cases h
   · rename_i d
     split at h
     · cases h
     · cases h
       exact gW hR (L0 n) d
end
def Frm(s s':CS):Prop:=s'.cons=s.cons∧s'.datas=s.datas∧s'.roots=s.roots∧s'.vars=s.vars
variable {s':CS}{co ln:Int}
theorem jG{s:CS}{a b:T1}(h:Fu s a b ln co=.ok s'):∃m,FU s.sol a b=.ok m∧s'={s with sol:=m}:=by
 unfold Fu at h
 split at h
 · cases h
 · cases h
   exact⟨_,by assumption,C⟩
theorem JM:Rel Frm where
 refl _:=⟨C,C,C,C⟩
 trans d D:=⟨D.1.trans d.1,D.2.1.trans d.2.1,D.2.2.1.trans d.2.2.1,D.2.2.2.trans d.2.2.2⟩
 fresh _:=⟨C,C,C,C⟩
 has h:=by obtain⟨m,-,rfl⟩:=jG h;exact⟨C,C,C,C⟩
section
variable{s s1 s2:CS}{e e1:By}{op ln co nm o l c m o2 l2 c2 m2:Int}{tx x x2:lU}{kids k r k2 r2:Nd}{t q:T1}{er:Er}
theorem YW(h:(op==41)=true)(hd:IH s ln co tx kids=.ok s1):DJ s e op ln co tx kids=.ok (none,e,s1):=by unfold DJ;rw[if_pos h,hd]
theorem Vj(h:(op==41)=true)(hd:IH s ln co tx kids=.error er):DJ s e op ln co tx kids=.error er:=by unfold DJ;rw[if_pos h,hd]
theorem eI(h:(op==44)=true)(d:Ce (k.size+1) s e o l c x m k=.ok (t,s1))(hw:HO s1 e tx t (Ct (k.size+1) o k) ln co=.ok e1):DJ s e op ln co tx (.cons o l c x m k r)=.ok (some (tx,t),e1,s1):=by
 obtain rfl:=beq_iff_eq.1 h;unfold DJ;rw[if_neg (by decide)];simp only;rw[if_neg (by decide),if_pos (by decide),d];simp only;rw[hw]
theorem YR(h:(op==44)=true)(d:Ce (k.size+1) s e o l c x m k=.error er):DJ s e op ln co tx (.cons o l c x m k r)=.error er:=by
 obtain rfl:=beq_iff_eq.1 h;unfold DJ;rw[if_neg (by decide)];simp only;rw[if_neg (by decide),if_pos (by decide),d]
theorem YJ(h:(op==44)=true)(d:Ce (k.size+1) s e o l c x m k=.ok (t,s1))(hw:HO s1 e tx t (Ct (k.size+1) o k) ln co=.error er):DJ s e op ln co tx (.cons o l c x m k r)=.error er:=by
 obtain rfl:=beq_iff_eq.1 h;unfold DJ;rw[if_neg (by decide)];simp only;rw[if_neg (by decide),if_pos (by decide),d];simp only;rw[hw]
theorem Z3(h:(op==45)=true)(d:Kg (Ce (k.size+1)) s e ln co tx o l c x m k=.ok (t,s1))(hw:HO s1 e tx t true ln co=.ok e1):DJ s e op ln co tx (.cons o l c x m k r)=.ok (some (tx,t),e1,s1):=by
 obtain rfl:=beq_iff_eq.1 h;unfold DJ;rw[if_neg (by decide)];simp only;rw[if_neg (by decide),if_neg (by decide),if_pos (by decide),d];simp only;rw[hw]
theorem XO(h:(op==45)=true)(d:Kg (Ce (k.size+1)) s e ln co tx o l c x m k=.error er):DJ s e op ln co tx (.cons o l c x m k r)=.error er:=by
 obtain rfl:=beq_iff_eq.1 h;unfold DJ;rw[if_neg (by decide)];simp only;rw[if_neg (by decide),if_neg (by decide),if_pos (by decide),d]
theorem YP(h:(op==45)=true)(d:Kg (Ce (k.size+1)) s e ln co tx o l c x m k=.ok (t,s1))(hw:HO s1 e tx t true ln co=.error er):DJ s e op ln co tx (.cons o l c x m k r)=.error er:=by
 obtain rfl:=beq_iff_eq.1 h;unfold DJ;rw[if_neg (by decide)];simp only;rw[if_neg (by decide),if_neg (by decide),if_pos (by decide),d];simp only;rw[hw]
theorem lL(h:(op==46)=true)(d:Ce (k.size+1) s e o l c x m k=.ok (t,s1)):DJ s e op ln co tx (.cons o l c x m k r)=.ok (some ([],t),e,s1):=by
 obtain rfl:=beq_iff_eq.1 h;unfold DJ;rw[if_neg (by decide)];simp only;rw[if_neg (by decide),if_neg (by decide),if_neg (by decide),d]
theorem gD(h:(op==46)=true)(d:Ce (k.size+1) s e o l c x m k=.error er):DJ s e op ln co tx (.cons o l c x m k r)=.error er:=by
 obtain rfl:=beq_iff_eq.1 h;unfold DJ;rw[if_neg (by decide)];simp only;rw[if_neg (by decide),if_neg (by decide),if_neg (by decide),d]
theorem Ol(h:CR s.datas [] o l c x k=.ok q):Gr s.datas [] (.cons o l c x m k .nil)=.ok q.one:=by
 rw[LY,h];simp only[Gr];cases q <;> rfl
theorem Vh(h:(op==43)=true)(d:s.roots.contains tx=true):DJ s e op ln co tx (.cons o l c x m k r)=.error (ln,co,11):=by
 obtain rfl:=beq_iff_eq.1 h;unfold DJ;rw[if_neg (by decide)];simp only;rw[if_pos (by decide),if_pos d]
theorem U8(h:(op==43)=true)(d:s.roots.contains tx=false)(D:CR s.datas [] o l c x k=.error er):DJ s e op ln co tx (.cons o l c x m k r)=.error er:=by
 obtain rfl:=beq_iff_eq.1 h;unfold DJ;rw[if_neg (by decide)];simp only;rw[if_pos (by decide),if_neg (by rw[d];decide),Jd D]
theorem Vx(h:(op==43)=true)(d:s.roots.contains tx=false)(D:CR s.datas [] o l c x k=.ok q)(F:Ce (k2.size+1) {s with roots:=tx::s.roots} e o2 l2 c2 x2 m2 k2=.error er):DJ s e op ln co tx (.cons o l c x m k (.cons o2 l2 c2 x2 m2 k2 r2))=.error er:=by
 obtain rfl:=beq_iff_eq.1 h;unfold DJ;rw[if_neg (by decide)];simp only;rw[if_pos (by decide),if_neg (by rw[d];decide),Ol D];simp only;rw[F]
theorem US(h:(op==43)=true)(d:s.roots.contains tx=false)(D:CR s.datas [] o l c x k=.ok q)(F:Ce (k2.size+1) {s with roots:=tx::s.roots} e o2 l2 c2 x2 m2 k2=.ok (t,s1))(G:Fu s1 q t ln co=.error er):DJ s e op ln co tx (.cons o l c x m k (.cons o2 l2 c2 x2 m2 k2 r2))=.error er:=by
 obtain rfl:=beq_iff_eq.1 h;unfold DJ;rw[if_neg (by decide)];simp only;rw[if_pos (by decide),if_neg (by rw[d];decide),Ol D];simp only;rw[F];simp only;rw[show q.one.hd=q by cases q <;> rfl,G]
theorem Ze(h:(op==43)=true)(d:s.roots.contains tx=false)(D:CR s.datas [] o l c x k=.ok q)(F:Ce (k2.size+1) {s with roots:=tx::s.roots} e o2 l2 c2 x2 m2 k2=.ok (t,s1))(G:Fu s1 q t ln co=.ok s2) :
   DJ s e op ln co tx (.cons o l c x m k (.cons o2 l2 c2 x2 m2 k2 r2))=.ok (some (tx,.con Cl q.one),⟨tx,.con Cl q.one,[]⟩::e,s2):=by
 obtain rfl:=beq_iff_eq.1 h;unfold DJ;rw[if_neg (by decide)];simp only;rw[if_pos (by decide),if_neg (by rw[d];decide),Ol D];simp only;rw[F];simp only;rw[show q.one.hd=q by cases q <;> rfl,G]
end
def MB(w:wO)(f:Fq)(l:List (lU×lU))(a:oA)(c:Nat):Prop:=l.length≤c∧(l=[]∨∃b off,a=some ⟨b,off,none⟩∧Cs w f b off (bC l))
variable {X:Cx}{f:Fq}{Fs:List (wO→Fq→Prop)}{B:List FB}{H:List HB}{a:oA}{T:tI}{w:wO}
theorem MB.mono{l:List (lU×lU)}{c:Nat}:Ea (λw f=>MB w f l a c):=λ_ _ _ _ h d=>⟨h.1,h.2.imp id λ⟨b,off,D,F⟩=>⟨b,off,D,F.mono d⟩⟩
def XN(nds:Nd)(w:wO)(f:Fq)(v:Value)(w':wO):Prop:=∃f',C6 (λ_=>False) w f w' f' ∧
 match ER nds with
 |.error er=>v=.tuple #[.slice none 0 0,.agg #[.int .i64 er.1,.int .i64 er.2.1],.int .i64 er.2.2]
 |.ok d=>∃a c,v=.tuple #[.slice a d.length c,.agg #[.int .i64 0,.int .i64 0],.int .i64 0]∧MB w' f' d a c
def R3(l:List (lU×lU))(r:List (lU×T1)):List (lU×lU):=l++Wo r
theorem XU{s:CS}{n:lU}{t f:T1}{r:List (lU×T1)}{d:List (lU×lU)}(h:Jo s t 0 0=.ok f) :
   (match Mc s ((n,t)::r) with|.error x=>.error x|.ok l=>.ok (d++l):RI (List (lU×lU)))=(match Mc s r with|.error x=>.error x|.ok l=>.ok ((d++[(n,P6 f)])++l)):=by
 rw[Mc,h];simp only
 cases Mc s r with
 |error x=>rfl
 |ok z=>simp
theorem VM{s:CS}{r:List (lU×T1)}:Mc s r=(match Mc s r with|.error x=>.error x|.ok l=>.ok ([]++l)):=by
 cases Mc s r <;> rfl
theorem ZF{s:CS}{n:lU}{t:T1}{r:List (lU×T1)}{er:Er}(h:Jo s t 0 0=.error er):Mc s ((n,t)::r)=.error er:=by rw[Mc,h]
theorem YN{d:List (lU×lU)}{n y:lU}{t:T1}{r:List (lU×T1)}:DI (bC (R3 d ((n,t)::r))) (d.length*2+1) [S y]=bC (R3 (d++[(n,y)]) r):=by
 unfold R3;rw[bC_app,bC_app,bC_app];have h:=aD d;rw[← h];generalize bC d=D;simp[DI,Wo,bC,List.set_append_right]
theorem SI{a:lU}:∀l:List lU,(EF (l.map λk=>(k,Value.bool true)) a).getD (.bool false)=.bool (l.contains a)
 | []=>rfl
 |b::l=>by
   simp only[List.map_cons,EF,List.contains_cons]
   by_cases h:a=b
   · subst h;simp
   · rw[show (a==b)=false from beq_eq_false_iff_ne.2 h]
     simpa using SI l
theorem D1.addRoot{s:CS}(h:D1 s){a:lU}(D:s.roots.contains a=false):D1 {s with roots:=a::s.roots} :=
 {h with
   dr:=⟨by
     have:∀l:List lU,l.contains a=false→EF (l.map λk=>(k,Value.bool true)) a=none:=by
       intro l
       induction l with
       |nil=>intro _;rfl
       |cons b l F =>
         intro d;rw[List.contains_cons,Bool.or_eq_false_iff] at d;simp only[List.map_cons,EF];rw[d.1];simpa using F d.2
     exact this _ D,h.dr⟩}
theorem FC{nds:Nd}{er:Er}(h:Gi jA Rx nds []=.error er):ER nds=.error er:=by rw[ER,h]
theorem uZ{nds:Nd}{out:List (lU×T1)}{s:CS}(h:Gi jA Rx nds []=.ok (out,s)):ER nds=Mc s out:=by rw[ER,h]
theorem wN{R:List RB}{c:Nat}{l:List (lU×lU)}(D:AP X w f H (⟨T,2,a,c,l.length,bC l⟩::R) B Fs):∃f',AP X w f' H R B Fs∧MB w f' l a c:=by
 have J:=D.row _ (.head _);rcases J.2 with ⟨_,_,hz⟩|⟨b,q,G,K,F,_,L,O⟩
 · simp only at hz
   exact⟨f,D.less (List.Sublist.refl _) (List.sublist_cons_self _ _) (λ_ h=>h) (λ_ h=>h),oM,.inl (by cases l with|nil=>rfl|cons _ _=>simp at hz)⟩
 · simp only at G
   subst G;obtain⟨f',d⟩:=D.done (i:=0) C C;refine⟨f',d.less (List.Sublist.refl _) (List.Sublist.refl _) (λ_ h=>.tail _ h) (λ_ h=>h),F,.inr ⟨b,0,C,d.fro _ (.head _)⟩⟩
end Go.SP
