/- What it rests on, part 5. -/
import Derived.Test.YtnojaendcldjpaaGreatDoorGt4
import Derived.Test.YtnojaendcldjpaaGreatDoorCards
import Derived.Test.YtnojaendcldjpaaGreatDoorTie
import Derived.OpenShut
import Derived.Lib.LaidU8
import Derived.Clock
import Derived.ProofKit
import Derived.Lay
import Derived.Stop.Joined
import Derived.Deep.DeepHandedRow
set_option linter.unusedVariables false
set_option linter.unusedSimpArgs false
namespace Go.Proofs.YtnojaendcldjpaaGreatDoor
open Go.SW Go.SP Go.RowKit Go.Proofs.Tryz
theorem WI{k:Ty}(h:k.bnd):(GC k).bnd:=dL k.len k (Nat.le_refl _) h
theorem bN(w:wO)(f:Fq)(h:Vl w f)(x t:T1)(b:Nat)(D:x.bnd)(F:t.bnd)(G:Al w f (x.cons t.one) (some ⟨b,0,none⟩) 2) :
  AX prog 18 #[.slice (some ⟨b,0,none⟩) 2 2] w (AU (α:=oA×Nat) (λy=>tV (.con Ga (x.cons t.one)) y.1 y.2) (λ_=>True) (λy=>[λw f=>Al w f (T1.con Ga (x.cons t.one)).kids y.1 y.2]) w f):=by
 have e:(x.cons t.one).len=2:=by simp[T1.len_cons,T1.one,Ty.len]
 have J:GC (x.cons t.one)=.con Ga (x.cons t.one):=by rw[show t.one=t.cons .nil from C,KY];rw[show t.cons .nil=t.one from C,Nh]
 have d:=ME w f h (x.cons t.one) (some ⟨b,0,none⟩) 2 oM oM (T1.bnd_cons.2 ⟨D,GX F⟩) G;rw[e,J] at d;exact d
set_option maxHeartbeats 2000000 in
theorem XA(n:Nat)(ih:ExpF prog 72 134 146 224 n)(w:wO)(f:Fq)(hv:Vl w f)(A:Ad)(hA:A.ok)(s:CS)(hC:AN 146 224 A s w f)(hf:∀b,Dk A b→f b=0)(hw:Im s)(op ln co nm:Int)(tx:lU)(kids:Nd)(na:oA)(nc:Nat)(e:BJ)(ea:oA)(hm:kids.size<n+1)(hsz:kids.size≤200000)(G:TU op kids)(hN:Bc w f kids na nc)(heB:JI e)(hE:BC w f e ea)(hfb:s.fresh+200002*(kids.size+1)≤800000000000) :
  BV prog 102 #[pB A.cb,.agg #[iV op,iV ln,iV co,S tx,iV nm,.slice na kids.len nc],.pointer ea] w (EF (α:=(T1×oA×Nat)×CS) (λx=>tV x.1.1 x.1.2.1 x.1.2.2) (λx=>FC n (EH n) s e op ln co tx kids=.ok (x.1.1,x.2)∧x.1.1.bnd∧Im x.2∧x.2.fresh+1≤s.fresh+200002*(kids.size+1)) (Dk A) (λx=>AN 146 224 A x.2) (λx=>[λw f=>Al w f x.1.1.kids x.1.2.1 x.1.2.2]) w f) (PanE 134 (Dk A) (λer=>FC n (EH n) s e op ln co tx kids=.error er) w f):=by
 have hkl:=Nd.len_le kids;have hfr0:=hw.fr;refine TV (X:=XC 146 224 A s w f) (H:=[]) (R:=[]) (B:=[]) (Fs:=[λw f=>Bc w f kids na nc,λw f=>BC w f e ea]) (f:=f) func102 C C C (Tq hv hC hf ⟨hN,hE,tQ⟩ ⟨Bc.mono,BC.mono,tQ⟩)<|Ae 27 [1,1] (λb1=>λb2=>y<|y<|λ_=>Ap 28 C C (λh1=>?_) (λh1=>?_));exact Aa 3 (λ_=>BO C C (eC C8 C C) (λw f d=>Dv w f d.vl [105,110,116])<|Ae 6 [0] (y<|λ_=>A5 (λw f d=>Ao C (Ab C CA d.k0 C)) (λw f d=>⟨(((c0 bI),none,0),s),f,C,⟨(by simp only[FC,h1,Bool.false_eq_true,if_false,if_true]),(GJ dC),hw,by dsimp only;omega⟩,d.exm,d.res,⟨Al.nil _ _ _ _,tQ⟩⟩)));refine Aa 7 (λ_=>Ap 31 C C (λh2=>?_) (λh2=>?_));exact (dH G h2).elim;refine Aa 7 (λ_=>Ap 34 C C (λh3=>?_) (λh3=>?_));exact Aa 3 (λ_=>BO C C (eC C8 C C) (λw f d=>Dv w f d.vl [115,116,114,105,110,103])<|Ae 6 [0] (y<|λ_=>A5 (λw f d=>Ao C (Ab C CA d.k0 C)) (λw f d=>⟨(((c0 bS),none,0),s),f,C,⟨(by simp only[FC,h1,h2,h3,Bool.false_eq_true,if_false,if_true]),(GJ dC),hw,by dsimp only;omega⟩,d.exm,d.res,⟨Al.nil _ _ _ _,tQ⟩⟩)));refine Aa 7 (λ_=>Ap 37 C C (λh4=>?_) (λh4=>?_));exact (dH G h4).elim;refine Aa 7 (λ_=>Ap 40 C C (λh5=>?_) (λh5=>?_));refine Ae 6 [1] (y<|λ_=>XO C C (eC lP C C) (λ_ h=>h) (λw f d=>Yg w f d.vl A hA s d.res d.mz hw op ln co nm tx kids na nc e ea heB d.f1 oM) (λ_=>AN.stab) (λ_=>⟨Al.mono,tQ⟩) (λer w2 f2 he hE=>⟨C,er,f2,C,(by simp only[FC,h1,h2,h3,h4,h5,Bool.false_eq_true,if_false,if_true];exact he),hE⟩) ?_);rintro⟨⟨t,ta,tc⟩,s1⟩ ⟨hlk,htb,hw1,hf1⟩;dsimp only at hlk htb hw1 hf1 ⊢;exact Ae 6 [0] (y<|λ_=>A5 (λw f d=>Ao C (Ab C CA d.k0 C)) (λw f d=>⟨((t,ta,tc),s1),f,C,⟨(by simp only[FC,h1,h2,h3,h4,h5,Bool.false_eq_true,if_false,if_true];exact hlk),htb,hw1,by dsimp only;omega⟩,d.exm,d.res,⟨d.f0,tQ⟩⟩));refine Aa 7 (λ_=>Ap 46 C C (λh6=>?_) (λh6=>?_));exact (dH G h6).elim;refine Aa 7 (λ_=>Ap 75 C C (λh7=>?_) (λh7=>?_));refine Aa 8 (λ_=>?_);have hwk:=wf7 ((beq_iff_eq.1 h7)▸G);have hk0:0<kids.len:=by obtain⟨_,_,_,_,_,_,_,F⟩:=QQ hwk dC;rw[F];exact Nat.succ_pos _
 obtain⟨m,hm2⟩:∃m,kids.len=m+1:=⟨kids.len-1,oM⟩;refine Aa 5 (aI ⟨oM,oM⟩<|λ_=>BN C C (λw f d=>IH (i:=m) (show ((kids.len:Int)-1)=(m:Int) by omega) C C ZT (by have:=hN.1;omega))<|Aa 5 (λ_=>LY 29 4 ?_));refine DK (α:=Nat×Nd×Ty×lV×oA×Nat×BJ×oA×CS) (λx=>x.2.1.len) (λx=>x.1+x.2.1.len=kids.len∧0<x.2.1.len∧x.2.2.1.len=x.1∧EZ s e kids=(x.2.2.1.app (EZ x.2.2.2.2.2.2.2.2 x.2.2.2.2.2.2.1 x.2.1).1,(EZ x.2.2.2.2.2.2.2.2 x.2.2.2.2.2.2.1 x.2.1).2)∧kids.last=x.2.1.last∧x.2.2.1.bnd∧x.2.1.wfm 4∧JI x.2.2.2.2.2.2.1∧Im x.2.2.2.2.2.2.2.2∧x.2.1.size≤kids.size∧x.2.2.2.2.2.2.2.2.fresh+200002*x.2.1.size≤s.fresh+200002*kids.size) (λx=>(E9 0 (pB A.cb) 2 (.pointer x.2.2.2.2.2.2.2.1) 4 (pB b1) 6 (pB b2) 7 (.slice na kids.len nc) 12 (.slice x.2.2.2.2.1 x.1 x.2.2.2.2.2.1) 81 (.slice na m nc) 82 (iV (m:Int)) 83 (iV (x.1:Int)))) (λx=>⟨Dk A,Dk A,AN 146 224 A x.2.2.2.2.2.2.2.2,w,f⟩) (λx=>[⟨b2,zT,29,true⟩,⟨b1,[iV op,iV ln,iV co,S tx,iV nm,.slice na kids.len nc],101,true⟩]) (λx=>[⟨29,4,x.2.2.2.2.1,x.2.2.2.2.2.1,x.1,x.2.2.2.1⟩]) (λx=>[]) (λx=>[λw f=>Ct w f na x.1 x.2.1,λw f=>Cr w f x.2.2.1 x.2.2.2.1,λw f=>BC w f x.2.2.2.2.2.2.1 x.2.2.2.2.2.2.2.1]) (0,kids,.nil,[],none,0,e,ea,s) ⟨Nat.zero_add _,by dsimp only;omega,C,C,C,tQ,hwk,heB,hw,Nat.le_refl _,by dsimp only;omega⟩ lE (λw f d=>d.more (B':=[]) (F':=[λw f=>Ct w f na 0 kids,λw f=>Cr w f .nil []]) nE (AR.mem ⟨Bc.at d.f0,C,tQ⟩) (Au.mem ⟨Ct.mono,Cr.mono,tQ⟩) |>.less sR sR nE (mR [0,1,3])) ?_;rintro⟨i,r,dn,xs,ra,rc,e4,ea4,J⟩ ⟨hi,hr0,hdl,hpa,hla,hdb,D,heB4,hw4,hrs,K⟩;dsimp only at hi hr0 hdl hpa hla hdb D heB4 hw4 hrs K ⊢;refine Aa 6 (λ_=>Ap 84 C C (λh8=>?_) (λh8=>?_));refine Aa 6 (λ_=>?_);have hil:i<m:=by have:=dT h8;omega
 obtain⟨L,W,Y,O,Z,k2,r,rfl⟩:=Nd.cases1 r oM;have hi2:i+(r.len+1)=kids.len:=hi;have hrs2:k2.size+r.size+1≤kids.size:=hrs;have hfr5:J.fresh+200002*((k2.size+r.size+1:Nat):Int)≤s.fresh+200002*kids.size:=K;have hwf5:r.wfm 4:=by rw[wfm4] at D;rcases D with F|F;exact absurd F.1 (Nd.ne_nil oM);exact F.2
 refine Yy 0 C ?_;rintro⟨eb,eo,ka,kc⟩ rfl;refine Ae 12 [100,0,0] (aI oM<|y2<|λb3=>y<|λ_=>BN C C (λw f d=>Ai C JX d.res.blk C)<|yP λpr=>CI (α:=CS) (val:=λ_=>tV (AM J).1 none 0) (q:=λx=>x=(AM J).2∧Im x∧x.fresh=J.fresh+1) (I':=λx=>AN 146 224 A x) (F':=λ_=>[]) (XX:=λ_ _=>False) C C (eC Qr C C) (λw f d=>(M4 w f d.vl A hA J hw4 pr d.res.1 d.res.2 d.mz oM).retP) (λ_=>AN.stab) (λ_=>trivial) (λ_ _ _ _ _ h=>h.elim) ?_);rintro U ⟨hs5,hw5,hw5f⟩;refine Ae 9 [0,0] (λb4=>y<|y<|λb5=>λ_=>Dd 0 0 C C I1 C C C C C C C C (λ_ _=>C) oM oM λra2 rc2=>Ae 10 [2] (y<|λ_=>Ap 98 C C (λF=>?_) (λF=>?_)));refine Ae 9 [2,1,4] (y<|y<|y<|λ_=>XO C C (eC aH C C) (λ_ h=>h) (λw f d=>Pm w f d.vl A hA U d.res d.mz hw5 e4 ea4 heB4 d.f4 O (AM J).1 none 0 (EP _) (Al.nil _ _ _ _) false ln co) (λ_=>AN.stab) (λ_=>⟨BC.mono,tQ⟩) (λer w2 f2 he hE=>⟨C,er,f2,C,(by cases he),hE⟩) ?_);rintro⟨e5,ea5⟩ ⟨he5,heB5⟩;dsimp only at he5 heB5 ⊢;have hee:e5=⟨O,(AM J).1,[]⟩::e4:=by cases he5;rfl
 exact Aa 8 (aI ⟨oM,oM⟩<|λ_=>Ce ((i+1,r,dn.snoc (AM J).1,xs++tC (AM J).1 none 0,ra2,rc2,e5,ea5,U)) (show r.len<(Nd.cons L W Y O Z k2 r).len from Nat.lt_succ_self _) ⟨show i+1+r.len=_ by omega,show 0<r.len by omega,show (dn.snoc _).len=i+1 by rw[Ty.len_snoc,hdl],hpa.trans ((OF (Nd.ne_nil oM)).trans (by rw[hs5,F,hee];simp)),hla.trans (Nd.last_step (Nd.ne_nil oM)),show (dn.snoc _).bnd from Ty.bnd_snoc hdb (EP _),hwf5,heB5,hw5,show r.size≤_ by omega,show U.fresh+200002*(r.size:Int)≤_ by rw[hw5f];omega⟩ lE (λw f d=>⟨_,(d.more (B':=[]) (F':=[λw f=>Cr w f (dn.snoc (AM J).1) (xs++tC (AM J).1 none 0)]) nE (AR.mem ⟨Cr.snoc (Al.nil _ _ _ _) d.f4,tQ⟩) (Au.mem ⟨Cr.mono,tQ⟩)).less (.cons _ (.cons _ (.cons _ sR))) sR nE (mR [3,0,1])⟩));exact Aa 8 (aI ⟨oM,oM⟩<|λ_=>Ce ((i+1,r,dn.snoc (AM J).1,xs++tC (AM J).1 none 0,ra2,rc2,e4,ea4,U)) (show r.len<(Nd.cons L W Y O Z k2 r).len from Nat.lt_succ_self _) ⟨show i+1+r.len=_ by omega,show 0<r.len by omega,show (dn.snoc _).len=i+1 by rw[Ty.len_snoc,hdl],hpa.trans ((OF (Nd.ne_nil oM)).trans (by rw[hs5,F];simp)),hla.trans (Nd.last_step (Nd.ne_nil oM)),show (dn.snoc _).bnd from Ty.bnd_snoc hdb (EP _),hwf5,heB4,hw5,show r.size≤_ by omega,show U.fresh+200002*(r.size:Int)≤_ by rw[hw5f];omega⟩ lE (λw f d=>⟨_,(d.more (B':=[]) (F':=[λw f=>Cr w f (dn.snoc (AM J).1) (xs++tC (AM J).1 none 0)]) nE (AR.mem ⟨Cr.snoc (Al.nil _ _ _ _) d.f3,tQ⟩) (Au.mem ⟨Cr.mono,tQ⟩)).less (.cons _ (.cons _ (.cons _ sR))) sR nE (mR [2,0,5])⟩));refine Aa 3 (λ_=>Df<|Aa 3 (λ_=>?_));have hie:i=m:=by have:=dF h8;omega
 obtain⟨L,W,Y,O,Z,k2,r,rfl⟩:=Nd.cases1 r hr0;obtain rfl:r=.nil:=Nd.len0 (by have F:i+(r.len+1)=kids.len:=hi;omega);have hwk1:TU L k2:=by rw[wfm4] at D;rcases D with F|F;exact F.2;exact absurd C F.1
 have hrs2:k2.size+0+1≤kids.size:=hrs;have hfr5:J.fresh+200002*((k2.size+0+1:Nat):Int)≤s.fresh+200002*kids.size:=K;have hpa2:EZ s e kids=(dn,e4,J):=by rw[hpa];show (dn.app .nil,e4,J)=_;rw[Ty.app_nil]
 refine Hh (α:=Nat×Nat×oA×Nat) (λx=>na=some ⟨x.1,x.2.1,none⟩) (λx=>[⟨x.1,x.2.1+((kids.len:Int)-1).toNat*6,GQ L W Y O Z x.2.2.1 k2.len x.2.2.2⟩]) (λx=>[λw f=>Bc w f k2 x.2.2.1 x.2.2.2]) (λw f d=>let ⟨b,off,ka,kc,h1,h2,h3,h4⟩:=Ct.head d.f0;⟨(b,off,ka,kc),h1,(λe he=>by cases he with|head=>(rw[show ((kids.len:Int)-1).toNat=i by omega];exact h2)|tail _ h=>cases h),AR.mem ⟨h3,tQ⟩⟩) (λx=>Au.mem ⟨Bc.mono,tQ⟩) ?_;rintro⟨eb,eo,ka2,kc2⟩ rfl;refine Ae 10 [100,0] (aI ⟨oM,oM⟩<|aI oM<|y2<|λ_=>XO C C (eC Oj C C) (λ_ h=>h) (λw f d=>ih w f d.vl A hA J d.res d.mz hw4 L W Y Z O k2 ka2 kc2 e4 ea4 oM oM hwk1 d.f0 heB4 d.f3 oM) (λ_=>AN.stab) (λ_=>⟨Al.mono,tQ⟩) (λer w2 f2 he hE=>⟨C,er,f2,C,(by simp only[FC,h1,h2,h3,h4,h5,h6,h7,Bool.false_eq_true,if_false,if_true];rw[hla];show (match EH n (EZ s e kids).2.2 (EZ s e kids).2.1 L W Y O Z k2 with|.error x=>.error x|.ok (t,s1)=>.ok (GC ((EZ s e kids).1.snoc t),s1):RI (T1×CS))=_;rw[hpa2,he]),hE⟩) ?_);rintro⟨⟨q5,qa,qc⟩,U⟩ ⟨hp5,hqb,hw5,hf5⟩;dsimp only at hp5 hqb hw5 hf5 ⊢;refine Aa 1 (λb3=>λ_=>Dd 0 0 C C I1 C C C C C C C C (λ_ _=>C) oM oM λra9 rc9=>Xg (λw f=>Al w f (dn.snoc q5) ra9 rc9) Al.mono (λw f d=>Ni d (Cr.snoc d.f0 d.f3)) ?_);have hdn:(dn.snoc q5).len=i+1:=by rw[Ty.len_snoc,hdl]
 refine CR (α:=oA×Nat) (val:=λy=>tV (GC (dn.snoc q5)) y.1 y.2) (q:=λ_=>True) (F':=λy=>[λw f=>Al w f (GC (dn.snoc q5)).kids y.1 y.2]) C C (eC Rm C C) (λw f d=>by have F:=ME w f d.vl (dn.snoc q5) ra9 rc9 oM oM (Ty.bnd_snoc hdb hqb) d.f0;rw[hdn] at F;exact F) (λ_=>⟨Al.mono,tQ⟩) ?_;rintro⟨ta,tc⟩ -;exact Ae 6 [1] (y<|λ_=>A5 (λw f d=>Ao C (Ab C CA d.k1 C)) (λw f d=>⟨(((GC (dn.snoc q5)),ta,tc),U),f,C,⟨(by simp only[FC,h1,h2,h3,h4,h5,h6,h7,Bool.false_eq_true,if_false,if_true];rw[hla];show (match EH n (EZ s e kids).2.2 (EZ s e kids).2.1 L W Y O Z k2 with|.error x=>.error x|.ok (t,s1)=>.ok (GC ((EZ s e kids).1.snoc t),s1):RI (T1×CS))=_;rw[hpa2,hp5]),(WI (Ty.bnd_snoc hdb hqb)),hw5,by dsimp only;omega⟩,d.exm,d.res,⟨d.f0,tQ⟩⟩));refine Aa 7 (λ_=>Ap 121 C C (λh8=>?_) (λh8=>?_));refine Aa 2 (λ_=>?_);have hwk:=wf8 ((beq_iff_eq.1 h8)▸G);obtain⟨L,W,Y,O,Z,k2,r2,Q⟩:=Nd.cases1 kids hwk.1;have hwk1:TU L k2:=by have F:=hwk.2;rw[Q] at F;exact F.1
 have hwk2:r2.wfm 0:=by have F:=hwk.2;rw[Q] at F;exact F.2
 have hks:kids.size=k2.size+r2.size+1:=by rw[Q];rfl
 have hkl2:kids.len=r2.len+1:=by rw[Q];rfl
 refine mnr 0 C Q<|mne 1 C Q<|Yy 0 C ?_;rintro⟨eb,eo,ka2,kc2⟩ rfl;refine Ae 6 [100,0] (aI oM<|y2<|λ_=>XO C C (eC Oj C C) (λ_ h=>h) (λw f d=>ih w f d.vl A hA s d.res d.mz hw L W Y Z O k2 ka2 kc2 e ea oM oM hwk1 d.f0 heB d.f5 oM) (λ_=>AN.stab) (λ_=>⟨Al.mono,tQ⟩) (λer w2 f2 he hE=>⟨C,er,f2,C,(by simp only[FC,h1,h2,h3,h4,h5,h6,h7,h8,Bool.false_eq_true,if_false,if_true];rw[Q];simp only;rw[he]),hE⟩) ?_);rintro⟨⟨t0,ta0,tc0⟩,s1⟩ ⟨hp0,htb0,hw1,hf1⟩;dsimp only at hp0 htb0 hw1 hf1 ⊢;refine Ae 8 [0] (λb3=>y<|λ_=>BN C C (λw f d=>aO hkl2 C C ZT)<|Aa 5 (λ_=>?_));refine DK (α:=Nat×Nd×T1×oA×Nat×CS) (λx=>x.2.1.len) (λx=>x.1+x.2.1.len=r2.len∧K5 (EH n) e s1 t0 r2=K5 (EH n) e x.2.2.2.2.2 x.2.2.1 x.2.1∧x.2.2.1.bnd∧x.2.1.wfm 0∧Im x.2.2.2.2.2∧x.2.1.size≤r2.size∧x.2.2.2.2.2.fresh+1+200002*x.2.1.size≤s.fresh+200002*kids.size) (λx=>(E7 0 (pB A.cb) 2 (.pointer ea) 6 (pB b2) 16 (pB b3) 130 (.slice (DL (some (⟨eb,eo,none⟩:Addr)) nc 6) r2.len (nc-1)) 131 (iV (r2.len:Int)) 132 (iV (x.1:Int)))) (λx=>⟨Dk A,Dk A,AN 146 224 A x.2.2.2.2.2,w,f⟩) (λx=>[⟨b3,tC x.2.2.1 x.2.2.2.1 x.2.2.2.2.1,29,true⟩,⟨b2,zT,29,true⟩,⟨b1,[iV op,iV ln,iV co,S tx,iV nm,.slice (some (⟨eb,eo,none⟩:Addr)) kids.len nc],101,true⟩]) (λx=>[]) (λx=>[]) (λx=>[λw f=>Ct w f (DL (some (⟨eb,eo,none⟩:Addr)) nc 6) x.1 x.2.1,λw f=>Al w f x.2.2.1.kids x.2.2.2.1 x.2.2.2.2.1,λw f=>BC w f e ea]) (0,r2,t0,ta0,tc0,s1) ⟨Nat.zero_add _,C,htb0,hwk2,hw1,Nat.le_refl _,by dsimp only;omega⟩ lE (λw f d=>d.more (B':=[]) (F':=[λw f=>Ct w f (DL (some (⟨eb,eo,none⟩:Addr)) nc 6) 0 r2]) nE (AR.mem ⟨Bc.at d.f4,tQ⟩) (Au.mem ⟨Ct.mono,tQ⟩) |>.less sR sR nE (mR [0,1,7])) ?_;rintro⟨i,r,t4,ta4,tc4,J⟩ ⟨hi,hpc,htb4,D,hw4,hrs,K⟩;dsimp only at hi hpc htb4 D hw4 hrs K ⊢;obtain⟨nr,hnr⟩:∃z,DL (some (⟨eb,eo,none⟩:Addr)) nc 6=z:=⟨_,C⟩;rw[hnr];refine Aa 6 (λ_=>Ap 133 C C (λF=>?_) (λF=>?_));refine Aa 6 (λ_=>?_);have hil:i<r2.len:=by have:=dT F;omega
 obtain⟨op3,ln3,co3,tx3,nm3,k3,r,rfl⟩:=Nd.cases1 r oM;have hi2:i+(r.len+1)=r2.len:=hi;have hrs2:k3.size+r.size+1≤r2.size:=hrs;rw[wfm0] at D;have hfr5:J.fresh+1+200002*((k3.size+r.size+1:Nat):Int)≤s.fresh+200002*kids.size:=K;have hkr:=Nd.len_le r2;refine Yy 0 C ?_;rintro⟨eb3,eo3,ka3,kc3⟩ rfl;refine Ae 12 [100,0,0,0] (aI oM<|y2<|λb4=>y<|y<|λ_=>XO C C (eC Oj C C) (λ_ h=>h) (λw f d=>ih w f d.vl A hA J d.res d.mz hw4 op3 ln3 co3 nm3 tx3 k3 ka3 kc3 e ea oM oM D.1 d.f0 heB d.f4 oM) (λ_=>AN.stab) (λ_=>⟨Al.mono,tQ⟩) (λer w2 f2 he hE=>⟨C,er,f2,C,(by simp only[FC,h1,h2,h3,h4,h5,h6,h7,h8,Bool.false_eq_true,if_false,if_true];rw[Q];simp only;rw[hp0];simp only;rw[hpc,show K5 (EH n) e J t4 (.cons op3 ln3 co3 tx3 nm3 k3 r)=.error er by rw[K5,he]]),hE⟩) ?_);rintro⟨⟨q5,qa,qc⟩,U⟩ ⟨hp5,hqb,hw5,hf5⟩;dsimp only at hp5 hqb hw5 hf5 ⊢;refine Ae 9 [0] (λb5=>y<|λ_=>BN C C (λw f d=>Ai C JX d.res.blk C)<|yP λpr=>CI (α:=CS) (val:=λ_=>tV (AM U).1 none 0) (q:=λx=>x=(AM U).2∧Im x∧x.fresh=U.fresh+1) (I':=λx=>AN 146 224 A x) (F':=λ_=>[]) (XX:=λ_ _=>False) C C (eC Qr C C) (λw f d=>(M4 w f d.vl A hA U hw5 pr d.res.1 d.res.2 d.mz oM).retP) (λ_=>AN.stab) (λ_=>trivial) (λ_ _ _ _ _ h=>h.elim) ?_);rintro s6 ⟨hs6,hw6,hw6f⟩;refine Ae 5 [0] (λb6=>y<|λ_=>Cq [0,1,2,3,4,5] Aj (rd [0,1,2,3,6,7] (.br 4 (.br 5 (.br 8 .fin .fin) .fin) .fin)) C kR<|By 6 [3,1,0,2] (y<|y<|y<|y<|λ_=>Ak C<|Aa 2 (λb7=>λ_=>Ar [1,2,3,4,5,6] C<|Ak C<|Di 0 C C<|BI (λw f=>Al w f (q5.cons (AM U).1.one) (some ⟨b7,0,none⟩) 2) (λw f d=>VE d.b0 d.f0 (Al.nil _ _ _ _)) Al.mono<|CR (α:=oA×Nat) (val:=λy=>tV (.con Ga (q5.cons (AM U).1.one)) y.1 y.2) (q:=λ_=>True) (F':=λy=>[λw f=>Al w f (T1.con Ga (q5.cons (AM U).1.one)).kids y.1 y.2]) C C (eC Rm C C) (λw f d=>bN w f d.vl q5 (AM U).1 b7 hqb (EP _) d.f0) (λ_=>⟨Al.mono,tQ⟩) ?_)));rintro⟨ya,yc⟩ -;have hyb:(T1.con Ga (q5.cons (AM U).1.one)).bnd:=F4 dC (by simp[T1.len_cons,T1.one,Ty.len]) (T1.bnd_cons.2 ⟨hqb,GX (EP _)⟩);refine Aa 1 (λ_=>Bv [0,1,2,3,4,5] Ef C (λ_ h=>.tail _ h)<|Ak C<|XO C C (eC vK C C) (λ_ h=>h) (λw f d=>XJ w f d.vl A hA s6 d.res d.mz hw6 t4 (.con Ga (q5.cons (AM U).1.one)) ta4 tc4 ya yc htb4 hyb d.f6 d.f0 ln3 co3) (λ_=>AN.stab) (λ_=>trivial) (λer w2 f2 he hE=>⟨C,er,f2,C,(by simp only[FC,h1,h2,h3,h4,h5,h6,h7,h8,Bool.false_eq_true,if_false,if_true];rw[Q];simp only;rw[hp0];simp only;rw[hpc,show K5 (EH n) e J t4 (.cons op3 ln3 co3 tx3 nm3 k3 r)=.error er by rw[K5,hp5];simp only;rw[← hs6,he]]),hE⟩) ?_);rintro s7 ⟨hh7,hw7,hf7⟩
 exact Aa 1 (λ_=>Bv [0,1,2,3,4,5] Ef C (λ_ h=>.tail _ h)<|BG<|Ae 11 [0,3] (y<|y<|aI ⟨oM,oM⟩<|λ_=>Ce ((i+1,r,(AM U).1,none,0,s7)) (show r.len<(Nd.cons op3 ln3 co3 tx3 nm3 k3 r).len from Nat.lt_succ_self _) ⟨show i+1+r.len=_ by omega,hpc.trans (Yo hp5 (by rw[← hs6];exact hh7)),EP _,D.2,hw7,show r.size≤_ by omega,show s7.fresh+1+200002*(r.size:Int)≤_ by omega⟩ lE (λw f d=>⟨_,(d.more (B':=[]) (F':=[λw f=>Al w f (AM U).1.kids none 0]) nE (AR.mem ⟨Al.nil _ _ _ _,tQ⟩) (Au.mem ⟨Al.mono,tQ⟩)).less (sD (sD (sD (sK (sK (sK sZ)))))) sR nE (mR [5,0,8])⟩)));refine Aa 3 (λ_=>Df<|Aa 3 (λ_=>?_));obtain rfl:r=.nil:=Nd.len0 (by have:=dF F;omega);have hpc2:K5 (EH n) e s1 t0 r2=.ok (t4,J):=hpc;have hfr5:J.fresh+1≤s.fresh+200002*kids.size:=by have F:J.fresh+1+200002*((0:Nat):Int)≤_:=K;omega
 exact Ae 8 [0,1] (y<|y<|λ_=>A5 (λw f d=>Ao C (Ab C CA d.k1 C)) (λw f d=>⟨((t4,ta4,tc4),J),f,C,⟨(by simp only[FC,h1,h2,h3,h4,h5,h6,h7,h8,Bool.false_eq_true,if_false,if_true];rw[Q];simp only;rw[hp0];simp only;rw[hpc2]),htb4,hw4,by dsimp only;omega⟩,d.exm,d.res,⟨d.f1,tQ⟩⟩));refine Aa 7 (λ_=>Ap 157 C C (λF=>?_) (λF=>?_));exact (dH G F).elim;refine Aa 7 (λ_=>Ap 186 C C (λh10=>?_) (λh10=>?_));exact (dH G h10).elim;refine Aa 7 (λ_=>Ap 204 C C (λh11=>?_) (λh11=>?_));exact (dH G h11).elim;refine Aa 7 (λ_=>Ap 239 C C (λh12=>?_) (λh12=>?_));exact (dH G h12).elim;refine Aa 7 (λ_=>Ap 251 C C (λh13=>?_) (λh13=>?_));exact (dH G h13).elim;refine Aa 7 (λ_=>Ap 258 C C (λh14=>?_) (λh14=>?_));exact (dH G h14).elim;refine Aa 7 (λ_=>Ap 272 C C (λh15=>?_) (λh15=>?_));exact (dH G h15).elim;refine Aa 7 (λ_=>Ap 286 C C (λEg=>?_) (λEg=>?_));exact (dH G Eg).elim;exact (wno0 G h1 h3 h5 h7 h8).elim
theorem ND:∀n,ExpF prog 72 134 146 224 n
 |0=>λ_ _ _ _ _ _ _ _ _ _ _ _ _ _ _ _ _ _ _ h=>absurd h (Nat.not_lt_zero _)
 |n+1=>λw f J A K s L O hw op ln co nm tx kids Q nc e U hm d D W F Y G=>Ye n (λw f J A K s L O hw op ln co nm tx kids Q nc e U hm d D W F Y G=>XA n (ND n) w f J A K s L O hw op ln co nm tx kids Q nc e U hm d D W F Y G) w f J A K s L O hw op ln co nm tx kids Q nc e U hm d D W F Y G
end Go.Proofs.YtnojaendcldjpaaGreatDoor
namespace Go.Proofs.YtnojaendcldjpaaGreatDoor
open Go.SW Go.SP Go.RowKit Go.Shelf Go.Lib Go.Proofs.Tryz
structure Iu(w:wO)(f:Fq):Prop where
 maxLen:∃m:Int,Cs w f 2 0 [.int .i64 m]
 space:∀c:Nat,c<256→c<f 0 ∧ w.cell? ⟨0,c,none⟩=some (.int .u8 (if Lib.isSp (UInt8.ofNat c) then 1 else 0))
theorem Iu.mono:EI (λw f=>Iu w f):=λ_ _ _ _ h d=>⟨let ⟨m,hm⟩:=h.maxLen;⟨m,hm.mono d⟩,λc D=>⟨Nat.lt_of_lt_of_le (h.space c D).1 (d _).1,((d _).2 c (h.space c D).1).trans (h.space c D).2⟩⟩
def bL(w:wO)(f:Fq)(l:List lU)(a:oA)(c:Nat):Prop:=l.length≤c∧∃b,a=some ⟨b,0,none⟩∧Cs w f b 0 (l.map S)
variable {a:oA}
theorem bL.mono{l:List lU}{c:Nat}:EI (λw f=>bL w f l a c):=λ_ _ _ _ h d=>⟨h.1,let ⟨b,D,F⟩:=h.2;⟨b,D,F.mono d⟩⟩
theorem TO(w:wO)(f:Fq)(G:Vl w f)(J:Iu w f)(s:lU)(O:s.length≤1000)(K:s.all (λc=>decide (c.toNat<128))=true):AX prog 17 #[S s] w (AU (α:=oA×Nat) (λx=>.slice x.1 (Lib.fields s).length x.2) (λ_=>True) (λx=>[λw f=>bL w f (Lib.fields s) x.1 x.2]) w f):=by
 have h:=Any.strings_Fields_core Tryz.lays157 kR ⟨s.toArray⟩ w (by rw[Mp];omega) (λj c d=>by
   rw[FP] at d;have:=List.all_eq_true.1 K c (List.mem_of_getElem? d);simpa using this) (λc L=>(J.space c L).2)
 rw[FP] at h;refine Calls.mono h λ_ w' ⟨he,hw⟩=>⟨_,he,(some ⟨w.heap.size,0,none⟩,(Lib.fields s).length),λb=>if b=w.heap.size then (Lib.fields s).length else f b,C,tQ,?_,⟨⟨Nat.le_refl _,w.heap.size,C,λj v d=>?_⟩,tQ⟩⟩
 · subst hw
   exact C9.done (C9.of_ext (J5 w _) G) (Nat.le_refl _) (by rw[GH];omega) _
 · subst hw
   have D:j<((Lib.fields s).map S).length:=(List.getElem?_eq_some_iff.1 d).1;rw[List.length_map] at D;refine⟨by simp only[if_true];omega,?_⟩;have Q:=heap_alloc_new w (.cells ((Lib.fields s).map λl=>Value.string ⟨l.toArray⟩).toArray 9);have F:((Lib.fields s).map λl=>Value.string ⟨l.toArray⟩)[j]?=some v:=d;simp only[World.cell?];rw[show (w.alloc (.cells ((Lib.fields s).map λl=>Value.string ⟨l.toArray⟩).toArray _)).heap[w.heap.size]?=_ from heap_alloc_new w _];simpa using F
end Go.Proofs.YtnojaendcldjpaaGreatDoor
namespace Go.Proofs.YtnojaendcldjpaaGreatDoor
open Go.SW Go.SP Go.RowKit
end Go.Proofs.YtnojaendcldjpaaGreatDoor
namespace Go.Proofs.YtnojaendcldjpaaGreatDoor
open Go.SW Go.SP Go.RowKit Go.Proofs.Tryz
theorem cJ(w:wO)(f:Fq)(hv:Vl w f)(Z:Iu w f)(ob:Nat)(oa:oA)(oc n0:Nat)(D:lV)(l:List OX)(hP:Fc 23 31 ob (.slice oa n0 oc) oa oc n0 D w f)(hL:BS w f l D)(hf:∀b,RF ob oa b→f b=0)(hn0:n0≤1000)(F:lU)(fs:List lU)(hfs:Lib.fields F=fs)(hns:F.length≤1000)(K:F.all (λc=>decide (c.toNat<128))=true)(hfl:fs.length≤1000)(k:Ty)(ka:oA)(kc:Nat)(L:0<k.len)(hkl:k.len≤1000)(O:k.bnd)(hT:Al w f k ka kc) :
  AX prog 16 #[S F,.slice ka k.len kc,pB ob] w (Ny (α:=oA×Nat×lV) (λ_=>.tuple #[]) (λ_=>True) (RF ob oa) (λx=>RF ob x.1) (λx=>Fc 23 31 ob (.slice x.1 (n0+fs.length) x.2.1) x.1 x.2.1 (n0+fs.length) x.2.2) (λx=>[λw f=>BS w f (l++fs.map (λnm=>(nm,(k.len:Int)-1,GC k))) x.2.2]) w f):=by
 refine Gb (X:=⟨RF ob oa,RF ob oa,Fc 23 31 ob (.slice oa n0 oc) oa oc n0 D,w,f⟩) (H:=[]) (R:=[]) (B:=[]) (Fs:=[λw f=>Iu w f,λw f=>Al w f k ka kc,λw f=>BS w f l D]) (f:=f) func16 C C C (JF (M:=RF ob oa) hv hP Fc.stab (λb J=>⟨hP.lt J,hf b J⟩) ⟨Z,hT,hL,tQ⟩ ⟨Iu.mono,Al.mono,BS.mono,tQ⟩)<|Aa 3 (λ_=>CR C C (eC uL C C) (λw f d=>TO w f d.vl d.f0 F oM K) (λx=>⟨bL.mono,tQ⟩) ?_);rintro⟨sa,sc⟩ -;rw[hfs];refine Aa 5 (λ_=>?_);refine DK (α:=Nat×oA×Nat×lV) (λx=>fs.length-x.1) (λx=>x.1≤fs.length) (λx=>(E5 1 (.slice ka k.len kc) 2 (pB ob) 8 (.slice sa fs.length sc) 9 (iV (fs.length:Int)) 10 (iV (x.1:Int)))) (λx=>⟨RF ob oa,RF ob x.2.1,Fc 23 31 ob (.slice x.2.1 (n0+x.1) x.2.2.1) x.2.1 x.2.2.1 (n0+x.1) x.2.2.2,w,f⟩) (λx=>[]) (λx=>[]) (λx=>[]) (λx=>[λw f=>bL w f fs sa sc,λw f=>Al w f k ka kc,λw f=>BS w f (l++(fs.take x.1).map (λnm=>(nm,(k.len:Int)-1,GC k))) x.2.2.2]) (0,oa,oc,D) (Nat.zero_le _) lE (λw f d=>(by have hM9:=d.more (B':=[]) (F':=[λw f=>BS w f (l++(fs.take 0).map (λnm=>(nm,(k.len:Int)-1,GC k))) D]) nE (AR.mem ⟨by simpa using d.f3,tQ⟩) (Au.mem ⟨BS.mono,tQ⟩);exact hM9.less sR sR nE (mR [1,3,0]))) ?_;rintro⟨i,Q,U,xs⟩ hi;dsimp only at hi ⊢;refine Aa 6 (λ_=>?_)
 ·
  refine Ap 11 C C (λG=>?_) (λG=>?_);refine Aa 6 (λ_=>?_);have hil:i<fs.length:=by have:=dT G;omega
  obtain⟨nm,hx⟩:∃v,fs[i]?=some v:=⟨_,List.getElem?_eq_getElem hil⟩;refine Hh (α:=Nat) (λx=>sa=some ⟨x,0,none⟩) (λx=>[⟨x,0+i*1,[S nm]⟩]) (λx=>[]) (λw f d=>let ⟨_,b,G,h2⟩:=d.f0;⟨b,G,(λe he=>by cases he with|head=>(rw[Nat.mul_one];exact Cs.at h2 (by rw[List.getElem?_map,hx];rfl))|tail _ h=>cases h),λ_ h=>by cases h⟩) (λx=>Au.mem tQ) ?_;rintro sb rfl;refine Ae 6 [100,0] (aI oM<|y2<|λ_=>Cq [] Aj (rd [1,2,3,4,5] (.br 0 (.br 6 (.rd 7 (.br 8 (.br 9 (.br 10 .fin .fin) .fin) .fin)) .fin) (.br 6 (.rd 7 (.br 0 (.br 8 (.br 9 (.br 10 .fin .fin) .fin) .fin) (.br 8 (.br 0 (.br 9 (.br 10 .fin .fin) .fin) .fin) .fin))) .fin))) C kR<|Bf 5 (aI ⟨oM,oM⟩<|λ_=>Cl C ?_ ?_));refine BN C C (λw f d=>Ai C Tc d.res.blk C)<|Aa 1 (λ_=>Ar [] C<|Ak C<|CR C C (eC Rm C C) (λw f d=>ME w f d.vl k ka kc L oM O d.f1) (λx=>⟨Al.mono,tQ⟩) ?_);rintro⟨W,Y⟩ -;refine Aa 1 (λ_=>Ar [] C<|Bf 1 (λ_=>Ak C<|Aa 2 (λb1=>λ_=>?_)))
  rotate_left
  refine Ak C<|CR C C (eC Rm C C) (λw f d=>ME w f d.vl k ka kc L oM O d.f1) (λx=>⟨Al.mono,tQ⟩) ?_;rintro⟨W,Y⟩ -;refine Aa 1 (λ_=>Ar [] C<|Bf 1 (λ_=>Cl C ?_ ?_));refine BN C C (λw f d=>Ai C Tc d.res.blk C)<|Aa 1 (λ_=>Ar [] C<|Ak C<|Aa 2 (λb1=>λ_=>?_))
  rotate_left
  refine Ak C<|Aa 2 (λb1=>λ_=>Ar [] C<|Ak C<|BN C C (λw f d=>Ai C Tc d.res.blk C)<|Aa 1 (λ_=>?_))
  rotate_left
  refine Aa 3 (λ_=>Df<|Aa 1 (λ_=>?_));obtain rfl:i=fs.length:=by have:=dF G;omega
  exact kC (λw f d=>Gz C) (λw f d=>⟨(Q,U,xs),f,C,tQ,d.exm,(λb J=>let ⟨G,h2,h3⟩:=d.mi b J;h3.elim (λh=>.inr ⟨h,G,h2⟩) .inl),d.res,⟨by have h9:=d.f2;rw[List.take_length] at h9;exact h9,tQ⟩⟩)
  all_goals
   refine Ar [] C<|Ak C<|YS (MI':=RF ob) (I':=λa' c'=>Fc 23 31 ob (.slice Q (n0+i) U) a' c' (n0+i+1) (xs++pC (nm,(k.len:Int)-1,GC k) W Y)) 0 C C qap23 C C C C C C C oM oM (λw f h=>h.row) (λb h=>.inr h) (λ_ _ h=>RF.or h) (λw f w2 a2 c2 h d hr Z=>h.app hr Z) (λ_ _=>Fc.stab) λa2 c2=>Aa 1 (λ_=>Ar [] C<|Ak C<|ZZ (b:=ob) (I':=Fc 23 31 ob (.slice a2 (n0+i+1) c2) a2 c2 (n0+i+1) (xs++pC (nm,(k.len:Int)-1,GC k) W Y)) C C C C Tc C C C (.inl C) (λw f h=>h.blk) (λw f w2 h d hC J=>h.store hC J) Fc.stab<|Aa 1 (λ_=>Ar [] C<|BG ?_));exact Aa 6 (aI ⟨oM,oM⟩<|λ_=>Ce ((i+1,a2,c2,xs++pC (nm,(k.len:Int)-1,GC k) W Y)) (show fs.length-(i+1)<fs.length-i by omega) (show i+1≤_ by omega) lE (λw f d=>⟨_,(d.more (B':=[]) (F':=[λw f=>BS w f (l++(fs.take (i+1)).map (λnm=>(nm,(k.len:Int)-1,GC k))) (xs++pC (nm,(k.len:Int)-1,GC k) W Y)]) nE (AR.mem ⟨by rw[CZ hx,List.map_append,← List.append_assoc];exact BS.snoc (p:=(nm,(k.len:Int)-1,GC k)) d.f0 d.f3,tQ⟩) (Au.mem ⟨BS.mono,tQ⟩)).less (sD sZ) sR nE (mR [2,3,0])⟩))

def Ri:lV:=[S [70,97,108,115,101],S [98,111,111,108],iV 0,iV 0,S [84,114,117,101],S [98,111,111,108],iV 1,iV 0,S [68,105,118],S [101,120,110],iV 0,iV 0,S [77,97,116,99,104],S [101,120,110],iV 1,iV 0,S [65,98,111,114,116],S [101,120,110],iV 2,iV 0,S [75,101,101,112],S [101,120,110],iV 3,iV 0,S [79,117,116],S [101,120,110],iV 4,iV 0,S [70,97,105,108],S [101,120,110],iV 5,iV 1]
theorem VD(w:wO)(f:Fq)(h:Vl w f)  :
  AX prog 11 #[.slice none 0 0] w (AU (α:=Nat) (λb=>.slice (some ⟨b,0,none⟩) 8 8) (λ_=>True) (λb=>[λw f=>Cs w f b 0 Ri]) w f):=by
 refine Ed [] func11 C C C (Be h tQ tQ)<|Aa 28 (λb1=>λ_=>?_);refine DK (α:=Unit) (λx=>0) (λx=>True) (λx=>(E3 3 (.slice (some ⟨b1,0,none⟩) 8 8) 19 (iV ((0:Nat):Int)) 20 (iV 0))) (λx=>X0 w f) (λx=>[⟨b1,Ri,53,true⟩]) (λx=>[]) (λx=>[]) (λx=>[]) (()) tQ lE (λw f d=>d) ?_;rintro⟨⟩ -;exact Aa 9 (λ_=>Df<|Aa 9 (λ_=>Di 0 C C<|A5 (Cb C C) (λw f d=>⟨b1,f,C,tQ,d.exm,⟨d.b0,tQ⟩⟩)))
abbrev yI:=Nat×Nat×Nat×Nat×(oA×Nat)×(oA×Nat)
abbrev Q3:=T1×oA×Nat
abbrev qI:Q3:=(c0 bI,none,0)
abbrev qF:Q3:=(c0 bF,none,0)
abbrev qS:Q3:=(c0 bS,none,0)
abbrev qB:Q3:=(c0 bB,none,0)
abbrev qU:Q3:=(c0 bU,none,0)
abbrev qV:Q3:=(.var 1,none,0)
abbrev qR(a:oA)(c:Nat):Q3:=(T1.con GA (T1.var 1).one,a,c)
abbrev qP(a:oA)(c:Nat):Q3:=(T1.con F8 (T1.var 1).one,a,c)
def pm(x:lU)(l:List Q3):OX:=(x,((No l).len:Int)-1,GC (No l))
theorem kI:(c0 bI).bnd:=GJ dC
theorem kF:(c0 bF).bnd:=GJ dC
theorem kS:(c0 bS).bnd:=GJ dC
theorem kB:(c0 bB).bnd:=GJ dC
theorem kU:(c0 bU).bnd:=GJ dC
theorem kV:(T1.var 1).bnd:=EP _
variable {Q:AV}{σ:Ba}{f:Fq}{F0:List (wO→Fq→Prop)}{ds:List Deferred}{B:List FB}{fs:List Fr}{H H':List HB}{r:List Oper}{xs:lV}{b d n n0 ob oc:Nat}{M:Nat→Prop}{g:Option (Nat×Bool)}{oa:oA}{T:tI}{w w0:wO}
theorem qN:Al w f .nil none 0:=Al.nil _ _ _ _
def KX:List Nat→Nat→Bool
 | [],_=>false
 |a::l,b=>bif Nat.beq a b then true else KX l b
def sU(c:Bool)(d:Nat)(v:Value)(σ:Ba):Ba:=bif c then AI σ d v else σ
def sL{α:Type}(c:Bool)(e:α)(l:List α):List α:=bif c then e::l else l
def L1(b1 b2 b3 b4 b5 b6:Nat)(S:List Nat)(x:yI):Ba :=
 sU (KX S 7) 8 (pB x.2.2.2.1)<|sU (KX S 6) 7 (pB x.2.2.1)<|sU (KX S 5) 22 (tV (T1.con F8 (T1.var 1).one) x.2.2.2.2.2.1 x.2.2.2.2.2.2)<|sU (KX S 2) 19 (tV (T1.con GA (T1.var 1).one) x.2.2.2.2.1.1 x.2.2.2.2.1.2) <|
 sU (KX S 4) 21 (.slice (some ⟨x.2.1,0,none⟩) 1 1)<|sU (KX S 1) 18 (.slice (some ⟨x.1,0,none⟩) 1 1)<|E8 1 (pB b1) 2 (pB b2) 3 (pB b3) 4 (pB b4) 5 (pB b5) 6 (pB b6) 17 (tV (.var 1) none 0) 20 (tV (.var 1) none 0)
def Eg(b1 b2 b3 b4 b5 b6:Nat)(S:List Nat)(x:yI):List HB :=
 sL (KX S 7) ⟨x.2.2.2.1,zT,29,true⟩<|sL (KX S 6) ⟨x.2.2.1,zT,29,true⟩<|sL (KX S 4&&!KX S 5) ⟨x.2.1,tC (.var 1) none 0,29,true⟩<|sL (KX S 1&&!KX S 2) ⟨x.1,tC (.var 1) none 0,29,true⟩ [⟨b6,tC (.var 1) none 0,29,true⟩,⟨b5,tC (c0 bU) none 0,29,true⟩,⟨b4,tC (c0 bB) none 0,29,true⟩,⟨b3,tC (c0 bS) none 0,29,true⟩,⟨b2,tC (c0 bF) none 0,29,true⟩,⟨b1,tC (c0 bI) none 0,29,true⟩]
def f16(S:List Nat)(x:yI):List (wO→Fq→Prop) :=
 sL (KX S 5) (λw f=>Al w f (T1.var 1).one x.2.2.2.2.2.1 x.2.2.2.2.2.2)<|sL (KX S 2) (λw f=>Al w f (T1.var 1).one x.2.2.2.2.1.1 x.2.2.2.2.1.2) [λw f=>Iu w f]
def AQ:List OX:=[pm [43] [qI,qI,qI],pm [45] [qI,qI,qI],pm [42] [qI,qI,qI],pm [100,105,118] [qI,qI,qI],pm [109,111,100] [qI,qI,qI],pm [110,101,103] [qI,qI],pm [60] [qI,qI,qB],pm [60,61] [qI,qI,qB],pm [61] [qI,qI,qB],pm [102,43] [qF,qF,qF],pm [102,45] [qF,qF,qF],pm [102,42] [qF,qF,qF],pm [102,47] [qF,qF,qF],pm [102,115,113,114,116] [qF,qF],pm [102,110,101,103] [qF,qF],pm [102,60] [qF,qF,qB],pm [102,61] [qF,qF,qB],pm [102,97,104,101,97,100] [qF,qF,qB],pm [105,116,111,102] [qI,qF],pm [102,116,111,105] [qF,qI],pm [102,98,105,116,115] [qF,qS],pm [110,97,110] [qF],pm [105,110,102] [qF],pm [99,97,116] [qS,qS,qS],pm [108,101,110] [qS,qI],pm [111,114,100] [qS,qI],pm [97,116,111,105] [qS,qI],pm [115,117,98] [qS,qI,qI,qS],pm [115,61] [qS,qS,qB],pm [115,60] [qS,qS,qB],pm [105,116,111,97] [qI,qS],pm [99,104,114] [qI,qS],pm [112,114,105,110,116] [qS,qU],pm [114,101,97,100] [qU,qS],pm [114,101,102] [qV,(qR none 0)],pm [103,101,116] [(qR none 0),qV],pm [115,101,116] [(qR none 0),qV,qU],pm [110,101,119] [qV,(qP none 0)],pm [108,111,97,100] [(qP none 0),qV],pm [115,116,111,114,101] [(qP none 0),qV,qU]]
def bA:List (T1×oA×Nat)→Prop
 | []=>True
 |t::l=>t.1.bnd∧bA l
theorem Qm:∀{l:List (T1×oA×Nat)},bA l→(No l).bnd
 | [],_=>trivial
 |_::_,h=>T1.bnd_cons.2 ⟨h.1,Qm h.2⟩
theorem Gw{f0:Fq}{all:List Oper}{L:Operand}{args:List Operand}{ts:Array tI}{ty:tI}{pos:String}{af:Array Edge}{G:lU}(O K:Nat)(D:List Q3)
  (U:ev σ L=some (.func (.func 16) #[] [Value.pointer (some ⟨ob,0,none⟩)].toArray)) (W:Ii σ args=some [S G,.slice (some ⟨b,0,none⟩) D.length D.length]) (hg:gd all σ g=some true) (hd:Nat.blt d n=true) (hk:G9 H O=some ⟨b,vE D,T,true⟩) (hs:JD H O=some H')
  (hG:∀w f H B,AO ⟨M,RF ob oa,Fc 23 31 ob (.slice oa n0 oc) oa oc n0 xs,w0,f0⟩ w f H [] B ((λw f=>BS w f (AQ.take n0) xs)::F0)→Iu w f∧hoL w f D) (Y:bA D)
  (h:∀a c xs,A1 prog n Q ds ⟨M,RF ob a,Fc 23 31 ob (.slice a K c) a c K xs,w0,f0⟩ [] B ((λw f=>BS w f (AQ.take K) xs)::F0) (.ops all r) fs (AI σ d (.tuple #[])) H')
  (hp:AQ.take n0++(Lib.fields G).map (λnm=>(nm,((No D).len:Int)-1,GC (No D)))=AQ.take K:=by kernel_rfl) (hn:n0+(Lib.fields G).length=K:=by kernel_rfl)
  (hc:(Nat.ble n0 1000&&(Nat.ble G.length 1000&&(G.all (λc=>decide (c.toNat<128))&&(Nat.ble (Lib.fields G).length 1000&&(Nat.blt 0 D.length&&Nat.ble D.length 1000)))))=true:=by kernel_rfl) :
  A1 prog n Q ds ⟨M,RF ob oa,Fc 23 31 ob (.slice oa n0 oc) oa oc n0 xs,w0,f0⟩ [] B ((λw f=>BS w f (AQ.take n0) xs)::F0) (.ops all (⟨some d,.call {callee:=.value L,args:=args.toArray,argTypes:=ts},ty,pos,af,g⟩::r)) fs σ H:=by
 simp only[Bool.and_eq_true] at hc;obtain⟨h1,h2,h3,h4,h5,h6⟩:=hc;have e:=MH D;have Z:0<(No D).len:=by rw[e];exact Nat.le_of_ble_eq_true h5
 have h6':(No D).len≤1000:=by rw[e];exact Nat.le_of_ble_eq_true h6
 subst hn;have he':∀w,SW.Enters prog σ (.call {callee:=.value L,args:=args.toArray,argTypes:=ts}) ty w 16 #[S G,.slice (some ⟨b,0,none⟩) (No D).len D.length,pB ob]:=by rw[e];exact λ_=>Uk tX U W
 refine Di O hk hs<|BI (λw f=>Al w f (No D) (some ⟨b,0,none⟩) D.length) (λw f F=>BT (hG w f _ _ F).2 F.b0) Al.mono<|fN (XX:=λ_ _=>False) hg hd he' (λw f F=>(cJ w f F.vl (hG w f _ _ (F.less sR sR (λ_ h=>h) (λ_ h=>.tail _ h))).1 ob oa oc n0 xs (AQ.take n0) F.res F.f1 F.mz (Nat.le_of_ble_eq_true h1) G (Lib.fields G) C (Nat.le_of_ble_eq_true h2) h3 (Nat.le_of_ble_eq_true h4) (No D) (some ⟨b,0,none⟩) D.length Z h6' (Qm Y) F.f0).retP) (λ_=>Fc.stab) (λ_=>⟨BS.mono,tQ⟩) (λ_ _ _ _ _ h=>h.elim) ?_;rintro⟨a,c,xs'⟩ -;refine λw f F=>h a c xs' w f ?_;rw[← hp];refine F.less sR sR (λe he=>.tail _ he) (λφ J=>?_);rcases List.mem_cons.1 J with rfl|J
 · exact .head _
 · exact .tail _ (.tail _ (.tail _ J))
def TG:OT:=.br 9 .fin .fin
def HN:OT:=.br 8 TG .fin
def HA:OT:=.br 5 HN .fin
def Jb:OT:=.br 2 HA .fin
def ML:OT:=.br 1 Jb .fin
def Ls:OT:=.br 4 HA .fin
def MP:OT:=.br 2 Ls (.br 4 Jb .fin)
def Uf:OT:=.br 1 MP (.br 4 ML .fin)
def L6:OT:=.br 6 HN .fin
def Ly:OT:=.br 5 L6 (.br 6 HA .fin)
def Ng:OT:=.br 2 Ly (.br 6 Jb .fin)
def Uh:OT:=.br 1 Ng (.br 6 ML .fin)
def R6:OT:=.br 4 Ly (.br 6 Ls .fin)
def Ua:OT:=.br 2 R6 (.br 4 Ng (.br 6 MP .fin))
def oW:OT:=.br 1 Ua (.br 4 Uh (.br 6 Uf .fin))
def Mr:OT:=.br 7 HN .fin
def KV:OT:=.br 5 Mr (.br 7 HA .fin)
def MQ:OT:=.br 2 KV (.br 7 Jb .fin)
def Uz:OT:=.br 1 MQ (.br 7 ML .fin)
def Qh:OT:=.br 4 KV (.br 7 Ls .fin)
def UG:OT:=.br 2 Qh (.br 4 MQ (.br 7 MP .fin))
def oF:OT:=.br 1 UG (.br 4 Uz (.br 7 Uf .fin))
def SH:OT:=.br 6 Mr (.br 7 L6 .fin)
def R3:OT:=.br 5 SH (.br 6 KV (.br 7 Ly .fin))
def Vj:OT:=.br 2 R3 (.br 6 MQ (.br 7 Ng .fin))
def qH:OT:=.br 1 Vj (.br 6 Uz (.br 7 Uh .fin))
def YR:OT:=.br 4 R3 (.br 6 Qh (.br 7 R6 .fin))
def nU:OT:=.br 2 YR (.br 4 Vj (.br 6 UG (.br 7 Ua .fin)))
def t16_:OT:=.br 1 nU (.br 4 qH (.br 6 oF (.br 7 oW .fin)))
set_option maxHeartbeats 2000000 in
theorem Oz(w:wO)(f:Fq)(hv:Vl w f)(hG:Iu w f) :
  AX prog 5 #[] w (AU (α:=oA×Nat) (λx=>.slice x.1 AQ.length x.2) (λ_=>True) (λx=>[λw f=>IE w f AQ x.1 x.2]) w f):=by
 refine Ed [λw f=>Iu w f] func5 C C C (Be hv ⟨hG,tQ⟩ ⟨Iu.mono,tQ⟩)<|Aa 7 (λ_=>BO C C (eC C8 C C) (λw f D=>Dv w f D.vl [105,110,116])<|BO C C (eC C8 C C) (λw f D=>Dv w f D.vl [102,108,111,97,116])<|BO C C (eC C8 C C) (λw f D=>Dv w f D.vl [115,116,114,105,110,103])<|BO C C (eC C8 C C) (λw f D=>Dv w f D.vl [98,111,111,108])<|BO C C (eC C8 C C) (λw f D=>Dv w f D.vl [117,110,105,116])<|Ae 14 [4,3,2,1,0] (λb1=>λb2=>λb3=>λb4=>λb5=>y<|y<|y<|y<|y<|λ_=>BO C C (eC IS C C) (λw f D=>F7 w f D.vl 1)<|Ae 5 [0] (λb6=>y<|λ_=>?_)));refine OE (α:=Nat×Nat×(oA×Nat)×(oA×Nat)) (λx=>True) (λx=>(E8 1 (pB b1) 2 (pB b2) 3 (pB b3) 4 (pB b4) 5 (pB b5) 6 (pB b6) 7 (pB x.1) 8 (pB x.2.1))) (λx=>X0 w f) (λx=>[⟨x.2.1,tC (T1.con F8 (T1.var 1).one) x.2.2.2.1 x.2.2.2.2,29,true⟩,⟨x.1,tC (T1.con GA (T1.var 1).one) x.2.2.1.1 x.2.2.1.2,29,true⟩,⟨b6,tC (.var 1) none 0,29,true⟩,⟨b5,tC (c0 bU) none 0,29,true⟩,⟨b4,tC (c0 bB) none 0,29,true⟩,⟨b3,tC (c0 bS) none 0,29,true⟩,⟨b2,tC (c0 bF) none 0,29,true⟩,⟨b1,tC (c0 bI) none 0,29,true⟩]) (λx=>[]) (λx=>[]) (λx=>[λw f=>Al w f (T1.var 1).one x.2.2.2.1 x.2.2.2.2,λw f=>Al w f (T1.var 1).one x.2.2.1.1 x.2.2.1.2,λw f=>Iu w f]) ?_ ?_;refine Cq [0,1,2,3,4,5] Aj (.rd 0 (.rd 3 t16_)) C kR<|By 2 [0,0] (y<|y<|λ_=>EY HN (L1 b1 b2 b3 b4 b5 b6 [1,2,4,5,6,7]) (Eg b1 b2 b3 b4 b5 b6 [1,2,4,5,6,7]) (λ_=>[]) (f16 [1,2,4,5,6,7]) ?_ (λW=>?_))
 ·
  rintro⟨F,G,b7,O,⟨L,rc⟩,⟨J,K⟩⟩;exact Ak C<|Ae 2 [1] (y<|λ_=>Ar [2,3,4,5,6,7] C<|Ak C<|Ae 2 [0] (y<|λ_=>Ar [2,3,4,5,6,7] C<|BG<|Lx (b7,O,(L,rc),(J,K)) tQ lE (λw f D=>⟨f,D⟩)))
 refine EY L6 (L1 b1 b2 b3 b4 b5 b6 [1,2,4,5,7]) (Eg b1 b2 b3 b4 b5 b6 [1,2,4,5,7]) (λ_=>[]) (f16 [1,2,4,5,7]) ?_ (λhS12457=>?_)
 ·
  rintro⟨F,G,b7,O,⟨L,rc⟩,⟨J,K⟩⟩;exact Ak C<|Aa 2 (λq=>λ_=>Ar [2,3,4,5,6,7] C<|BL W (F,G,q,O,(L,rc),(J,K)) lE (λw f D=>D.perm (List.perm_middle (l₁:=[_]))))
 refine EY Mr (L1 b1 b2 b3 b4 b5 b6 [1,2,4,5,6]) (Eg b1 b2 b3 b4 b5 b6 [1,2,4,5,6]) (λ_=>[]) (f16 [1,2,4,5,6]) ?_ (λhS12456=>?_)
 ·
  rintro⟨F,G,b7,O,⟨L,rc⟩,⟨J,K⟩⟩;exact Ak C<|Aa 2 (λq=>λ_=>Ar [2,3,4,5,6,7] C<|BL W (F,G,b7,q,(L,rc),(J,K)) lE (λw f D=>D))
 refine EY HA (L1 b1 b2 b3 b4 b5 b6 [1,2,4,6,7]) (Eg b1 b2 b3 b4 b5 b6 [1,2,4,6,7]) (λ_=>[]) (f16 [1,2,4,6,7]) ?_ (λU=>?_)
 ·
  rintro⟨F,G,b7,O,⟨L,rc⟩,⟨J,K⟩⟩;refine Ak C<|Di 2 C C<|BI (λw f=>Al w f (T1.var 1).one (some ⟨G,0,none⟩) 1) (λw f D=>BT (l:=[(.var 1,none,0)]) ⟨Al.nil _ _ _ _,tQ⟩ D.b0) Al.mono<|CR C C (eC C8 C C) (λw f D=>Dq w f D.vl F8 (T1.var 1).one (some ⟨G,0,none⟩) 1 dC D.f0) (λ_=>⟨Al.mono,tQ⟩) ?_;rintro⟨Z,qc⟩ -;exact Aa 1 (λ_=>Bv [2,3,4,5,6,7] Ef C (λ_ h=>.tail _ h)<|BL W (F,G,b7,O,(L,rc),(Z,qc)) lE (λw f D=>D.less sR sR nE (mR [0,2,3])))
 refine EY Ly (L1 b1 b2 b3 b4 b5 b6 [1,2,4,7]) (Eg b1 b2 b3 b4 b5 b6 [1,2,4,7]) (λ_=>[]) (f16 [1,2,4,7]) ?_ (λhS1247=>?_)
 ·
  rintro⟨F,G,b7,O,⟨L,rc⟩,⟨J,K⟩⟩;refine Cl C ?_ ?_;refine Di 1 C C<|BI (λw f=>Al w f (T1.var 1).one (some ⟨G,0,none⟩) 1) (λw f D=>BT (l:=[(.var 1,none,0)]) ⟨Al.nil _ _ _ _,tQ⟩ D.b0) Al.mono<|CR C C (eC C8 C C) (λw f D=>Dq w f D.vl F8 (T1.var 1).one (some ⟨G,0,none⟩) 1 dC D.f0) (λ_=>⟨Al.mono,tQ⟩) ?_;rintro⟨Z,qc⟩ -;exact Aa 1 (λ_=>Bv [1,2,3,4,5,6] Ef C (λ_ h=>.tail _ h)<|BL hS12457 (F,G,b7,O,(L,rc),(Z,qc)) lE (λw f D=>D.less sR sR nE (mR [0,2,3])));exact Ak C<|Aa 2 (λq=>λ_=>Ar [3,4,5,6,7,8] C<|BL U (F,G,q,O,(L,rc),(J,K)) lE (λw f D=>D.perm (List.perm_middle (l₁:=[_]))))
 refine EY Ls (L1 b1 b2 b3 b4 b5 b6 [1,2,6,7]) (Eg b1 b2 b3 b4 b5 b6 [1,2,6,7]) (λ_=>[]) (f16 [1,2,6,7]) ?_ (λhS1267=>?_)
 ·
  rintro⟨F,G,b7,O,⟨L,rc⟩,⟨J,K⟩⟩;exact Ak C<|Aa 2 (λq=>λ_=>Ar [3,4,5,6,7,8] C<|BL U (F,q,b7,O,(L,rc),(J,K)) lE (λw f D=>D.perm (List.perm_middle (l₁:=[_,_]))))
 refine EY KV (L1 b1 b2 b3 b4 b5 b6 [1,2,4,6]) (Eg b1 b2 b3 b4 b5 b6 [1,2,4,6]) (λ_=>[]) (f16 [1,2,4,6]) ?_ (λhS1246=>?_)
 ·
  rintro⟨F,G,b7,O,⟨L,rc⟩,⟨J,K⟩⟩;refine Cl C ?_ ?_;refine Di 1 C C<|BI (λw f=>Al w f (T1.var 1).one (some ⟨G,0,none⟩) 1) (λw f D=>BT (l:=[(.var 1,none,0)]) ⟨Al.nil _ _ _ _,tQ⟩ D.b0) Al.mono<|CR C C (eC C8 C C) (λw f D=>Dq w f D.vl F8 (T1.var 1).one (some ⟨G,0,none⟩) 1 dC D.f0) (λ_=>⟨Al.mono,tQ⟩) ?_;rintro⟨Z,qc⟩ -;exact Aa 1 (λ_=>Bv [1,2,3,4,5,6] Ef C (λ_ h=>.tail _ h)<|BL hS12456 (F,G,b7,O,(L,rc),(Z,qc)) lE (λw f D=>D.less sR sR nE (mR [0,2,3])));exact Ak C<|Aa 2 (λq=>λ_=>Ar [3,4,5,6,7,8] C<|BL U (F,G,b7,q,(L,rc),(J,K)) lE (λw f D=>D))
 refine EY SH (L1 b1 b2 b3 b4 b5 b6 [1,2,4,5]) (Eg b1 b2 b3 b4 b5 b6 [1,2,4,5]) (λ_=>[]) (f16 [1,2,4,5]) ?_ (λhS1245=>?_)
 ·
  rintro⟨F,G,b7,O,⟨L,rc⟩,⟨J,K⟩⟩;refine Cl C ?_ ?_;exact Aa 2 (λq=>λ_=>Ar [1,2,3,4,5,6] C<|BL hS12456 (F,G,q,O,(L,rc),(J,K)) lE (λw f D=>D));exact Ak C<|Aa 2 (λq=>λ_=>Ar [1,2,3,4,5,6] C<|BL hS12457 (F,G,b7,q,(L,rc),(J,K)) lE (λw f D=>D))
 refine EY Jb (L1 b1 b2 b3 b4 b5 b6 [1,4,6,7]) (Eg b1 b2 b3 b4 b5 b6 [1,4,6,7]) (λ_=>[]) (f16 [1,4,6,7]) ?_ (λY=>?_)
 ·
  rintro⟨F,G,b7,O,⟨L,rc⟩,⟨J,K⟩⟩;refine Ak C<|Di 3 C C<|BI (λw f=>Al w f (T1.var 1).one (some ⟨F,0,none⟩) 1) (λw f D=>BT (l:=[(.var 1,none,0)]) ⟨Al.nil _ _ _ _,tQ⟩ D.b0) Al.mono<|CR C C (eC C8 C C) (λw f D=>Dq w f D.vl GA (T1.var 1).one (some ⟨F,0,none⟩) 1 dC D.f0) (λ_=>⟨Al.mono,tQ⟩) ?_;rintro⟨Z,qc⟩ -;exact Aa 1 (λ_=>Bv [3,4,5,6,7,8] Ef C (λ_ h=>.tail _ h)<|BL U (F,G,b7,O,(Z,qc),(J,K)) lE (λw f D=>D.less sR sR nE (mR [0,2])))
 refine EY MQ (L1 b1 b2 b3 b4 b5 b6 [1,4,6]) (Eg b1 b2 b3 b4 b5 b6 [1,4,6]) (λ_=>[]) (f16 [1,4,6]) ?_ (λhS146=>?_)
 ·
  rintro⟨F,G,b7,O,⟨L,rc⟩,⟨J,K⟩⟩;refine Cl C ?_ ?_;refine Di 2 C C<|BI (λw f=>Al w f (T1.var 1).one (some ⟨F,0,none⟩) 1) (λw f D=>BT (l:=[(.var 1,none,0)]) ⟨Al.nil _ _ _ _,tQ⟩ D.b0) Al.mono<|CR C C (eC C8 C C) (λw f D=>Dq w f D.vl GA (T1.var 1).one (some ⟨F,0,none⟩) 1 dC D.f0) (λ_=>⟨Al.mono,tQ⟩) ?_;rintro⟨Z,qc⟩ -;exact Aa 1 (λ_=>Bv [2,3,4,5,6,7] Ef C (λ_ h=>.tail _ h)<|BL hS1246 (F,G,b7,O,(Z,qc),(J,K)) lE (λw f D=>D.less sR sR nE (mR [0,2])));exact Ak C<|Aa 2 (λq=>λ_=>Ar [4,5,6,7,8,9] C<|BL Y (F,G,b7,q,(L,rc),(J,K)) lE (λw f D=>D))
 refine EY Ng (L1 b1 b2 b3 b4 b5 b6 [1,4,7]) (Eg b1 b2 b3 b4 b5 b6 [1,4,7]) (λ_=>[]) (f16 [1,4,7]) ?_ (λhS147=>?_)
 ·
  rintro⟨F,G,b7,O,⟨L,rc⟩,⟨J,K⟩⟩;refine Cl C ?_ ?_;refine Di 2 C C<|BI (λw f=>Al w f (T1.var 1).one (some ⟨F,0,none⟩) 1) (λw f D=>BT (l:=[(.var 1,none,0)]) ⟨Al.nil _ _ _ _,tQ⟩ D.b0) Al.mono<|CR C C (eC C8 C C) (λw f D=>Dq w f D.vl GA (T1.var 1).one (some ⟨F,0,none⟩) 1 dC D.f0) (λ_=>⟨Al.mono,tQ⟩) ?_;rintro⟨Z,qc⟩ -;exact Aa 1 (λ_=>Bv [2,3,4,5,6,7] Ef C (λ_ h=>.tail _ h)<|BL hS1247 (F,G,b7,O,(Z,qc),(J,K)) lE (λw f D=>D.less sR sR nE (mR [0,2])));exact Ak C<|Aa 2 (λq=>λ_=>Ar [4,5,6,7,8,9] C<|BL Y (F,G,q,O,(L,rc),(J,K)) lE (λw f D=>D.perm (List.perm_middle (l₁:=[_]))))
 refine EY R6 (L1 b1 b2 b3 b4 b5 b6 [1,2,7]) (Eg b1 b2 b3 b4 b5 b6 [1,2,7]) (λ_=>[]) (f16 [1,2,7]) ?_ (λhS127=>?_)
 ·
  rintro⟨F,G,b7,O,⟨L,rc⟩,⟨J,K⟩⟩;refine Cl C ?_ ?_;exact Aa 2 (λq=>λ_=>Ar [2,3,4,5,6,7] C<|BL hS1247 (F,q,b7,O,(L,rc),(J,K)) lE (λw f D=>D.perm (List.perm_middle (l₁:=[_]))));exact Ak C<|Aa 2 (λq=>λ_=>Ar [2,3,4,5,6,7] C<|BL hS1267 (F,G,q,O,(L,rc),(J,K)) lE (λw f D=>D.perm (List.perm_middle (l₁:=[_]))))
 refine EY MP (L1 b1 b2 b3 b4 b5 b6 [1,6,7]) (Eg b1 b2 b3 b4 b5 b6 [1,6,7]) (λ_=>[]) (f16 [1,6,7]) ?_ (λhS167=>?_)
 ·
  rintro⟨F,G,b7,O,⟨L,rc⟩,⟨J,K⟩⟩;refine Cl C ?_ ?_;refine Di 2 C C<|BI (λw f=>Al w f (T1.var 1).one (some ⟨F,0,none⟩) 1) (λw f D=>BT (l:=[(.var 1,none,0)]) ⟨Al.nil _ _ _ _,tQ⟩ D.b0) Al.mono<|CR C C (eC C8 C C) (λw f D=>Dq w f D.vl GA (T1.var 1).one (some ⟨F,0,none⟩) 1 dC D.f0) (λ_=>⟨Al.mono,tQ⟩) ?_;rintro⟨Z,qc⟩ -;exact Aa 1 (λ_=>Bv [2,3,4,5,6,7] Ef C (λ_ h=>.tail _ h)<|BL hS1267 (F,G,b7,O,(Z,qc),(J,K)) lE (λw f D=>D.less sR sR nE (mR [0,2])));exact Ak C<|Aa 2 (λq=>λ_=>Ar [4,5,6,7,8,9] C<|BL Y (F,q,b7,O,(L,rc),(J,K)) lE (λw f D=>D.perm (List.perm_middle (l₁:=[_,_]))))
 refine EY Qh (L1 b1 b2 b3 b4 b5 b6 [1,2,6]) (Eg b1 b2 b3 b4 b5 b6 [1,2,6]) (λ_=>[]) (f16 [1,2,6]) ?_ (λhS126=>?_)
 ·
  rintro⟨F,G,b7,O,⟨L,rc⟩,⟨J,K⟩⟩;refine Cl C ?_ ?_;exact Aa 2 (λq=>λ_=>Ar [2,3,4,5,6,7] C<|BL hS1246 (F,q,b7,O,(L,rc),(J,K)) lE (λw f D=>D.perm (List.perm_middle (l₁:=[_]))));exact Ak C<|Aa 2 (λq=>λ_=>Ar [2,3,4,5,6,7] C<|BL hS1267 (F,G,b7,q,(L,rc),(J,K)) lE (λw f D=>D))
 refine EY ML (L1 b1 b2 b3 b4 b5 b6 [4,6,7]) (Eg b1 b2 b3 b4 b5 b6 [4,6,7]) (λ_=>[]) (f16 [4,6,7]) ?_ (λhS467=>?_)
 ·
  rintro⟨F,G,b7,O,⟨L,rc⟩,⟨J,K⟩⟩;exact Ak C<|Aa 2 (λq=>λ_=>Ar [4,5,6,7,8,9] C<|BL Y (q,G,b7,O,(L,rc),(J,K)) lE (λw f D=>D.perm (List.perm_middle (l₁:=[_,_,_]))))
 refine EY R3 (L1 b1 b2 b3 b4 b5 b6 [1,2,4]) (Eg b1 b2 b3 b4 b5 b6 [1,2,4]) (λ_=>[]) (f16 [1,2,4]) ?_ (λhS124=>?_)
 ·
  rintro⟨F,G,b7,O,⟨L,rc⟩,⟨J,K⟩⟩;refine Cl C ?_ ?_;refine Di 0 C C<|BI (λw f=>Al w f (T1.var 1).one (some ⟨G,0,none⟩) 1) (λw f D=>BT (l:=[(.var 1,none,0)]) ⟨Al.nil _ _ _ _,tQ⟩ D.b0) Al.mono<|CR C C (eC C8 C C) (λw f D=>Dq w f D.vl F8 (T1.var 1).one (some ⟨G,0,none⟩) 1 dC D.f0) (λ_=>⟨Al.mono,tQ⟩) ?_;rintro⟨Z,qc⟩ -;exact Aa 1 (λ_=>Bv [0,1,2,3,4,5] Ef C (λ_ h=>.tail _ h)<|BL hS1245 (F,G,b7,O,(L,rc),(Z,qc)) lE (λw f D=>D.less sR sR nE (mR [0,2,3])));refine Cl C ?_ ?_;exact Aa 2 (λq=>λ_=>Ar [2,3,4,5,6,7] C<|BL hS1246 (F,G,q,O,(L,rc),(J,K)) lE (λw f D=>D));exact Ak C<|Aa 2 (λq=>λ_=>Ar [2,3,4,5,6,7] C<|BL hS1247 (F,G,b7,q,(L,rc),(J,K)) lE (λw f D=>D))
 refine EY Vj (L1 b1 b2 b3 b4 b5 b6 [1,4]) (Eg b1 b2 b3 b4 b5 b6 [1,4]) (λ_=>[]) (f16 [1,4]) ?_ (λhS14=>?_)
 ·
  rintro⟨F,G,b7,O,⟨L,rc⟩,⟨J,K⟩⟩;refine Cl C ?_ ?_;refine Di 1 C C<|BI (λw f=>Al w f (T1.var 1).one (some ⟨F,0,none⟩) 1) (λw f D=>BT (l:=[(.var 1,none,0)]) ⟨Al.nil _ _ _ _,tQ⟩ D.b0) Al.mono<|CR C C (eC C8 C C) (λw f D=>Dq w f D.vl GA (T1.var 1).one (some ⟨F,0,none⟩) 1 dC D.f0) (λ_=>⟨Al.mono,tQ⟩) ?_;rintro⟨Z,qc⟩ -;exact Aa 1 (λ_=>Bv [1,2,3,4,5,6] Ef C (λ_ h=>.tail _ h)<|BL hS124 (F,G,b7,O,(Z,qc),(J,K)) lE (λw f D=>D.less sR sR nE (mR [0,2])));refine Cl C ?_ ?_;exact Aa 2 (λq=>λ_=>Ar [3,4,5,6,7,8] C<|BL hS146 (F,G,q,O,(L,rc),(J,K)) lE (λw f D=>D));exact Ak C<|Aa 2 (λq=>λ_=>Ar [3,4,5,6,7,8] C<|BL hS147 (F,G,b7,q,(L,rc),(J,K)) lE (λw f D=>D))
 refine EY Uz (L1 b1 b2 b3 b4 b5 b6 [4,6]) (Eg b1 b2 b3 b4 b5 b6 [4,6]) (λ_=>[]) (f16 [4,6]) ?_ (λhS46=>?_)
 ·
  rintro⟨F,G,b7,O,⟨L,rc⟩,⟨J,K⟩⟩;refine Cl C ?_ ?_;exact Aa 2 (λq=>λ_=>Ar [3,4,5,6,7,8] C<|BL hS146 (q,G,b7,O,(L,rc),(J,K)) lE (λw f D=>D.perm (List.perm_middle (l₁:=[_,_]))));exact Ak C<|Aa 2 (λq=>λ_=>Ar [3,4,5,6,7,8] C<|BL hS467 (F,G,b7,q,(L,rc),(J,K)) lE (λw f D=>D))
 refine EY Ua (L1 b1 b2 b3 b4 b5 b6 [1,7]) (Eg b1 b2 b3 b4 b5 b6 [1,7]) (λ_=>[]) (f16 [1,7]) ?_ (λhS17=>?_)
 ·
  rintro⟨F,G,b7,O,⟨L,rc⟩,⟨J,K⟩⟩;refine Cl C ?_ ?_;refine Di 1 C C<|BI (λw f=>Al w f (T1.var 1).one (some ⟨F,0,none⟩) 1) (λw f D=>BT (l:=[(.var 1,none,0)]) ⟨Al.nil _ _ _ _,tQ⟩ D.b0) Al.mono<|CR C C (eC C8 C C) (λw f D=>Dq w f D.vl GA (T1.var 1).one (some ⟨F,0,none⟩) 1 dC D.f0) (λ_=>⟨Al.mono,tQ⟩) ?_;rintro⟨Z,qc⟩ -;exact Aa 1 (λ_=>Bv [1,2,3,4,5,6] Ef C (λ_ h=>.tail _ h)<|BL hS127 (F,G,b7,O,(Z,qc),(J,K)) lE (λw f D=>D.less sR sR nE (mR [0,2])));refine Cl C ?_ ?_;exact Aa 2 (λq=>λ_=>Ar [3,4,5,6,7,8] C<|BL hS147 (F,q,b7,O,(L,rc),(J,K)) lE (λw f D=>D.perm (List.perm_middle (l₁:=[_]))));exact Ak C<|Aa 2 (λq=>λ_=>Ar [3,4,5,6,7,8] C<|BL hS167 (F,G,q,O,(L,rc),(J,K)) lE (λw f D=>D.perm (List.perm_middle (l₁:=[_]))))
 refine EY UG (L1 b1 b2 b3 b4 b5 b6 [1,6]) (Eg b1 b2 b3 b4 b5 b6 [1,6]) (λ_=>[]) (f16 [1,6]) ?_ (λhS16=>?_)
 ·
  rintro⟨F,G,b7,O,⟨L,rc⟩,⟨J,K⟩⟩;refine Cl C ?_ ?_;refine Di 1 C C<|BI (λw f=>Al w f (T1.var 1).one (some ⟨F,0,none⟩) 1) (λw f D=>BT (l:=[(.var 1,none,0)]) ⟨Al.nil _ _ _ _,tQ⟩ D.b0) Al.mono<|CR C C (eC C8 C C) (λw f D=>Dq w f D.vl GA (T1.var 1).one (some ⟨F,0,none⟩) 1 dC D.f0) (λ_=>⟨Al.mono,tQ⟩) ?_;rintro⟨Z,qc⟩ -;exact Aa 1 (λ_=>Bv [1,2,3,4,5,6] Ef C (λ_ h=>.tail _ h)<|BL hS126 (F,G,b7,O,(Z,qc),(J,K)) lE (λw f D=>D.less sR sR nE (mR [0,2])));refine Cl C ?_ ?_;exact Aa 2 (λq=>λ_=>Ar [3,4,5,6,7,8] C<|BL hS146 (F,q,b7,O,(L,rc),(J,K)) lE (λw f D=>D.perm (List.perm_middle (l₁:=[_]))));exact Ak C<|Aa 2 (λq=>λ_=>Ar [3,4,5,6,7,8] C<|BL hS167 (F,G,b7,q,(L,rc),(J,K)) lE (λw f D=>D))
 refine EY Uh (L1 b1 b2 b3 b4 b5 b6 [4,7]) (Eg b1 b2 b3 b4 b5 b6 [4,7]) (λ_=>[]) (f16 [4,7]) ?_ (λhS47=>?_)
 ·
  rintro⟨F,G,b7,O,⟨L,rc⟩,⟨J,K⟩⟩;refine Cl C ?_ ?_;exact Aa 2 (λq=>λ_=>Ar [3,4,5,6,7,8] C<|BL hS147 (q,G,b7,O,(L,rc),(J,K)) lE (λw f D=>D.perm (List.perm_middle (l₁:=[_,_]))));exact Ak C<|Aa 2 (λq=>λ_=>Ar [3,4,5,6,7,8] C<|BL hS467 (F,G,q,O,(L,rc),(J,K)) lE (λw f D=>D.perm (List.perm_middle (l₁:=[_]))))
 refine EY Uf (L1 b1 b2 b3 b4 b5 b6 [6,7]) (Eg b1 b2 b3 b4 b5 b6 [6,7]) (λ_=>[]) (f16 [6,7]) ?_ (λhS67=>?_)
 ·
  rintro⟨F,G,b7,O,⟨L,rc⟩,⟨J,K⟩⟩;refine Cl C ?_ ?_;exact Aa 2 (λq=>λ_=>Ar [3,4,5,6,7,8] C<|BL hS167 (q,G,b7,O,(L,rc),(J,K)) lE (λw f D=>D.perm (List.perm_middle (l₁:=[_,_]))));exact Ak C<|Aa 2 (λq=>λ_=>Ar [3,4,5,6,7,8] C<|BL hS467 (F,q,b7,O,(L,rc),(J,K)) lE (λw f D=>D.perm (List.perm_middle (l₁:=[_,_]))))
 refine EY YR (L1 b1 b2 b3 b4 b5 b6 [1,2]) (Eg b1 b2 b3 b4 b5 b6 [1,2]) (λ_=>[]) (f16 [1,2]) ?_ (λhS12=>?_)
 ·
  rintro⟨F,G,b7,O,⟨L,rc⟩,⟨J,K⟩⟩;refine Cl C ?_ ?_;exact Aa 2 (λq=>λ_=>Ar [1,2,3,4,5,6] C<|BL hS124 (F,q,b7,O,(L,rc),(J,K)) lE (λw f D=>D));refine Cl C ?_ ?_;exact Aa 2 (λq=>λ_=>Ar [1,2,3,4,5,6] C<|BL hS126 (F,G,q,O,(L,rc),(J,K)) lE (λw f D=>D));exact Ak C<|Aa 2 (λq=>λ_=>Ar [1,2,3,4,5,6] C<|BL hS127 (F,G,b7,q,(L,rc),(J,K)) lE (λw f D=>D))
 refine EY nU (L1 b1 b2 b3 b4 b5 b6 [1]) (Eg b1 b2 b3 b4 b5 b6 [1]) (λ_=>[]) (f16 [1]) ?_ (λhS1=>?_)
 ·
  rintro⟨F,G,b7,O,⟨L,rc⟩,⟨J,K⟩⟩;refine Cl C ?_ ?_;refine Di 0 C C<|BI (λw f=>Al w f (T1.var 1).one (some ⟨F,0,none⟩) 1) (λw f D=>BT (l:=[(.var 1,none,0)]) ⟨Al.nil _ _ _ _,tQ⟩ D.b0) Al.mono<|CR C C (eC C8 C C) (λw f D=>Dq w f D.vl GA (T1.var 1).one (some ⟨F,0,none⟩) 1 dC D.f0) (λ_=>⟨Al.mono,tQ⟩) ?_;rintro⟨Z,qc⟩ -;exact Aa 1 (λ_=>Bv [0,1,2,3,4,5] Ef C (λ_ h=>.tail _ h)<|BL hS12 (F,G,b7,O,(Z,qc),(J,K)) lE (λw f D=>D.less sR sR nE (mR [0,2])));refine Cl C ?_ ?_;exact Aa 2 (λq=>λ_=>Ar [2,3,4,5,6,7] C<|BL hS14 (F,q,b7,O,(L,rc),(J,K)) lE (λw f D=>D));refine Cl C ?_ ?_;exact Aa 2 (λq=>λ_=>Ar [2,3,4,5,6,7] C<|BL hS16 (F,G,q,O,(L,rc),(J,K)) lE (λw f D=>D));exact Ak C<|Aa 2 (λq=>λ_=>Ar [2,3,4,5,6,7] C<|BL hS17 (F,G,b7,q,(L,rc),(J,K)) lE (λw f D=>D))
 refine EY qH (L1 b1 b2 b3 b4 b5 b6 [4]) (Eg b1 b2 b3 b4 b5 b6 [4]) (λ_=>[]) (f16 [4]) ?_ (λhS4=>?_)
 ·
  rintro⟨F,G,b7,O,⟨L,rc⟩,⟨J,K⟩⟩;refine Cl C ?_ ?_;exact Aa 2 (λq=>λ_=>Ar [2,3,4,5,6,7] C<|BL hS14 (q,G,b7,O,(L,rc),(J,K)) lE (λw f D=>D.perm (List.perm_middle (l₁:=[_]))));refine Cl C ?_ ?_;exact Aa 2 (λq=>λ_=>Ar [2,3,4,5,6,7] C<|BL hS46 (F,G,q,O,(L,rc),(J,K)) lE (λw f D=>D));exact Ak C<|Aa 2 (λq=>λ_=>Ar [2,3,4,5,6,7] C<|BL hS47 (F,G,b7,q,(L,rc),(J,K)) lE (λw f D=>D))
 refine EY oW (L1 b1 b2 b3 b4 b5 b6 [7]) (Eg b1 b2 b3 b4 b5 b6 [7]) (λ_=>[]) (f16 [7]) ?_ (λhS7=>?_)
 ·
  rintro⟨F,G,b7,O,⟨L,rc⟩,⟨J,K⟩⟩;refine Cl C ?_ ?_;exact Aa 2 (λq=>λ_=>Ar [2,3,4,5,6,7] C<|BL hS17 (q,G,b7,O,(L,rc),(J,K)) lE (λw f D=>D.perm (List.perm_middle (l₁:=[_]))));refine Cl C ?_ ?_;exact Aa 2 (λq=>λ_=>Ar [2,3,4,5,6,7] C<|BL hS47 (F,q,b7,O,(L,rc),(J,K)) lE (λw f D=>D.perm (List.perm_middle (l₁:=[_]))));exact Ak C<|Aa 2 (λq=>λ_=>Ar [2,3,4,5,6,7] C<|BL hS67 (F,G,q,O,(L,rc),(J,K)) lE (λw f D=>D.perm (List.perm_middle (l₁:=[_]))))
 refine EY oF (L1 b1 b2 b3 b4 b5 b6 [6]) (Eg b1 b2 b3 b4 b5 b6 [6]) (λ_=>[]) (f16 [6]) ?_ (λhS6=>?_)
 ·
  rintro⟨F,G,b7,O,⟨L,rc⟩,⟨J,K⟩⟩;refine Cl C ?_ ?_;exact Aa 2 (λq=>λ_=>Ar [2,3,4,5,6,7] C<|BL hS16 (q,G,b7,O,(L,rc),(J,K)) lE (λw f D=>D.perm (List.perm_middle (l₁:=[_]))));refine Cl C ?_ ?_;exact Aa 2 (λq=>λ_=>Ar [2,3,4,5,6,7] C<|BL hS46 (F,q,b7,O,(L,rc),(J,K)) lE (λw f D=>D.perm (List.perm_middle (l₁:=[_]))));exact Ak C<|Aa 2 (λq=>λ_=>Ar [2,3,4,5,6,7] C<|BL hS67 (F,G,b7,q,(L,rc),(J,K)) lE (λw f D=>D))
 refine EY t16_ (L1 b1 b2 b3 b4 b5 b6 []) (Eg b1 b2 b3 b4 b5 b6 []) (λ_=>[]) (f16 []) ?_ (λhS=>?_)
 ·
  rintro⟨F,G,b7,O,⟨L,rc⟩,⟨J,K⟩⟩;refine Cl C ?_ ?_;exact Aa 2 (λq=>λ_=>Ar [1,2,3,4,5,6] C<|BL hS1 (q,G,b7,O,(L,rc),(J,K)) lE (λw f D=>D));refine Cl C ?_ ?_;exact Aa 2 (λq=>λ_=>Ar [1,2,3,4,5,6] C<|BL hS4 (F,q,b7,O,(L,rc),(J,K)) lE (λw f D=>D));refine Cl C ?_ ?_;exact Aa 2 (λq=>λ_=>Ar [1,2,3,4,5,6] C<|BL hS6 (F,G,q,O,(L,rc),(J,K)) lE (λw f D=>D));exact Ak C<|Aa 2 (λq=>λ_=>Ar [1,2,3,4,5,6] C<|BL hS7 (F,G,b7,q,(L,rc),(J,K)) lE (λw f D=>D))
 exact BL hS (0,0,0,0,(none,0),(none,0)) lE (λw f D=>D);rintro⟨b7,O,⟨L,rc⟩,⟨J,K⟩⟩ -;dsimp only;refine Aa 8 (λb31=>λ_=>BN C C (λw f D=>Rk C)<|Aa 4 (λ_=>uH 0 C C<|mmi (RF b31 none) (Fc 23 31 b31 (.slice none 0 0) none 0 0 []) (λb h=>h.elim .inr λh=>by cases h) (λw f h=>⟨h.2,⟨C,.inl ⟨C,C,C⟩⟩,λh=>by cases h⟩) Fc.stab<|BI (λw f=>BS w f [] []) (λw f D=>C) BS.mono<|Ae 6 [7,7,7] (y<|y<|y<|λb32=>λ_=>Gw 0 5 [qI,qI,qI] C C C C C C (λw f _ _ D=>⟨D.f3,⟨qN,⟨qN,⟨qN,tQ⟩⟩⟩⟩) ⟨kI,⟨kI,⟨kI,tQ⟩⟩⟩ λa1 c1 xs1=>Ae 8 [7,7] (y<|y<|λb33=>λ_=>Gw 0 6 [qI,qI] C C C C C C (λw f _ _ D=>⟨D.f3,⟨qN,⟨qN,tQ⟩⟩⟩) ⟨kI,⟨kI,tQ⟩⟩ λa2 c2 xs2=>?_))));refine Ae 9 [7,7,4] (y<|y<|y<|λb34=>λ_=>Gw 0 9 [qI,qI,qB] C C C C C C (λw f _ _ D=>⟨D.f3,⟨qN,⟨qN,⟨qN,tQ⟩⟩⟩⟩) ⟨kI,⟨kI,⟨kB,tQ⟩⟩⟩ λa3 c3 xs3=>Ae 9 [6,6,6] (y<|y<|y<|λb35=>λ_=>Gw 0 13 [qF,qF,qF] C C C C C C (λw f _ _ D=>⟨D.f3,⟨qN,⟨qN,⟨qN,tQ⟩⟩⟩⟩) ⟨kF,⟨kF,⟨kF,tQ⟩⟩⟩ λa4 c4 xs4=>Ae 8 [6,6] (y<|y<|λb36=>λ_=>Gw 0 15 [qF,qF] C C C C C C (λw f _ _ D=>⟨D.f3,⟨qN,⟨qN,tQ⟩⟩⟩) ⟨kF,⟨kF,tQ⟩⟩ λa5 c5 xs5=>Ae 9 [6,6,4] (y<|y<|y<|λb37=>λ_=>Gw 0 18 [qF,qF,qB] C C C C C C (λw f _ _ D=>⟨D.f3,⟨qN,⟨qN,⟨qN,tQ⟩⟩⟩⟩) ⟨kF,⟨kF,⟨kB,tQ⟩⟩⟩ λa6 c6 xs6=>Ae 8 [7,6] (y<|y<|λb38=>λ_=>Gw 0 19 [qI,qF] C C C C C C (λw f _ _ D=>⟨D.f3,⟨qN,⟨qN,tQ⟩⟩⟩) ⟨kI,⟨kF,tQ⟩⟩ λa7 c7 xs7=>?_)))));refine Ae 8 [6,7] (y<|y<|λb39=>λ_=>Gw 0 20 [qF,qI] C C C C C C (λw f _ _ D=>⟨D.f3,⟨qN,⟨qN,tQ⟩⟩⟩) ⟨kF,⟨kI,tQ⟩⟩ λa8 c8 xs8=>Ae 8 [6,5] (y<|y<|λb40=>λ_=>Gw 0 21 [qF,qS] C C C C C C (λw f _ _ D=>⟨D.f3,⟨qN,⟨qN,tQ⟩⟩⟩) ⟨kF,⟨kS,tQ⟩⟩ λa9 c9 xs9=>Ae 7 [6] (y<|λb41=>λ_=>Gw 0 23 [qF] C C C C C C (λw f _ _ D=>⟨D.f3,⟨qN,tQ⟩⟩) ⟨kF,tQ⟩ λa10 c10 xs10=>Ae 9 [5,5,5] (y<|y<|y<|λb42=>λ_=>Gw 0 24 [qS,qS,qS] C C C C C C (λw f _ _ D=>⟨D.f3,⟨qN,⟨qN,⟨qN,tQ⟩⟩⟩⟩) ⟨kS,⟨kS,⟨kS,tQ⟩⟩⟩ λa11 c11 xs11=>Ae 8 [5,7] (y<|y<|λb43=>λ_=>Gw 0 27 [qS,qI] C C C C C C (λw f _ _ D=>⟨D.f3,⟨qN,⟨qN,tQ⟩⟩⟩) ⟨kS,⟨kI,tQ⟩⟩ λa12 c12 xs12=>?_)))))
 refine Ae 10 [5,7,7,5] (y<|y<|y<|y<|λb44=>λ_=>Gw 0 28 [qS,qI,qI,qS] C C C C C C (λw f _ _ D=>⟨D.f3,⟨qN,⟨qN,⟨qN,⟨qN,tQ⟩⟩⟩⟩⟩) ⟨kS,⟨kI,⟨kI,⟨kS,tQ⟩⟩⟩⟩ λa13 c13 xs13=>Ae 9 [5,5,4] (y<|y<|y<|λb45=>λ_=>Gw 0 30 [qS,qS,qB] C C C C C C (λw f _ _ D=>⟨D.f3,⟨qN,⟨qN,⟨qN,tQ⟩⟩⟩⟩) ⟨kS,⟨kS,⟨kB,tQ⟩⟩⟩ λa14 c14 xs14=>Ae 8 [7,5] (y<|y<|λb46=>λ_=>Gw 0 32 [qI,qS] C C C C C C (λw f _ _ D=>⟨D.f3,⟨qN,⟨qN,tQ⟩⟩⟩) ⟨kI,⟨kS,tQ⟩⟩ λa15 c15 xs15=>Ae 8 [5,3] (y<|y<|λb47=>λ_=>Gw 0 33 [qS,qU] C C C C C C (λw f _ _ D=>⟨D.f3,⟨qN,⟨qN,tQ⟩⟩⟩) ⟨kS,⟨kU,tQ⟩⟩ λa16 c16 xs16=>Ae 8 [3,5] (y<|y<|λb48=>λ_=>Gw 0 34 [qU,qS] C C C C C C (λw f _ _ D=>⟨D.f3,⟨qN,⟨qN,tQ⟩⟩⟩) ⟨kU,⟨kS,tQ⟩⟩ λa17 c17 xs17=>?_)))));refine Ae 8 [2,1] (y<|y<|λb49=>λ_=>Gw 0 35 [qV,(qR L rc)] C C C C C C (λw f _ _ D=>⟨D.f3,⟨qN,⟨D.f2,tQ⟩⟩⟩) ⟨kV,⟨(F4 dC dC tQ),tQ⟩⟩ λa18 c18 xs18=>Ae 8 [1,2] (y<|y<|λb50=>λ_=>Gw 0 36 [(qR L rc),qV] C C C C C C (λw f _ _ D=>⟨D.f3,⟨D.f2,⟨qN,tQ⟩⟩⟩) ⟨(F4 dC dC tQ),⟨kV,tQ⟩⟩ λa19 c19 xs19=>Ae 9 [1,2,3] (y<|y<|y<|λb51=>λ_=>Gw 0 37 [(qR L rc),qV,qU] C C C C C C (λw f _ _ D=>⟨D.f3,⟨D.f2,⟨qN,⟨qN,tQ⟩⟩⟩⟩) ⟨(F4 dC dC tQ),⟨kV,⟨kU,tQ⟩⟩⟩ λa20 c20 xs20=>Ae 8 [2,0] (y<|y<|λb52=>λ_=>Gw 0 38 [qV,(qP J K)] C C C C C C (λw f _ _ D=>⟨D.f3,⟨qN,⟨D.f1,tQ⟩⟩⟩) ⟨kV,⟨(F4 dC dC tQ),tQ⟩⟩ λa21 c21 xs21=>Ae 8 [0,2] (y<|y<|λb53=>λ_=>Gw 0 39 [(qP J K),qV] C C C C C C (λw f _ _ D=>⟨D.f3,⟨D.f1,⟨qN,tQ⟩⟩⟩) ⟨(F4 dC dC tQ),⟨kV,tQ⟩⟩ λa22 c22 xs22=>?_)))));exact Ae 9 [0,2,3] (y<|y<|y<|λb54=>λ_=>Gw 0 40 [(qP J K),qV,qU] C C C C C C (λw f _ _ D=>⟨D.f3,⟨D.f1,⟨qN,⟨qN,tQ⟩⟩⟩⟩) ⟨(F4 dC dC tQ),⟨kV,⟨kU,tQ⟩⟩⟩ λa23 c23 xs23=>Aa 4 (λ_=>BN C C (λw f D=>Ai C Tc D.res.blk C)<|Aa 4 (λ_=>A5 (Cb C C) (λw f D=>by obtain⟨f2,h1,h2⟩:=D.res.fin (l:=AQ) D.exm (λb hb=>(D.mi b (.inr hb)).2.2.elim id λh=>h.elim) D.f0 C dC;exact⟨(a23,c23),f2,C,tQ,h1,⟨h2,tQ⟩⟩))))
def YL(p:OX):Bd:=⟨p.1,Dj p.2.2 [1] (T1.var (0-1)).one,[0-1]⟩
def JU(i:Nat):BJ:=((AQ.take i).map YL).reverse
variable {nu:Int}{ar i:Nat}{dt:lU}
theorem XF{p:OX}(h:AQ[i]?=some p):JU (i+1)=YL p::JU i:=by
 unfold JU;rw[CZ h,List.map_append,List.reverse_append];rfl
theorem RR:JU AQ.length=Ro:=kR
theorem NY:∀p,p∈AQ→p.2.2.bnd:=by
 intro p D;simp only[AQ,List.mem_cons,List.not_mem_nil,or_false] at D;have F:∀{l:List (T1×oA×Nat)},bA l→(GC (No l)).bnd:=λh=>WI (Qm h);have J:=EP 1;have d:∀{t:lU},t.length≤1000000→(c0 t).bnd:=λh=>GJ h;have K:(T1.con GA (T1.var 1).one).bnd:=F4 dC dC tQ;have G:(T1.con F8 (T1.var 1).one).bnd:=F4 dC dC tQ;have bi:=d (t:=bI) dC;have L:=d (t:=bF) dC;have O:=d (t:=bS) dC;have Q:=d (t:=bB) dC;have U:=d (t:=bU) dC
 repeat' (rcases D with rfl|D)
 all_goals first|(subst D)|skip
 all_goals (refine F ?_;simp only[bA,and_true];simp[*])
theorem Sh{nm:lU}(h:Hs[i]?=some (nm,dt,nu,ar)):ar≤1:=by
 have:∀p∈Hs,p.2.2.2≤1:=dC;exact this _ (List.mem_of_getElem? h)
theorem SZ{nm:lU}(h:Hs[i]?=some (nm,dt,nu,ar)):dt.length≤1000000:=by
 have:∀p∈Hs,p.2.1.length≤1000000:=dC;exact this _ (List.mem_of_getElem? h)
theorem WFc0:Im (⟨[],0,Yv 0,[],[],0⟩:CS):=⟨tQ,λ_ _ h=>(by cases h),tQ,tQ,tQ,Int.le_refl _⟩
set_option maxHeartbeats 2000000 in
theorem VA(w:wO)(f:Fq)(hv:Vl w f)(hG:Iu w f) :
  AX prog 67 #[] w (Ny (α:=Ad×oA) (λx=>.tuple #[pB x.1.cb,.pointer x.2]) (λx=>x.1.ok) (λ_=>False) (λx=>Dk x.1) (λx=>AN 146 224 x.1 fO) (λx=>[λw f=>BC w f Ro x.2]) w f):=by
 refine Ed [λw f=>Iu w f] func67 C C C (Be hv ⟨hG,tQ⟩ ⟨Iu.mono,tQ⟩)<|Aa 8 (λ_=>fN (XX:=λ_ _=>False) C C (eC uV C C) (λw f d=>(eY w f d.vl).retP) (λ_=>Bz.stab (.inl C) (.inr C)) (λ_=>trivial) (λ_ _ _ _ _ h=>h.elim) ?_);rintro⟨sb,mb⟩ hsm;dsimp only at hsm ⊢;refine lJ (K:=JB) C C λkm hkm=>lJ (K:=JB) C C λdm hdm=>lJ (K:=JB) C C λrm Y=>Aa 7 (λb1=>λ_=>Kz (λw f d=>(d.own b1 (.head _)).2.2) λO=>uH 0 C C ?_);obtain⟨A,rfl,rfl,rfl,rfl,rfl,rfl⟩:∃A:Ad,A.cb=b1∧A.sb=sb∧A.mb=mb∧A.km=km∧A.dm=dm∧A.rm=rm:=⟨⟨b1,sb,mb,km,dm,rm⟩,C,C,C,C,C,C⟩;have hA:A.ok:=⟨λe=>O (.inl (.inl (.inl (.inl e)))),⟨λe=>O (.inl (.inl (.inl (.inr e)))),λe=>O (.inl (.inl (.inr e))),λe=>O (.inl (.inr e)),λe=>O (.inr e)⟩,⟨hsm,λe=>hkm (.inl e.symm),λe=>hdm (.inl (.inl e.symm)),λe=>Y (.inl (.inl (.inl e.symm)))⟩,⟨λe=>hkm (.inr e.symm),λe=>hdm (.inl (.inr e.symm)),λe=>Y (.inl (.inl (.inr e.symm))),λe=>hdm (.inr e.symm),λe=>Y (.inl (.inr e.symm)),λe=>Y (.inr e.symm)⟩⟩;refine mmi (Dk A) (AN 146 224 A (⟨[],0,Yv 0,[],[],0⟩:CS)) (λb h=>by rcases h with h|h|h|h|h|h;exact .inr h;exact .inl (.inl (.inl (.inl (.inl h))));exact .inl (.inl (.inl (.inl (.inr h))));exact .inl (.inl (.inl (.inr h)));exact .inl (.inl (.inr h));exact .inl (.inr h)) (λw f h=>⟨h.2,⟨0,h.1.1.1.1⟩,⟨[],h.1.1.1.2,C⟩,h.1.1.2,h.1.2⟩) AN.stab<|Aa 1 (λ_=>CR C C (eC aZ C C) (λw f d=>VD w f d.vl) (λx=>⟨λ_ _ _ _ h hF=>Cs.mono h hF,tQ⟩) ?_);rintro kb -;refine Aa 5 (λ_=>?_);refine DK (α:=Nat) (λi=>8-i) (λi=>i≤8∧Im (⟨[],0,Yv i,[],[],0⟩:CS)) (λi=>(E4 2 (pB A.cb) 15 (.slice (some ⟨kb,0,none⟩) 8 8) 16 (iV ((8:Nat):Int)) 17 (iV (i:Int)))) (λi=>⟨λ_=>False,Dk A,AN 146 224 A (⟨[],0,Yv i,[],[],0⟩:CS),w,f⟩) (λi=>[]) (λi=>[]) (λi=>[]) (λi=>[λw f=>Cs w f kb 0 Ri,λw f=>Iu w f]) (0) ⟨Nat.zero_le _,WFc0⟩ lE (λw f d=>d.less sR sR nE (mR [0,1])) ?_;rintro i ⟨hi,hwi⟩;refine Aa 6 (λ_=>?_)
 ·
  refine Ap 18 C C (λh1=>?_) (λh1=>?_);refine Aa 6 (λ_=>?_);have Q:i<8:=by have:=dT h1;omega
  obtain⟨⟨nm,dt,nu,ar⟩,U⟩:∃v,Hs[i]?=some v:=⟨_,List.getElem?_eq_getElem (l:=Hs) Q⟩;have har:ar≤1:=Sh U;refine Hh (α:=Unit) (λx=>True) (λx=>[⟨kb,0+i*4,cC (nm,dt,nu,ar)⟩]) (λx=>[]) (λw f d=>⟨(),tQ,(λe he=>by cases he with|head=>exact Cs.flat cC 4 (λ_=>C) Hs 0 i _ d.f0 U|tail _ h=>cases h),λ_ h=>by cases h⟩) (λx=>Au.mem tQ) ?_;rintro⟨⟩ -;refine Ae 11 [100,0,0,0] (aI oM<|y2<|λb2=>y<|y<|λ_=>BO C C (eC C8 C C) (λw f d=>Dv w f d.vl dt)<|Ae 14 [0,1] (λb3=>y<|y<|λ_=>LY 29 4 ?_));refine DK (α:=Nat×lV×oA×Nat) (λx=>ar-x.1) (λx=>x.1≤ar) (λx=>(E8 2 (pB A.cb) 4 (pB b2) 5 (pB b3) 15 (.slice (some ⟨kb,0,none⟩) 8 8) 16 (iV ((8:Nat):Int)) 17 (iV (i:Int)) 26 (iV (ar:Int)) 27 (iV (x.1:Int)))) (λx=>⟨λ_=>False,Dk A,AN 146 224 A (⟨[],0,Yv i,[],[],0⟩:CS),w,f⟩) (λx=>[⟨b3,[.slice x.2.2.1 x.1 x.2.2.2,iV 1,iV 0,S dt,.slice none 0 0,.slice none 0 0],178,true⟩,⟨b2,cC (nm,dt,nu,ar),53,true⟩]) (λx=>[⟨29,4,x.2.2.1,x.2.2.2,x.1,x.2.1⟩]) (λx=>[]) (λx=>[λw f=>Cr w f (Qs x.1) x.2.1,λw f=>Cs w f kb 0 Ri,λw f=>Iu w f]) (0,[],none,0) (Nat.zero_le _) lE (λw f d=>d.more (B':=[]) (F':=[λw f=>Cr w f .nil []]) nE (AR.mem ⟨C,tQ⟩) (Au.mem ⟨Cr.mono,tQ⟩) |>.less (sK (sK sZ)) sR nE (mR [0,1,2])) ?_;rintro⟨j,xs,ra,rc⟩ hj;dsimp only at hj ⊢;have hj0:=hj;refine Aa 6 (λ_=>?_)
  ·
   refine Ap 28 C C (λW=>?_) (λW=>?_);refine Aa 5 (λ_=>?_);have hjl:j<ar:=by have:=dT W;omega
   refine Cq [1] Aj (.rd 0 (.br 1 (.br 2 (.br 3 (.br 4 (.rd 5 (.br 6 .fin .fin)) .fin) .fin) .fin) (.br 2 (.br 1 (.br 3 (.br 4 (.rd 5 (.br 6 .fin .fin)) .fin) .fin) (.br 3 (.br 1 (.br 4 (.rd 5 (.br 6 .fin .fin)) .fin) .fin) .fin)) .fin))) C kR<|Bf 1 (λ_=>Cl C ?_ ?_);refine Ae 2 [0] (y<|λ_=>Ar [1] C<|Ak C<|BO C C (eC C8 C C) (λw f d=>Dv w f d.vl [115,116,114,105,110,103])<|Aa 1 (λ_=>Ar [1] C<|Ak C<|Aa 2 (λb4=>λ_=>?_)))
   rotate_left
   refine Ak C<|BO C C (eC C8 C C) (λw f d=>Dv w f d.vl [115,116,114,105,110,103])<|Aa 1 (λ_=>Ar [1] C<|Cl C ?_ ?_);refine Ae 2 [0] (y<|λ_=>Ar [1] C<|Ak C<|Aa 2 (λb4=>λ_=>?_))
   rotate_left
   refine Ak C<|Aa 2 (λb4=>λ_=>Ar [2] C<|Ak C<|Ae 2 [1] (y<|λ_=>?_))
   rotate_left
   refine Aa 3 (λ_=>Df<|Aa 2 (λ_=>?_));obtain rfl:j=ar:=by have:=dF W;omega
   refine Xg (λw f=>Al w f (Qs j) ra rc) Al.mono (λw f d=>Ni d d.f0)<|RL (λw=>AS w A.cb [pB A.sb,.map (some A.km),.map (some A.dm),.map (some A.rm),iV 0] 146) (λw f h _=>h.blk) [0,1] Aj (rd [0,1,2,3,4,5,6] (.br 7 .fin .fin)) C kR kR kR (λ_ _ _ _ _ h=>h)<|Bf 3 (λ_=>Iz C C C (λw hK=>Ai C uI hK.2.2 C)<|By 3 [1,0] (y<|y<|λ_=>Ak C<|zP (m:=⟨Qs j,c0 dt,[]⟩) (aa:=ra) (ac:=rc) (oa:=none) (oc:=0) (va:=none) (vc:=0) (i1:=0) hA hwi C C C C (by unfold mkC tC;simp only[Ll];rfl) xE LM (Om i Q _ U) C C C<|Aa 1 (λ_=>Bv [0,1] (λw f h _=>h.blk) C (λ_ h=>h)<|BG ?_)));exact Aa 6 (aI ⟨oM,oM⟩<|λ_=>Ce (i+1) (show 8-(i+1)<8-i by omega) ⟨show i+1≤8 by omega,(by rw[Ow U];exact hwi.addCons (Om i Q _ U) ⟨by rw[Ll];dsimp only;omega,Nx _,GJ (SZ U),Nat.zero_le _⟩)⟩ lE (λw f d=>⟨_,by rw[Ow U];exact d.less (sD (sD sZ)) sR nE (mR [2,3])⟩))
   all_goals
    refine Ar [2] C<|Ak C<|Dd 0 0 C C I1 C C C C C C C C (λ_ _=>C) oM oM λra2 rc2=>Aa 1 (λ_=>Ar [2] C<|Bf 1 (λ_=>Ak C<|Ae 2 [1] (y<|λ_=>Ar [2] C<|BG ?_)));exact Aa 6 (aI ⟨oM,oM⟩<|λ_=>Ce ((j+1,xs++tC (c0 bS) none 0,ra2,rc2)) (show ar-(j+1)<ar-j by omega) (show j+1≤ar by omega) lE (λw f d=>⟨_,(d.more (B':=[]) (F':=[λw f=>Cr w f (Qs (j+1)) (xs++tC (c0 bS) none 0)]) nE (AR.mem ⟨Cr.snoc (Al.nil _ _ _ _) d.f0,tQ⟩) (Au.mem ⟨Cr.mono,tQ⟩)).less (sD (sK (sK sZ))) sR nE (mR [0,2,3])⟩))
  refine Aa 3 (λ_=>Df<|Aa 3 (λ_=>?_));obtain rfl:i=8:=by have:=dF h1;omega
  refine Aa 4 (λ_=>BN (v:=iV 0) C C (λw f d=>Ai C IL d.res.blk C)<|Aa 3 (aI ⟨oM,oM⟩<|λ_=>cSet (v:=0-1) hA C C C IL<|Aa 10 (λ_=>CR C C (eC oL C C) (λw f d=>Oz w f d.vl d.f1) (λx=>⟨IE.mono,tQ⟩) ?_)));rintro⟨pa,pc⟩ -;refine Aa 5 (λ_=>?_);refine DK (α:=Nat×oA) (λx=>AQ.length-x.1) (λx=>x.1≤AQ.length) (λx=>(E5 2 (pB A.cb) 6 (.pointer x.2) 51 (.slice pa AQ.length pc) 52 (iV (AQ.length:Int)) 53 (iV (x.1:Int)))) (λx=>⟨λ_=>False,Dk A,AN 146 224 A (⟨[],0,Yv 8,[],[],0-1⟩:CS),w,f⟩) (λx=>[]) (λx=>[]) (λx=>[]) (λx=>[λw f=>IE w f AQ pa pc,λw f=>BC w f (JU x.1) x.2]) (0,none) (Nat.zero_le _) lE (λw f d=>d.more (B':=[]) (F':=[λw f=>BC w f (JU 0) none]) nE (AR.mem ⟨C,tQ⟩) (Au.mem ⟨BC.mono,tQ⟩) |>.less sR sR nE (mR [1,0])) ?_;rintro⟨i,Z⟩ hi;dsimp only at hi ⊢;refine Aa 6 (λ_=>Ap 54 C C (λW=>?_) (λW=>?_));refine Aa 6 (λ_=>?_);have hpl:AQ.length≤1000:=dC;have Q:i<AQ.length:=by have:=dT W;omega
  obtain⟨p,U⟩:∃v,AQ[i]?=some v:=⟨_,List.getElem?_eq_getElem Q⟩;have D:p.2.2.bnd:=NY p (List.mem_of_getElem? U);refine Hh (α:=Nat×oA×Nat) (λx=>pa=some ⟨x.1,0,none⟩) (λx=>[⟨x.1,0+i*6,pC p x.2.1 x.2.2⟩]) (λx=>[λw f=>Al w f p.2.2.kids x.2.1 x.2.2]) (λw f d=>let ⟨_,b,xs,h1,W,h3⟩:=d.f0;let ⟨a,c,h4,h5⟩:=BS.get h3 W U;⟨(b,a,c),h1,(λe he=>by cases he with|head=>exact h4|tail _ h=>cases h),AR.mem ⟨h5,tQ⟩⟩) (λx=>Au.mem ⟨Al.mono,tQ⟩) ?_;rintro⟨pb,J,L⟩ rfl;refine Ae 7 [100,0,0] (aI oM<|y2<|λb2=>y<|λ_=>?_);refine OE (α:=oA) (λx=>True) (λx=>(E5 2 (pB A.cb) 6 (.pointer x) 51 (.slice (some (⟨pb,0,none⟩:Addr)) AQ.length pc) 52 (iV (AQ.length:Int)) 53 (iV (i:Int)))) (λx=>⟨λ_=>False,Dk A,AN 146 224 A (⟨[],0,Yv 8,[],[],0-1⟩:CS),w,f⟩) (λx=>[]) (λx=>[]) (λx=>[]) (λx=>[λw f=>IE w f AQ (some (⟨pb,0,none⟩:Addr)) pc,λw f=>BC w f (YL p::JU i) x]) ?_ ?_;refine RL (λw=>AS w A.cb [pB A.sb,.map (some A.km),.map (some A.dm),.map (some A.rm),iV (0-1)] 146) (λw f h _=>h.blk) [0] Aj (rd [0,1,2,3,5,6,7,8,12,13,14,15,18] (.br 4 (.br 9 (.br 10 (.br 11 (.br 16 (.rd 17 (.rd 19 (.br 20 (.rd 21 .fin) .fin))) .fin) (.br 16 (.br 11 (.rd 17 (.rd 19 (.br 20 (.rd 21 .fin) .fin))) .fin) .fin)) (.br 16 (.br 10 (.br 11 (.rd 17 (.rd 19 (.br 20 (.rd 21 .fin) .fin))) .fin) .fin) .fin)) (.br 16 (.br 9 (.br 10 (.br 11 (.rd 17 (.rd 19 (.br 20 (.rd 21 .fin) .fin))) .fin) .fin) .fin) .fin)) (.br 9 (.br 4 (.br 10 (.br 11 (.br 16 (.rd 17 (.rd 19 (.br 20 (.rd 21 .fin) .fin))) .fin) (.br 16 (.br 11 (.rd 17 (.rd 19 (.br 20 (.rd 21 .fin) .fin))) .fin) .fin)) (.br 16 (.br 10 (.br 11 (.rd 17 (.rd 19 (.br 20 (.rd 21 .fin) .fin))) .fin) .fin) .fin)) (.br 10 (.br 4 (.br 11 (.br 16 (.rd 17 (.rd 19 (.br 20 (.rd 21 .fin) .fin))) .fin) (.br 16 (.br 11 (.rd 17 (.rd 19 (.br 20 (.rd 21 .fin) .fin))) .fin) .fin)) (.br 16 (.br 4 (.br 11 (.rd 17 (.rd 19 (.br 20 (.rd 21 .fin) .fin))) .fin) .fin) .fin)) (.br 16 (.br 4 (.br 10 (.br 11 (.rd 17 (.rd 19 (.br 20 (.rd 21 .fin) .fin))) .fin) .fin) (.br 10 (.br 4 (.br 11 (.rd 17 (.rd 19 (.br 20 (.rd 21 .fin) .fin))) .fin) .fin) .fin)) .fin))) (.br 16 (.br 4 (.br 9 (.br 10 (.br 11 (.rd 17 (.rd 19 (.br 20 (.rd 21 .fin) .fin))) .fin) .fin) .fin) (.br 9 (.br 4 (.br 10 (.br 11 (.rd 17 (.rd 19 (.br 20 (.rd 21 .fin) .fin))) .fin) .fin) (.br 10 (.br 4 (.br 11 (.rd 17 (.rd 19 (.br 20 (.rd 21 .fin) .fin))) .fin) .fin) .fin)) .fin)) .fin)))) C kR kR kR (λ_ _ _ _ _ h=>h)<|By 7 [0,0] (y<|y<|λ_=>Iz C C C (λw hK=>(Ai C IL hK.2.2 C:AK _ _ _ _ _ (iV (0-1)) _))<|Bf 3 (λ_=>Iz C C C (λw hK=>(Ai C IL hK.2.2 C:AK _ _ _ _ _ (iV (0-1)) _))<|Bf 1 (λ_=>Cl C ?_ ?_)));refine Aa 2 (λb3=>λ_=>Bv [1] (λw f h _=>h.blk) C (λ_ h=>h)<|Cl C ?_ ?_);refine BO C C (eC IS C C) (λw f d=>F7 w f d.vl (0-1))<|Aa 1 (λ_=>?_)
  rotate_left
  refine Ak C<|Aa 2 (λb4=>λ_=>Bv [2] (λw f h _=>h.blk) C (λ_ h=>h)<|Ak C<|BO C C (eC IS C C) (λw f d=>F7 w f d.vl (0-1))<|Aa 1 (λ_=>Bv [2] (λw f h _=>h.blk) C (λ_ h=>h)<|Ak C<|Aa 2 (λb5=>λ_=>Bv [3] (λw f h _=>h.blk) C (λ_ h=>h) ?_)));refine Ak C<|Di 2 C C<|Di 0 C C<|CR (α:=oA×Nat) C C (eC En C C) (λw f d=>Cw w f d.vl [1] (some ⟨b3,0,none⟩) 1 (T1.var (0-1)).one (some ⟨b5,0,none⟩) 1 dC dC tQ ⟨Nat.le_refl _,.inr ⟨b3,0,C,d.b1⟩⟩ (BT (l:=[(.var (0-1),none,0)]) ⟨Al.nil _ _ _ _,tQ⟩ d.b0) p.2.2 J L D d.f0) (λ_=>⟨Al.mono,tQ⟩) ?_;rintro⟨F,G⟩ -;refine Aa 1 (λ_=>Bv [1] (λw f h _=>h.blk) C (λ_ h=>.tail _ (.tail _ h))<|Bf 2 (λ_=>Ak C<|Aa 2 (λb6=>λ_=>Bv [2] (λw f h _=>h.blk) C (λ_ h=>.tail _ (.tail _ h))<|Bf 1 (λ_=>BG<|Di 0 C C<|Di 0 C C ?_))));exact Lx (some ⟨b6,0,none⟩) tQ lE (λw f d=>⟨f,(d.more (B':=[]) (F':=[λw f=>BC w f (YL p::JU i) (some ⟨b6,0,none⟩)]) nE (AR.mem ⟨⟨b6,F,G,some ⟨b4,0,none⟩,1,Z,C,d.b1,d.f0,⟨Nat.le_refl _,.inr ⟨b4,0,C,d.b0⟩⟩,d.f3⟩,tQ⟩) (Au.mem ⟨BC.mono,tQ⟩)).less (sD sZ) sR nE (mR [3,0])⟩);refine Cl C ?_ ?_;refine BO C C (eC IS C C) (λw f d=>F7 w f d.vl (0-1))<|Aa 1 (λ_=>Bv [0] (λw f h _=>h.blk) C (λ_ h=>h)<|Cl C ?_ ?_);refine Aa 2 (λb3=>λ_=>?_)
  rotate_left
  ·
   refine Cl C ?_ ?_;refine Aa 2 (λb3=>λ_=>Bv [1] (λw f h _=>h.blk) C (λ_ h=>h) ?_)
   ·
    refine Cl C ?_ ?_;refine Aa 2 (λb4=>λ_=>Bv [2] (λw f h _=>h.blk) C (λ_ h=>h)<|Cl C ?_ ?_);refine Di 0 C C<|Di 0 C C<|CR (α:=oA×Nat) C C (eC En C C) (λw f d=>Cw w f d.vl [1] (some ⟨b4,0,none⟩) 1 (T1.var (0-1)).one (some ⟨b3,0,none⟩) 1 dC dC tQ ⟨Nat.le_refl _,.inr ⟨b4,0,C,d.b1⟩⟩ (BT (l:=[(.var (0-1),none,0)]) ⟨Al.nil _ _ _ _,tQ⟩ d.b0) p.2.2 J L D d.f0) (λ_=>⟨Al.mono,tQ⟩) ?_;rintro⟨F,G⟩ -;refine Aa 1 (λ_=>Bv [0] (λw f h _=>h.blk) C (λ_ h=>.tail _ (.tail _ h))<|Ak C<|Aa 2 (λb5=>λ_=>?_))
    rotate_left
    refine Ak C<|Aa 2 (λb5=>λ_=>Bv [3] (λw f h _=>h.blk) C (λ_ h=>h)<|Ak C<|Di 1 C C<|Di 1 C C<|CR (α:=oA×Nat) C C (eC En C C) (λw f d=>Cw w f d.vl [1] (some ⟨b4,0,none⟩) 1 (T1.var (0-1)).one (some ⟨b3,0,none⟩) 1 dC dC tQ ⟨Nat.le_refl _,.inr ⟨b4,0,C,d.b1⟩⟩ (BT (l:=[(.var (0-1),none,0)]) ⟨Al.nil _ _ _ _,tQ⟩ d.b0) p.2.2 J L D d.f0) (λ_=>⟨Al.mono,tQ⟩) ?_);rintro⟨F,G⟩ -;refine Aa 1 (λ_=>?_)
    rotate_left
    refine Ak C<|Aa 2 (λb4=>λ_=>Bv [2] (λw f h _=>h.blk) C (λ_ h=>h)<|Ak C<|Aa 2 (λb5=>λ_=>Bv [3] (λw f h _=>h.blk) C (λ_ h=>h)<|Ak C<|Di 0 C C<|Di 1 C C<|CR (α:=oA×Nat) C C (eC En C C) (λw f d=>Cw w f d.vl [1] (some ⟨b5,0,none⟩) 1 (T1.var (0-1)).one (some ⟨b3,0,none⟩) 1 dC dC tQ ⟨Nat.le_refl _,.inr ⟨b5,0,C,d.b1⟩⟩ (BT (l:=[(.var (0-1),none,0)]) ⟨Al.nil _ _ _ _,tQ⟩ d.b0) p.2.2 J L D d.f0) (λ_=>⟨Al.mono,tQ⟩) ?_));rintro⟨F,G⟩ -;refine Aa 1 (λ_=>Bv [1] (λw f h _=>h.blk) C (λ_ h=>.tail _ (.tail _ h))<|Bf 2 (λ_=>Ak C<|Aa 2 (λb6=>λ_=>Bv [2] (λw f h _=>h.blk) C (λ_ h=>.tail _ (.tail _ h))<|Bf 1 (λ_=>BG<|Di 0 C C<|Di 0 C C ?_))));exact Lx (some ⟨b6,0,none⟩) tQ lE (λw f d=>⟨f,(d.more (B':=[]) (F':=[λw f=>BC w f (YL p::JU i) (some ⟨b6,0,none⟩)]) nE (AR.mem ⟨⟨b6,F,G,some ⟨b4,0,none⟩,1,Z,C,d.b1,d.f0,⟨Nat.le_refl _,.inr ⟨b4,0,C,d.b0⟩⟩,d.f3⟩,tQ⟩) (Au.mem ⟨BC.mono,tQ⟩)).less (sD sZ) sR nE (mR [3,0])⟩)
    all_goals
     exact Bv [1] (λw f h _=>h.blk) C (λ_ h=>.tail _ (.tail _ h))<|Bf 2 (λ_=>Ak C<|Aa 2 (λb6=>λ_=>Bv [2] (λw f h _=>h.blk) C (λ_ h=>.tail _ (.tail _ h))<|Bf 1 (λ_=>BG<|Di 0 C C<|Di 0 C C<|Lx (some ⟨b6,0,none⟩) tQ lE (λw f d=>⟨f,(d.more (B':=[]) (F':=[λw f=>BC w f (YL p::JU i) (some ⟨b6,0,none⟩)]) nE (AR.mem ⟨⟨b6,F,G,some ⟨b5,0,none⟩,1,Z,C,d.b1,d.f0,⟨Nat.le_refl _,.inr ⟨b5,0,C,d.b0⟩⟩,d.f3⟩,tQ⟩) (Au.mem ⟨BC.mono,tQ⟩)).less (sD sZ) sR nE (mR [3,0])⟩))))
   refine Ak C<|Aa 2 (λb3=>λ_=>Bv [1] (λw f h _=>h.blk) C (λ_ h=>h)<|Cl C ?_ ?_);refine Aa 2 (λb4=>λ_=>Bv [2] (λw f h _=>h.blk) C (λ_ h=>h)<|Ak C<|Aa 2 (λb5=>λ_=>Bv [3] (λw f h _=>h.blk) C (λ_ h=>h)<|Ak C<|Di 1 C C<|Di 0 C C<|CR (α:=oA×Nat) C C (eC En C C) (λw f d=>Cw w f d.vl [1] (some ⟨b4,0,none⟩) 1 (T1.var (0-1)).one (some ⟨b5,0,none⟩) 1 dC dC tQ ⟨Nat.le_refl _,.inr ⟨b4,0,C,d.b1⟩⟩ (BT (l:=[(.var (0-1),none,0)]) ⟨Al.nil _ _ _ _,tQ⟩ d.b0) p.2.2 J L D d.f0) (λ_=>⟨Al.mono,tQ⟩) ?_))
   rotate_left
   refine Ak C<|Aa 2 (λb4=>λ_=>Bv [2] (λw f h _=>h.blk) C (λ_ h=>h)<|Ak C<|Aa 2 (λb5=>λ_=>Bv [3] (λw f h _=>h.blk) C (λ_ h=>h)<|Ak C<|Di 0 C C<|Di 0 C C<|CR (α:=oA×Nat) C C (eC En C C) (λw f d=>Cw w f d.vl [1] (some ⟨b5,0,none⟩) 1 (T1.var (0-1)).one (some ⟨b4,0,none⟩) 1 dC dC tQ ⟨Nat.le_refl _,.inr ⟨b5,0,C,d.b1⟩⟩ (BT (l:=[(.var (0-1),none,0)]) ⟨Al.nil _ _ _ _,tQ⟩ d.b0) p.2.2 J L D d.f0) (λ_=>⟨Al.mono,tQ⟩) ?_))
   all_goals
    rintro⟨F,G⟩ -;refine Aa 1 (λ_=>Bv [1] (λw f h _=>h.blk) C (λ_ h=>.tail _ (.tail _ h))<|Bf 2 (λ_=>Ak C<|Aa 2 (λb6=>λ_=>Bv [2] (λw f h _=>h.blk) C (λ_ h=>.tail _ (.tail _ h))<|Bf 1 (λ_=>BG<|Di 0 C C<|Di 0 C C ?_))));exact Lx (some ⟨b6,0,none⟩) tQ lE (λw f d=>⟨f,(d.more (B':=[]) (F':=[λw f=>BC w f (YL p::JU i) (some ⟨b6,0,none⟩)]) nE (AR.mem ⟨⟨b6,F,G,some ⟨b3,0,none⟩,1,Z,C,d.b1,d.f0,⟨Nat.le_refl _,.inr ⟨b3,0,C,d.b0⟩⟩,d.f3⟩,tQ⟩) (Au.mem ⟨BC.mono,tQ⟩)).less (sD sZ) sR nE (mR [3,0])⟩)
  refine Ak C<|Aa 2 (λb3=>λ_=>Bv [1] (λw f h _=>h.blk) C (λ_ h=>h) ?_)
  ·
   refine Cl C ?_ ?_;refine Aa 2 (λb4=>λ_=>Bv [2] (λw f h _=>h.blk) C (λ_ h=>h)<|Ak C<|BO C C (eC IS C C) (λw f d=>F7 w f d.vl (0-1))<|Aa 1 (λ_=>Bv [2] (λw f h _=>h.blk) C (λ_ h=>h)<|Ak C<|Aa 2 (λb5=>λ_=>Bv [3] (λw f h _=>h.blk) C (λ_ h=>h)<|Ak C ?_)));refine Di 1 C C<|Di 0 C C<|CR (α:=oA×Nat) C C (eC En C C) (λw f d=>Cw w f d.vl [1] (some ⟨b4,0,none⟩) 1 (T1.var (0-1)).one (some ⟨b5,0,none⟩) 1 dC dC tQ ⟨Nat.le_refl _,.inr ⟨b4,0,C,d.b1⟩⟩ (BT (l:=[(.var (0-1),none,0)]) ⟨Al.nil _ _ _ _,tQ⟩ d.b0) p.2.2 J L D d.f0) (λ_=>⟨Al.mono,tQ⟩) ?_
   rotate_left
   refine Ak C<|BO C C (eC IS C C) (λw f d=>F7 w f d.vl (0-1))<|Aa 1 (λ_=>Bv [1] (λw f h _=>h.blk) C (λ_ h=>h)<|Cl C ?_ ?_);refine Aa 2 (λb4=>λ_=>Bv [2] (λw f h _=>h.blk) C (λ_ h=>h)<|Ak C<|Aa 2 (λb5=>λ_=>Bv [3] (λw f h _=>h.blk) C (λ_ h=>h)<|Ak C<|Di 1 C C<|Di 0 C C<|CR (α:=oA×Nat) C C (eC En C C) (λw f d=>Cw w f d.vl [1] (some ⟨b4,0,none⟩) 1 (T1.var (0-1)).one (some ⟨b5,0,none⟩) 1 dC dC tQ ⟨Nat.le_refl _,.inr ⟨b4,0,C,d.b1⟩⟩ (BT (l:=[(.var (0-1),none,0)]) ⟨Al.nil _ _ _ _,tQ⟩ d.b0) p.2.2 J L D d.f0) (λ_=>⟨Al.mono,tQ⟩) ?_))
   rotate_left
   refine Ak C<|Aa 2 (λb4=>λ_=>Bv [2] (λw f h _=>h.blk) C (λ_ h=>h)<|Ak C<|Aa 2 (λb5=>λ_=>Bv [3] (λw f h _=>h.blk) C (λ_ h=>h)<|Ak C<|Di 0 C C<|Di 0 C C<|CR (α:=oA×Nat) C C (eC En C C) (λw f d=>Cw w f d.vl [1] (some ⟨b5,0,none⟩) 1 (T1.var (0-1)).one (some ⟨b4,0,none⟩) 1 dC dC tQ ⟨Nat.le_refl _,.inr ⟨b5,0,C,d.b1⟩⟩ (BT (l:=[(.var (0-1),none,0)]) ⟨Al.nil _ _ _ _,tQ⟩ d.b0) p.2.2 J L D d.f0) (λ_=>⟨Al.mono,tQ⟩) ?_))
   all_goals
    rintro⟨F,G⟩ -;refine Aa 1 (λ_=>Bv [1] (λw f h _=>h.blk) C (λ_ h=>.tail _ (.tail _ h))<|Bf 2 (λ_=>Ak C<|Aa 2 (λb6=>λ_=>Bv [2] (λw f h _=>h.blk) C (λ_ h=>.tail _ (.tail _ h))<|Bf 1 (λ_=>BG<|Di 0 C C<|Di 0 C C ?_))));exact Lx (some ⟨b6,0,none⟩) tQ lE (λw f d=>⟨f,(d.more (B':=[]) (F':=[λw f=>BC w f (YL p::JU i) (some ⟨b6,0,none⟩)]) nE (AR.mem ⟨⟨b6,F,G,some ⟨b3,0,none⟩,1,Z,C,d.b1,d.f0,⟨Nat.le_refl _,.inr ⟨b3,0,C,d.b0⟩⟩,d.f3⟩,tQ⟩) (Au.mem ⟨BC.mono,tQ⟩)).less (sD sZ) sR nE (mR [3,0])⟩)
  rintro ea2 -;dsimp only;exact Aa 6 (aI ⟨oM,oM⟩<|λ_=>Ce ((i+1,ea2)) (show AQ.length-(i+1)<AQ.length-i by omega) (show i+1≤_ by omega) lE (λw f d=>⟨_,by dsimp only;rw[XF U];exact d⟩));refine Aa 3 (λ_=>Df<|Aa 11 (λ_=>?_));obtain rfl:i=AQ.length:=by have:=dF W;omega
  exact A5 (λw f d=>Bl C (Af C) (Af C)) (λw f d=>⟨(A,Z),f,C,hA,d.exm,(λb hb=>let ⟨h1,W,h3⟩:=d.mi b hb;h3.elim (λh=>.inr ⟨h,h1,W⟩) .inl),d.res,⟨RR▸d.f1,tQ⟩⟩)
  all_goals
   refine Bv [1] (λw f h _=>h.blk) C (λ_ h=>h) ?_
   ·
    refine Cl C ?_ ?_;refine Aa 2 (λb4=>λ_=>Bv [2] (λw f h _=>h.blk) C (λ_ h=>h)<|Cl C ?_ ?_);refine Di 1 C C<|Di 0 C C<|CR (α:=oA×Nat) C C (eC En C C) (λw f d=>Cw w f d.vl [1] (some ⟨b3,0,none⟩) 1 (T1.var (0-1)).one (some ⟨b4,0,none⟩) 1 dC dC tQ ⟨Nat.le_refl _,.inr ⟨b3,0,C,d.b1⟩⟩ (BT (l:=[(.var (0-1),none,0)]) ⟨Al.nil _ _ _ _,tQ⟩ d.b0) p.2.2 J L D d.f0) (λ_=>⟨Al.mono,tQ⟩) ?_;rintro⟨F,G⟩ -;refine Aa 1 (λ_=>Bv [0] (λw f h _=>h.blk) C (λ_ h=>.tail _ (.tail _ h))<|Ak C<|Aa 2 (λb5=>λ_=>?_))
    rotate_left
    refine Ak C<|Aa 2 (λb5=>λ_=>Bv [3] (λw f h _=>h.blk) C (λ_ h=>h)<|Ak C<|Di 2 C C<|Di 1 C C<|CR (α:=oA×Nat) C C (eC En C C) (λw f d=>Cw w f d.vl [1] (some ⟨b3,0,none⟩) 1 (T1.var (0-1)).one (some ⟨b4,0,none⟩) 1 dC dC tQ ⟨Nat.le_refl _,.inr ⟨b3,0,C,d.b1⟩⟩ (BT (l:=[(.var (0-1),none,0)]) ⟨Al.nil _ _ _ _,tQ⟩ d.b0) p.2.2 J L D d.f0) (λ_=>⟨Al.mono,tQ⟩) ?_);rintro⟨F,G⟩ -;refine Aa 1 (λ_=>?_)
    rotate_left
    refine Ak C<|Aa 2 (λb4=>λ_=>Bv [2] (λw f h _=>h.blk) C (λ_ h=>h)<|Ak C<|Aa 2 (λb5=>λ_=>Bv [3] (λw f h _=>h.blk) C (λ_ h=>h)<|Ak C<|Di 2 C C<|Di 0 C C<|CR (α:=oA×Nat) C C (eC En C C) (λw f d=>Cw w f d.vl [1] (some ⟨b3,0,none⟩) 1 (T1.var (0-1)).one (some ⟨b5,0,none⟩) 1 dC dC tQ ⟨Nat.le_refl _,.inr ⟨b3,0,C,d.b1⟩⟩ (BT (l:=[(.var (0-1),none,0)]) ⟨Al.nil _ _ _ _,tQ⟩ d.b0) p.2.2 J L D d.f0) (λ_=>⟨Al.mono,tQ⟩) ?_));rintro⟨F,G⟩ -;refine Aa 1 (λ_=>Bv [1] (λw f h _=>h.blk) C (λ_ h=>.tail _ (.tail _ h))<|Bf 2 (λ_=>Ak C<|Aa 2 (λb6=>λ_=>Bv [2] (λw f h _=>h.blk) C (λ_ h=>.tail _ (.tail _ h))<|Bf 1 (λ_=>BG<|Di 0 C C<|Di 0 C C ?_))));exact Lx (some ⟨b6,0,none⟩) tQ lE (λw f d=>⟨f,(d.more (B':=[]) (F':=[λw f=>BC w f (YL p::JU i) (some ⟨b6,0,none⟩)]) nE (AR.mem ⟨⟨b6,F,G,some ⟨b4,0,none⟩,1,Z,C,d.b1,d.f0,⟨Nat.le_refl _,.inr ⟨b4,0,C,d.b0⟩⟩,d.f3⟩,tQ⟩) (Au.mem ⟨BC.mono,tQ⟩)).less (sD sZ) sR nE (mR [3,0])⟩)
    all_goals
     exact Bv [1] (λw f h _=>h.blk) C (λ_ h=>.tail _ (.tail _ h))<|Bf 2 (λ_=>Ak C<|Aa 2 (λb6=>λ_=>Bv [2] (λw f h _=>h.blk) C (λ_ h=>.tail _ (.tail _ h))<|Bf 1 (λ_=>BG<|Di 0 C C<|Di 0 C C<|Lx (some ⟨b6,0,none⟩) tQ lE (λw f d=>⟨f,(d.more (B':=[]) (F':=[λw f=>BC w f (YL p::JU i) (some ⟨b6,0,none⟩)]) nE (AR.mem ⟨⟨b6,F,G,some ⟨b5,0,none⟩,1,Z,C,d.b1,d.f0,⟨Nat.le_refl _,.inr ⟨b5,0,C,d.b0⟩⟩,d.f3⟩,tQ⟩) (Au.mem ⟨BC.mono,tQ⟩)).less (sD sZ) sR nE (mR [3,0])⟩))))

theorem SB(w:wO)(c2 c3 c4:Nat) :
  CallsD prog 66 [pB c2,pB c3,pB c4].toArray .returning w λr m w'=>∃x,r=.returned x∧m=.returning∧AW w w':=by
 refine Ds (R:=λw'=>AW w w') func66 C C C C NC<|(?_:A1 prog _ (Ek prog _ (λ_ w'=>AW w w') λ_ _=>False) [] (X0 w (λ_=>0)) [] [] [] (.code _) [] _ []) w (λ_=>0) (Be (λ_ _=>C) tQ tQ);exact Aa 3 (λ_=>BN C C (λw f d=>Rs Q9 C)<|Aa 7 (λ_=>kC (λw f d=>Gz C) (λw f d=>d.exm.stp.ext)))
theorem Uw(w:wO)(f:Fq)(J:Vl w f)(c2 c3 c4:Nat)(v2 G y3 v4:Value)(h:AS w c2 [v2] 56)(D:AS w c3 [G,y3] 41)(F:AS w c4 [v4] 42)(K:f c2=0∧f c3=0∧f c4=0)(L:c2≠c3∧c2≠c4∧c3≠c4)(er:Er) :
  CallsD prog 66 [pB c2,pB c3,pB c4].toArray (.panicking (trI 134 er)) w λr m w'=>∃x,r=.returned x∧m=.panicking [{v:=.iface 134 (.agg #[iV er.1,iV er.2.1,iV er.2.2]),recovered:=true}]∧(∃f',C9 (λb=>b=c2∨b=c3∨b=c4) w f w' f'∧AS w' c2 [.slice none 0 0] 56∧AS w' c3 [iV er.1,iV er.2.1] 41∧AS w' c4 [iV er.2.2] 42):=by
 refine Ds (R:=λw'=>∃f',C9 (λb=>b=c2∨b=c3∨b=c4) w f w' f'∧AS w' c2 [.slice none 0 0] 56∧AS w' c3 [iV er.1,iV er.2.1] 41∧AS w' c4 [iV er.2.2] 42) func66 C C C C RD<|(?_:A1 prog _ (Ek prog _ (λ_ w'=>∃f',C9 (λb=>b=c2∨b=c3∨b=c4) w f w' f'∧AS w' c2 [.slice none 0 0] 56∧AS w' c3 [iV er.1,iV er.2.1] 41∧AS w' c4 [iV er.2.2] 42) λ_ _=>False) [] ⟨λb=>b=c2∨b=c3∨b=c4,λ_=>False,λ_ _=>True,w,f⟩ [] [] [] (.code _) [] _ [⟨c2,[v2],56,false⟩,⟨c3,[G,y3],41,false⟩,⟨c4,[v4],42,false⟩]) w f (pW J h D F K L);refine Aa 3 (λ_=>BN C C (λw f d=>Q2 Q9 C)<|Aa 5 (λ_=>BN C C (λw f d=>UK C gV)<|Ae 11 [0] (λb1=>y<|λ_=>Cq [0] Aj (rd [0,1,2,3] (.br 4 (.br 5 (.br 6 .fin .fin) .fin) .fin)) C kR<|By 4 [0,0] (y<|y<|λ_=>Ak C<|Ae 2 [1] (y<|λ_=>Ar [0] C ?_)))));exact Ak C<|Ae 2 [2] (y<|λ_=>Ar [0] C<|Ak C<|Ae 2 [3] (y<|λ_=>Ar [0] C<|BG<|Aa 1 (λ_=>kC (λw f d=>Gz C) (λw f d=>⟨f,d.exm,d.blk _ tH,d.blk _ iP,d.blk _ yF⟩))))
end Go.Proofs.YtnojaendcldjpaaGreatDoor
namespace Go.SP
open Go.SW Go.RowKit
def Nd.wft:Nd→Prop
 |.nil=>True
 |.cons op _ _ _ _ k r=>((op=44∨op=46)∧k.wfm 3)∧r.wft
def Hp:List (lU×T1)→Ty
 | []=>.nil
 |b::l=>b.2.cons (Hp l)
theorem H4(b:lU×T1):∀l:List (lU×T1),Hp (l++[b])=(Hp l).snoc b.2
 | []=>by simp[Hp,Ty.snoc,Ty.app,T1.one]
 |c::l=>by
   simp only[List.cons_append,Hp,H4 b l]
   cases c.2 <;> rfl
def bC:List (lU×lU)→lV
 | []=>[]
 |b::l=>S b.1::S b.2::bC l
theorem bC_app:∀a b:List (lU×lU),bC (a++b)=bC a++bC b
 | [],_=>rfl
 |x::a,b=>by simp only[List.cons_append,bC,bC_app a b]
theorem Ze:∀a:List (lU×lU),(bC a).length=a.length*2
 | []=>rfl
 |x::a=>by simp only[bC,List.length_cons,Ze a];omega
abbrev mW(l:List (lU×T1)):List (lU×lU):=l.map λb=>(b.1,[])
section
variable{s s1:CS}{e e1:BJ}{op ln co nm:Int}{tx:lU}{k r:Nd}{out:List (lU×T1)}{er:Er}
theorem OB{b:lU×T1}(h:LJ s e op ln co tx k=.ok (some b,e1,s1)):HC s e (.cons op ln co tx nm k r) out=HC s1 e1 r (out++[b]):=by rw[HC,h]
theorem Mo(h:LJ s e op ln co tx k=.error er):HC s e (.cons op ln co tx nm k r) out=.error er:=by rw[HC,h]
end
structure Rel(Rl:CS→CS→Prop):Prop where
 refl:∀s,Rl s s
 trans:∀{s t u},Rl s t→Rl t u→Rl s u
 fresh:∀s,Rl s (AM s).2
 has:∀{s a b ln co s'},H3 s a b ln co=.ok s'→Rl s s'
section
variable{Rl:CS→CS→Prop}(hR:Rel Rl)
include hR
theorem Nu:∀(l:List Int)(s:CS),Rl s (CX l s).2
 | [],s=>hR.refl s
 |_::l,s=>hR.trans (hR.fresh s) (Nu l _)
variable {s':CS}{co ln:Int}{k n:Nat}
theorem RO{s:CS}{tx:lU}{a:Ty}{o:T1}(h:VZ s tx k ln co=.ok (a,o,s')):Rl s s':=by
 unfold VZ at h
 split at h
 · cases h
 · split at h
   · cases h
     exact Nu hR _ _
   · cases h
theorem Zs{s:CS}{e:BJ}{tx:lU}{t:T1}(h:Ik s e tx ln co=.ok (t,s')):Rl s s':=by
 unfold Ik at h
 split at h
 · cases h
 · split at h
   · cases h
   · cases h
     exact Nu hR _ _
def RelF(Rl:CS→CS→Prop)(p:M8):Prop:=∀{s e op ln co tx nm k t s'},p s e op ln co tx nm k=.ok (t,s')→Rl s s'
def RelP(Rl:CS→CS→Prop)(p:Tz):Prop:=∀{s e op ln co tx nm k t d s'},p s e op ln co tx nm k=.ok (t,d,s')→Rl s s'
variable{p:M8}(hp:RelF Rl p)
include hp
theorem NS{e:BJ}:∀(k:Nd){s s':CS}{l:Ty},So p e s k=.ok (l,s')→Rl s s'
 |.nil,_,_,_,h=>by cases h;exact hR.refl _
 |.cons op ln co tx nm k r,s,s',l,h=>by
   unfold So at h
   split at h
   · cases h
   · rename_i d
     split at h
     · cases h
     · rename_i D
       cases h
       exact hR.trans (hp d) (NS r D)
theorem SK{e:BJ}:∀(k:Nd){s s':CS}{l:Ty},WR p e s l k=.ok s'→Rl s s'
 |.nil,_,_,_,h=>by cases h;exact hR.refl _
 |.cons op ln co tx nm k r,s,s',l,h=>by
   unfold WR at h
   split at h
   · cases h
   · rename_i d
     split at h
     · cases h
     · rename_i D
       exact hR.trans (hp d) (hR.trans (hR.has D) (SK r h))
theorem Wm{e:BJ}:∀(k:Nd){s s':CS}{t t':T1},K5 p e s t k=.ok (t',s')→Rl s s'
 |.nil,_,_,_,_,h=>by cases h;exact hR.refl _
 |.cons op ln co tx nm k r,s,s',t,t',h=>by
   unfold K5 at h
   split at h
   · cases h
   · rename_i d
     split at h
     · cases h
     · rename_i D
       exact hR.trans (hp d) (hR.trans (hR.fresh _) (hR.trans (hR.has D) (Wm r h)))
theorem gD{s:CS}{e:BJ}{o l c m:Int}{tx x:lU}{k:Nd}{t:T1}(h:mY p s e ln co tx o l c x m k=.ok (t,s')):Rl s s':=by
 unfold mY at h
 split at h
 · cases h
 · rename_i d
   split at h
   · cases h
   · rename_i D
     cases h
     exact hR.trans (hR.fresh _) (hR.trans (hp d) (hR.has D))
omit hp
theorem Sm:∀(k:Nd){s:CS}{e:BJ},Rl s (EZ s e k).2.2
 |.nil,_,_=>hR.refl _
 |.cons _ _ _ _ _ _ .nil,_,_=>hR.refl _
 |.cons _ _ _ _ _ _ (.cons o l c x m k r),_,_=>hR.trans (hR.fresh _) (Sm (.cons o l c x m k r))
variable{q:Tz}(hq:RelP Rl q)
include hq
theorem Pq:∀(k:Nd){s s':CS}{e d:BJ}{l:Ty},VG q s e l k=.ok (d,s')→Rl s s'
 |.nil,_,_,_,_,_,h=>by cases h;exact hR.refl _
 |.cons op ln co tx nm k r,s,s',e,d,l,h=>by
   unfold VG at h
   split at h
   · cases h
   · rename_i D
     split at h
     · cases h
     · rename_i F
       exact hR.trans (hq D) (hR.trans (hR.has F) (Pq r h))
theorem PB:∀(k:Nd){s s':CS}{e d:BJ}{l:Ty},Wl q s e k=.ok (l,d,s')→Rl s s'
 |.nil,_,_,_,_,_,h=>by cases h;exact hR.refl _
 |.cons op ln co tx nm k r,s,s',e,d,l,h=>by
   unfold Wl at h
   split at h
   · cases h
   · rename_i D
     split at h
     · cases h
     · rename_i F
       cases h
       exact hR.trans (hq D) (PB r F)
theorem YQ{s:CS}{e d:BJ}{op:Int}{tx:lU}{k:Nd}{t:T1}(h:ZO q s e op ln co tx k=.ok (t,d,s')):Rl s s':=by
 unfold ZO at h
 repeat' (split at h)
 all_goals first|(cases h;first|exact hR.refl _|exact hR.fresh _|exact hR.trans (RO hR (by assumption)) (Pq hR hq _ (by assumption))|exact PB hR hq _ (by assumption))|cases h
omit hq
theorem W8:∀n,RelP Rl (mN n)
 |0=>λh=>by cases h
 |n+1=>λh=>by
   unfold mN at h
   split at h
   · cases h
   · rename_i d
     split at h
     · cases h
     · cases h
       exact YQ hR (W8 n) d
include hp
theorem K6{e:BJ}{pt:T1}:∀(k:Nd){s s':CS}{t:Option T1}{u:T1},O4 n p e pt s t k=.ok (u,s')→Rl s s'
 |.nil,_,_,_,_,h=>by unfold O4 at h;cases h;exact hR.refl _
 |.cons _ _ _ _ _ J r,s,s',t,u,h=>by
   unfold O4 at h
   split at h
   · split at h
     · cases h
     · rename_i d
       split at h
       · cases h
       · rename_i D
         split at h
         · cases h
         · rename_i F
           refine hR.trans (W8 hR _ d) (hR.trans (hR.has D) (hR.trans (hp F) ?_))
           split at h
           · split at h
             · cases h
             · rename_i G
               exact hR.trans (hR.has G) (K6 r h)
           · exact K6 r h
   · cases h
     exact hR.refl _
theorem eU{s:CS}{e:BJ}{op:Int}{tx:lU}{k:Nd}{t:T1}(h:FC n p s e op ln co tx k=.ok (t,s')):Rl s s':=by
 have D:=@Rel.trans _ hR;have W:=@Rel.has _ hR;unfold FC at h
 by_cases Y:(op==1)=true
 · rw[if_pos Y] at h
   cases h;exact hR.refl _
 rw[if_neg Y] at h
 by_cases Z:(op==2)=true
 · rw[if_pos Z] at h
   cases h;exact hR.refl _
 rw[if_neg Z] at h
 by_cases o3:(op==3)=true
 · rw[if_pos o3] at h
   cases h;exact hR.refl _
 rw[if_neg o3] at h
 by_cases o4:(op==4)=true
 · rw[if_pos o4] at h
   cases h;exact hR.refl _
 rw[if_neg o4] at h
 by_cases o5:(op==5)=true
 · rw[if_pos o5] at h
   exact Zs hR h
 rw[if_neg o5] at h
 by_cases o6:(op==6)=true
 · rw[if_pos o6] at h
   split at h
   · cases h
   rename_i d
   split at h
   · cases h
   rename_i F
   cases h
   exact D (RO hR d) (SK hR hp _ F)
 rw[if_neg o6] at h
 by_cases o7:(op==7)=true
 · rw[if_pos o7] at h
   split at h
   · cases h
     exact hR.refl _
   simp only at h
   split at h
   · cases h
   rename_i d
   cases h
   exact D (Sm hR _) (hp d)
 rw[if_neg o7] at h
 by_cases o8:(op==8)=true
 · rw[if_pos o8] at h
   split at h
   · cases h
     exact hR.refl _
   split at h
   · cases h
   rename_i d;exact D (hp d) (Wm hR hp _ h)
 rw[if_neg o8] at h
 by_cases o9:(op==9)=true
 · rw[if_pos o9] at h
   split at h
   · split at h
     · cases h
     rename_i d
     split at h
     · cases h
     exact D (hp d) (hp h)
   · cases h
     exact hR.refl _
 rw[if_neg o9] at h
 by_cases G:(op==10)=true
 · rw[if_pos G] at h
   split at h
   · split at h
     · cases h
     rename_i d
     split at h
     · cases h
     exact D (gD hR hp d) (hp h)
   · cases h
     exact hR.refl _
 rw[if_neg G] at h
 by_cases J:(op==11)=true
 · rw[if_pos J] at h
   split at h
   · split at h
     · cases h
     rename_i d
     split at h
     · cases h
     rename_i F
     split at h
     · cases h
     rename_i h3
     split at h
     · cases h
     rename_i h4
     split at h
     · cases h
     rename_i h5
     cases h
     exact D (hp d) (D (W F) (D (hp h3) (D (hp h4) (W h5))))
   · cases h
     exact hR.refl _
 rw[if_neg J] at h
 by_cases K:(op==12)=true
 · rw[if_pos K] at h
   split at h
   · cases h
   rename_i d
   cases h
   exact NS hR hp _ d
 rw[if_neg K] at h
 by_cases L:(op==13)=true
 · rw[if_pos L] at h
   split at h
   · cases h
   rename_i d
   cases h
   exact NS hR hp _ d
 rw[if_neg L] at h
 by_cases O:(op==14)=true
 · rw[if_pos O] at h
   split at h
   · cases h
     exact hR.refl _
   split at h
   · cases h
   rename_i d;exact D (hp d) (K6 hR hp _ h)
 rw[if_neg O] at h
 by_cases Q:(op==15)=true
 · rw[if_pos Q] at h
   split at h
   · cases h
     exact hR.refl _
   split at h
   · cases h
   rename_i d;exact D (hp d) (K6 hR hp _ h)
 rw[if_neg Q] at h
 by_cases U:(op==16)=true
 · rw[if_pos U] at h
   split at h
   · cases h
     exact hR.refl _
   split at h
   · cases h
   rename_i d
   split at h
   · cases h
   rename_i F
   cases h
   exact D (hp d) (D (W F) (hR.fresh _))
 rw[if_neg U] at h
 split at h
 · cases h
   exact hR.refl _
 exact hp h
omit hp
theorem Rn:∀n,RelF Rl (EH n)
 |0=>λh=>by cases h
 |n+1=>λh=>by
   unfold EH at h
   split at h
   · cases h
   · rename_i d
     split at h
     · cases h
     · cases h
       exact eU hR (Rn n) d
end
def Frm(s s':CS):Prop:=s'.cons=s.cons∧s'.datas=s.datas∧s'.roots=s.roots∧s'.vars=s.vars
variable {s':CS}{co ln:Int}
theorem fQ{s:CS}{a b:T1}(h:H3 s a b ln co=.ok s'):∃m,FL s.sol a b=.ok m∧s'={s with sol:=m}:=by
 unfold H3 at h
 split at h
 · cases h
 · cases h
   exact⟨_,by assumption,C⟩
theorem W7:Rel Frm where
 refl _:=⟨C,C,C,C⟩
 trans d D:=⟨D.1.trans d.1,D.2.1.trans d.2.1,D.2.2.1.trans d.2.2.1,D.2.2.2.trans d.2.2.2⟩
 fresh _:=⟨C,C,C,C⟩
 has h:=by obtain⟨m,-,rfl⟩:=fQ h;exact⟨C,C,C,C⟩
section
variable{s s1 s2:CS}{e e1:BJ}{op ln co nm o l c m o2 l2 c2 m2:Int}{tx x x2:lU}{kids k r k2 r2:Nd}{t q:T1}{er:Er}
theorem cK(h:(op==44)=true)(d:EH (k.size+1) s e o l c x m k=.ok (t,s1))(hw:IY s1 e tx t (C7 (k.size+1) o k) ln co=.ok e1):LJ s e op ln co tx (.cons o l c x m k r)=.ok (some (tx,t),e1,s1):=by
 obtain rfl:=beq_iff_eq.1 h;unfold LJ;rw[if_neg (by decide)];simp only;rw[if_neg (by decide),if_pos (by decide),d];simp only;rw[hw]
theorem Yb(h:(op==44)=true)(d:EH (k.size+1) s e o l c x m k=.error er):LJ s e op ln co tx (.cons o l c x m k r)=.error er:=by
 obtain rfl:=beq_iff_eq.1 h;unfold LJ;rw[if_neg (by decide)];simp only;rw[if_neg (by decide),if_pos (by decide),d]
theorem XU(h:(op==44)=true)(d:EH (k.size+1) s e o l c x m k=.ok (t,s1))(hw:IY s1 e tx t (C7 (k.size+1) o k) ln co=.error er):LJ s e op ln co tx (.cons o l c x m k r)=.error er:=by
 obtain rfl:=beq_iff_eq.1 h;unfold LJ;rw[if_neg (by decide)];simp only;rw[if_neg (by decide),if_pos (by decide),d];simp only;rw[hw]
theorem iT(h:(op==46)=true)(d:EH (k.size+1) s e o l c x m k=.ok (t,s1)):LJ s e op ln co tx (.cons o l c x m k r)=.ok (some ([],t),e,s1):=by
 obtain rfl:=beq_iff_eq.1 h;unfold LJ;rw[if_neg (by decide)];simp only;rw[if_neg (by decide),if_neg (by decide),if_neg (by decide),d]
theorem dZ(h:(op==46)=true)(d:EH (k.size+1) s e o l c x m k=.error er):LJ s e op ln co tx (.cons o l c x m k r)=.error er:=by
 obtain rfl:=beq_iff_eq.1 h;unfold LJ;rw[if_neg (by decide)];simp only;rw[if_neg (by decide),if_neg (by decide),if_neg (by decide),d]
end
def Vc(w:wO)(f:Fq)(l:List (lU×lU))(a:oA)(c:Nat):Prop:=l.length≤c∧(l=[]∨∃b off,a=some ⟨b,off,none⟩∧Cs w f b off (bC l))
variable {X:Cx}{f:Fq}{Fs:List (wO→Fq→Prop)}{B:List FB}{H:List HB}{a:oA}{T:tI}{w:wO}
theorem Vc.mono{l:List (lU×lU)}{c:Nat}:EI (λw f=>Vc w f l a c):=λ_ _ _ _ h d=>⟨h.1,h.2.imp id λ⟨b,off,D,F⟩=>⟨b,off,D,F.mono d⟩⟩
def Xl(nds:Nd)(w:wO)(f:Fq)(v:Value)(w':wO):Prop:=∃f',C9 (λ_=>False) w f w' f' ∧
 match EO nds with
 |.error er=>v=.tuple #[.slice none 0 0,.agg #[.int .i64 er.1,.int .i64 er.2.1],.int .i64 er.2.2]
 |.ok d=>∃a c,v=.tuple #[.slice a d.length c,.agg #[.int .i64 0,.int .i64 0],.int .i64 0]∧Vc w' f' d a c
def Rr(l:List (lU×lU))(r:List (lU×T1)):List (lU×lU):=l++mW r
theorem Xq{s:CS}{n:lU}{t f:T1}{r:List (lU×T1)}{d:List (lU×lU)}(h:IK s t 0 0=.ok f) :
   (match LW s ((n,t)::r) with|.error x=>.error x|.ok l=>.ok (d++l):RI (List (lU×lU)))=(match LW s r with|.error x=>.error x|.ok l=>.ok ((d++[(n,Pl f)])++l)):=by
 rw[LW,h];simp only
 cases LW s r with
 |error x=>rfl
 |ok z=>simp
theorem Vh{s:CS}{r:List (lU×T1)}:LW s r=(match LW s r with|.error x=>.error x|.ok l=>.ok ([]++l)):=by
 cases LW s r <;> rfl
theorem YI{s:CS}{n:lU}{t:T1}{r:List (lU×T1)}{er:Er}(h:IK s t 0 0=.error er):LW s ((n,t)::r)=.error er:=by rw[LW,h]
theorem XY{d:List (lU×lU)}{n y:lU}{t:T1}{r:List (lU×T1)}:DT (bC (Rr d ((n,t)::r))) (d.length*2+1) [S y]=bC (Rr (d++[(n,y)]) r):=by
 unfold Rr;rw[bC_app,bC_app,bC_app];have h:=Ze d;rw[← h];generalize bC d=D;simp[DT,mW,bC,List.set_append_right]
theorem Rd{nds:Nd}{er:Er}(h:HC fO Ro nds []=.error er):EO nds=.error er:=by rw[EO,h]
theorem uC{nds:Nd}{out:List (lU×T1)}{s:CS}(h:HC fO Ro nds []=.ok (out,s)):EO nds=LW s out:=by rw[EO,h]
theorem vL{R:List RB}{c:Nat}{l:List (lU×lU)}(D:AO X w f H (⟨T,2,a,c,l.length,bC l⟩::R) B Fs):∃f',AO X w f' H R B Fs∧Vc w f' l a c:=by
 have J:=D.row _ (.head _);rcases J.2 with ⟨_,_,hz⟩|⟨b,q,G,K,F,_,L,O⟩
 · simp only at hz
   exact⟨f,D.less (List.Sublist.refl _) (List.sublist_cons_self _ _) (λ_ h=>h) (λ_ h=>h),oM,.inl (by cases l with|nil=>rfl|cons _ _=>simp at hz)⟩
 · simp only at G
   subst G;obtain⟨f',d⟩:=D.done (i:=0) C C;refine⟨f',d.less (List.Sublist.refl _) (List.Sublist.refl _) (λ_ h=>.tail _ h) (λ_ h=>h),F,.inr ⟨b,0,C,d.fro _ (.head _)⟩⟩
end Go.SP
namespace Go.Proofs.YtnojaendcldjpaaGreatDoor
open Go.SW Go.SP Go.RowKit Go.Proofs.Tryz
theorem cH:∀i,i≤8→Im (⟨[],0,Yv i,[],[],-1⟩:CS)
 |0,_=>⟨tQ,λ_ _ h=>(by cases h),tQ,tQ,tQ,Int.le_refl _⟩
 |i+1,h=>by
  obtain⟨⟨nm,F,G,J⟩,d⟩:∃v,Hs[i]?=some v:=⟨_,List.getElem?_eq_getElem (l:=Hs) (by have:Hs.length=8:=rfl;omega)⟩;have D:=Sh d;rw[Ow d];exact (cH i oM).addCons (Om i oM _ d) ⟨by rw[Ll];dsimp only;omega,Nx _,GJ (SZ d),Nat.zero_le _⟩
theorem wfc0:Im fO:=cH 8 (Nat.le_refl _)
theorem envB0:JI Ro:=by
 rw[← RR];intro b d;unfold JU at d;rw[List.take_length,List.mem_reverse] at d;obtain⟨p,h,rfl⟩:=List.mem_map.1 d;exact⟨N6 (GX (EP _)) (NY p h),by dsimp only[YL];decide⟩
variable {σ:Ba}{f f':Fq}{a:oA}{v2 v4 x3 y3:Value}{w w':wO}
theorem nB{nds:Nd}{b2 b3 b4:Nat}(K:b2≠b3∧b2≠b4∧b3≠b4){fn:Func}(L:fn.results=#[.cell 2 56,.cell 3 41,.cell 4 42])(O:σ 2=some (pB b2))(Q:σ 3=some (pB b3))(U:σ 4=some (pB b4)){er:Er}(hm:EO nds=.error er)(F:C9 (λ_=>False) w f w' f')
  (k2:AS w' b2 [v2] 56∧f' b2=0∧(true=true→w.heap.size≤b2)) (k3:AS w' b3 [x3,y3] 41∧f' b3=0∧(true=true→w.heap.size≤b3)) (k4:AS w' b4 [v4] 42∧f' b4=0∧(true=true→w.heap.size≤b4))
  (tmps:Array Value) (D:∀t,t∈[2,3,4]→∀v,σ t=some v→tmps.getD t undef=v):Leaves prog fn tmps (λe w'=>∃v,e=.returned v∧Xl nds w f v w') [{target:=.fn (.func 66) ([pB b2,pB b3,pB b4]:lV).toArray,args:=#[]}] (.panicking (trI 134 er)) w':=by
 refine Ff (by simp) dP (Uw w' f' F.val b2 b3 b4 v2 x3 y3 v4 k2.1 k3.1 k4.1 ⟨k2.2.1,k3.2.1,k4.2.1⟩ K er) λwz hz=>?_;rw[Kj];obtain⟨f3,W,z2,z3,z4⟩:=hz;refine DR (σ:=AI (E2 2 (pB b2) 3 (pB b3)) 4 (pB b4)) (λt v d=>?_) (Dy L (Dl C Yz z2 C) (Ab C Dx z3 C) (Dl C Pg z4 C)) ⟨_,C,f3,C9.trans0 F W (λb Y=>?_),by rw[hm]⟩
 ·
  by_cases e4:t=4
  · subst e4;exact D 4 (by simp) v (U.trans d)
  by_cases G:t=3
  · subst G;exact D 3 (by simp) v (Q.trans d)
  by_cases J:t=2
  · subst J;exact D 2 (by simp) v (O.trans d)
  have n4:Nat.beq t 4=false:=by cases h:Nat.beq t 4 with|false=>rfl|true=>exact absurd (Nat.eq_of_beq_eq_true h) e4
  have n3:Nat.beq t 3=false:=by cases h:Nat.beq t 3 with|false=>rfl|true=>exact absurd (Nat.eq_of_beq_eq_true h) G
  have Z:Nat.beq t 2=false:=by cases h:Nat.beq t 2 with|false=>rfl|true=>exact absurd (Nat.eq_of_beq_eq_true h) J
  simp[AI,Go.SW.e0,Z,n3,n4] at d
 ·
  rcases Y with rfl|rfl|rfl
  · exact k2.2.2 C
  · exact k3.2.2 C
  · exact k4.2.2 C
theorem idone{nds:Nd}{b2 b3 b4:Nat}{fn:Func}(G:fn.results=#[.cell 2 56,.cell 3 41,.cell 4 42])(J:σ 2=some (pB b2))(K:σ 3=some (pB b3))(L:σ 4=some (pB b4)){d:List (lU×lU)}(hm:EO nds=.ok d)(D:C9 (λ_=>False) w f w' f'){c:Nat}(O:Vc w' f' d a c)
  (k2:AS w' b2 [.slice a d.length c] 56) (k3:AS w' b3 [iV 0,iV 0] 41) (k4:AS w' b4 [iV 0] 42)
  (tmps:Array Value) (Q:∀t v,σ t=some v→tmps.getD t undef=v):Leaves prog fn tmps (λe w'=>∃v,e=.returned v∧Xl nds w f v w') [{target:=.fn (.func 66) ([pB b2,pB b3,pB b4]:lV).toArray,args:=#[]}] .returning w':=by
 refine Ff (by simp) dP (SB w' b2 b3 b4) λW hz=>?_;have F:=C9.of_ext hz D.val;refine DR Q (Dy G (Dl J Yz (k2.ext hz) C) (Ab K Dx (k3.ext hz) C) (Dl L Pg (k4.ext hz) C)) ⟨_,C,f',C9.trans0 D F (λb U=>U.elim),?_⟩;rw[hm];exact⟨a,c,C,Vc.mono _ _ _ _ O (F.fle D.val (λ_ h=>h.elim))⟩
set_option maxHeartbeats 2000000 in
theorem Vp(w:wO)(f:Fq)(hv:Vl w f)(hG:Iu w f)(nds:Nd)(na:oA)(nc:Nat)(hwt:nds.wft)(hsz:nds.size≤200000)(htb:nds.txb)(hN:Bc w f nds na nc) :
  AX prog 31 #[.slice na nds.len nc] w (Xl nds w f):=by
 have hkl0:=Nd.len_le nds;refine vJ (K:=[2,3,4]) (X:=X0 w f) (H:=[]) (R:=[]) (B:=[]) (Fs:=[λw f=>Bc w f nds na nc,λw f=>Iu w f]) (f:=f) func31 C C C (Be hv ⟨hN,hG,tQ⟩ ⟨Bc.mono,Iu.mono,tQ⟩)<|Aa 8 (λb1=>λb2=>λb3=>λ_=>Kz (p:=b1≠b2∧b1≠b3∧b2≠b3) (λw f D=>by have F:=D.nd;simp[Cf] at F;exact⟨λe=>F.2 e.symm,λe=>F.1.2 e.symm,λe=>F.1.1 e.symm⟩) λhn=>Aa 1 (λ_=>BN C C (λw f D=>Ve C)<|mdf C C<|Aa 4 (λ_=>fN (XX:=λ_ _=>False) C C (eC rH C C) (λw f D=>(VA w f D.vl D.f1).retP) (λ_=>AN.stab) (λ_=>⟨BC.mono,tQ⟩) (λ_ _ _ _ _ h=>h.elim) ?_)));rintro⟨A,ea⟩ hA;dsimp only at hA ⊢;refine Aa 21 (λ_=>LY 60 2<|LY 29 4 ?_);refine DK (α:=Nat×Nd×List (lU×T1)×lV×oA×Nat×oA×Nat×BJ×oA×CS) (λx=>x.2.1.len) (λx=>x.1+x.2.1.len=nds.len∧HC fO Ro nds []=HC x.2.2.2.2.2.2.2.2.2.2 x.2.2.2.2.2.2.2.2.1 x.2.1 x.2.2.1∧x.2.2.1.length≤x.1∧(Hp x.2.2.1).bnd∧JI x.2.2.2.2.2.2.2.2.1∧x.2.1.wft∧x.2.1.txb∧Im x.2.2.2.2.2.2.2.2.2.2∧x.2.1.size≤nds.size∧x.2.2.2.2.2.2.2.2.2.2.fresh+200002*x.2.1.size≤200002*nds.size∧x.2.1.size-(nds.size:Int)-1≤x.2.2.2.2.2.2.2.2.2.2.vars∧x.2.2.2.2.2.2.2.2.2.2.vars≤0) (λx=>(E9 2 (pB b1) 3 (pB b2) 4 (pB b3) 5 (pB A.cb) 6 (.pointer x.2.2.2.2.2.2.2.2.2.1) 7 (.slice x.2.2.2.2.1 x.2.2.1.length x.2.2.2.2.2.1) 19 (.slice na nds.len nc) 20 (iV (nds.len:Int)) 21 (iV (x.1:Int)))) (λx=>⟨λ_=>False,Dk A,AN 146 224 A x.2.2.2.2.2.2.2.2.2.2,w,f⟩) (λx=>[⟨b3,[iV 0],42,true⟩,⟨b2,[iV 0,iV 0],41,true⟩,⟨b1,[.slice x.2.2.2.2.2.2.1 x.2.2.1.length x.2.2.2.2.2.2.2.1],56,true⟩]) (λx=>[⟨29,4,x.2.2.2.2.1,x.2.2.2.2.2.1,x.2.2.1.length,x.2.2.2.1⟩,⟨60,2,x.2.2.2.2.2.2.1,x.2.2.2.2.2.2.2.1,x.2.2.1.length,bC (mW x.2.2.1)⟩]) (λx=>[]) (λx=>[λw f=>Ct w f na x.1 x.2.1,λw f=>Cr w f (Hp x.2.2.1) x.2.2.2.1,λw f=>BC w f x.2.2.2.2.2.2.2.2.1 x.2.2.2.2.2.2.2.2.2.1,λw f=>Iu w f]) (0,nds,[],[],none,0,none,0,Ro,ea,fO) ⟨Nat.zero_add _,C,Nat.le_refl _,tQ,envB0,hwt,htb,wfc0,Nat.le_refl _,by dsimp only[fO];omega,by dsimp only[fO];omega,(by decide:(-1:Int)≤0)⟩ lE (λw f D=>D.more (B':=[]) (F':=[λw f=>Ct w f na 0 nds,λw f=>Cr w f .nil []]) nE (AR.mem ⟨Bc.at D.f1,C,tQ⟩) (Au.mem ⟨Ct.mono,Cr.mono,tQ⟩) |>.less sR sR nE (mR [0,1,2,4])) ?_;rintro⟨i,r,out,txs,ta,tc,oa,oc,e,ea,s⟩ ⟨hi,Z,hol,htyb,heB,G,htx,hw,hrs,hfr,hv1,hv2⟩;dsimp only at hi Z hol htyb heB G htx hw hrs hfr hv1 hv2 ⊢;refine Aa 6 (λ_=>Ap 22 C C (λh1=>?_) (λh1=>?_));refine Aa 6 (λ_=>?_);have hil:i<nds.len:=by have:=dT h1;omega
 obtain⟨op2,ln2,co2,O,nm2,k2,r,rfl⟩:=Nd.cases1 r oM;have hi2:i+(r.len+1)=nds.len:=hi;obtain⟨htx2,hkx2,hrx2⟩:=htx;have hrs2:k2.size+r.size+1≤nds.size:=hrs;have hfr2:s.fresh+200002*((k2.size+r.size+1:Nat):Int)≤200002*nds.size:=hfr;have hv3:((k2.size+r.size+1:Nat):Int)-nds.size-1≤s.vars:=hv1;have hkl:=Nd.len_le k2;have hfr0:=hw.fr;refine Yy 0 C ?_;rintro⟨eb,eo,ka,kc⟩ rfl;refine Ae 26 [100,0,0,1] (aI oM<|y2<|λb4=>y<|λb5=>y<|λ_=>Ap 27 C C (λh2=>?_) (λh2=>?_));exact absurd (eq_of_beq h2) (by rcases G.1.1 with F|F <;> (rw[F];decide));refine Aa 7 (λ_=>Ap 32 C C (λh3=>?_) (λh3=>?_));exact absurd (eq_of_beq h3) (by rcases G.1.1 with F|F <;> (rw[F];decide));refine Aa 7 (λ_=>Ap 80 C C (λh4=>?_) (λh4=>?_));refine Aa 2 (λ_=>?_);have hwk:k2.wfm 3:=G.1.2;obtain⟨op3,ln3,co3,tx3,nm3,k3,r3,J⟩:=QQ hwk dC;have hwk1:TU op3 k3:=by have F:=hwk;rw[J] at F;exact F
 have hks:k2.size=k3.size+r3.size+1:=by rw[J];rfl
 have hkl2:k2.len=r3.len+1:=by rw[J];rfl
 refine mne 0 C J<|Yy 0 C ?_;rintro⟨eb3,eo3,ka3,kc3⟩ rfl;refine Ae 7 [1,100,0] (y<|aI oM<|y2<|λ_=>mcq C C (eC Oj C C) (λ_ h=>h) (λw f D=>ND (k3.size+1) w f D.vl A hA s D.res D.mz hw op3 ln3 co3 nm3 tx3 k3 ka3 kc3 e ea (Nat.lt_succ_self _) oM hwk1 D.f0 heB D.f7 (by first|omega|(dsimp only;omega))) (λ_=>AN.stab) (λ_=>⟨Al.mono,tQ⟩) (λer w2 f2 he hE hH=>nB hn C C C C (Rd (Z.trans (Mo (by rw[J];exact Yb h4 he)))) hE (hH _ om4) (hH _ yF) (hH _ iP)) ?_);rintro⟨⟨t6,Q,U⟩,s6⟩ ⟨W,L,hw6,hf6⟩;dsimp only at W L hw6 hf6 ⊢;have hfm6:=Rn W7 _ W;have hvv6:s6.vars=s.vars:=hfm6.2.2.2;refine Ae 3 [0] (y<|λ_=>xB [2,3,4] (λ_=>True) Ef [0,1,2,3,4] Aj (rd [0,1,2,3,4,5,6,7,8,10,11] (.br 9 (.br 12 (.rd 13 .fin) .fin) .fin)) C kR kR kR C I4<|By 11 [1,0,1,100,0,1] (y<|y<|y<|aI oM<|y2<|y<|λ_=>Ak C<|BO C C (eC eZ C C) (λw f D=>Nt (k3.size+1) w f D.vl op3 ln3 co3 nm3 tx3 k3 ka3 kc3 (Nat.lt_succ_self _) oM D.f1)<|Aa 1 (λ_=>Ar [0,1,2,3,4] C<|Ak C<|mcq C C (eC aH C C) (λ_ h=>h) (λw f D=>Pm w f D.vl A hA s6 D.res D.mz hw6 e ea heB D.f8 O t6 Q U L D.f0 (C7 (k3.size+1) op3 k3) ln2 co2) (λ_=>AN.stab) (λ_=>⟨BC.mono,tQ⟩) (λer w2 f2 he hE hH=>nB hn C C C C (Rd (Z.trans (Mo (by rw[J];exact XU h4 W he)))) hE (hH _ om4) (hH _ yF) (hH _ iP)) ?_)));rintro⟨e7,ea7⟩ ⟨he7,heB7⟩;dsimp only at he7 heB7 ⊢;refine Aa 1 (λ_=>Ar [0,1,2,3,4] C<|Bf 1 (λ_=>BG<|Ae 9 [4,1] (y<|y<|λb6=>λ_=>Dd 1 0 C C nY C C C C C C C C (λ_ _=>C) oM oM λoa2 oc2=>Ae 7 [5,1] (y<|y<|λb7=>λ_=>Dd 0 0 C C I1 C C C C C C C C (λ_ _=>C) oM oM λta2 tc2=>Aa 8 (aI ⟨oM,oM⟩<|λ_=>?_)))))
 exact Ce ((i+1,r,(out++[(O,t6)]),txs++tC t6 Q U,ta2,tc2,oa2,oc2,e7,ea7,s6)) (show r.len<r.len+1 from Nat.lt_succ_self _) ⟨show i+1+r.len=_ by omega,Z.trans (OB (by rw[J];exact cK h4 W he7)),show (out++[(O,t6)]).length≤i+1 by rw[List.length_append];simp;omega,show (Hp (out++[(O,t6)])).bnd by rw[H4];exact Ty.bnd_snoc htyb L,heB7,G.2,hrx2,hw6,show r.size≤_ by omega,show s6.fresh+200002*(r.size:Int)≤_ by omega,show (r.size:Int)-nds.size-1≤s6.vars by omega,show s6.vars≤0 by omega⟩ (fH C C C C C (Eq.trans (b:=some (Value.slice ta2 (out.length+1) tc2)) C (by dsimp only;rw[List.length_append];rfl)) C C C) (λw f D=>⟨_,by have Y:=(D.more (B':=[]) (F':=[λw f=>Cr w f (Hp (out++[(O,t6)])) (txs++tC t6 Q U)]) nE (AR.mem ⟨by rw[H4];exact Cr.snoc D.f1 D.f8,tQ⟩) (Au.mem ⟨Cr.mono,tQ⟩)).less (sD (sD (sD (sD (sK (sK (sK sZ))))))) sR (B':=[]) nE (F':=[λw f=>Ct w f (some ⟨eb,eo,none⟩) (i+1) r,λw f=>Cr w f (Hp (out++[(O,t6)])) (txs++tC t6 Q U),λw f=>BC w f e7 ea7,λw f=>Iu w f]) (mR [7,0,1,11]);dsimp only;rw[show (out++[(O,t6)]).length=out.length+1 by rw[List.length_append];rfl,show bC (mW (out++[(O,t6)]))=bC (mW out)++[S O,S []] by rw[mW,List.map_append,SP.bC_app];rfl];exact Y⟩);refine Aa 7 (λ_=>Ap 102 C C (λh5=>?_) (λh5=>?_));exact absurd (eq_of_beq h5) (by rcases G.1.1 with F|F <;> (rw[F];decide));refine Aa 7 (λ_=>Ap 116 C C (λh6=>?_) (λh6=>?_));refine Aa 2 (λ_=>?_);have hwk:k2.wfm 3:=G.1.2;obtain⟨op3,ln3,co3,tx3,nm3,k3,r3,J⟩:=QQ hwk dC;have hwk1:TU op3 k3:=by have F:=hwk;rw[J] at F;exact F
 have hks:k2.size=k3.size+r3.size+1:=by rw[J];rfl
 have hkl2:k2.len=r3.len+1:=by rw[J];rfl
 refine mne 0 C J<|Yy 0 C ?_;rintro⟨eb3,eo3,ka3,kc3⟩ rfl;refine Ae 7 [1,100,0] (y<|aI oM<|y2<|λ_=>mcq C C (eC Oj C C) (λ_ h=>h) (λw f D=>ND (k3.size+1) w f D.vl A hA s D.res D.mz hw op3 ln3 co3 nm3 tx3 k3 ka3 kc3 e ea (Nat.lt_succ_self _) oM hwk1 D.f0 heB D.f7 (by first|omega|(dsimp only;omega))) (λ_=>AN.stab) (λ_=>⟨Al.mono,tQ⟩) (λer w2 f2 he hE hH=>nB hn C C C C (Rd (Z.trans (Mo (by rw[J];exact dZ h6 he)))) hE (hH _ om4) (hH _ yF) (hH _ iP)) ?_);rintro⟨⟨t6,Q,U⟩,s6⟩ ⟨W,L,hw6,hf6⟩;dsimp only at W L hw6 hf6 ⊢;have hfm6:=Rn W7 _ W;have hvv6:s6.vars=s.vars:=hfm6.2.2.2;refine Ae 16 [0,1,4,1] (y<|y<|y<|y<|λb6=>λ_=>Dd 1 0 C C nY C C C C C C C C (λ_ _=>C) oM oM λoa2 oc2=>Ae 7 [5,1] (y<|y<|λb7=>λ_=>Dd 0 0 C C I1 C C C C C C C C (λ_ _=>C) oM oM λta2 tc2=>Aa 8 (aI ⟨oM,oM⟩<|λ_=>?_)));exact Ce ((i+1,r,(out++[(([]:lU),t6)]),txs++tC t6 Q U,ta2,tc2,oa2,oc2,e,ea,s6)) (show r.len<r.len+1 from Nat.lt_succ_self _) ⟨show i+1+r.len=_ by omega,Z.trans (OB (by rw[J];exact iT h6 W)),show (out++[(([]:lU),t6)]).length≤i+1 by rw[List.length_append];simp;omega,show (Hp (out++[(([]:lU),t6)])).bnd by rw[H4];exact Ty.bnd_snoc htyb L,heB,G.2,hrx2,hw6,show r.size≤_ by omega,show s6.fresh+200002*(r.size:Int)≤_ by omega,show (r.size:Int)-nds.size-1≤s6.vars by omega,show s6.vars≤0 by omega⟩ (fH C C C C C (Eq.trans (b:=some (Value.slice ta2 (out.length+1) tc2)) C (by dsimp only;rw[List.length_append];rfl)) C C C) (λw f D=>⟨_,by have Y:=(D.more (B':=[]) (F':=[λw f=>Cr w f (Hp (out++[(([]:lU),t6)])) (txs++tC t6 Q U)]) nE (AR.mem ⟨by rw[H4];exact Cr.snoc D.f0 D.f7,tQ⟩) (Au.mem ⟨Cr.mono,tQ⟩)).less (sD (sD (sD (sD (sK (sK (sK sZ))))))) sR (B':=[]) nE (F':=[λw f=>Ct w f (some ⟨eb,eo,none⟩) (i+1) r,λw f=>Cr w f (Hp (out++[(([]:lU),t6)])) (txs++tC t6 Q U),λw f=>BC w f e ea,λw f=>Iu w f]) (mR [6,0,9,10]);dsimp only;rw[show (out++[(([]:lU),t6)]).length=out.length+1 by rw[List.length_append];rfl,show bC (mW (out++[(([]:lU),t6)]))=bC (mW out)++[S ([]:lU),S []] by rw[mW,List.map_append,SP.bC_app];rfl];exact Y⟩);exfalso;have gh2:=beq_eq_false_iff_ne.1 h2;have gh3:=beq_eq_false_iff_ne.1 h3;have gh4:=beq_eq_false_iff_ne.1 h4;have gh5:=beq_eq_false_iff_ne.1 h5;have gh6:=beq_eq_false_iff_ne.1 h6;rcases G.1.1 with F|F <;> omega
 refine Aa 3 (λ_=>Df<|Aa 4 (λ_=>?_));obtain rfl:r=.nil:=Nd.len0 (by have:=dF h1;omega);have hti2:HC fO Ro nds []=.ok (out,s):=Z;have hol2:out.length≤200000:=oM;refine Xg (λw f=>Al w f (Hp out) ta tc) Al.mono (λw f D=>Ni D D.f1)<|Aa 7 (λ_=>?_);refine DK (α:=List (lU×lU)×List (lU×T1)) (λx=>x.2.length) (λx=>x.1.length+x.2.length=out.length∧(EO nds=match LW s x.2 with|.error e=>.error e|.ok l=>.ok (x.1++l))∧(Hp x.2).bnd) (λx=>(E7 2 (pB b1) 3 (pB b2) 4 (pB b3) 5 (pB A.cb) 137 (.slice ta out.length tc) 138 (iV (out.length:Int)) 139 (iV (x.1.length:Int)))) (λx=>⟨λ_=>False,Dk A,AN 146 224 A s,w,f⟩) (λx=>[⟨b3,[iV 0],42,true⟩,⟨b2,[iV 0,iV 0],41,true⟩,⟨b1,[.slice oa out.length oc],56,true⟩]) (λx=>[⟨60,2,oa,oc,out.length,bC (Rr x.1 x.2)⟩]) (λx=>[]) (λx=>[λw f=>BY w f ta x.1.length (Hp x.2)]) ([],out) ⟨by simp,(uC hti2).trans Vh,htyb⟩ lE (λw f D=>D.more (B':=[]) (F':=[λw f=>BY w f ta 0 (Hp out)]) nE (AR.mem ⟨Al.at D.f0,tQ⟩) (Au.mem ⟨BY.mono,tQ⟩) |>.less (sK (sK (sK sZ))) sR nE (mR [0])) ?_;rintro⟨d,r⟩ ⟨hdl,hfi,htyr⟩;dsimp only at hdl hfi htyr ⊢;refine Aa 6 (λ_=>Ap 140 C C (λh2=>?_) (λh2=>?_));refine Aa 6 (λ_=>?_);have hjl:d.length<out.length:=by have:=dT h2;omega
 obtain⟨⟨nm2,t2⟩,r2,rfl⟩:∃p q,r=p::q:=by cases r with|nil=>simp only[List.length_nil] at hdl;omega|cons p q=>exact⟨p,q,C⟩
 have htb2:t2.bnd∧(Hp r2).bnd:=T1.bnd_cons.1 htyr;refine Kz (p:=∃ob,oa=some ⟨ob,0,none⟩) (λw f D=>by rcases (D.row _ (.head _)).2 with ⟨_,_,F⟩|⟨ob,_,F,_⟩;(dsimp only at F;omega);exact⟨ob,F⟩) λhob=>?_;obtain⟨ob,rfl⟩:=hob;refine Hh (α:=Nat×Nat×oA×Nat) (λx=>ta=some ⟨x.1,x.2.1,none⟩) (λx=>[⟨x.1,x.2.1+d.length*4,tC t2 x.2.2.1 x.2.2.2⟩]) (λx=>[λw f=>Al w f t2.kids x.2.2.1 x.2.2.2,λw f=>BY w f ta (d.length+1) (Hp r2)]) (λw f D=>let ⟨b,off,ka,kc,h1,h2,h3,h4⟩:=BY.head (show BY w f ta d.length (t2.cons (Hp r2)) from D.f0);⟨(b,off,ka,kc),h1,(oE h2),AR.mem ⟨h3,h4,tQ⟩⟩) (λx=>Au.mem ⟨Al.mono,BY.mono,tQ⟩) ?_;rintro⟨ab2,ao2,ka2,kc2⟩ rfl;refine Ae 9 [100,0,0] (aI oM<|y2<|λb4=>y<|λ_=>xB [2,3,4] (λ_=>True) Ef [0,1,2,3] Aj (rd [0,1,2,3,4] (.br 5 (.br 6 (.rd 7 (.rd 8 (.br 9 .fin .fin))) .fin) .fin)) C kR kR kR C I4<|By 5 [3,0] (y<|y<|λ_=>Ak C<|mcq C C (eC OK C C) (λ_ h=>h) (λw f D=>G6 w f D.vl A hA s D.res D.mz hw t2 ka2 kc2 htb2.1 D.f0 0 0) (λ_=>AN.stab) (λ_=>⟨Al.mono,tQ⟩) (λer w2 f2 he hE hH=>nB hn C C C C (by rw[hfi,YI he]) hE (hH _ yF) (hH _ iP) (hH _ tH)) ?_));rintro⟨u2,ua2,uc2⟩ ⟨hfu,hub2,hus2⟩;dsimp only at hfu hub2 hus2 ⊢;refine Aa 1 (λ_=>Ar [0,1,2,3] C<|Ak C<|BO C C (eC tO C C) (λw f D=>Xi w f D.vl u2 ua2 uc2 hus2 hub2 D.f0)<|Aa 1 (λ_=>Ar [0,1,2,3] C<|Bf 2 (aI oM<|λ_=>Ak C<|mrs 0 (bC (Rr (d++[(nm2,Pl u2)]) r2)) C C C C qti9 C C C (by simp only[Nat.zero_add,List.length_cons,List.length_nil,Int.toNat_natCast];omega) (by rw[Nat.zero_add,Int.toNat_natCast];exact XY) C<|Aa 1 (λ_=>?_))));exact Ar [0,1,2,3] C<|BG<|Aa 6 (aI ⟨oM,oM⟩<|λ_=>Ce ((d++[(nm2,Pl u2)],r2)) (show r2.length<((nm2,t2)::r2).length from Nat.lt_succ_self _) ⟨show (d++[(nm2,Pl u2)]).length+r2.length=_ by simp only[List.length_append,List.length_cons,List.length_nil] at hdl ⊢;omega,hfi.trans (Xq hfu),htb2.2⟩ (lu7 C C C C C C (Eq.trans (b:=some (Value.int .i64 ((d.length:Int)+1))) C (by dsimp only;simp))) (λw f D=>⟨_,by have Y:=D.less (sD (sK (sK (sK sZ)))) sR (B':=[]) nE (F':=[λw f=>BY w f (some ⟨ab2,ao2,none⟩) (d.length+1) (Hp r2)]) (mR [2]);dsimp only;rw[List.length_append];exact Y⟩));refine Aa 3 (λ_=>Df<|Aa 3 (λ_=>?_));obtain rfl:r=[]:=by have F:=dF h2;cases r with|nil=>rfl|cons p q=>simp only[List.length_cons] at hdl;omega
 refine Ae 9 [2,2,1,0] (y<|y<|y<|y<|λ_=>λw9 f9 D=>?_);obtain⟨f8,hM8,hB8⟩:=vL (l:=Rr d []) (by have Y:=D;rw[show out.length=(Rr d []).length by rw[Rr,List.length_append];simp only[List.map_nil,List.length_nil];exact hdl.symm] at Y;exact Y);have hinf:EO nds=.ok d:=by rw[hfi];show (Except.ok (d++[]):RI _)=_;rw[List.append_nil]
 have hdd:Rr d []=d:=List.append_nil d;rw[hdd] at hB8;exact λtmps ht=>idone C C C C hinf hM8.exm hB8 (by have F:=hM8.blk _ iP;rw[hdd] at F;exact F) (hM8.blk _ tH) (hM8.blk _ om0) tmps ht
end Go.Proofs.YtnojaendcldjpaaGreatDoor
namespace Go.SP
open Go.SW Go.RowKit
theorem e4{a b:Int}:((a,b,4):Er).2.2≠0:=(by decide:(4:Int)≠0)
section
variable{s:CS}{e:BJ}{ln co:Int}{tx:lU}{t u:T1}{x:Er}
end
def EcF(p:M8):Prop:=∀{s e op ln co tx nm k x},p s e op ln co tx nm k=.error x→x.2.2≠0
def EcP(p:Tz):Prop:=∀{s e op ln co tx nm k x},p s e op ln co tx nm k=.error x→x.2.2≠0
section
variable{p:M8}(hp:EcF p)
include hp
variable{q:Tz}(hq:EcP q)
include hq
end
end Go.SP
namespace Go.Proofs.YtnojaendcldjpaaGreatDoor
open Go.SW Go.SP Go.RowKit Go.Proofs.Tryz
abbrev RB:=RI (List (lU×lU))
def Kb(src:lU):RB:=bif (Ci src).2.2.2==0 then EO (Ci src).1 else .error ((Ci src).2.1,(Ci src).2.2.1,(Ci src).2.2.2)
def erR:RB→Int×Int×Int
 |.error e=>e
 |.ok _=>(0,0,0)
def bsR:RB→List (lU×lU)
 |.error _=>[]
 |.ok l=>l
abbrev inV(r:RB)(x:oA×Nat):Value:=.tuple #[.slice x.1 (bsR r).length x.2,.agg #[.int .i64 (erR r).1,.int .i64 (erR r).2.1],.int .i64 (erR r).2.2]
def InV(r:RB)(w:wO)(f:Fq):Value→wO→Prop:=AU (α:=oA×Nat) (inV r) (λ_=>True) (λx=>[λw f=>Vc w f (bsR r) x.1 x.2]) w f
variable {f:Fq}{a:oA}{w w':wO}{src:lU}
theorem Xl.out{nds:Nd}{v:Value}(h:Xl nds w f v w'):InV (EO nds) w f v w':=by
 obtain⟨f',d,h⟩:=h
 cases D:EO nds with
 |error er =>
   rw[D] at h;exact⟨(none,0),f',h,tQ,d,⟨Nat.zero_le _,.inl C⟩,tQ⟩
 |ok J =>
   rw[D] at h;obtain⟨a,c,F,G⟩:=h;exact⟨(a,c),f',F,tQ,d,G,tQ⟩
theorem dW(w:wO)(f:Fq)(J:Vl w f)(K:Iu w f)(nds:Nd)(d:oA)(nc:Nat)(D:nds.wft)(F:nds.size≤200000)(G:nds.txb)(L:Bc w f nds d nc) :
   AX prog 31 #[.slice d nds.len nc] w (InV (EO nds) w f):=(Vp w f J K nds d nc D F G L).mono λ_ _ h=>Xl.out h
theorem dO(h:(Ci src).2.2.2=0):Kb src=EO (Ci src).1:=by unfold Kb;rw[h];rfl
theorem cO(h:(Ci src).2.2.2≠0):Kb src=.error ((Ci src).2.1,(Ci src).2.2.1,(Ci src).2.2.2):=by
 unfold Kb;rw[show ((Ci src).2.2.2==0)=false by simpa using h];rfl
def Tp:lU:=[40,100,101,102,32,105,100,32,40,102,110,32,40,120,41,32,120,41,41,32,40,100,101,102,32,114,32,40,114,101,102,32,49,41,41]
def S9:lU:=[40,100,111,32,40,43,32,49,32,34,97,34,41,41]
def tE:List (lU×lU):=[([105,100],[40,45,62,32,39,97,32,39,97,41]),([114],[40,114,101,102,32,105,110,116,41])]
set_option maxRecDepth 100000 in
theorem ndA:(Ci Tp).1=.cons 44 1 1 [105,100] 0 (.cons 7 1 9 [] 0 (.cons 22 1 14 [120] 0 .nil (.cons 5 1 17 [120] 0 .nil .nil)) .nil) (.cons 44 1 21 [114] 0 (.cons 8 1 28 [] 0 (.cons 5 1 29 [114,101,102] 0 .nil (.cons 1 1 33 [] 1 .nil .nil)) .nil) .nil):=kR
set_option maxRecDepth 100000 in
theorem ndB:(Ci S9).1=.cons 46 1 1 [] 0 (.cons 8 1 5 [] 0 (.cons 5 1 6 [43] 0 .nil (.cons 1 1 8 [] 1 .nil (.cons 3 1 10 [97] 0 .nil .nil))) .nil) .nil:=kR
def WfS(x:Nd):Prop:=x.wft∧x.size≤200000∧x.txb
theorem wfA:WfS (Ci Tp).1:=by rw[ndA];simp[WfS,Nd.wft,Nd.wfm,Nd.size,Nd.txb,Nd.len]
theorem wfB:WfS (Ci S9).1:=by rw[ndB];simp[WfS,Nd.wft,Nd.wfm,Nd.size,Nd.txb,Nd.len]
set_option maxRecDepth 100000 in
theorem wK:Kb Tp=.ok tE:=kR
set_option maxRecDepth 100000 in
theorem sJ:Kb S9=.error (1,10,11):=kR
theorem len_app:∀(a b:Nd),(a.app b).len=a.len+b.len
 |.nil,b=>(Nat.zero_add _).symm
 |.cons _ _ _ _ _ _ r,b=>by show (r.app b).len+1=r.len+1+b.len;rw[len_app r b];omega
theorem Vc.opn{l:List (lU×lU)}{c:Nat}(h:Vc w f l a c)(d:l≠[]):∃x:Nat×Nat,a=some ⟨x.1,x.2,none⟩∧Cs w f x.1 x.2 (bC l) :=
 h.2.elim (λh=>absurd h d) λ⟨b,off,D,F⟩=>⟨(b,off),D,F⟩
end Go.Proofs.YtnojaendcldjpaaGreatDoor
namespace Go.Proofs.YtnojaendcldjpaaGreatDoor
open Go.SW Go.SP Go.RowKit Go.Lib
section
variable{P:Program}{w:World}
variable {e t:TypeId}
theorem Qt{g:Nat}{k:IntKind}{zero:Array Value}(h:w.ShapedOpen P)(O:g<P.globals.size)
   (Q:((begin P (λ_ _=>0) default).world.heap[g]?).bind Obj.row?=some (zero,t)) (hz:zero.size=1)
   (U:P.buildable t=true) (W:P.cellTypes P.depth t=some [t]) (hu:P.underlying t=some (.int k)):∃m,w.cell? ⟨g,0,none⟩=some (.int k m):=by
 obtain⟨cs,Y,hs,Z⟩:=h.1 g zero t O Q;obtain⟨ts,F,_,G⟩:=Z U;rw[W] at F
 cases F
 have K:0<cs.size:=oM;obtain⟨u,J,d⟩:=G 0 cs[0] (by simp[K]);have:u=t:=by simpa using J.symm
 subst this;have D:w.cell? ⟨g,0,none⟩=some cs[0]:=by simp[World.cell?,Y,K]
 rw[D];unfold Cell.ok at d;rw[hu] at d
 cases L:cs[0] with
 |int k' m =>
   rw[L] at d
   have hk:k'=k:=by
     simp at d;exact d.1
   exact⟨m,by rw[hk]⟩
 |_=>rw[L] at d;simp at d
theorem IG{n:String}{g:Nat}{cs:Array Value}(d:P.globalNamed n=some g)(h:w.var? P n=some cs)(o:Nat):w.cell? ⟨g,o,none⟩=cs.toList[o]?:=by
 rw[World.var?_cell d h o,Array.getElem?_toList]
theorem UX{n:String}{g:Nat}{b:Bool}(F:P.globalNamed n=some g)(G:(P.globals[g]?).map (·.type)=some t)(J:P.underlying t=some .bool)(h:VarReads P w n (.lit (.bool b))):w.cell? ⟨g,0,none⟩=some (.bool b):=by
 obtain⟨Q,t',cs,fuel,p,K,D,d,hd⟩:=h;obtain rfl:=Option.some.inj (F.symm.trans K);obtain rfl:=Option.some.inj (G.symm.trans D);obtain⟨U,L,O⟩:=DataW.trod_bool J hd;rw[IG F d,L]
 cases O
 rfl
theorem RX{n:String}{g:Nat}{ms}{d:DataW Unit}(G:P.globalNamed n=some g)(J:(P.globals[g]?).map (·.type)=some t)(K:P.underlying t=some (.interface ms))(h:VarReads P w n d) :
   ∃v,w.cell? ⟨g,0,none⟩=some v∧(v=.nilIface∨∃te pe,v=.iface te pe):=by
 obtain⟨Q,t',cs,fuel,p,L,F,D,hd⟩:=h;obtain rfl:=Option.some.inj (G.symm.trans L);obtain rfl:=Option.some.inj (J.symm.trans F);rw[IG G D]
 cases fuel with
 |zero=>simp[DataW.trod] at hd
 |succ fuel =>
   unfold DataW.trod at hd;rw[K] at hd;generalize cs.toList=l at hd
   split at hd
   all_goals first
     |(rename_i heq;cases heq;done)
     |(rename_i O U;cases O;done)
     |(exact⟨_,rfl,.inl rfl⟩)
     |(exact⟨_,rfl,.inr ⟨_,_,rfl⟩⟩)
     |cases hd
theorem TZ{n:String}{g:Nat}{fs:Array Field}{f:Field}{k:IntKind}{z:Int}{ds:List (DataW Unit)}(U:P.globalNamed n=some g)(W:(P.globals[g]?).map (·.type)=some t)(Y:P.underlying t=some (.struct fs))
   (Z:fs[0]?=some f) (G:f.offset=0) (J:P.underlying f.type=some (.int k)) (K:P.cellsOf f.type=1) (h:VarReads P w n (.agg (.lit (.int k z)::ds))):w.cell? ⟨g,0,none⟩=some (.int k z):=by
 obtain⟨g',t',cs,fuel,p,hg,L,d,hd⟩:=h;obtain rfl:=Option.some.inj (U.symm.trans hg);obtain rfl:=Option.some.inj (W.symm.trans L);obtain⟨xs,m,rfl,hx,hl,hxl,D⟩:=DataW.trod_struct Y hd;have h0:=D 0 f Z;have e0:xs.map (·.1)=.lit (.int k z)::ds:=by have:=congrArg Prod.fst hx;simpa using this.symm
 cases xs with
 |nil=>cases e0
 |cons x xs =>
   simp only[List.map_cons,List.cons.injEq] at e0;obtain⟨z',hz,O,_⟩:=DataW.trod_int J (h0.trans (by rfl));rw[IG U d]
   have Q:z'=z:=by
     have:=O▸e0.1;simpa using this
   subst Q;rw[G,K,List.drop_zero] at hz
   cases F:cs.toList with
   |nil=>rw[F] at hz;cases hz
   |cons c r=>rw[F] at hz;simp at hz;simp[hz]
theorem TF{n:String}{g:Nat}{l:List (DataW Unit)}{c:Nat}{m:Int}(Q:P.globalNamed n=some g)(Y:(P.globals[g]?).map (·.type)=some t)(Z:P.underlying t=some (.array 256 e))(he:P.underlying e=some (.int .u8))(G:P.cellsOf e=1)
   (h:VarReads P w n (.agg l)) (hc:c<256) (U:l[c]?=some (.lit (.int .u8 m))):w.cell? ⟨g,c,none⟩=some (.int .u8 m):=by
 obtain⟨g',t',cs,fuel,p,hg,J,d,hd⟩:=h;obtain rfl:=Option.some.inj (Q.symm.trans hg);obtain rfl:=Option.some.inj (Y.symm.trans J);obtain⟨xs,k,rfl,hx,hcl,hxl,D⟩:=DataW.trod_array Z hd;have e0:xs.map (·.1)=l:=by have:=congrArg Prod.fst hx;simpa using this.symm
 have K:=D c hc;rw[G,Nat.mul_one] at K;have F:xs[c]?=some (xs[c]'oM):=List.getElem?_eq_getElem oM;rw[F] at K;obtain⟨z,hz,L,_⟩:=DataW.trod_int he K;have e1:l[c]?=some ((xs[c]'oM).1):=by rw[← e0,List.getElem?_map,F];rfl
 rw[e1,L] at U;have O:z=m:=by simpa using U
 subst O;rw[IG Q d];have W:((cs.toList.drop c).take 1)[0]?=some (.int .u8 z):=by rw[hz];rfl
 rw[List.getElem?_take] at W;simpa using W
theorem Rw{n:String}{g:Nat}{k:FloatKind}{l:List Nat}(hn:P.globalNamed n=some g)(hy:(P.globals[g]?).map (·.type)=some t)(ht:P.underlying t=some (.slice e))(he:P.underlying e=some (.float k))(hc:P.cellsOf e=1)
   (hl:0<l.length) (h:VarReads P w n (.slice (l.map λx=>.lit (.float k x)) [])):∃b off len cap,w.cell? ⟨g,0,none⟩=some (.slice (some ⟨b,off,none⟩) len cap)∧l.length≤len∧∀(j v:Nat),l[j]?=some v→w.cell? ⟨b,off+j,none⟩=some (.float k v):=by
 obtain⟨g',t',cs,fuel,p,hg,O,G,hd⟩:=h;obtain rfl:=Option.some.inj (hn.symm.trans hg);obtain rfl:=Option.some.inj (hy.symm.trans O);rcases DataW.trod_slice ht hd with ⟨_,Q⟩|⟨a,len,cap,el,rs,m,rfl,U,Q,_,hlc,_,hel,F,hsp,_⟩
 · cases Q
 have e0:=congrArg Prod.fst Q;simp only[DataW.slice.injEq] at e0;have hlen:len=l.length:=by have:=congrArg List.length e0.1;simp at this;omega
 have d:∀(j v:Nat),l[j]?=some v→w.cell? (a.add j)=some (.float k v):=by
   intro j v L;obtain⟨hj,hjv⟩:=List.getElem?_eq_some_iff.1 L;have W:=F j oM;rw[hc,Nat.mul_one] at W;obtain⟨b,hb⟩:∃b,el[j]?=some b:=⟨el[j]'oM,List.getElem?_eq_getElem oM⟩;rw[hb] at W;obtain⟨ce,Y,D⟩:=Option.bind_eq_some_iff.1 W
   have Z:b.1=.lit (.float k v):=by
     have:=congrArg (·[j]?) e0.1;simp[hb,L] at this;exact this.symm
   have J:ce=[.float k v]:=by
     cases m with
     |zero=>simp[DataW.trod] at D
     |succ m =>
       unfold DataW.trod at D;rw[he] at D
       split at D <;> simp_all
       obtain⟨⟨rfl,_⟩,rfl⟩:=D;simpa using Z
   obtain⟨_,_,hcc⟩:=World.cells?_some Y;have h0:=hcc 0 oM;rw[J] at h0;have e1:(a.add j).add 0=a.add j:=by simp[Addr.add]
   rw[e1] at h0;exact h0
 obtain⟨R,o,sR⟩:=a
 obtain rfl:sR=none:=by
   obtain⟨v0,hv0⟩:∃v,l[0]?=some v:=⟨l[0],List.getElem?_eq_getElem hl⟩;have K:=d 0 v0 hv0;have:(Addr.add ⟨R,o,sR⟩ 0)=⟨R,o,sR⟩:=by simp[Addr.add]
   rw[this] at K;exact Go.Proofs.cell_spot K
 refine⟨R,o,len,cap,?_,oM,λj v L=>?_⟩
 · rw[IG hn G,U];rfl
 · have:=d j v L
   rwa[Ea] at this
end
end Go.Proofs.YtnojaendcldjpaaGreatDoor
namespace Go.SW
open Go.RowKit
def oY(w:wO):Fq:=λb=>match w.heap[b]? with
 |some (.cells cs _ _)=>cs.size
 |_=>0
theorem wU(w:wO):Vl w (oY w):=λb h=>by
 unfold oY;rw[Array.getElem?_eq_none h]
variable {b o:Nat}{w:wO}
theorem Oc{v:Value}(h:w.cell? ⟨b,o,none⟩=some v):o<oY w b:=by
 unfold oY;unfold World.cell? at h
 cases d:w.heap[b]? with
 |none=>rw[d] at h;cases h
 |some x =>
   rw[d] at h
   cases x with
   |cells c e fr=>simpa using (Array.getElem?_eq_some_iff.1 h).1
   |_=>cases h
end Go.SW
namespace Go.Proofs.YtnojaendcldjpaaGreatDoor
open Go.SW Go.SP Go.RowKit Go.Lib Go.ChangeShapes Go.WideShapes Go.ChangeAt
theorem own:ownKnob Tryz.prog.godebug=none:=kR
def Vi:List Nat:=[4607182418800017408,4621819117588971520,4636737291354636288,4652007308841189376,4666723172467343360,4681608360884174848,4696837146684686336,4711630319722168320,4726483295884279808,4741671816366391296,4756540486875873280,4771362005757984768,4786511204640096256,4801453603149578240,4816244402031689728,4831355200913801216,4846369599423283200,4861130398305394688,4876203697187506176,4891288408196988160,4906019910204099648,4921056587992461136,4936209963552724370]
variable {args:Array Value}{fid:FuncId}{j:Nat}{W:World}
theorem X2{v:Nat}(h:FM[j]?=some v):Vi[j]?=some v:=by
 have e:FM=Vi.take 15:=rfl;rw[e,List.getElem?_take] at h
 split at h
 · exact h
 · cases h
abbrev WZ:List (String×DataW Unit):=Rows.inferTablesRow.laid
theorem KL(k:Nat){n:String}{d:DataW Unit}(h:laidMet Tryz.prog WZ W)(D:WZ[k]?=some (n,d):=by rfl):VarReads Tryz.prog W n d:=laidMet.reads h (List.mem_of_getElem? D)
theorem vG:(Rows.laid_strings_asciiSpace:DataW Unit)=.agg ((List.range 256).map λc=>.lit (.int .u8 (if Lib.isSp (UInt8.ofNat c) then 1 else 0))):=kR
theorem zM(h:laidMetH Tryz.prog WZ W)(F:W.ShapedOpen Tryz.prog):Gl W∧∀c:Nat,c<256→W.cell? ⟨0,c,none⟩=some (.int .u8 (if Lib.isSp (UInt8.ofNat c) then 1 else 0)):=by
 rw[MakeChecks.laidMetH_plain _ _ _ (by kernel_rfl)] at h;refine⟨⟨?_,?_,?_,?_,?_⟩,?_⟩
 · exact Qt (t:=3) (zero:=#[.int .i64 0]) F (of_decide_eq_true kR) kR kR kR kR Tryz.underlying3
 · obtain⟨ms,hm⟩:=Hx (show Y3 Tryz.prog 241=true by kernel_rfl)
   exact RX (t:=241) kR kR hm (KL 10 h)
 · exact UX (t:=4) kR kR Tryz.underlying4 (KL 4 h)
 · exact TZ (t:=321) kR kR (fs:=Tryz.prog.fieldsOf 321) kR (f:=(Tryz.prog.fieldsOf 321)[0]!) kR kR kR kR
     (KL 3 h)
 · obtain⟨b,off,n,c,G,J,K⟩:=Rw (l:=Vi) kR kR (t:=355) (e:=218) kR kR kR dC (KL 6 h)
   exact⟨b,off,n,c,G,Nat.le_trans dC J,λj v L=>K j v (X2 L)⟩
 · intro c d
   have D:=KL 13 h;rw[vG] at D;exact TF (t:=104) (e:=5) kR kR kR kR kR D d (by rw[List.getElem?_map,List.getElem?_range d];rfl)
theorem pX(h:laidMetH Tryz.prog WZ W)(G:W.ShapedOpen Tryz.prog):Dm W (oY W)∧Iu W (oY W):=by
 obtain⟨⟨⟨m,hm⟩,⟨v,J,K⟩,L,O,⟨b,off,n,c,Q,U,Y⟩⟩,d⟩:=zM h G;refine⟨λw' f' Z=>?_,⟨m,λj v D=>?_⟩,λc F=>⟨Oc (d c F),d c F⟩⟩
 · have k:∀{b o:Nat}{v:Value},W.cell? ⟨b,o,none⟩=some v→w'.cell? ⟨b,o,none⟩=some v:=λ{b o v} h=>((Z b).2 o (Oc h)).trans h
   exact⟨⟨m,k hm⟩,⟨v,k J,K⟩,k L,k O,⟨b,off,n,c,k Q,U,λj v hv=>k (Y j v hv)⟩⟩
 · cases j with
   |zero=>cases D;exact⟨Oc hm,hm⟩
   |succ j=>cases D
theorem eP(h:AX Tryz.prog fid args W (AU (α:=Unit) (λ_=>.bool true) (λ_=>True) (λ_=>[]) W (oY W))):AX Tryz.prog fid args W λv w'=>v=.bool true∧AW W w' :=
 h.mono λ_ _ ⟨_,_,d,_,D,_⟩=>⟨d,D.stp.ext⟩
end Go.Proofs.YtnojaendcldjpaaGreatDoor
namespace Go.SP
open Go.SW Go.RowKit
def Dc{α:Type}(g:α→lV)(w:wO)(f:Fq)(l:List α)(a:oA)(c:Nat):Prop:=l.length≤c∧(l=[]∨∃b off,a=some ⟨b,off,none⟩∧Cs w f b off (l.flatMap g))
section
variable{α:Type}{g:α→lV}
variable {i k:Nat}{a:oA}
theorem Dc.mono{l:List α}{c:Nat}:EI (λw f=>Dc g w f l a c):=λ_ _ _ _ h D=>⟨h.1,h.2.imp id λ⟨b,off,F,G⟩=>⟨b,off,F,G.mono D⟩⟩
theorem Dc.get{w:wO}{f:Fq}{l:List α}{c:Nat}{x:α}(k:Nat)(F:∀x,(g x).length=k)(h:Dc g w f l a c)(D:l[i]?=some x):∃b off,a=some ⟨b,off,none⟩∧Cs w f b (off+i*k) (g x):=by
 rcases h.2 with h|⟨b,off,G,J⟩
 · subst h;cases D
 · exact⟨b,off,G,Cs.flat g k F l off i _ J D⟩
theorem Hn{X:Cx}{w:wO}{f:Fq}{H:List HB}{R:List RB}{B:List FB}{Fs:List (wO→Fq→Prop)}{T:tI}{c:Nat}{l:List α}(F:AO X w f H (⟨T,k,a,c,l.length,l.flatMap g⟩::R) B Fs):∃f',AO X w f' H R B Fs∧Dc g w f' l a c:=by
 have K:=F.row _ (.head _);rcases K.2 with ⟨_,_,hz⟩|⟨b,q,J,L,G,_,O,U⟩
 · simp only at hz
   exact⟨f,F.less (List.Sublist.refl _) (List.sublist_cons_self _ _) (λ_ h=>h) (λ_ h=>h),oM,.inl (by cases l with|nil=>rfl|cons _ _=>simp at hz)⟩
 · simp only at J
   subst J;obtain⟨f',D⟩:=F.done (i:=0) C C;refine⟨f',D.less (List.Sublist.refl _) (List.Sublist.refl _) (λ_ h=>.tail _ h) (λ_ h=>h),G,.inr ⟨b,0,C,D.fro _ (.head _)⟩⟩
theorem Dc.nil(w:wO)(f:Fq)(a:oA)(c:Nat):Dc g w f [] a c:=⟨Nat.zero_le _,.inl C⟩
end
def Wv(t:Aq):lV:=[.int .i64 t.k,.int .i64 t.ln,.int .i64 t.co,.int .i64 t.nm,S t.tx]
def GV(w:wO)(f:Fq):Fo→lV→Prop
 |.nil,xs=>xs=[]
 |.cons t k r,xs=>∃a c xs',xs=LQ t a k.len c++xs'∧Bq w f k a c∧GV w f r xs'
theorem GV.mono'{w w':wO}{f f':Fq}(D:HF w f w' f'):∀(k:Fo)(xs:lV),GV w f k xs→GV w' f' k xs
 |.nil,_,h=>h
 |.cons _ _ r,_,⟨a,c,xs',F,G,J⟩=>⟨a,c,xs',F,Bq.mono _ _ _ _ G D,GV.mono' D r xs' J⟩
variable {xs ys:lV}{b m:Nat}{hi lo x:Operand}{a:oA}{e:tI}
theorem GV.mono{k:Fo}:EI (λw f=>GV w f k xs):=λ_ _ _ _ h D=>GV.mono' D k xs h
theorem GV.app{w:wO}{f:Fq}{y:Fo}(D:GV w f y ys):∀{x:Fo}{xs:lV},GV w f x xs→GV w f (x.app y) (xs++ys)
 |.nil,xs,h=>by have h:xs=[]:=h;subst h;exact D
 |.cons _ _ r,_,⟨a,c,xs',F,G,J⟩=>⟨a,c,xs'++ys,by rw[F,List.append_assoc],G,GV.app D J⟩
theorem GV.one{w:wO}{f:Fq}{t:Aq}{k:Fo}{c:Nat}(h:Bq w f k a c):GV w f (.cons t k .nil) (LQ t a k.len c):=⟨a,c,[],by simp,h,C⟩
theorem GV.len{w:wO}{f:Fq}:∀{k:Fo}{xs:lV},GV w f k xs→xs.length=k.len*6
 |.nil,xs,h=>by have h:xs=[]:=h;subst h;rfl
 |.cons _ _ r,_,⟨a,c,xs',D,G,F⟩=>by subst D;have:=GV.len F;simp[Fo.len,LQ,this];omega
theorem GV.toG{w:wO}{f:Fq}:∀{k:Fo}{xs:lV}{off:Nat},GV w f k xs→Cs w f b off xs→Yj w f k b off
 |.nil,_,_,_,_=>trivial
 |.cons _ k r,_,off,⟨a,c,xs',D,F,G⟩,h=>by
   subst D;exact⟨⟨a,c,Cs.le h,F⟩,GV.toG G (Cs.drop h)⟩
theorem GV.toF{w:wO}{f:Fq}{c:Nat}{k:Fo}(h:GV w f k xs)(D:Cs w f b 0 xs)(F:k.len≤c):Bq w f k (some ⟨b,0,none⟩) c:=⟨F,.inr ⟨b,0,C,GV.toG h D⟩⟩
theorem Qn{X:Cx}{w:wO}{f:Fq}{H:List HB}{R:List RB}{B:List FB}{Fs:List (wO→Fq→Prop)}{c:Nat}{k:Fo}(F:AO X w f H (⟨e,6,a,c,m,xs⟩::R) B Fs)(J:GV w f k xs):∃f',AO X w f' H R B Fs∧Bq w f' k a c:=by
 have K:=F.row _ (.head _);have hlen:=GV.len J;have hm:m=k.len:=by have:=K.1;simp only at this;omega
 rcases K.2 with ⟨_,_,h⟩|⟨b,l,L,_,G,_⟩
 · simp only at h
   have O:k=.nil:=by
     cases k with
     |nil=>rfl
     |cons _ _ _=>simp only[Fo.len] at hm;omega
   exact⟨f,F.less (List.Sublist.refl _) (List.sublist_cons_self _ _) (λ_ h=>h) (λ_ h=>h),by rw[O];exact⟨Nat.zero_le _,.inl C⟩⟩
 · simp only at L G
   subst L;obtain⟨f',D⟩:=(F.more (B':=[]) (F':=[λw f=>GV w f k xs]) (λ_ h=>by cases h) (AR.mem ⟨J,tQ⟩) (Au.mem ⟨GV.mono,tQ⟩)).done (i:=0) C C;exact⟨f',D.less (List.Sublist.refl _) (List.Sublist.refl _) (λe he=>.tail _ he) (λφ h=>.tail _ h),GV.toF (D.fact (i:=0) C) (D.fro _ (.head _)) oM⟩
def sC(x:lU):lV:=[S x]
def ZQ(p:Int×Int):lV:=[.int .i64 p.1,.int .i64 p.2]
theorem KC{α:Type}{g:α→lV}(k:Nat)(h:∀x,(g x).length=k):∀l:List α,(l.flatMap g).length=l.length*k
 | []=>by simp
 |x::l=>by rw[List.flatMap_cons,List.length_append,h,KC k h l,List.length_cons,Nat.add_mul];omega
theorem BR{α:Type}{g:α→lV}(l:List α)(x:α):(l++[x]).flatMap g=l.flatMap g++g x:=by simp
theorem WX{P:Program}{σ:Ba}{w:wO}{ty T:tI}{s u:lU}{k1 k2:IntKind}{i j:Int}(G:ev σ x=some (S s))(D:ev σ lo=some (.int k1 i))(F:ev σ hi=some (.int k2 j))(J:P.underlying T=some .string)
   (h:0≤i∧i≤j∧j≤s.length) (e:(s.take j.toNat).drop i.toNat=u):AK P σ (.slice T x (some lo) (some hi) none) ty w (S u) w:=e▸Mj G D F J h
end Go.SP
namespace Go.SW
open Go.RowKit
variable {xs:lV}{m:Nat}{a:oA}{e:tI}
theorem BQ.shrink{w:wO}{size:Nat}{c n:Nat}(h:BQ w e size a c n xs)(hm:m≤n):BQ w e size a c m (xs.take (m*size)):=by
 have hle:m*size≤n*size:=Nat.mul_le_mul_right _ hm;refine⟨by rw[List.length_take,h.1];omega,h.2.imp (λ⟨D,F,G⟩=>⟨D,F,oM⟩) ?_⟩;rintro⟨b,l,D,F,G,J,K,L⟩;exact⟨b,l,D,F,oM,J,K,by rw[← L,List.take_take,Nat.min_eq_left hle]⟩
theorem mrk{P:Program}{n:Nat}{Q:AV}{ds:List Deferred}{X:Cx}{R:List RB}{B:List FB}{Fs:List (wO→Fq→Prop)}{fs:List Fr}{σ:Ba}{H:List HB}{k:K3}{size c q:Nat}(m:Nat)(hm:m≤q)
   (h:A1 P n Q ds X (⟨e,size,a,c,m,xs.take (m*size)⟩::R) B Fs k fs σ H):A1 P n Q ds X (⟨e,size,a,c,q,xs⟩::R) B Fs k fs σ H:=λw f D=>h w f
 {D with
   row:=λr F=>by
     rcases List.mem_cons.1 F with rfl|F
     · exact (D.row _ (.head _)).shrink hm
     · exact D.row r (.tail _ F),
   rnw:=λr F b G=>by
     rcases List.mem_cons.1 F with rfl|F
     · exact D.rnw _ (.head _) b G
     · exact D.rnw r (.tail _ F) b G,
   nd:=D.nd,
   own:=D.own}
theorem BQ.cap{w:wO}{size:Nat}{c n:Nat}(h:BQ w e size a c n xs):n≤c:=by
 rcases h.2 with ⟨_,F,G⟩|⟨b,l,_,_,D,_⟩
 · omega
 · exact D
section
variable{X:Cx}{w w':wO}{f f':Fq}{H:List HB}{R:List RB}{B:List FB}{Fs:List (wO→Fq→Prop)}
theorem AO.putRow(h:AO X w' f' H R B Fs)(hw:w.heap.size≤w'.heap.size)(O:∀b,b∈Cf H R→b<w.heap.size)(U:∀b,X.MI b→b<w.heap.size)(Z:X.w0.heap.size≤w.heap.size){size c n:Nat}
   (W:BQ w' e size a c n xs) (F:∀b,rb a=some b→w.heap.size≤b∧f' b=0):AO X w' f' H (⟨e,size,a,c,n,xs⟩::R) B Fs:=by
 cases G:rb a with
 |none =>
   have J:Cf H (⟨e,size,a,c,n,xs⟩::R)=Cf H R:=by simp only[Cf,List.filterMap_cons,G]
   exact {h with
     row:=λr hm=>by rcases List.mem_cons.1 hm with rfl|hm;exact W;exact h.row r hm,
     nd:=by rw[J];exact h.nd,
     own:=by rw[J];exact h.own,
     rnw:=λr hm b F=>by rcases List.mem_cons.1 hm with rfl|hm;(rw[G] at F;cases F);exact h.rnw r hm b F}
 |some b =>
   obtain⟨hn,hz⟩:=F b G;have J:Cf H (⟨e,size,a,c,n,xs⟩::R)=H.map (·.b)++b::(R.filterMap λr=>rb r.a):=by simp only[Cf,List.filterMap_cons,G]
   have Y:(H.map (·.b)++b::(R.filterMap λr=>rb r.a)).Perm (b::Cf H R):=List.perm_middle;have K:X.w0.heap.size≤b:=Nat.le_trans Z hn
   exact {h with
     row:=λr hm=>by rcases List.mem_cons.1 hm with rfl|hm;exact W;exact h.row r hm,
     nd:=by rw[J];exact Y.nodup_iff.2 (List.nodup_cons.2 ⟨λhm=>by have:=O b hm;omega,h.nd⟩),
     own:=λk L=>by
       rw[J] at L;rcases List.mem_cons.1 (Y.mem_iff.1 L) with rfl|L
       · exact⟨hz,.inl K,λhm=>by have:=U _ hm;omega⟩
       · exact h.own k L,
     rnw:=λr hm b' D=>by
       rcases List.mem_cons.1 hm with rfl|hm
       · rw[G] at D;cases D;exact K
       · exact h.rnw r hm b' D }
end
def bJ{α:Type}(e:tI)(size:Nat)(val:α→oA→Nat→Value)(n:α→Nat)(xs:α→lV)(q:α→Prop)(MI:Nat→Prop)(I':α→wO→Fq→Prop)(w:wO)(f:Fq)(v:Value)(w':wO):Prop :=
 ∃x a c f',v=val x a c∧q x∧C9 MI w f w' f'∧BQ w' e size a c (n x) (xs x)∧(∀b,rb a=some b→w.heap.size≤b∧f' b=0)∧I' x w' f'
section
variable{P:Program}{n:Nat}{Q:AV}{ds:List Deferred}{X:Cx}{R:List RB}{B:List FB}{Fs:List (wO→Fq→Prop)}{fs:List Fr}{σ:Ba}{H:List HB}
variable{all r:List Oper}{ty T:tI}{pos:String}{af:Array Edge}{g:Option (Nat×Bool)}{d:Nat}{op:Op}{fid:FuncId}{args:Array Value}{α:Type}
theorem N3{size:Nat}{val:α→oA→Nat→Value}{m:α→Nat}{xs:α→lV}{q:α→Prop}{I':α→wO→Fq→Prop}
   (K:gd all σ g=some true) (hd:Nat.blt d n=true) (he:∀w,Enters P σ op ty w fid args)
   (L:∀w f,AO X w f H R B Fs→AX P fid args w (bJ e size val m xs q X.MI I' w f)) (G:∀x,ED X.MI (I' x))
   (h:∀x a c,q x→A1 P n Q ds {X with I:=I' x} (⟨e,size,a,c,m x,xs x⟩::R) B Fs (.ops all r) fs (AI σ d (val x a c)) H):A1 P n Q ds X R B Fs (.ops all (⟨some d,op,ty,pos,af,g⟩::r)) fs σ H:=λw f D=>by
 refine Bh K (A0 hd (he w) (L w f D) ?_);rintro v w' ⟨x,a,c,f',rfl,O,J,U,F,W⟩;exact h x a c O w' f' ((D.callI J W (G x)).putRow J.stp.size (λ_ F=>D.lt F) (λb F=>(D.mi b F).1) D.stp.size U F)
end
end Go.SW
namespace Go.SP
open Go.SW Go.RowKit
structure NR where
 op:Int
 ln:Int
 co:Int
 tx:lU
 nm:Int
 a:oA
 n:Nat
 c:Nat
def JE(x:NR):lV:=[.int .i64 x.op,.int .i64 x.ln,.int .i64 x.co,S x.tx,.int .i64 x.nm,.slice x.a x.n x.c]
abbrev nrV(x:NR):Value:=.agg #[.int .i64 x.op,.int .i64 x.ln,.int .i64 x.co,S x.tx,.int .i64 x.nm,.slice x.a x.n x.c]
def EM:NR:=⟨0,0,0,[],0,none,0,0⟩
def Bm(T:tI)(h:Nat)(b:Bool)(l c:Int):wO→Fq→Prop:=λw _=>AS w h [.bool b,.int .i64 l,.int .i64 c] T
theorem Bm.stab{T:tI}{D:Nat}{b:Bool}{l c:Int}:ED (λb=>b=D) (Bm T D b l c):=λ_ _ _ _ h _ F=>(F D C).trans h
def L7(T:tI)(rb:Nat)(h:oA)(n lc:Nat)(i:Nat)(b:Bool)(l c:Int):wO→Fq→Prop:=λw _=>AS w rb [.slice h n lc,.int .i64 i,.bool b,.int .i64 l,.int .i64 c] T
variable {i:Nat}
theorem L7.stab{T:tI}{rb:Nat}{D:oA}{n lc:Nat}{b:Bool}{l c:Int}:ED (λb=>b=rb) (L7 T rb D n lc i b l c):=λ_ _ _ _ h _ F=>(F _ C).trans h
theorem P1{α:Type}{g:α→lV}(k:Nat)(h:∀x,(g x).length=k):∀(l:List α)(q:Nat),(l.flatMap g).take (q*k)=(l.take q).flatMap g
 | [],q=>by simp
 |x::l,0=>by simp
 |x::l,q+1=>by
   rw[List.flatMap_cons,List.take_succ_cons,List.flatMap_cons,← P1 k h l q,List.take_append,h,List.take_of_length_le (by rw[h,Nat.add_mul];omega)]
   congr 2
   rw[Nat.add_mul];omega
def E0(c:UInt8):Bool:=decide ((48:Int)≤c.toNat)&&decide ((c.toNat:Int)≤57)
def Wy(c:UInt8):Bool:=decide ((65:Int)≤c.toNat)&&decide ((c.toNat:Int)≤90)
def pY(c:UInt8):Bool:=decide ((97:Int)≤c.toNat)&&decide ((c.toNat:Int)≤122)
def cI(c:UInt8):Bool:=CT.contains c||pY c
theorem Uu(c:UInt8):DQ.contains c=E0 c:=by
 have:∀n:Fin 256,DQ.contains (UInt8.ofNat n.val)=E0 (UInt8.ofNat n.val):=by decide +kernel
 simpa using this ⟨c.toNat,c.toNat_lt⟩
theorem Ug(c:UInt8):D3.contains c=Wy c:=by
 have:∀n:Fin 256,D3.contains (UInt8.ofNat n.val)=Wy (UInt8.ofNat n.val):=by decide +kernel
 simpa using this ⟨c.toNat,c.toNat_lt⟩
theorem UR(c:UInt8):Dh.contains c=pY c:=by
 have:∀n:Fin 256,Dh.contains (UInt8.ofNat n.val)=pY (UInt8.ofNat n.val):=by decide +kernel
 simpa using this ⟨c.toNat,c.toNat_lt⟩
theorem Kh(a b:lU)(c:UInt8):(a++b).contains c=(a.contains c||b.contains c):=by
 rw[Bool.eq_iff_iff];simp
def pI(c:UInt8):Bool:=(c.toNat:Int)==32||((c.toNat:Int)==9||(c.toNat:Int)==10)
def aQ(c:UInt8):Bool:=pI c||((c.toNat:Int)==40||((c.toNat:Int)==41||((c.toNat:Int)==34||(c.toNat:Int)==59)))
theorem Px(c:UInt8):decide ((0:Int)≤Lib.indexByte EA c)=pI c:=by
 have:∀n:Fin 256,decide ((0:Int)≤Lib.indexByte EA (UInt8.ofNat n.val))=pI (UInt8.ofNat n.val):=by decide +kernel
 simpa using this ⟨c.toNat,c.toNat_lt⟩
theorem ZF(c:UInt8):decide (Lib.indexByte NJ c<0)=!aQ c:=by
 have:∀n:Fin 256,decide (Lib.indexByte NJ (UInt8.ofNat n.val)<0)=!aQ (UInt8.ofNat n.val):=by decide +kernel
 simpa using this ⟨c.toNat,c.toNat_lt⟩
theorem WU(c:UInt8):Lib.indexByte Bk c=if E0 c then (c.toNat:Int)-48 else if decide ((97:Int)≤c.toNat)&&decide ((c.toNat:Int)≤102) then (c.toNat:Int)-87 else -1:=by
 have:∀n:Fin 256,Lib.indexByte Bk (UInt8.ofNat n.val)=if E0 (UInt8.ofNat n.val) then ((UInt8.ofNat n.val).toNat:Int)-48 else if decide ((97:Int)≤(UInt8.ofNat n.val).toNat)&&decide (((UInt8.ofNat n.val).toNat:Int)≤102) then ((UInt8.ofNat n.val).toNat:Int)-87 else -1:=by decide +kernel
 have h:=this ⟨c.toNat,c.toNat_lt⟩;simp only[UInt8.ofNat_toNat] at h;exact h
def QB:Nat→Bool→lU→Option (Nat×Bool)
 |n,b,[]=>some (n,b)
 |n,b,c::l=>if E0 c then (if b||decide ((461168601842738790:Int)<(n:Int)) then QB n true l else QB (n*10+(c.toNat-48)) (decide ((4611686018427387904:Int)<((n*10+(c.toNat-48):Nat):Int))) l) else none
def oS(neg:Bool):Option (Nat×Bool)→Option Int
 |none=>none
 |some (n,b)=>if b||((n:Int)==4611686018427387904&&!neg) then none else some (if neg then -(n:Int) else n)
def Wn(s:lU):Option Int:=if AG s==[] then none else oS (F6 s) (QB 0 false (AG s))
def Rep(n:Nat)(b:Bool)(v:Nat):Prop:=(b=false∧n=v∧v≤4611686018427387904)∨(b=true∧4611686018427387904<v)
theorem NA:∀(l:lU)(n:Nat)(b:Bool)(v:Nat),Rep n b v→l.all E0=true→∃n' J,QB n b l=some (n',J)∧Rep n' J (CH v l)
 | [],n,b,v,h,_=>⟨n,b,C,by rw[V8];exact h⟩
 |c::l,n,b,v,h,hd=>by
   simp only[List.all_cons,Bool.and_eq_true] at hd;have K:=hd.1;simp only[E0,Bool.and_eq_true,decide_eq_true_eq] at K;rw[Ml];unfold QB;rw[if_pos hd.1]
   split
   · rename_i d
     simp only[Bool.or_eq_true,decide_eq_true_eq] at d;refine NA l n true _ (.inr ⟨C,?_⟩) hd.2;rcases h with ⟨D,F,L⟩|⟨D,F⟩
     · rcases d with d|d
       · rw[D] at d;cases d
       · omega
     · omega
   · rename_i d
     simp only[Bool.or_eq_true,decide_eq_true_eq,not_or] at d;refine NA l _ _ _ ?_ hd.2;rcases h with ⟨D,F,L⟩|⟨D,F⟩
     · subst F
       rcases Nat.lt_or_ge 4611686018427387904 (n*10+(c.toNat-48)) with G|G
       · exact .inr ⟨decide_eq_true oM,G⟩
       · exact .inl ⟨decide_eq_false oM,C,G⟩
     · exact absurd D d.1
theorem On:∀(l:lU)(n:Nat)(b:Bool),l.all E0=false→QB n b l=none
 | [],_,_,h=>by cases h
 |c::l,n,b,h=>by
   unfold QB
   split
   · rename_i D
     have d:l.all E0=false:=by simpa[D] using h
     split
     · exact On l _ _ d
     · exact On l _ _ d
   · rfl
theorem U7(s:lU):Ey s DQ=s.all E0:=by
 rw[GG]
 congr 1
 funext c
 exact Uu c
theorem aG(s:lU):Wn s=EN s:=by
 unfold Wn EN DJ;rw[U7]
 cases J:(AG s==[]) with
 |true=>simp
 |false =>
   cases d:(AG s).all E0 with
   |false=>rw[On _ _ _ d];simp[oS]
   |true =>
     obtain⟨n,b,D,F⟩:=NA _ 0 false 0 (.inl ⟨C,C,dC⟩) d;rw[D];simp only[Bool.false_eq_true,if_false,oS,Bool.not_false,Bool.and_self,if_true];rcases F with ⟨rfl,rfl,h⟩|⟨rfl,h⟩
     · cases K:F6 s with
       |true=>simp[h]
       |false =>
         simp only[Bool.false_or,Bool.not_false,Bool.and_true,beq_iff_eq,Bool.false_eq_true,if_false]
         split
         · rename_i G;rw[if_neg (by omega)]
         · rename_i G;rw[if_pos (by omega)]
     · rw[if_pos (by simp)]
       split
       · rw[if_neg (by omega)]
       · rw[if_neg (by omega)]
def WY(s:lU):Nat:=if F6 s then 1 else 0
theorem NB(s:lU):WY s≤s.length:=by
 unfold WY
 cases s with
 |nil=>exact Nat.le_refl _
 |cons c l=>split <;> simp
theorem Ie(s:lU):AG s=s.drop (WY s):=by
 rcases GD s with h|⟨r,rfl⟩
 · rw[Fg h,WY,h];rfl
 · rw[Fi];rfl
theorem xK{s:lU}{c:UInt8}(h:s[0]?=some c)(D:((c.toNat:Int)==45)=false):F6 s=false:=by
 cases s with
 |nil=>cases h
 |cons d l =>
   cases h
   have:c≠45:=λe=>by subst e;revert D;decide
   simpa[F6] using this
theorem iZ{s:lU}{c:UInt8}(h:s[0]?=some c)(D:((c.toNat:Int)==45)=true):F6 s=true:=by
 cases s with
 |nil=>cases h
 |cons d l =>
   cases h
   have:c=45:=UInt8.toNat_inj.1 (by rw[beq_iff_eq] at D;show c.toNat=45;omega);subst this;rfl
theorem aA{s:lU}{c:UInt8}(h:s[0]?=some c):F6 s=((c.toNat:Int)==45):=by
 cases d:((c.toNat:Int)==45) with
 |true=>exact iZ h d
 |false=>exact xK h d
theorem aD{s:lU}(h:¬(0:Int)<s.length):F6 s=false:=by
 cases s with
 |nil=>rfl
 |cons c l=>simp only[List.length_cons] at h;omega
theorem US{c:UInt8}(d:decide ((c.toNat:Int)<48)=false)(h:decide ((57:Int)<c.toNat)=false):E0 c=true:=by
 have:=dF d;have:=dF h;simp only[E0,Bool.and_eq_true,decide_eq_true_eq];omega
theorem Ql{c:UInt8}(d:decide ((c.toNat:Int)<48)=true):E0 c=false:=by
 have:=dT d;simp only[E0,Bool.and_eq_false_iff,decide_eq_false_iff_not];omega
theorem Rh{c:UInt8}(d:decide ((57:Int)<c.toNat)=true):E0 c=false:=by
 have:=dT d;simp only[E0,Bool.and_eq_false_iff,decide_eq_false_iff_not];omega
theorem MO{c:UInt8}(h:E0 c=true):48≤c.toNat∧c.toNat≤57:=by
 simp only[E0,Bool.and_eq_true,decide_eq_true_eq] at h;omega
variable {i n:Nat}
theorem iF{b:Bool}{c:UInt8}{l:lU}(h:E0 c=false):QB n b (c::l)=none:=by unfold QB;rw[h];rfl
theorem WG{b:Bool}{c:UInt8}{l:lU}(h:E0 c=true)(d:(b||decide ((461168601842738790:Int)<(n:Int)))=true):QB n b (c::l)=QB n true l:=by
 conv=>lhs;unfold QB
 rw[h,d,if_pos C,if_pos C]
theorem uJ{b:Bool}{c:UInt8}{l:lU}(h:E0 c=true)(d:(b||decide ((461168601842738790:Int)<(n:Int)))=false):QB n b (c::l)=QB (n*10+(c.toNat-48)) (decide ((4611686018427387904:Int)<((n*10+(c.toNat-48):Nat):Int))) l:=by
 conv=>lhs;unfold QB
 rw[h,d,if_pos C,if_neg (by decide)]
theorem dS{s:lU}(h:QB 0 false (AG s)=none):Wn s=none:=by unfold Wn;rw[h];split <;> rfl
theorem KG{s:lU}{b:Bool}(d:WY s≠s.length)(h:QB 0 false (AG s)=some (n,b)):Wn s=oS (F6 s) (some (n,b)):=by
 unfold Wn;rw[h,if_neg];rw[beq_iff_eq,Ie];intro e;have:=NB s;have:=List.drop_eq_nil_iff.1 e;omega
theorem jX{s:lU}(d:WY s=s.length):Wn s=none:=by
 unfold Wn;rw[Ie,d,List.drop_length];rfl
def L2:Bool→Nat→Nat→lU→Option (Bool×Nat×Nat)
 |p,a,b,[]=>some (p,a,b)
 |p,a,b,c::l=>if (c.toNat:Int)==46&&!p then L2 true a b l else if E0 c then (if p then L2 p a (b+1) l else L2 p (a+1) b l) else none
def yL:Option (Bool×Nat×Nat)→Bool
 |none=>false
 |some (p,a,b)=>p&&(a != 0&&(b != 0&&decide (a+b≤15)))
theorem yC{c:UInt8}(h:E0 c=true):((c.toNat:Int)==46)=false:=by
 simp only[E0,Bool.and_eq_true,decide_eq_true_eq] at h;simp;omega
theorem pN:∀(l:lU)(a b:Nat),L2 true a b l=if l.all E0 then some (true,a,b+l.length) else none
 | [],a,b=>by simp[L2]
 |c::l,a,b=>by
   unfold L2
   cases d:E0 c with
   |false=>simp[d]
   |true=>simp only[Bool.not_true,Bool.and_false,Bool.false_eq_true,if_false,if_true,pN l,List.all_cons,d,Bool.true_and,List.length_cons];split <;> simp;omega
theorem pP:∀(x y:lU)(a b:Nat),x.all E0=true→L2 false a b (x++46::y)=if y.all E0 then some (true,a+x.length,b+y.length) else none
 | [],y,a,b,_=>by
   show (if ((46:UInt8).toNat:Int)==46&&!false then L2 true a b y else _)=_;rw[if_pos (by decide),pN];rfl
 |c::x,y,a,b,h=>by
   simp only[List.all_cons,Bool.and_eq_true] at h;rw[List.cons_append];unfold L2;rw[yC h.1];simp only[Bool.false_and,Bool.false_eq_true,if_false,h.1,if_true];rw[pP x y _ _ h.2,List.length_cons]
   split <;> simp;omega
theorem Zh:∀(x:lU)(a b:Nat),x.all E0=true→L2 false a b x=some (false,a+x.length,b)
 | [],a,b,_=>rfl
 |c::x,a,b,h=>by
   simp only[List.all_cons,Bool.and_eq_true] at h;unfold L2;rw[yC h.1];simp only[Bool.false_and,Bool.false_eq_true,if_false,h.1,if_true];rw[Zh x _ _ h.2,List.length_cons];simp;omega
theorem VY:∀(x:lU)(c:UInt8)(y:lU)(a b:Nat),x.all E0=true→E0 c=false→c≠46→L2 false a b (x++c::y)=none
 | [],c,y,a,b,_,h,D=>by
   have F:((c.toNat:Int)==46)=false:=by
     simp only[beq_eq_false_iff_ne,ne_eq];intro e;exact D (UInt8.toNat_inj.1 (by show c.toNat=46;omega))
   simp[L2,h,F]
 |d::x,c,y,a,b,h,G,D=>by
   simp only[List.all_cons,Bool.and_eq_true] at h;rw[List.cons_append];unfold L2;rw[yC h.1];simp only[Bool.false_and,Bool.false_eq_true,if_false,h.1,if_true];exact VY x c y _ _ h.2 G D
theorem VR:∀s:lU,s.all E0=true∨∃x c y,s=x++c::y∧x.all E0=true∧E0 c=false
 | []=>.inl C
 |c::s=>by
   cases D:E0 c with
   |false=>exact .inr ⟨[],c,s,C,C,D⟩
   |true =>
     rcases VR s with h|⟨x,d,y,F,G,J⟩
     · exact .inl (by simp[D,h])
     · exact .inr ⟨c::x,d,y,by rw[F];rfl,by simp[D,G],J⟩
theorem ZY(y:lU):∀x:lU,(∀c∈x,c≠46)→Lib.index (x++46::y) [46]=(x.length:Int)
 | [],_=>by simp[Lib.index,List.isPrefixOf]
 |c::x,h=>by
   have D:=ZY y x λd hd=>h d (.tail _ hd);have F:c≠46:=h c (.head _);rw[List.cons_append];unfold Lib.index;rw[if_neg (by simpa[List.isPrefixOf] using F.symm),D];simp
theorem vA(x y:lU)(h:x.all E0=true):Lib.cut (x++46::y) [46]=(x,y,true):=by
 have d:∀c∈x,c≠46:=λc D e=>by
   have:=yC (List.all_eq_true.1 h c D);subst e
   revert this;decide
 unfold Lib.cut;rw[ZY y x d,if_pos (by omega)];simp
theorem tB(s:lU)(h:∀c∈s,c≠46):(Lib.cut s [46]).2.2=false:=by
 cases d:(Lib.cut s [46]).2.2 with
 |false=>rfl
 |true =>
   have:=Ry d;exact absurd C (h 46 (by rw[this];simp))
theorem eX(s:lU):yL (L2 false 0 0 (AG s))=(B4 s).isSome:=by
 have e:(B4 s).isSome=(Fm s).isSome:=by unfold B4;cases Fm s <;> rfl
 rw[e];unfold Fm DJ;simp only[U7];rcases VR (AG s) with h|⟨x,c,y,O,F,K⟩
 · rw[Zh _ _ _ h,tB _ λc G e=>by have:=yC (List.all_eq_true.1 h c G);subst e;revert this;decide]
   simp[yL]
 · rw[O]
   by_cases G:c=46
   · subst G
     rw[pP _ _ _ _ F,vA _ _ F]
     cases L:y.all E0 with
     |false=>simp[yL,L]
     |true =>
       simp only[if_true,yL,F,L,Bool.true_and,Bool.and_true,Nat.zero_add]
       cases x with
       |nil=>simp
       |cons c x =>
         cases y with
         |nil=>simp
         |cons d y =>
           simp only[List.length_cons]
           by_cases Y:x.length+1+(y.length+1)≤15
           · rw[if_pos (by simp;omega)];simp;omega
           · rw[if_neg (by simp;omega)];simp;omega
   · rw[VY _ _ _ _ _ F K G]
     cases Q:(Lib.cut (x++c::y) [46]).2.2 with
     |false=>simp[yL]
     |true =>
       have U:=Ry Q
       cases D:(Lib.cut (x++c::y) [46]).1.all E0 with
       |false=>simp[yL]
       |true =>
         exfalso
         have:∀(x a:lU)(y b:lU),x.all E0=true→a.all E0=true→x++c::y=a++46::b→c=46:=by
           intro x
           induction x with
           |nil =>
             intro a y b _ D he
             cases a with
             |nil=>exact (List.cons.inj he).1
             |cons d a =>
               have:=(List.cons.inj he).1;subst this;simp only[List.all_cons,Bool.and_eq_true] at D;rw[K] at D;exact absurd D.1 dC
           |cons d x W =>
             intro a y b J D he;simp only[List.all_cons,Bool.and_eq_true] at J
             cases a with
             |nil =>
               have:=(List.cons.inj he).1;subst this;exact absurd J.1 dC
             |cons d2 a =>
               simp only[List.all_cons,Bool.and_eq_true] at D;exact W a y b J.2 D.2 (List.cons.inj he).2
         exact G (this x _ y _ F D U)
def fM(c:UInt8):Bool:=Wy c||(E0 c||pY c)
def gS(c:UInt8):Bool:=Wy c||(E0 c||cI c)
def WA(m:Nat):lU→Bool
 | []=>true
 |c::l=>(E0 c||((c.toNat:Int)==45&&decide ((1:Int)<(m:Int))))&&l.all E0
theorem dN(m:Nat)(l:lU)(c:UInt8):WA m (l++[c])=(WA m l&&(E0 c||(l.isEmpty&&((c.toNat:Int)==45&&decide ((1:Int)<(m:Int)))))):=by
 cases l with
 |nil=>simp[WA]
 |cons d l=>simp[WA,Bool.and_assoc]
theorem c45{c:UInt8}:((c.toNat:Int)==45)=(c==45):=by
 have:∀n:Fin 256,(((UInt8.ofNat n.val).toNat:Int)==45)=(UInt8.ofNat n.val==45):=by decide +kernel
 simpa using this ⟨c.toNat,c.toNat_lt⟩
theorem uU{s:lU}(h:s≠[]):WA s.length s=(!(AG s==[])&&Ey (AG s) DQ):=by
 rw[U7];rcases GD s with d|⟨r,rfl⟩
 · rw[Fg d]
   cases s with
   |nil=>exact absurd C h
   |cons c l =>
     have:c≠45:=by simpa[F6] using d
     have D:(c==45)=false:=by simpa using this
     simp[WA,c45,D]
 · rw[Fi]
   cases r with
   |nil=>rfl
   |cons c l=>simp[WA,show E0 45=false from C];intros;omega
theorem tk1{s:lU}{c:UInt8}(d:s[i]?=some c):s.take (i+1)=s.take i++[c]:=by
 obtain⟨h,he⟩:=List.getElem?_eq_some_iff.1 d;rw[List.take_succ_eq_append_getElem h,he]
theorem GI{s:lU}{c:UInt8}{b:Bool}{p:UInt8→Bool}(d:s[i]?=some c):(b&&(s.take (i+1)).all p)=((b&&(s.take i).all p)&&p c):=by
 rw[tk1 d,List.all_append,List.all_cons,List.all_nil,Bool.and_true,Bool.and_assoc]
theorem Nk{s:lU}{c:UInt8}(h:s[i]?=some c):WA s.length (s.take (i+1))=(WA s.length (s.take i)&&(E0 c||(((i:Int)==0)&&((c.toNat:Int)==45&&decide ((1:Int)<(s.length:Int)))))):=by
 obtain⟨D,he⟩:=List.getElem?_eq_some_iff.1 h;rw[tk1 h,dN]
 have:(s.take i).isEmpty=((i:Int)==0):=by
   cases i with
   |zero=>rfl
   |succ i =>
     cases s with
     |nil=>simp at D
     |cons d s=>rfl
 rw[this]
theorem wP(s:lU):Ey s (D3++Dh++DQ)=s.all fM:=by
 rw[GG]
 congr 1
 funext c
 rw[Kh,Kh,Ug,UR,Uu];unfold fM
 cases Wy c <;> cases pY c <;> cases E0 c <;> rfl
theorem vS(s:lU):Ey s (D3++Dh++DQ++CT)=s.all gS:=by
 rw[GG]
 congr 1
 funext c
 rw[Kh,Kh,Kh,Ug,UR,Uu];unfold gS cI
 cases Wy c <;> cases pY c <;> cases E0 c <;> cases CT.contains c <;> rfl
theorem lI(c:UInt8):Ey [c] D3=Wy c:=by rw[GG];simp only[List.all_cons,List.all_nil,Bool.and_true];exact Ug c
theorem jG(c:UInt8):Ey [c] (Dh++CT)=cI c:=by
 rw[GG];simp only[List.all_cons,List.all_nil,Bool.and_true];rw[Kh,UR];exact Bool.or_comm _ _
def wdV(s:lU)(d c n:Bool):Option (Int×Int×lU):=if d then none else if c then some (6,0,s) else if n then some (5,0,s) else none
theorem Wa{s:lU}{c:UInt8}(h:s[0]?=some c)(D:EN s=none)(F:B4 s=none)(G:s.length≤40):D9 s=wdV s (WA s.length s) (Wy c&&s.all fM) (cI c&&s.all gS):=by
 cases s with
 |nil=>cases h
 |cons d l =>
   cases h
   rw[BZ D F];unfold xJ wdV;rw[show (c::l).take 1=[c] from C,lI,jG,wP,vS,uU (by simp)];rw[show decide ((40:Int)<(c::l).length)=false from decide_eq_false (by omega),Bool.false_or]
theorem xY{s:lU}(d:EN s=none)(h:B4 s=none)(D:40<s.length):D9 s=none:=by
 rw[BZ d h];unfold xJ;rw[show decide ((40:Int)<s.length)=true from decide_eq_true (by omega)];rfl
end Go.SP
namespace Go.SW
open Go.RowKit
section
variable{P:Program}{σ:Ba}{w:wO}{ty T T':tI}{x y:Operand}
variable {b:Nat}{t t':tI}
theorem Jt{k:FloatKind}{a r:Nat}(D:ev σ x=some (.float k a))(F:ev σ y=some (.float k b))(h:k.format.mul a b=some r):AK P σ (.binOp .mul t x y t') ty w (.float k r) w :=
 λG _ _ _ _ d=>by simp[execOp,d _ _ D,d _ _ F,eqGuard,binOp,Op.floatArith,h]
theorem VO{k:FloatKind}{a r:Nat}(D:ev σ x=some (.float k a))(F:ev σ y=some (.float k b))(h:k.format.add a b=some r):AK P σ (.binOp .add t x y t') ty w (.float k r) w :=
 λG _ _ _ _ d=>by simp[execOp,d _ _ D,d _ _ F,eqGuard,binOp,Op.floatArith,h]
theorem nL{k:IntKind}{a b:Int}(m:Int)(D:ev σ x=some (.int k a))(F:ev σ y=some (.int k b))(h:k.wrap (BitVec.ofInt k.bits a ^^^ BitVec.ofInt k.bits b).toNat=m):AK P σ (.binOp .xor t x y t') ty w (.int k m) w :=
 λG _ _ _ _ d=>by
   simp only[execOp,d _ _ D,d _ _ F,eqGuard,binOp,Op.intBits,h,ne_eq,not_true_eq_false,if_false];rfl
end
end Go.SW
namespace Go.SP
open Ieee Go.SW
def Gf(x:Nat):Prop:=x≤9218868437227405312
inductive Pz:Datum→Prop where
 |num (m:Nat) (p:Int):Pz (.number false m p)
 |inf:Pz (.infinity false)
theorem Gf.read{x:Nat}(h:Gf x):Pz (double.read x):=by
 have h:x≤9218868437227405312:=h;unfold Format.read;simp only[show double.signWeight=9223372036854775808 from by decide,show double.infRung=9218868437227405312 from by decide]
 have d:(x / 9223372036854775808 % 2==1)=false:=by
   have:x / 9223372036854775808=0:=Nat.div_eq_of_lt oM;rw[this];rfl
 have D:x % 9223372036854775808=x:=Nat.mod_eq_of_lt oM;rw[d,D]
 split
 · exact .num _ _
 · split
   · exact .num _ _
   · split
     · exact .inf
     · omega
theorem Pz.write{d:Datum}(h:Pz d):Gf (double.write d):=by
 cases h with
 |num m p =>
   show double.nearest false m p≤_;unfold Format.nearest
   split
   · decide
   · simp only[Format.word,Bool.false_eq_true,if_false]
     exact Nat.le_trans (Nat.min_le_right _ _) dC
 |inf=>exact Nat.le_of_eq dC
def YJ:Nat:=4621819117588971520
theorem dA:double.read YJ=.number false 5629499534213120 (-49):=by decide +kernel
theorem mulG{x:Nat}(h:Gf x):∃r,Gf r∧FloatKind.f64.format.mul x YJ=some r:=by
 show ∃r,Gf r∧((double.read x).product (double.read YJ)).map double.write=some r;rw[dA];have d:=h.read
 revert d
 cases double.read x with
 |nan s t=>intro h;cases h
 |infinity s=>intro h;cases h;exact⟨_,Pz.write .inf,C⟩
 |number s m p=>intro h;cases h;exact⟨_,Pz.write (.num _ _),C⟩
theorem yX{x y:Nat}(h:Gf x)(d:Gf y):∃r,Gf r∧FloatKind.f64.format.add x y=some r:=by
 show ∃r,Gf r∧((double.read x).sum (double.read y)).map double.write=some r;have D:=h.read;have F:=d.read
 revert D F
 cases double.read x with
 |nan s t=>intro h;cases h
 |infinity s =>
   intro h;cases h
   cases double.read y with
   |nan s t=>intro h;cases h
   |infinity s=>intro h;cases h;exact⟨_,Pz.write .inf,C⟩
   |number s m p=>intro h;cases h;exact⟨_,Pz.write .inf,C⟩
 |number s m p =>
   intro h;cases h
   cases double.read y with
   |nan s t=>intro h;cases h
   |infinity s=>intro h;cases h;exact⟨_,Pz.write .inf,C⟩
   |number s n q =>
     intro h;cases h;refine⟨_,Pz.write ?_,C⟩
     have:(if signed false m (p-min p q).toNat+signed false n (q-min p q).toNat=0 then false&&false else decide (signed false m (p-min p q).toNat+signed false n (q-min p q).toNat<0))=false:=by
       split
       · rfl
       · rw[decide_eq_false_iff_not]
         simp only[signed,Bool.false_eq_true,if_false];exact Int.not_lt.2 (Int.add_nonneg (Int.natCast_nonneg _) (Int.natCast_nonneg _))
     rw[this];exact .num _ _
theorem natG(n:Nat):Gf (FloatKind.f64.nearest (n:Int)):=Lm n
def tenL:List Nat:=[4607182418800017408,4621819117588971520,4636737291354636288,4652007308841189376,4666723172467343360,4681608360884174848,4696837146684686336,4711630319722168320,4726483295884279808,4741671816366391296,4756540486875873280,4771362005757984768,4786511204640096256,4801453603149578240,4816244402031689728,4831355200913801216]
def Kf(b:Nat):Nat:=tenL.getD (min b 15) 0
theorem Z9:∀b:Fin 15,FloatKind.f64.format.mul (Kf b.val) YJ=some (Kf (b.val+1)):=by decide +kernel
variable {b:Nat}
theorem K7(h:b+1≤15):FloatKind.f64.format.mul (Kf b) YJ=some (Kf (b+1)):=Z9 ⟨b,oM⟩
theorem L0(h:¬b+1≤15):Kf (b+1)=Kf b:=by unfold Kf;rw[show min (b+1) 15=15 by omega,show min b 15=15 by omega]
theorem wW:∀b:Fin 16,(double.read (Kf b.val)).isNaN=false∧(double.read (Kf b.val)).isInfinity=false∧(double.read (Kf b.val)).isZero=false:=by decide +kernel
theorem divG{x:Nat}(h:Gf x)(b:Nat):∃r,FloatKind.f64.format.div x (Kf b)=some r:=by
 have D:(double.read x).isNaN=false:=by
   have:=h.read
   revert this
   cases double.read x with
   |nan s t=>intro h;cases h
   |infinity s=>intro _;rfl
   |number s m p=>intro _;rfl
 have d:=wW ⟨min b 15,oM⟩;have e:Kf (min b 15)=Kf b:=by unfold Kf;rw[show min (min b 15) 15=min b 15 by omega]
 simp only[e] at d;obtain⟨r,F⟩:=Pr (k:=double.fractionBits+2) D d;exact⟨double.write r,congrArg (Option.map double.write) F⟩
theorem u8_ex(v:Int):∃c:UInt8,IntKind.u8.wrap v=(c.toNat:Int):=by
 have h:0≤IntKind.u8.wrap v∧IntKind.u8.wrap v<256:=by
   unfold IntKind.wrap;simp[IntKind.bits,IntKind.signed];omega
 refine⟨UInt8.ofNat (IntKind.u8.wrap v).toNat,?_⟩;rw[UInt8.toNat_ofNat',Nat.mod_eq_of_lt (by omega)];omega
theorem mE{a:Nat}{c:UInt8}{l:lU}(h:((c.toNat:Int)==46)=true):L2 false a b (c::l)=L2 true a b l:=by
 conv=>lhs;unfold L2
 rw[h,if_pos (by decide)]
theorem F5{p:Bool}{a:Nat}{c:UInt8}{l:lU}(h:E0 c=true):L2 p a b (c::l)=if p then L2 p a (b+1) l else L2 p (a+1) b l:=by
 conv=>lhs;unfold L2
 rw[yC h,h];rfl
theorem Li{p:Bool}{a:Nat}{c:UInt8}{l:lU}(h:E0 c=false)(d:(((c.toNat:Int)==46)&&!p)=false):L2 p a b (c::l)=none:=by
 conv=>lhs;unfold L2
 rw[d,h,if_neg (by decide),if_neg (by decide)]
theorem iR{s:lU}(h:L2 false 0 0 (AG s)=none):B4 s=none:=by
 have:=eX s;rw[h] at this
 cases d:B4 s with
 |none=>rfl
 |some x=>rw[d] at this;cases this
theorem KA{s:lU}{p:Bool}{a:Nat}(h:L2 false 0 0 (AG s)=some (p,a,b)):(B4 s).isSome=(p&&(a != 0&&(b != 0&&decide (a+b≤15)))):=by
 rw[← eX s,h];rfl
end Go.SP
namespace Go.Proofs.YtnojaendcldjpaaGreatDoor
open Go.SW Go.SP Go.RowKit Go.Proofs.Tryz
theorem aN(w:wO)(f:Fq)(hv:Vl w f)(s:lU)(hl:s.length≤100000) :
   AX prog 88 #[S s] w (AU (α:=Int×Int) (λx=>.tuple #[.int .i64 x.1,.int .i64 x.2]) (λx=>(x.2=0∧Wn s=some x.1)∨(x.2≠0∧Wn s=none)) (λ_=>[]) w f):=by
 have h0l:=NB s;refine Ed [] func88 C C C (Be hv tQ tQ)<|Aa 18 (λ_=>?_)
 · refine OE (α:=Unit) (λx=>True) (λx=>(E4 0 (S s) 4 (.bool false) 5 (.int .i64 0) 15 (.bool (F6 s)))) (λx=>X0 w f) (λx=>[]) (λx=>[]) (λx=>[]) (λx=>[]) ?_ ?_
   refine Aa 5 (λ_=>Ap 11 C C (λF=>?_) (λF=>?_));refine Aa 1 (λ_=>?_);have h0p:=dT F;refine Aa 1 (And.intro oM<|λK D=>λ_=>?_)
   skip
   exact Aa 3 (λ_=>Lx () tQ (yO C C C (congrArg (λb=>some (Value.bool b)) (aA D).symm)) (λw f d=>⟨f,d⟩));exact Aa 5 (λ_=>Lx () tQ (yO C C C (congrArg (λb=>some (Value.bool b)) (aD (dF F)).symm)) (λw f d=>⟨f,d⟩));rintro⟨⟩ -;refine Aa 1 (λ_=>?_);refine OE (α:=Unit) (λx=>True) (λx=>(E3 0 (S s) 4 (.bool (F6 s)) 5 (.int .i64 (WY s:Int)))) (λx=>X0 w f) (λx=>[]) (λx=>[]) (λx=>[]) (λx=>[]) ?_ ?_;refine Ap 15 C C (λF=>?_) (λF=>?_);exact Aa 9 (λ_=>Lx () tQ (lu3 C (congrArg (λb=>some (Value.bool b)) F.symm) (by rw[show WY s=1 from if_pos F];rfl)) (λw f d=>⟨f,d⟩));exact Aa 2 (λ_=>Lx () tQ (lu3 C (congrArg (λb=>some (Value.bool b)) F.symm) (by rw[show WY s=0 from if_neg (by rw[F];decide)];rfl)) (λw f d=>⟨f,d⟩));rintro⟨⟩ -;refine Aa 10 (λ_=>Ap 19 C C (λF=>?_) (λF=>?_));exact Aa 9 (λ_=>A5 (λw f d=>Bl C (Af C) (Af C)) (λw f d=>⟨(0,2),f,C,.inr ⟨dC,jX (by have:=eq_of_beq F;omega)⟩,d.exm,tQ⟩));refine Aa 11 (λ_=>?_);refine DK (α:=Nat×Nat×Bool) (λx=>s.length-x.1) (λx=>x.1≤s.length∧QB x.2.1 x.2.2 (s.drop x.1)=QB 0 false (AG s)∧x.2.1≤4611686018427387909∧(x.2.2=false→x.2.1≤4611686018427387904)) (λx=>(E5 0 (S s) 4 (.bool (F6 s)) 5 (.int .i64 (x.1:Int)) 6 (.int .u64 (x.2.1:Int)) 7 (.bool x.2.2))) (λx=>X0 w f) (λx=>[]) (λx=>[]) (λx=>[]) (λx=>[]) ((WY s,0,false)) ⟨NB s,by rw[Ie],Nat.zero_le _,λ_=>Nat.zero_le _⟩ lE (λw f d=>d) ?_;rintro⟨i,n,b⟩ ⟨hi,L,hn,hb⟩;dsimp only at hi L hn hb ⊢;refine Aa 9 (λ_=>Ap 23 C C (λZ=>?_) (λZ=>?_));refine Aa 7 (λ_=>?_);have hil:=dT Z;refine Aa 4 (And.intro oM<|λK D=>λ_=>?_);replace D:s[i]?=some K:=D;refine Aa 2 (λ_=>?_)
   · refine Ap 30 C C (λO=>?_) (λO=>?_)
     refine Aa 18 (λ_=>Hf<|Aa 2 (λ_=>?_));have U:E0 K=false:=Ql O
     rotate_left
     refine Aa 3 (And.intro oM<|λc2 hc2=>λ_=>?_);obtain rfl:K=c2:=Option.some.inj (D.symm.trans hc2);refine Aa 4 (λ_=>Ap 35 C C (λQ=>?_) (λQ=>?_));refine Aa 11 (λ_=>Hf<|Aa 2 (λ_=>?_));have U:E0 K=false:=Rh Q
     rotate_left
     refine Aa 5 (λ_=>?_);have U:=US O Q;have hrg:=MO U;have W:=AB D;refine Aa 3 (λ_=>Ap 37 C C (λG=>?_) (λG=>?_));exact Aa 20 (And.intro ⟨oM,oM⟩<|λ_=>Ce ((i+1,n,true)) (show s.length-(i+1)<s.length-i by omega) ⟨show i+1≤_ by omega,(WG U (by rw[G];rfl)).symm.trans (W▸L),hn,λh=>by cases h⟩ lE (λw f d=>⟨_,d⟩));refine Aa 5 (λ_=>Ap 40 C C (λh6=>?_) (λh6=>?_));exact Aa 15 (And.intro ⟨oM,oM⟩<|λ_=>Ce ((i+1,n,true)) (show s.length-(i+1)<s.length-i by omega) ⟨show i+1≤_ by omega,(WG U (by rw[G,h6];rfl)).symm.trans (W▸L),hn,λh=>by cases h⟩ lE (λw f d=>⟨_,d⟩));refine Aa 4 (λ_=>?_);have hn2:n≤461168601842738790:=by have:=dF h6;omega
     refine Aa 2 (λ_=>BN C C (λw f d=>KS ((n*10:Nat):Int) C C ((EB (n:=(n:Int)*10) ⟨oM,oM⟩).trans oM))<|Aa 3 (And.intro oM<|λc3 hc3=>λ_=>?_));obtain rfl:K=c3:=Option.some.inj (D.symm.trans hc3);exact BN C C (λw f d=>Ck ((K.toNat-48:Nat):Int) C C ((Io (n:=(K.toNat:Int)-48) ⟨oM,oM⟩).trans oM))<|BN C C (λw f d=>BW (m:=((K.toNat-48:Nat):Int)) C bR (EB ⟨oM,oM⟩))<|BN C C (λw f d=>J0 ((n*10+(K.toNat-48):Nat):Int) C C ((EB (n:=((n*10:Nat):Int)+((K.toNat-48:Nat):Int)) ⟨oM,oM⟩).trans oM))<|Aa 15 (And.intro ⟨oM,oM⟩<|λ_=>Ce ((i+1,n*10+(K.toNat-48),_)) (show s.length-(i+1)<s.length-i by omega) ⟨show i+1≤_ by omega,(uJ U (by rw[G,h6];rfl)).symm.trans (W▸L),show n*10+(K.toNat-48)≤_ by omega,λh=>by have h9:=dF h;show n*10+(K.toNat-48)≤_;omega⟩ lE (λw f d=>⟨_,d⟩))
     all_goals
       rw[AB D,iF U] at L;exact A5 (λw f d=>Bl C (Af C) (Af C)) (λw f d=>⟨(0,2),f,C,.inr ⟨dC,dS L.symm⟩,d.exm,tQ⟩)
   refine Aa 3 (λ_=>Df<|Aa 7 (λ_=>Ap 52 C C (λO=>?_) (λO=>?_)));refine Aa 18 (λ_=>?_);obtain rfl:i=s.length:=by have:=dF Z;omega
   rw[List.drop_length] at L;have Y:=KG (by have:=ne_of_beq_false F;omega) L.symm;have J:Wn s=none:=by rw[Y];simp only[oS,O];rfl
   exact A5 (λw f d=>Bl C (Af C) (Af C)) (λw f d=>⟨(0,4),f,C,.inr ⟨dC,J⟩,d.exm,tQ⟩);refine Aa 3 (λ_=>Ap 55 C C (λQ=>?_) (λQ=>?_));refine Aa 6 (λ_=>Ap 59 C C (λG=>?_) (λG=>?_));replace G:=B5 G;refine Aa 9 (λ_=>?_);obtain rfl:i=s.length:=by have:=dF Z;omega
   rw[List.drop_length] at L;have Y:=KG (by have:=ne_of_beq_false F;omega) L.symm;have J:Wn s=none:=by rw[Y];simp only[oS,O,Q,G];rfl
   exact A5 (λw f d=>Bl C (Af C) (Af C)) (λw f d=>⟨(0,4),f,C,.inr ⟨dC,J⟩,d.exm,tQ⟩);replace G:=B3 G;refine Aa 9 (λ_=>nW 60 true C C G ?_)
   rotate_left
   refine Aa 15 (λ_=>Ap 60 C C (λG=>?_) (λG=>?_))
   rotate_left
   refine Aa 6 (λ_=>?_);have hnb:=hb O;refine BN C C (λw f d=>BW (m:=(n:Int)) C RW (CL ⟨oM,oM⟩))<|Aa 5 (λ_=>?_);obtain rfl:i=s.length:=by have:=dF Z;omega
   rw[List.drop_length] at L;have Y:=KG (by have:=ne_of_beq_false F;omega) L.symm;have J:Wn s=some (n:Int):=by rw[Y];simp only[oS,O,Q,G];rfl
   exact A5 (λw f d=>Bl C (Af C) (Af C)) (λw f d=>⟨(_,0),f,C,.inl ⟨C,J⟩,d.exm,tQ⟩)
   all_goals
     refine Aa 4 (λ_=>?_);have hnb:=hb O;refine BN C C (λw f d=>BW (m:=(n:Int)) C RW (CL ⟨oM,oM⟩))<|BN C C (λw f d=>Lw (-(n:Int)) C ((CL (n:=0-(n:Int)) ⟨oM,oM⟩).trans oM))<|Aa 6 (λ_=>?_);obtain rfl:i=s.length:=by have:=dF Z;omega
     rw[List.drop_length] at L;have Y:=KG (by have:=ne_of_beq_false F;omega) L.symm;have J:Wn s=some (-(n:Int)):=by rw[Y];simp only[oS,O,Q,G];rfl
     exact A5 (λw f d=>Bl C (Af C) (Af C)) (λw f d=>⟨(_,0),f,C,.inl ⟨C,J⟩,d.exm,tQ⟩)

theorem cT(w:wO)(f:Fq)(h:Vl w f)(x:Nat) :
   AX prog 125 #[.float .f64 x] w (AU (α:=Int) (λz=>.int .u64 z) (λ_=>True) (λ_=>[]) w f):=by
 refine Ed [] func125 C C C (Be h tQ tQ)<|Aa 10 (λ_=>BN C C (λw f d=>YG C C)<|Aa 2 (λ_=>Ap 5 C C (λD=>?_) (λD=>?_)));exact Aa 8 (λ_=>A5 (Cb C C) (λw f d=>⟨_,f,C,tQ,d.exm,tQ⟩));exact Aa 6 (λ_=>BN C C (λw f d=>V3 func154 C C ZR dX C C C)<|Aa 4 (λ_=>A5 (Cb C C) (λw f d=>⟨_,f,C,tQ,d.exm,tQ⟩)))
theorem ZU(w:wO)(f:Fq)(Z:Vl w f)(s:lU)(hl:s.length≤100000) :
   AX prog 89 #[S s] w (AU (α:=Int×Int) (λx=>.tuple #[.int .u64 x.1,.int .i64 x.2]) (λx=>(x.2=0∧(B4 s).isSome=true)∨(x.2≠0∧B4 s=none)) (λ_=>[]) w f):=by
 have h0l:=NB s;refine Ed [] func89 C C C (Be Z tQ tQ)<|Aa 18 (λ_=>?_)
 · refine OE (α:=Unit) (λx=>True) (λx=>(E4 0 (S s) 4 (.bool false) 5 (.int .i64 0) 20 (.bool (F6 s)))) (λx=>X0 w f) (λx=>[]) (λx=>[]) (λx=>[]) (λx=>[]) ?_ ?_
   refine Aa 5 (λ_=>Ap 16 C C (λQ=>?_) (λQ=>?_));refine Aa 1 (λ_=>?_);have h0p:=dT Q;refine Aa 1 (And.intro oM<|λO F=>λ_=>?_)
   skip
   exact Aa 3 (λ_=>Lx () tQ (yO C C C (congrArg (λb=>some (Value.bool b)) (aA F).symm)) (λw f h=>⟨f,h⟩));exact Aa 5 (λ_=>Lx () tQ (yO C C C (congrArg (λb=>some (Value.bool b)) (aD (dF Q)).symm)) (λw f h=>⟨f,h⟩));rintro⟨⟩ -;refine Aa 1 (λ_=>?_);refine OE (α:=Unit) (λx=>True) (λx=>(E3 0 (S s) 4 (.bool (F6 s)) 5 (.int .i64 (WY s:Int)))) (λx=>X0 w f) (λx=>[]) (λx=>[]) (λx=>[]) (λx=>[]) ?_ ?_;refine Ap 20 C C (λQ=>?_) (λQ=>?_);exact Aa 9 (λ_=>Lx () tQ (lu3 C (congrArg (λb=>some (Value.bool b)) Q.symm) (by rw[show WY s=1 from if_pos Q];rfl)) (λw f h=>⟨f,h⟩));exact Aa 2 (λ_=>Lx () tQ (lu3 C (congrArg (λb=>some (Value.bool b)) Q.symm) (by rw[show WY s=0 from if_neg (by rw[Q];decide)];rfl)) (λw f h=>⟨f,h⟩));rintro⟨⟩ -;refine Aa 17 (λ_=>?_);refine DK (α:=Nat×Nat×Nat×Nat×Nat×Bool) (λx=>s.length-x.1) (λx=>x.1≤s.length∧L2 x.2.2.2.2.2 x.2.2.2.1 x.2.2.2.2.1 (s.drop x.1)=L2 false 0 0 (AG s)∧Gf x.2.1∧x.2.2.1=x.2.2.2.1+x.2.2.2.2.1∧x.2.2.1≤x.1) (λx=>(E9 0 (S s) 4 (.bool (F6 s)) 5 (.int .i64 (x.1:Int)) 6 (.float .f64 x.2.1) 7 (.float .f64 (Kf x.2.2.2.2.1)) 8 (.int .i64 (x.2.2.1:Int)) 9 (.int .i64 (x.2.2.2.1:Int)) 10 (.int .i64 (x.2.2.2.2.1:Int)) 11 (.bool x.2.2.2.2.2))) (λx=>X0 w f) (λx=>[]) (λx=>[]) (λx=>[]) (λx=>[]) ((WY s,0,0,0,0,false)) ⟨NB s,by rw[Ie],Nat.zero_le _,C,Nat.zero_le _⟩ lE (λw f h=>h) ?_;rintro⟨i,v,d,a,b,p⟩ ⟨hi,D,Z,hd,hdi⟩;dsimp only at hi D Z hd hdi ⊢;refine Aa 9 (λ_=>Ap 24 C C (λQ=>?_) (λQ=>?_));refine Aa 7 (λ_=>?_);have hil:=dT Q;refine Aa 4 (And.intro oM<|λO F=>λ_=>?_);replace F:s[i]?=some O:=F;refine Aa 2 (λ_=>?_)
   · refine Ap 31 C C (λh2=>?_) (λh2=>?_)
     refine Aa 5 (λ_=>Ap 34 C C (λJ=>?_) (λJ=>?_));replace J:=B5 J;refine Aa 2 (λ_=>?_);have G:=AB F;exact Aa 13 (And.intro ⟨oM,oM⟩<|λ_=>Ce ((i+1,v,d,a,b,true)) (show s.length-(i+1)<s.length-i by omega) ⟨show i+1≤_ by omega,(mE h2).symm.trans (by rw[G,J] at D;exact D),Z,hd,show d≤i+1 by omega⟩ lE (λw f h=>⟨_,h⟩));replace J:=B3 J;refine Aa 9 (And.intro oM<|λc2 hc2=>λ_=>?_);obtain rfl:O=c2:=Option.some.inj (F.symm.trans hc2);refine Aa 2 (λ_=>Ap 39 C C (λh4=>?_) (λh4=>?_));refine Aa 18 (λ_=>Hf<|Aa 2 (λ_=>?_));have K:E0 O=false:=Ql h4;rw[AB F,Li K (by rw[J];exact Bool.and_false _)] at D
     rotate_left
     refine Aa 3 (And.intro oM<|λc3 hc3=>λ_=>?_);obtain rfl:O=c3:=Option.some.inj (F.symm.trans hc3);refine Aa 4 (λ_=>Ap 44 C C (λh5=>?_) (λh5=>?_));refine Aa 11 (λ_=>Hf<|Aa 2 (λ_=>?_));have K:E0 O=false:=Rh h5;rw[AB F,Li K (by rw[J];exact Bool.and_false _)] at D
     rotate_left
     refine Aa 4 (λ_=>?_);have K:=US h4 h5;have hrg:=MO K;have G:=AB F;refine Aa 13 (And.intro ⟨oM,oM⟩<|λ_=>Ap 48 C C (λL=>?_) (λL=>?_));refine Aa 1 (λ_=>?_);obtain⟨v1,hv1,hm1⟩:=mulG Z;obtain⟨v2,W,ha2⟩:=yX hv1 (natG (O.toNat-48));refine Aa 2 (λ_=>BN C C (λw f h=>Jt C C hm1)<|Aa 3 (And.intro oM<|λc4 hc4=>λ_=>?_));obtain rfl:O=c4:=Option.some.inj (F.symm.trans hc4);refine BN C C (λw f h=>Ck ((O.toNat-48:Nat):Int) C C ((Io (n:=(O.toNat:Int)-48) ⟨oM,oM⟩).trans oM))<|BN C C (λw f h=>Uv C P9)<|BN C C (λw f h=>VO C C ha2)<|Aa 8 (λ_=>nW 57 true C C J<|Aa 14 (And.intro ⟨oM,oM⟩<|λ_=>Ap 61 C C (λU=>?_) (λU=>?_)));exact Aa 3 (λ_=>BN C C (λw f h=>Jt C C (K7 (b:=b) (by have:=dT U;omega)))<|Aa 9 (And.intro ⟨oM,oM⟩<|λ_=>Ce ((i+1,v2,d+1,a,(b+1),p)) (show s.length-(i+1)<s.length-i by omega) ⟨show i+1≤_ by omega,(by rw[G,F5 K,J] at D;rw[J];exact D),W,show d+1=a+(b+1) by omega,show d+1≤i+1 by omega⟩ lE (λw f h=>⟨_,h⟩)));exact Aa 9 (And.intro ⟨oM,oM⟩<|λ_=>Ce ((i+1,v2,d+1,a,(b+1),p)) (show s.length-(i+1)<s.length-i by omega) ⟨show i+1≤_ by omega,(by rw[G,F5 K,J] at D;rw[J];exact D),W,show d+1=a+(b+1) by omega,show d+1≤i+1 by omega⟩ (fH C C C C (congrArg (λt=>some (Value.float .f64 t)) (L0 (b:=b) (by have:=dF U;omega)).symm) C C C C) (λw f h=>⟨_,h⟩));refine Aa 8 (λ_=>nW 57 true C C J<|Aa 14 (And.intro ⟨oM,oM⟩<|λ_=>Ap 61 C C (λU=>?_) (λU=>?_)));exact Aa 3 (λ_=>BN C C (λw f h=>Jt C C (K7 (b:=b) (by have:=dT U;omega)))<|Aa 9 (And.intro ⟨oM,oM⟩<|λ_=>Ce ((i+1,v,d+1,a,(b+1),p)) (show s.length-(i+1)<s.length-i by omega) ⟨show i+1≤_ by omega,(by rw[G,F5 K,J] at D;rw[J];exact D),Z,show d+1=a+(b+1) by omega,show d+1≤i+1 by omega⟩ lE (λw f h=>⟨_,h⟩)));exact Aa 9 (And.intro ⟨oM,oM⟩<|λ_=>Ce ((i+1,v,d+1,a,(b+1),p)) (show s.length-(i+1)<s.length-i by omega) ⟨show i+1≤_ by omega,(by rw[G,F5 K,J] at D;rw[J];exact D),Z,show d+1=a+(b+1) by omega,show d+1≤i+1 by omega⟩ (fH C C C C (congrArg (λt=>some (Value.float .f64 t)) (L0 (b:=b) (by have:=dF U;omega)).symm) C C C C) (λw f h=>⟨_,h⟩));refine Aa 14 (And.intro oM<|λc2 hc2=>λ_=>?_);obtain rfl:O=c2:=Option.some.inj (F.symm.trans hc2);refine Aa 2 (λ_=>Ap 39 C C (λJ=>?_) (λJ=>?_));refine Aa 18 (λ_=>Hf<|Aa 2 (λ_=>?_));have K:E0 O=false:=Ql J;rw[AB F,Li K (by rw[h2];rfl)] at D
     rotate_left
     refine Aa 3 (And.intro oM<|λc3 hc3=>λ_=>?_);obtain rfl:O=c3:=Option.some.inj (F.symm.trans hc3);refine Aa 4 (λ_=>Ap 44 C C (λh4=>?_) (λh4=>?_));refine Aa 11 (λ_=>Hf<|Aa 2 (λ_=>?_));have K:E0 O=false:=Rh h4;rw[AB F,Li K (by rw[h2];rfl)] at D
     rotate_left
     refine Aa 4 (λ_=>?_);have K:=US J h4;have hrg:=MO K;have G:=AB F;refine Aa 13 (And.intro ⟨oM,oM⟩<|λ_=>Ap 48 C C (λh5=>?_) (λh5=>?_));refine Aa 1 (λ_=>?_);obtain⟨v1,hv1,hm1⟩:=mulG Z;obtain⟨v2,W,ha2⟩:=yX hv1 (natG (O.toNat-48));refine Aa 2 (λ_=>BN C C (λw f h=>Jt C C hm1)<|Aa 3 (And.intro oM<|λc4 hc4=>λ_=>?_));obtain rfl:O=c4:=Option.some.inj (F.symm.trans hc4);refine BN C C (λw f h=>Ck ((O.toNat-48:Nat):Int) C C ((Io (n:=(O.toNat:Int)-48) ⟨oM,oM⟩).trans oM))<|BN C C (λw f h=>Uv C P9)<|BN C C (λw f h=>VO C C ha2)<|Aa 8 (λ_=>Ap 57 C C (λL=>?_) (λL=>?_));refine Aa 14 (And.intro ⟨oM,oM⟩<|λ_=>Ap 61 C C (λU=>?_) (λU=>?_));exact Aa 3 (λ_=>BN C C (λw f h=>Jt C C (K7 (b:=b) (by have:=dT U;omega)))<|Aa 9 (And.intro ⟨oM,oM⟩<|λ_=>Ce ((i+1,v2,d+1,a,(b+1),p)) (show s.length-(i+1)<s.length-i by omega) ⟨show i+1≤_ by omega,(by rw[G,F5 K,L] at D;rw[L];exact D),W,show d+1=a+(b+1) by omega,show d+1≤i+1 by omega⟩ lE (λw f h=>⟨_,h⟩)));exact Aa 9 (And.intro ⟨oM,oM⟩<|λ_=>Ce ((i+1,v2,d+1,a,(b+1),p)) (show s.length-(i+1)<s.length-i by omega) ⟨show i+1≤_ by omega,(by rw[G,F5 K,L] at D;rw[L];exact D),W,show d+1=a+(b+1) by omega,show d+1≤i+1 by omega⟩ (fH C C C C (congrArg (λt=>some (Value.float .f64 t)) (L0 (b:=b) (by have:=dF U;omega)).symm) C C C C) (λw f h=>⟨_,h⟩));exact Aa 13 (And.intro ⟨oM,oM⟩<|And.intro ⟨oM,oM⟩<|λ_=>Ce ((i+1,v2,d+1,(a+1),b,p)) (show s.length-(i+1)<s.length-i by omega) ⟨show i+1≤_ by omega,(by rw[G,F5 K,L] at D;rw[L];exact D),W,show d+1=(a+1)+b by omega,show d+1≤i+1 by omega⟩ lE (λw f h=>⟨_,h⟩));refine Aa 8 (λ_=>Ap 57 C C (λL=>?_) (λL=>?_));refine Aa 14 (And.intro ⟨oM,oM⟩<|λ_=>Ap 61 C C (λU=>?_) (λU=>?_));exact Aa 3 (λ_=>BN C C (λw f h=>Jt C C (K7 (b:=b) (by have:=dT U;omega)))<|Aa 9 (And.intro ⟨oM,oM⟩<|λ_=>Ce ((i+1,v,d+1,a,(b+1),p)) (show s.length-(i+1)<s.length-i by omega) ⟨show i+1≤_ by omega,(by rw[G,F5 K,L] at D;rw[L];exact D),Z,show d+1=a+(b+1) by omega,show d+1≤i+1 by omega⟩ lE (λw f h=>⟨_,h⟩)));exact Aa 9 (And.intro ⟨oM,oM⟩<|λ_=>Ce ((i+1,v,d+1,a,(b+1),p)) (show s.length-(i+1)<s.length-i by omega) ⟨show i+1≤_ by omega,(by rw[G,F5 K,L] at D;rw[L];exact D),Z,show d+1=a+(b+1) by omega,show d+1≤i+1 by omega⟩ (fH C C C C (congrArg (λt=>some (Value.float .f64 t)) (L0 (b:=b) (by have:=dF U;omega)).symm) C C C C) (λw f h=>⟨_,h⟩));exact Aa 13 (And.intro ⟨oM,oM⟩<|And.intro ⟨oM,oM⟩<|λ_=>Ce ((i+1,v,d+1,(a+1),b,p)) (show s.length-(i+1)<s.length-i by omega) ⟨show i+1≤_ by omega,(by rw[G,F5 K,L] at D;rw[L];exact D),Z,show d+1=(a+1)+b by omega,show d+1≤i+1 by omega⟩ lE (λw f h=>⟨_,h⟩))
     all_goals
       exact A5 (λw f h=>Bl C (Af C) (Af C)) (λw f h=>⟨(0,2),f,C,.inr ⟨dC,iR D.symm⟩,h.exm,tQ⟩)
   refine Aa 3 (λ_=>Df<|Aa 8 (λ_=>Ap 68 C C (λh2=>?_) (λh2=>?_)));replace h2:=B5 h2;refine Aa 18 (λ_=>?_);obtain rfl:i=s.length:=by have:=dF Q;omega
   rw[List.drop_length] at D;have hR:=KA D.symm;have Y:(B4 s).isSome=false:=by rw[h2] at hR;exact hR
   exact A5 (λw f h=>Bl C (Af C) (Af C)) (λw f h=>⟨(0,2),f,C,.inr ⟨dC,by cases hf:B4 s with|none=>rfl|some x=>rw[hf] at Y;cases Y⟩,h.exm,tQ⟩);replace h2:=B3 h2;refine Aa 4 (λ_=>Ap 72 C C (λJ=>?_) (λJ=>?_));refine Aa 14 (λ_=>?_);obtain rfl:i=s.length:=by have:=dF Q;omega
   rw[List.drop_length] at D;have hR:=KA D.symm;have Y:(B4 s).isSome=false:=by have h9:a=0:=(by have:=eq_of_beq J;omega);rw[h9] at hR;rw[hR];simp
   exact A5 (λw f h=>Bl C (Af C) (Af C)) (λw f h=>⟨(0,2),f,C,.inr ⟨dC,by cases hf:B4 s with|none=>rfl|some x=>rw[hf] at Y;cases Y⟩,h.exm,tQ⟩);refine Aa 5 (λ_=>Ap 75 C C (λh4=>?_) (λh4=>?_));refine Aa 9 (λ_=>?_);obtain rfl:i=s.length:=by have:=dF Q;omega
   rw[List.drop_length] at D;have hR:=KA D.symm;have Y:(B4 s).isSome=false:=by have h9:b=0:=(by have:=eq_of_beq h4;omega);rw[h9] at hR;rw[hR];simp
   exact A5 (λw f h=>Bl C (Af C) (Af C)) (λw f h=>⟨(0,2),f,C,.inr ⟨dC,by cases hf:B4 s with|none=>rfl|some x=>rw[hf] at Y;cases Y⟩,h.exm,tQ⟩);refine Aa 10 (λ_=>Ap 77 C C (λh5=>?_) (λh5=>?_));refine Aa 9 (λ_=>?_);obtain rfl:i=s.length:=by have:=dF Q;omega
   rw[List.drop_length] at D;have hR:=KA D.symm;have Y:(B4 s).isSome=false:=by have h9:¬a+b≤15:=(by have:=dT h5;omega);rw[hR];simp[h9]
   exact A5 (λw f h=>Bl C (Af C) (Af C)) (λw f h=>⟨(0,4),f,C,.inr ⟨dC,by cases hf:B4 s with|none=>rfl|some x=>rw[hf] at Y;cases Y⟩,h.exm,tQ⟩);refine Aa 4 (λ_=>?_);obtain⟨q,hq⟩:=divG Z b;refine Aa 3 (λ_=>BN C C (λw f h=>Wo C C hq)<|CR C C (eC jV C C) (λw f h=>cT w f h.vl q) (λx=>trivial) ?_);rintro z -;refine Aa 9 (λ_=>Ap 82 C C (λL=>?_) (λL=>?_));refine Aa 3 (λ_=>BN C C (λw f h=>nL _ C C C) ?_)
   rotate_left
   all_goals
     refine Aa 11 (λ_=>?_);obtain rfl:i=s.length:=by have:=dF Q;omega
     rw[List.drop_length] at D;have hR:=KA D.symm;have Y:(B4 s).isSome=true:=by have h8:=dF h5;have U:=ne_of_beq_false J;have L:=ne_of_beq_false h4;rw[hR,h2];simp;omega
     exact A5 (λw f h=>Bl C (Af C) (Af C)) (λw f h=>⟨(_,0),f,C,.inl ⟨C,Y⟩,h.exm,tQ⟩)

theorem Sj(w:wO)(f:Fq)(O:Vl w f)(z:Int) :
   AX prog 90 #[.int .u64 z] w (AU (α:=lU) (λl=>S l) (λl=>l.length≤100) (λ_=>[]) w f):=by
 refine Ed [] func90 C C C (Be O tQ tQ)<|Aa 17 (λ_=>LY 5 1 ?_);refine DK (α:=Int×lU×oA×Nat) (λx=>(x.1+8).toNat) (λx=>x.1≤56 ∧ -8≤x.1∧(x.2.1.length:Int)*8+x.1=56) (λx=>(E3 0 (.int .u64 z) 3 (.slice x.2.2.1 x.2.1.length x.2.2.2) 4 (.int .i64 x.1))) (λx=>X0 w f) (λx=>[]) (λx=>[⟨5,1,x.2.2.1,x.2.2.2,x.2.1.length,bC x.2.1⟩]) (λx=>[]) (λx=>[]) ((56,[],none,0)) ⟨dC,dC,dC⟩ lE (λw f d=>d) ?_;rintro⟨k,l,oa,oc⟩ ⟨D,F,G⟩;dsimp only at D F G ⊢;refine Aa 7 (λ_=>Ap 6 C C (λL=>?_) (λL=>?_));refine Aa 9 (λ_=>?_);have Q:=dT L;refine BN C C (λw f d=>QA _ C C oM C) ?_;obtain⟨u,hu⟩:=u8_ex (z.fdiv (2 ^ (min k.toNat IntKind.u64.bits)));exact BN C C (λw f d=>BW C aY hu)<|Aa 1 (λb1=>λ_=>Dd 0 0 C C Mn C C C C C C C C (λ_ _=>C) oM oM λJ K=>Aa 9 (And.intro ⟨oM,oM⟩<|λ_=>Ce ((k-8,l++[u],J,K)) (show (k-8+8).toNat<(k+8).toNat by omega) ⟨show k-8≤56 by omega,show -8≤k-8 by omega,by rw[List.length_append,List.length_singleton];omega⟩ ((by have e:(l++[u]).length=l.length+1:=(by simp);dsimp only;rw[e];exact Av lE C)) (λw f d=>⟨_,(by have e:(l++[u]).length=l.length+1:=(by simp);dsimp only;rw[e,Go.SW.bC_app];exact d.less (sD sZ) sR (λ_ h=>h) (λ_ h=>h))⟩)));exact Aa 3 (λ_=>Df<|Aa 5 (λ_=>BN C C (λw f d=>QD (l:=l) C P6 (d.row _ (.head _)))<|Aa 4 (λ_=>A5 (Cb C C) (λw f d=>⟨l,f,C,oM,d.exm,tQ⟩))))
theorem Vt(w:wO)(f:Fq)(h:Vl w f)(c:UInt8)  :
   AX prog 91 #[.int .u8 c.toNat] w (AU (α:=Unit) (λ_=>.bool (Wy c)) (λ_=>True) (λ_=>[]) w f):=by
 refine Ed [] func91 C C C (Be h tQ tQ)<|Aa 10 (λ_=>?_)
 · refine Ap 5 C C (λd=>?_) (λd=>?_)
   rotate_left
   all_goals
     exact Aa 7 (λ_=>A5 (Cb C C) (λw f D=>⟨(),f,(congrArg Value.bool (by unfold Wy;rw[d];rfl)),tQ,D.exm,tQ⟩))

theorem Rt(w:wO)(f:Fq)(h:Vl w f)(c:UInt8)  :
   AX prog 93 #[.int .u8 c.toNat] w (AU (α:=Unit) (λ_=>.bool (E0 c)) (λ_=>True) (λ_=>[]) w f):=by
 refine Ed [] func93 C C C (Be h tQ tQ)<|Aa 10 (λ_=>?_)
 · refine Ap 5 C C (λd=>?_) (λd=>?_)
   rotate_left
   all_goals
     exact Aa 7 (λ_=>A5 (Cb C C) (λw f D=>⟨(),f,(congrArg Value.bool (by unfold E0;rw[d];rfl)),tQ,D.exm,tQ⟩))

theorem Zt(w:wO)(f:Fq)(F:Vl w f)(c:UInt8)  :
   AX prog 53 #[.int .u8 c.toNat] w (AU (α:=Unit) (λ_=>.bool (pI c)) (λ_=>True) (λ_=>[]) w f):=by
 refine Ed [] func53 C C C (Be F tQ tQ)<|Aa 10 (λ_=>?_)
 · refine Ap 5 C C (λd=>?_) (λd=>?_)
   exact Aa 11 (λ_=>A5 (Cb C C) (λw f h=>⟨(),f,(congrArg Value.bool (by unfold pI;rw[d];rfl)),tQ,h.exm,tQ⟩));refine Aa 4 (λ_=>Ap 9 C C (λD=>?_) (λD=>?_))
   rotate_left
   all_goals
     exact Aa 7 (λ_=>A5 (Cb C C) (λw f h=>⟨(),f,(congrArg Value.bool (by unfold pI;rw[d,D];rfl)),tQ,h.exm,tQ⟩))

theorem zL(w:wO)(f:Fq)(J:Vl w f)(c:UInt8)  :
   AX prog 54 #[.int .u8 c.toNat] w (AU (α:=Unit) (λ_=>.bool (aQ c)) (λ_=>True) (λ_=>[]) w f):=by
 refine Ed [] func54 C C C (Be J tQ tQ)<|Aa 8 (λ_=>BO C C (eC aV C C) (λw f d=>Zt w f d.vl c)<|Aa 1 (λ_=>?_))
 · refine Ap 5 C C (λh=>?_) (λh=>?_)
   exact Aa 19 (λ_=>A5 (Cb C C) (λw f d=>⟨(),f,(congrArg Value.bool (by unfold aQ;rw[h];rfl)),tQ,d.exm,tQ⟩));refine Aa 4 (λ_=>Ap 9 C C (λD=>?_) (λD=>?_));exact Aa 15 (λ_=>A5 (Cb C C) (λw f d=>⟨(),f,(congrArg Value.bool (by unfold aQ;rw[h,D];rfl)),tQ,d.exm,tQ⟩));refine Aa 4 (λ_=>Ap 13 C C (λF=>?_) (λF=>?_));exact Aa 11 (λ_=>A5 (Cb C C) (λw f d=>⟨(),f,(congrArg Value.bool (by unfold aQ;rw[h,D,F];rfl)),tQ,d.exm,tQ⟩));refine Aa 4 (λ_=>Ap 17 C C (λG=>?_) (λG=>?_))
   rotate_left
   all_goals
     exact Aa 7 (λ_=>A5 (Cb C C) (λw f d=>⟨(),f,(congrArg Value.bool (by unfold aQ;rw[h,D,F,G];rfl)),tQ,d.exm,tQ⟩))

theorem oX(w:wO)(f:Fq)(Q:Vl w f)(c:UInt8)  :
   AX prog 92 #[.int .u8 c.toNat] w (AU (α:=Unit) (λ_=>.bool (cI c)) (λ_=>True) (λ_=>[]) w f):=by
 refine Ed [] func92 C C C (Be Q tQ tQ)<|Aa 17 (λ_=>?_);refine DK (α:=Nat) (λx=>12-x) (λx=>x≤12∧(CT.take x).contains c=false) (λx=>(E3 0 (.int .u8 c.toNat) 3 (S [39,43,42,47,60,62,61,33,63,95,46,45]) 4 (.int .i64 (x:Int)))) (λx=>X0 w f) (λx=>[]) (λx=>[]) (λx=>[]) (λx=>[]) (0) ⟨Nat.zero_le _,C⟩ lE (λw f h=>h) ?_;rintro i ⟨W,D⟩;have K:([39,43,42,47,60,62,61,33,63,95,46,45]:lU).length=12:=rfl;refine Aa 9 (λ_=>?_)
 · refine Ap 8 C C (λJ=>?_) (λJ=>?_)
   refine Aa 6 (λ_=>?_);have L:i<12:=by have:=dT J;omega
   refine Aa 4 (And.intro oM<|λO d=>λ_=>?_);replace d:CT[i]?=some O:=d;refine Aa 4 (λ_=>Ap 15 C C (λF=>?_) (λF=>?_));exact Aa 9 (λ_=>Hf<|Aa 2 (λ_=>A5 (Cb C C) (λw f h=>⟨(),f,(congrArg Value.bool (by unfold cI;rw[show CT.contains c=true from by rw[← UInt8.toNat_inj.1 (show O.toNat=c.toNat by have:=eq_of_beq F;omega)];exact List.contains_iff_mem.2 (List.mem_of_getElem? (l:=CT) d)];rfl)),tQ,h.exm,tQ⟩)));refine Aa 9 (And.intro ⟨oM,oM⟩<|λ_=>?_);have G:(CT.take (i+1)).contains c=false:=by rw[tk1 d,Kh,D];have U:=F;simp;intro e;subst e;simp at U
   exact Ce (i+1) (show 12-(i+1)<12-i by omega) ⟨show i+1≤12 by omega,G⟩ lE (λw f h=>⟨_,h⟩);refine Aa 3 (λ_=>Df<|Aa 7 (λ_=>Ap 18 C C (λF=>?_) (λF=>?_)))
   rotate_left
   all_goals
     exact Aa 7 (λ_=>A5 (Cb C C) (λw f h=>⟨(),f,(congrArg Value.bool (by rw[show i=12 by have:=dF J;omega] at D;unfold cI;rw[show CT.contains c=false from D];unfold pY;rw[F];rfl)),tQ,h.exm,tQ⟩))

theorem mO(w:wO)(f:Fq)(J:Vl w f)(c:UInt8)  :
   AX prog 56 #[.int .u8 c.toNat] w (AU (α:=Unit) (λ_=>.int .i64 (Lib.indexByte Bk c)) (λ_=>True) (λ_=>[]) w f):=by
 refine Ed [] func56 C C C (Be J tQ tQ)<|Aa 9 (λ_=>BO C C (eC Qi C C) (λw f d=>Rt w f d.vl c)<|Aa 2 (λ_=>Ap 4 C C (λh=>?_) (λh=>?_)));refine Aa 2 (λ_=>?_);have K:=MO h;exact Aa 2 (λ_=>BN C C (λw f d=>Ck ((c.toNat:Int)-48) C C (Io ⟨oM,oM⟩))<|BN C C (λw f d=>BW (m:=(c.toNat:Int)-48) C Rf (CL ⟨oM,oM⟩))<|Aa 5 (λ_=>A5 (Cb C C) (λw f d=>⟨(),f,(congrArg (Value.int .i64) (by rw[WU,if_pos h])),tQ,d.exm,tQ⟩)));refine Aa 9 (λ_=>Ap 10 C C (λD=>?_) (λD=>?_));refine Aa 5 (λ_=>Ap 13 C C (λF=>?_) (λF=>?_));refine Aa 2 (λ_=>?_);have L:=dT D;have G:=dT F;exact Aa 2 (λ_=>BN C C (λw f d=>Ck ((c.toNat:Int)-97) C C (Io ⟨oM,oM⟩))<|BN C C (λw f d=>BW (m:=(c.toNat:Int)-97) C Rf (CL ⟨oM,oM⟩))<|Aa 6 (And.intro ⟨oM,oM⟩<|λ_=>A5 (Cb C C) (λw f d=>⟨(),f,(congrArg (Value.int .i64) (by rw[WU,if_neg (by rw[h];decide),if_pos (by rw[D,F];rfl)];omega)),tQ,d.exm,tQ⟩)));exact Aa 9 (λ_=>A5 (Cb C C) (λw f d=>⟨(),f,(congrArg (Value.int .i64) (by rw[WU,if_neg (by rw[h];decide),if_neg (by rw[D,F];simp)])),tQ,d.exm,tQ⟩));exact Aa 14 (λ_=>A5 (Cb C C) (λw f d=>⟨(),f,(congrArg (Value.int .i64) (by rw[WU,if_neg (by rw[h];decide),if_neg (by rw[D];simp)])),tQ,d.exm,tQ⟩))
theorem oV(w:wO)(f:Fq)(hv:Vl w f)(s:lU)(hl:s.length≤100000)(L:UInt8)(h0:s[0]?=some L) :
   AX prog 55 #[S s] w (AU (α:=Int×Int×lU×Bool) (λx=>.tuple #[.agg #[.int .i64 x.1,.int .i64 0,.int .i64 0,.int .i64 x.2.1,S x.2.2.1],.bool x.2.2.2]) (λx=>(x.2.2.2=false∧D9 s=none)∨(x.2.2.2=true∧(∃tx,D9 s=some (x.1,x.2.1,tx)∧(x.1≠3→x.2.2.1=tx))∧x.2.2.1.length≤100000)) (λ_=>[]) w f):=by
 refine Ed [] func55 C C C (Be hv tQ tQ)<|Aa 10 (λb1=>λ_=>CR C C (eC sW C C) (λw f d=>aN w f d.vl s hl) (λx=>trivial) ?_);rintro⟨z,e⟩ W;dsimp only at W ⊢;refine Aa 13 (λ_=>Ap 18 C C (λh1=>?_) (λh1=>?_));refine Ae 11 [0] (y<|λ_=>?_);have hz:EN s=some z:=by rw[← aG];exact W.elim (λh=>h.2) (λh=>absurd (eq_of_beq h1) h.1)
 exact A5 (λw f d=>Bl C (Ab C Oh d.k0 C) (Af C)) (λw f d=>⟨(2,z,[],true),f,C,.inr ⟨C,⟨[],by unfold D9;rw[hz],λ_=>C⟩,Nat.zero_le _⟩,d.exm,tQ⟩);refine Aa 7 (λ_=>?_);have hz:EN s=none:=by rw[← aG];exact W.elim (λh=>absurd h.1 (ne_of_beq_false h1)) (λh=>h.2)
 refine CR C C (eC tD C C) (λw f d=>ZU w f d.vl s hl) (λx=>trivial) ?_;rintro⟨yv,e2⟩ J;dsimp only at J ⊢;refine Aa 13 (λ_=>Ap 27 C C (λY=>?_) (λY=>?_));refine Aa 4 (λ_=>CR C C (eC qW C C) (λw f d=>Sj w f d.vl yv) (λx=>trivial) ?_);rintro l8 hl8;refine Ae 7 [0] (y<|λ_=>?_);obtain⟨x8,hx8⟩:=Option.isSome_iff_exists.1 (J.elim (λh=>h.2) (λh=>absurd (eq_of_beq Y) h.1));exact A5 (λw f d=>Bl C (Ab C Oh d.k0 C) (Af C)) (λw f d=>⟨(3,0,l8,true),f,C,.inr ⟨C,⟨LP x8,by unfold D9;rw[hz];simp only[hx8],λh=>absurd C h⟩,Nat.le_trans hl8 dC⟩,d.exm,tQ⟩);refine Aa 11 (λ_=>Ap 33 C C (λh3=>?_) (λh3=>?_));refine Ae 10 [0] (y<|λ_=>?_);have U:B4 s=none:=J.elim (λh=>absurd h.1 (ne_of_beq_false Y)) (λh=>h.2);exact A5 (λw f d=>Bl C (Ab C Oh d.k0 C) (Af C)) (λw f d=>⟨(0,0,[],false),f,C,.inl ⟨C,xY hz U (by have:=dT h3;omega)⟩,d.exm,tQ⟩);refine Aa 4 (λ_=>Cq [0] Aj (rd [0,1,3,4] (.br 2 (.br 5 (.rd 6 (.rd 7 .fin)) .fin) .fin)) C kR<|Bf 1 (λ_=>Iz C C C (λw hK=>C1 C C LM dC h0)<|Bf 1 (λ_=>Iz C C C (λw hK=>C1 C C LM dC h0)<|Ak C<|BO C C (eC UQ C C) (λw f d=>Vt w f d.vl L)<|Aa 1 (λ_=>Ar [0] C ?_))));refine Ak C<|BO C C (eC bH C C) (λw f d=>oX w f d.vl L)<|Aa 1 (λ_=>Ar [0] C<|Bf 2 (λ_=>BG<|Aa 13 (λ_=>?_)));refine DK (α:=Nat) (λx=>s.length-x) (λx=>x≤s.length) (λx=>(E6 0 (S s) 2 (.pointer (some ⟨b1,0,none⟩)) 8 (.bool (Wy L&&(s.take x).all fM)) 9 (.bool (cI L&&(s.take x).all gS)) 10 (.bool (WA s.length (s.take x))) 11 (.int .i64 (x:Int)))) (λx=>X0 w f) (λx=>[⟨b1,[.int .i64 0,.int .i64 0,.int .i64 0,.int .i64 0,.string ⟨#[]⟩],97,true⟩]) (λx=>[]) (λx=>[]) (λx=>[]) (0) (Nat.zero_le _) (Yw C C (congrArg (λb=>some (Value.bool b)) (Bool.and_true _).symm) (congrArg (λb=>some (Value.bool b)) (Bool.and_true _).symm) C C) (λw f d=>d) ?_;rintro i hi;refine Aa 9 (λ_=>?_)
 · refine Ap 44 C C (λh4=>?_) (λh4=>?_)
   refine Aa 6 (λ_=>?_);have hil:i<s.length:=by have:=dT h4;omega
   obtain⟨c,F⟩:=G7 hil;refine OE (α:=Unit) (λx=>True) (λx=>(E6 0 (S s) 2 (.pointer (some ⟨b1,0,none⟩)) 8 (.bool (Wy L&&(s.take (i+1)).all fM)) 9 (.bool (cI L&&(s.take i).all gS)) 10 (.bool (WA s.length (s.take i))) 11 (.int .i64 (i:Int)))) (λx=>X0 w f) (λx=>[⟨b1,[.int .i64 0,.int .i64 0,.int .i64 0,.int .i64 0,.string ⟨#[]⟩],97,true⟩]) (λx=>[]) (λx=>[]) (λx=>[]) ?_ ?_;refine Aa 3 (λ_=>Ap 48 C C (λD=>?_) (λD=>?_));refine Aa 3 (And.intro oM<|λc1 O=>λ_=>?_);obtain rfl:c=c1:=Option.some.inj (F.symm.trans O);refine BO C C (eC UQ C C) (λw f d=>Vt w f d.vl c)<|Aa 1 (λ_=>Ap 53 C C (λG=>?_) (λG=>?_));exact Aa 20 (λ_=>Lx () tQ (Yw C C (congrArg (λb=>some (Value.bool b)) (show _=_ from (by rw[GI F,D];unfold fM;rw[G];rfl))) C C C) (λw f d=>⟨f,d⟩));refine Aa 3 (And.intro oM<|λc2 Q=>λ_=>?_);obtain rfl:c=c2:=Option.some.inj (F.symm.trans Q);refine BO C C (eC Qi C C) (λw f d=>Rt w f d.vl c)<|Aa 2 (λ_=>Ap 59 C C (λK=>?_) (λK=>?_));exact Aa 14 (λ_=>Lx () tQ (Yw C C (congrArg (λb=>some (Value.bool b)) (show _=_ from (by rw[GI F,D];unfold fM;rw[G,K];rfl))) C C C) (λw f d=>⟨f,d⟩));refine Aa 3 (And.intro oM<|λc3 Z=>λ_=>?_);obtain rfl:c=c3:=Option.some.inj (F.symm.trans Z);refine Aa 2 (λ_=>Ap 64 C C (λh8=>?_) (λh8=>?_));refine Aa 3 (And.intro oM<|λc4 hc4=>λ_=>?_);obtain rfl:c=c4:=Option.some.inj (F.symm.trans hc4);refine Aa 6 (λ_=>?_)
   rotate_left
   refine Aa 9 (λ_=>?_)
   rotate_left
   exact Aa 25 (λ_=>Lx () tQ (Yw C C (congrArg (λb=>some (Value.bool b)) (show _=_ from (by rw[GI F,D];rfl))) C C C) (λw f d=>⟨f,d⟩));rintro⟨⟩ -;refine Aa 2 (λ_=>?_)
   · refine OE (α:=Unit) (λx=>True) (λx=>(E6 0 (S s) 2 (.pointer (some ⟨b1,0,none⟩)) 8 (.bool (Wy L&&(s.take (i+1)).all fM)) 9 (.bool (cI L&&(s.take (i+1)).all gS)) 10 (.bool (WA s.length (s.take i))) 11 (.int .i64 (i:Int)))) (λx=>X0 w f) (λx=>[⟨b1,[.int .i64 0,.int .i64 0,.int .i64 0,.int .i64 0,.string ⟨#[]⟩],97,true⟩]) (λx=>[]) (λx=>[]) (λx=>[]) ?_ ?_
     refine Aa 3 (λ_=>?_)
     · refine Ap 73 C C (λD=>?_) (λD=>?_)
       refine Aa 3 (And.intro oM<|λc1 O=>λ_=>?_);obtain rfl:c=c1:=Option.some.inj (F.symm.trans O);refine BO C C (eC UQ C C) (λw f d=>Vt w f d.vl c)<|Aa 1 (λ_=>Ap 78 C C (λG=>?_) (λG=>?_));exact Aa 14 (λ_=>Lx () tQ (Yw C C C (congrArg (λb=>some (Value.bool b)) (show _=_ from (by rw[GI F,D];unfold gS;rw[G];rfl))) C C) (λw f d=>⟨f,d⟩));refine Aa 3 (And.intro oM<|λc2 Q=>λ_=>?_);obtain rfl:c=c2:=Option.some.inj (F.symm.trans Q);refine BO C C (eC Qi C C) (λw f d=>Rt w f d.vl c)<|Aa 2 (λ_=>Ap 84 C C (λK=>?_) (λK=>?_));refine Aa 8 (λ_=>?_)
       rotate_left
       refine Aa 3 (And.intro oM<|λc3 Z=>λ_=>?_);obtain rfl:c=c3:=Option.some.inj (F.symm.trans Z);refine BO C C (eC bH C C) (λw f d=>oX w f d.vl c)<|Aa 4 (λ_=>?_)
       rotate_left
       exact Aa 19 (λ_=>Lx () tQ (Yw C C C (congrArg (λb=>some (Value.bool b)) (show _=_ from (by rw[GI F,D];rfl))) C C) (λw f d=>⟨f,d⟩))
       all_goals
         exact Lx () tQ (Yw C C C (congrArg (λb=>some (Value.bool b)) (show _=_ from (by rw[GI F,D];unfold gS;rw[G,K];rfl))) C C) (λw f d=>⟨f,d⟩)
     rintro⟨⟩ -;refine Aa 1 (λ_=>?_);refine OE (α:=Unit) (λx=>True) (λx=>(E6 0 (S s) 2 (.pointer (some ⟨b1,0,none⟩)) 8 (.bool (Wy L&&(s.take (i+1)).all fM)) 9 (.bool (cI L&&(s.take (i+1)).all gS)) 10 (.bool (WA s.length (s.take (i+1)))) 11 (.int .i64 (i:Int)))) (λx=>X0 w f) (λx=>[⟨b1,[.int .i64 0,.int .i64 0,.int .i64 0,.int .i64 0,.string ⟨#[]⟩],97,true⟩]) (λx=>[]) (λx=>[]) (λx=>[]) ?_ ?_;refine Aa 3 (λ_=>Ap 92 C C (λD=>?_) (λD=>?_));refine Aa 3 (And.intro oM<|λc1 O=>λ_=>?_);obtain rfl:c=c1:=Option.some.inj (F.symm.trans O);refine BO C C (eC Qi C C) (λw f d=>Rt w f d.vl c)<|Aa 1 (λ_=>Ap 97 C C (λG=>?_) (λG=>?_));exact Aa 17 (λ_=>Lx () tQ (Yw C C C C (congrArg (λb=>some (Value.bool b)) (show _=_ from (by rw[Nk F,D];rw[G];rfl))) C) (λw f d=>⟨f,d⟩));refine Aa 3 (λ_=>Ap 100 C C (λK=>?_) (λK=>?_));refine Aa 3 (And.intro oM<|λc2 Q=>λ_=>?_);obtain rfl:c=c2:=Option.some.inj (F.symm.trans Q);refine Aa 3 (λ_=>Ap 106 C C (λh8=>?_) (λh8=>?_))
     rotate_left
     rotate_left
     exact Aa 14 (λ_=>Lx () tQ (Yw C C C C (congrArg (λb=>some (Value.bool b)) (show _=_ from (by rw[Nk F,D];rw[G,K];rfl))) C) (λw f d=>⟨f,d⟩));exact Aa 22 (λ_=>Lx () tQ (Yw C C C C (congrArg (λb=>some (Value.bool b)) (show _=_ from (by rw[Nk F,D];rfl))) C) (λw f d=>⟨f,d⟩));rintro⟨⟩ -;exact Aa 7 (And.intro ⟨oM,oM⟩<|λ_=>Ce (i+1) (show s.length-(i+1)<s.length-i by omega) (show i+1≤_ by omega) lE (λw f d=>⟨_,d⟩))
     all_goals
       exact Aa 8 (λ_=>Lx () tQ (Yw C C C C (congrArg (λb=>some (Value.bool b)) (show _=_ from (by rw[Nk F,D];rw[G,K,h8];rfl))) C) (λw f d=>⟨f,d⟩))
   refine Aa 3 (λ_=>Df<|Aa 4 (λ_=>?_));obtain rfl:i=s.length:=by have:=dF h4;omega
   rw[List.take_length];refine Aa 4 (λ_=>?_)
   · refine Ap 113 C C (λD=>?_) (λD=>?_)
     refine Ae 10 [0] (y<|λ_=>?_);have U:B4 s=none:=J.elim (λh=>absurd h.1 (ne_of_beq_false Y)) (λh=>h.2);have hw:=Wa h0 hz U (by have:=dF h3;omega);rw[D] at hw
     rotate_left
     refine Aa 9 (λ_=>Ap 115 C C (λG=>?_) (λG=>?_));refine Ae 11 [0] (y<|λ_=>?_);have U:B4 s=none:=J.elim (λh=>absurd h.1 (ne_of_beq_false Y)) (λh=>h.2);have hw:=Wa h0 hz U (by have:=dF h3;omega);rw[D,G] at hw;exact A5 (λw f d=>Bl C (Ab C Oh d.k0 C) (Af C)) (λw f d=>⟨(6,0,s,true),f,C,.inr ⟨C,⟨s,hw,λ_=>C⟩,hl⟩,d.exm,tQ⟩);refine Aa 9 (λ_=>Ap 118 C C (λK=>?_) (λK=>?_));refine Ae 11 [0] (y<|λ_=>?_);have U:B4 s=none:=J.elim (λh=>absurd h.1 (ne_of_beq_false Y)) (λh=>h.2);have hw:=Wa h0 hz U (by have:=dF h3;omega);rw[D,G,K] at hw;exact A5 (λw f d=>Bl C (Ab C Oh d.k0 C) (Af C)) (λw f d=>⟨(5,0,s,true),f,C,.inr ⟨C,⟨s,hw,λ_=>C⟩,hl⟩,d.exm,tQ⟩);refine Ae 11 [0] (y<|λ_=>?_);have U:B4 s=none:=J.elim (λh=>absurd h.1 (ne_of_beq_false Y)) (λh=>h.2);have hw:=Wa h0 hz U (by have:=dF h3;omega);rw[D,G,K] at hw
     all_goals
       exact A5 (λw f d=>Bl C (Ab C Oh d.k0 C) (Af C)) (λw f d=>⟨(0,0,[],false),f,C,.inl ⟨C,hw⟩,d.exm,tQ⟩)
   all_goals
     exact Lx () tQ (Yw C C (congrArg (λb=>some (Value.bool b)) (show _=_ from (by rw[GI F,D];unfold fM;rw[G,K];unfold pY;rw[h8];rfl))) C C C) (λw f d=>⟨f,d⟩)

end Go.Proofs.YtnojaendcldjpaaGreatDoor
namespace Go.SP
open Go.SW Go.RowKit
def AF(src:lU)(i:Nat):Ps:=(src.take i).foldl (λp c=>adv c p) (1,1)
section
variable{src:lU}{i k:Nat}{c:UInt8}{l:List Aq}
theorem BA(hc:src[i]?=some c):AF src (i+1)=adv c (AF src i):=by
 unfold AF;rw[tk1 hc,List.foldl_append];rfl
theorem WB:∀i,i≤src.length→Pk i (AF src i)
 |0,_=>by show Pk 0 ((1,1):Ps);exact⟨dC,dC,dC,dC⟩
 |i+1,h=>by
   obtain⟨c,hc⟩:=G7 (show i<src.length by omega);rw[BA hc];exact Pk.adv (WB i oM)
theorem gR(hc:src[i]?=some c)(h:((c.toNat:Int)==10)=true):AF src (i+1)=((AF src i).1+1,1):=by rw[BA hc,adv,if_pos h]
theorem kQ(hc:src[i]?=some c)(h:((c.toNat:Int)==10)=false):AF src (i+1)=((AF src i).1,(AF src i).2+1):=by rw[BA hc,adv,if_neg (by rw[h];decide)]
def nQ(src:lU)(k:Nat):List (Int×Int):=(List.range k).map (AF src)
theorem cZ(k:Nat):nQ src (k+1)=nQ src k++[AF src k]:=by simp[nQ,List.range_succ]
theorem mM(k:Nat):(nQ src k).length=k:=by simp[nQ]
def fL(src:lU)(k m:Nat):lV:=(nQ src k).flatMap ZQ++EV m [.int .i64 0,.int .i64 0]
theorem lL(k m:Nat):DT (fL src k (m+1)) (k*2) [.int .i64 (AF src k).1,.int .i64 (AF src k).2]=fL src (k+1) m:=by
 unfold fL;have h:((nQ src k).flatMap ZQ).length=k*2:=by rw[KC 2 (λ_=>C),mM]
 rw[cZ,BR,← h,EV];exact N9 _ _ _ _ C
variable {f:Fq}{m:Nat}{w:wO}
theorem Jj{b i k:Nat}(h:Cs w f b 0 (fL src k m))(D:i<k):Cs w f b (0+i*2) (ZQ (AF src i)) :=
 Cs.flat ZQ 2 (λ_=>C) _ _ _ _ (Cs.le h) (by simp[nQ,D])
def Aq.ft(t:Aq):Aq:=if t.k==3 then ⟨t.k,t.ln,t.co,t.nm,[]⟩ else t
def aC(src:lU)(i:Nat)(l:List Aq):Prop:=∃n lp,src.length≤n+i∧lp.map Aq.ft=l.map Aq.ft∧(∀t∈l,t.tx.length≤100000)∧FU (src.length+1) src.length (1,1) src=R2 lp (FU (src.length+1) n (AF src i) (src.drop i))
theorem aC.start:aC src 0 []:=⟨src.length,[],Nat.le_refl _,C,(λ_ h=>by cases h),by rw[RV];rfl⟩
variable {ot:List Aq}
theorem aC.step{ot':List Aq}(h:aC src i l)(hc:src[i]?=some c)(D:Dw (src.length+1) (AF src i) (src.drop i)=.ok (ot,src.drop k,AF src k))(K:i<k)(F:ot.map Aq.ft=ot'.map Aq.ft)(G:∀t∈ot',t.tx.length≤100000):aC src k (l++ot'):=by
 obtain⟨n,lp,h1,h2,h3,h4⟩:=h;have:=Ca hc;obtain⟨n,rfl⟩:∃m,n=m+1:=⟨n-1,oM⟩;refine⟨n,lp++ot,oM,by rw[List.map_append,List.map_append,h2,F],λt J=>(List.mem_append.1 J).elim (h3 t) (G t),NG hc D h4⟩
theorem aC.bad{e:Ps}(h:aC src i l)(D:src.length≤60000)(hc:src[i]?=some c)(he:Dw (src.length+1) (AF src i) (src.drop i)=.error e):EG src=.error (e.1,e.2,10):=by
 obtain⟨n,lp,h1,h2,h3,h4⟩:=h;have:=Ca hc;obtain⟨n,rfl⟩:∃m,n=m+1:=⟨n-1,oM⟩;rw[Pp hc he] at h4;unfold EG;rw[if_neg (by simp;omega),h4];rfl
theorem aC.fin(h:aC src src.length l)(D:src.length≤60000):(∃lp,EG src=.ok lp∧lp.map Aq.ft=l.map Aq.ft)∧∀t∈l,t.tx.length≤100000:=by
 obtain⟨n,lp,h1,h2,h3,h4⟩:=h;rw[List.drop_length,Hz] at h4;refine⟨⟨lp,?_,h2⟩,h3⟩;unfold EG;rw[if_neg (by simp;omega),h4];simp[R2]
theorem PW(hc:src[i]?=some c)(h1:pI c=false)(h2:((c.toNat:Int)==59)=false)(h3:((c.toNat:Int)==40)=false)(h4:((c.toNat:Int)==41)=false)(h5:((c.toNat:Int)==34)=false)
   (D:Co (AF src i) (src.drop i)=(Cu src i k,src.drop k,AF src k)):Dw (src.length+1) (AF src i) (src.drop i)=(match D9 (Cu src i k) with
     |none=>.error (AF src i)
     |some (F,nm,tx)=>.ok ([⟨F,(AF src i).1,(AF src i).2,nm,tx⟩],src.drop k,AF src k)):=by
 have he:decide (Lib.indexByte NJ c<0)=true:=by rw[ZF];unfold aQ;rw[h1,h2,h3,h4,h5];rfl
 rw[Ke hc he] at D;simp only[Prod.mk.injEq] at D;rw[B9 hc (by rw[Px];exact h1) h2 h3 h4 h5,D.1,D.2]
 cases D9 (Cu src i k) <;> rfl
theorem mQ{k:Nat}(D:i≤k){x:lU×lU×Ps}(h:Co (AF src i) (src.drop i)=(Cu src i k++(Co (AF src k) (src.drop k)).1,(Co (AF src k) (src.drop k)).2))(hc:src[k]?=some c)(he:aQ c=false) :
   Co (AF src i) (src.drop i)=(Cu src i (k+1)++(Co (AF src (k+1)) (src.drop (k+1))).1,(Co (AF src (k+1)) (src.drop (k+1))).2):=by
 rw[h,Ke hc (by rw[ZF,he];rfl),Od D hc,BA hc];simp
theorem SR{k:Nat}(h:Co (AF src i) (src.drop i)=(Cu src i k++(Co (AF src k) (src.drop k)).1,(Co (AF src k) (src.drop k)).2))(he:¬k<src.length∨∃c,src[k]?=some c∧aQ c=true):Co (AF src i) (src.drop i)=(Cu src i k,src.drop k,AF src k):=by
 rw[h,Kr (he.imp id λ⟨c,h1,h2⟩=>⟨c,h1,by rw[ZF,h2];rfl⟩)];simp
theorem Vn:Co (AF src i) (src.drop i)=(Cu src i i++(Co (AF src i) (src.drop i)).1,(Co (AF src i) (src.drop i)).2):=by rw[NZ];rfl
end
def sR(src:lU)(i:Nat):Except Ps (lU×lU×Ps):=Fp (AF src i) (src.length+1) (AF src (i+1)) [] (src.drop (i+1))
def XG(src:lU)(i k:Nat)(b:lU):Bool→Prop
 |true=>sR src i=if decide ((4096:Int)<b.length) then .error (AF src i) else .ok (b,src.drop k,AF src k)
 |false=>∃n,src.length<n+k∧Fp (AF src i) n (AF src k) b (src.drop k)=sR src i
section
variable{src b:lU}{i k:Nat}{c d:UInt8}
theorem dM(h:i<src.length):XG src i (i+1) [] false:=⟨src.length+1,oM,C⟩
theorem XG.pos(h:XG src i k b false)(D:k<src.length):∃n,src.length<n+(k+1)∧Fp (AF src i) (n+1) (AF src k) b (src.drop k)=sR src i:=by
 obtain⟨n,h1,h2⟩:=h;obtain⟨n,rfl⟩:∃m,n=m+1:=⟨n-1,oM⟩;exact⟨n,oM,h2⟩
theorem aS(h:XG src i k b false)(hc:src[k]?=some c)(h1:((c.toNat:Int)==34)=true):XG src i (k+1) b true:=by
 obtain⟨n,h2,h3⟩:=h.pos (Ca hc);show sR src i=_;rw[← h3]
 cases D:decide ((4096:Int)<b.length) with
 |true=>rw[Sa hc h1 D];rfl
 |false=>rw[TJ hc h1 D,BA hc];rfl
theorem qL(h:XG src i k b false)(hc:src[k]?=some c)(h1:((c.toNat:Int)==34)=false)(h2:decide ((c.toNat:Int)<32)=true):sR src i=.error (AF src k):=by
 obtain⟨n,_,h3⟩:=h.pos (Ca hc);rw[← h3,S5 hc h1 h2]
variable(h:XG src i k b false)(hc:src[k]?=some c)(h1:((c.toNat:Int)==34)=false)(h2:decide ((c.toNat:Int)<32)=false)
include h hc h1 h2
theorem mX(h3:((c.toNat:Int) != 92)=true):XG src i (k+1) (b++[c]) false:=by
 obtain⟨n,h4,h5⟩:=h.pos (Ca hc);refine⟨n,h4,?_⟩;rw[← h5,PL hc h1 h2 h3,BA hc]
variable(h3:((c.toNat:Int) != 92)=false)
include h3
theorem fT(h4:¬k+1<src.length):XG src i (k+1) b false:=by
 obtain⟨n,_,h5⟩:=h.pos (Ca hc);refine⟨1,oM,?_⟩;rw[← h5,PD hc h1 h2 h3 h4,Lq (by omega) h4]
theorem Uq{x:UInt8}(hd:src[k+1]?=some d)(K:(((d.toNat:Int)==34)=true∧x=d)∨(((d.toNat:Int)==92)=true∧x=d)∨(((d.toNat:Int)==34)=false∧((d.toNat:Int)==92)=false∧((d.toNat:Int)==110)=true∧x=10)):XG src i (k+2) (b++[x]) false:=by
 obtain⟨n,h4,h5⟩:=h.pos (Ca hc)
 have he:Ge (adv c (AF src k)) (src.drop (k+1))=.ok (x,src.drop (k+2),AF src (k+2)):=by
   rw[AB hd,BA hd,BA hc]
   cases D:((d.toNat:Int)==34) with
   |true =>
     rcases K with ⟨_,rfl⟩|⟨_,rfl⟩|⟨G,_⟩
     · simp only[Ge,D,if_true]
     · simp only[Ge,D,if_true]
     · rw[D] at G;cases G
   |false =>
     rcases K with ⟨G,_⟩|⟨F,rfl⟩|⟨_,F,J,rfl⟩
     · rw[D] at G;cases G
     · simp only[Ge,D,F,if_true,Bool.false_eq_true,if_false]
     · simp only[Ge,D,F,J,if_true,Bool.false_eq_true,if_false]
 refine⟨n,oM,?_⟩;rw[← h5,LR hc h1 h2 h3 (Ca hd) he]
theorem vW{x y:UInt8}(hd:src[k+1]?=some d)(G:((d.toNat:Int)==34)=false)(J:((d.toNat:Int)==92)=false)(D:((d.toNat:Int)==110)=false)(F:((d.toNat:Int)==120)=true)(K:src[k+2]?=some x)(L:src[k+3]?=some y)
   (O:decide (Lib.indexByte Bk x<0)=false) (Q:decide (Lib.indexByte Bk y<0)=false):XG src i (k+4) (b++[UInt8.ofNat ((Lib.indexByte Bk x).toNat*16+(Lib.indexByte Bk y).toNat)]) false:=by
 obtain⟨n,h4,h5⟩:=h.pos (Ca hc);have U:=dF O;have W:=dF Q
 have he:Ge (adv c (AF src k)) (src.drop (k+1))=.ok (UInt8.ofNat ((Lib.indexByte Bk x).toNat*16+(Lib.indexByte Bk y).toNat),src.drop (k+4),AF src (k+4)):=by
   rw[AB hd,AB K,AB L,BA L,BA K,BA hd,BA hc];simp only[Ge,G,J,D,F,if_true,Bool.false_eq_true,if_false];rw[if_pos];simp only[Bool.and_eq_true,decide_eq_true_eq];omega
 refine⟨n,oM,?_⟩;rw[← h5,LR hc h1 h2 h3 (Ca hd) he]
theorem Q5(hd:src[k+1]?=some d)(J:((d.toNat:Int)==34)=false)(K:((d.toNat:Int)==92)=false)(F:((d.toNat:Int)==110)=false)(D:((d.toNat:Int)==120)=false∨¬k+3<src.length∨(∃x,src[k+2]?=some x∧Lib.indexByte Bk x<0)∨∃x,src[k+3]?=some x∧Lib.indexByte Bk x<0):∃e,sR src i=.error e:=by
 obtain⟨n,h4,h5⟩:=h.pos (Ca hc)
 have he:Ge (adv c (AF src k)) (src.drop (k+1))=.error (adv c (AF src k)):=by
   rw[AB hd]
   cases G:((d.toNat:Int)==120) with
   |false=>simp only[Ge,J,K,F,G,Bool.false_eq_true,if_false]
   |true =>
     rcases Nat.lt_or_ge (k+3) src.length with Q|Q
     · obtain⟨x,L⟩:=G7 (show k+2<src.length by omega)
       obtain⟨y,O⟩:=G7 Q;rw[AB L,AB O];refine OA J K F G ?_;rcases D with D|D|⟨z,D,hz⟩|⟨z,D,hz⟩
       · rw[G] at D;cases D
       · exact absurd Q D
       · rw[L] at D;cases D;exact .inl hz
       · rw[O] at D;cases D;exact .inr hz
     · exact T5 J K F (by rw[List.length_drop];omega)
 exact⟨_,by rw[← h5,Qd hc h1 h2 h3 (Ca hd) he]⟩
end
section
variable{src b:lU}{i k:Nat}{c:UInt8}
theorem uX(h:XG src i k b false)(F:¬k<src.length):sR src i=.error (AF src i):=by
 obtain⟨n,h1,h2⟩:=h;rcases Nat.lt_or_ge 0 n with D|D
 · rw[← h2,Lq D F]
 · obtain rfl:n=0:=oM
   rw[← h2];rfl
variable(hc:src[i]?=some c)(h1:pI c=false)(h2:((c.toNat:Int)==59)=false)(h3:((c.toNat:Int)==40)=false)(h4:((c.toNat:Int)==41)=false)(h5:((c.toNat:Int)==34)=true)
include hc h1 h2 h3 h4 h5
theorem NK:Dw (src.length+1) (AF src i) (src.drop i)=(match sR src i with
     |.error e=>.error e
     |.ok (tx,D,F)=>.ok ([⟨4,(AF src i).1,(AF src i).2,0,tx⟩],D,F)):=by
 rw[Jr hc (by rw[Px];exact h1) h2 h3 h4 h5];unfold sR;rw[BA hc]
 cases Fp (AF src i) (src.length+1) (adv c (AF src i)) [] (src.drop (i+1)) <;> rfl
end
end Go.SP
namespace Go.SP
variable {co ln nm:Int}
theorem ft_eq{k:Int}{tx t:lU}(h:k≠3→tx=t):Aq.ft ⟨k,ln,co,nm,t⟩=Aq.ft ⟨k,ln,co,nm,tx⟩:=by
 unfold Aq.ft
 by_cases D:k=3
 · subst D;rfl
 · rw[h D]
def ScQ(src:lU)(L:List Aq)(e:Int):Prop:=(e=0∧(∃lp,EG src=.ok lp∧lp.map Aq.ft=L.map Aq.ft)∧∀t∈L,t.tx.length≤100000)∨(e=10∧∃p:Ps,EG src=.error (p.1,p.2,10))
end Go.SP
namespace Go.Proofs.YtnojaendcldjpaaGreatDoor
open Go.SW Go.SP Go.RowKit Go.Proofs.Tryz
theorem tscan(w:wO)(f:Fq)(hv:Vl w f)(src:lU)(hsl:src.length≤60000) :
   AX prog 27 #[S src] w (AU (α:=List Aq×oA×Nat×Int×Int×Int) (λx=>.tuple #[.slice x.2.1 x.1.length x.2.2.1,.agg #[.int .i64 x.2.2.2.1,.int .i64 x.2.2.2.2.1],.int .i64 x.2.2.2.2.2]) (λx=>ScQ src x.1 x.2.2.2.2.2) (λx=>[λw f=>Dc Wv w f x.1 x.2.1 x.2.2.1]) w f):=by
 refine Ed [] func27 C C C (Be hv tQ tQ)<|Aa 15 (λb1=>λ_=>?_)
 · refine Ap 22 C C (λh1=>?_) (λh1=>?_)
   exact absurd (dT h1) oM;refine Aa 8 (And.intro ⟨oM,oM⟩<|λ_=>mmk (m:=src.length+1) C C ZM C C C C oM (by unfold maxLen;omega) λO=>Ae 17 [0] (λb2=>y<|λ_=>?_));refine DK (α:=Nat×Nat) (λx=>src.length-x.1) (λx=>x.1+x.2=src.length+1∧x.1≤src.length) (λx=>(E7 0 (S src) 2 (.slice none 0 0) 3 (.pointer (some ⟨b1,0,none⟩)) 4 (.int .i64 0) 5 (.slice (some ⟨O,0,none⟩) (src.length+1) (src.length+1)) 6 (.pointer (some ⟨b2,0,none⟩)) 7 (.int .i64 (x.1:Int)))) (λx=>X0 w f) (λx=>[⟨b2,[.int .i64 (AF src x.1).1,.int .i64 (AF src x.1).2],41,true⟩,⟨b1,[.int .i64 0,.int .i64 0],41,true⟩]) (λx=>[⟨41,2,some ⟨O,0,none⟩,src.length+1,src.length+1,fL src x.1 x.2⟩]) (λx=>[]) (λx=>[]) ((0,src.length+1)) ⟨Nat.zero_add _,Nat.zero_le _⟩ lE (λw f D=>D) ?_;rintro⟨i,m⟩ ⟨him,hi⟩;dsimp only at him hi ⊢;obtain⟨hp1,hp2,hp3,hp4⟩:=WB i hi;refine Aa 9 (λ_=>Ap 32 C C (λh2=>?_) (λh2=>?_));refine Aa 6 (λ_=>?_);have hil:i<src.length:=by have:=dT h2;omega
   obtain⟨m,rfl⟩:∃q,m=q+1:=⟨m-1,oM⟩;refine Ae 5 [0] (y<|And.intro oM<|λ_=>mrs 0 (fL src (i+1) m) C C C C Dx C C C (by simp only[Nat.zero_add,List.length_cons,List.length_nil,Int.toNat_natCast];omega) (by rw[Nat.zero_add,Int.toNat_natCast];exact lL _ _) C<|Ae 16 [0,0] (y<|And.intro ⟨oM,oM⟩<|y<|And.intro oM<|λc1 hc1=>λ_=>?_));replace hc1:src[i]?=some c1:=hc1;refine Aa 3 (λ_=>Ap 46 C C (λh3=>?_) (λh3=>?_));exact Ae 15 [0,0] (y<|And.intro ⟨oM,oM⟩<|y<|And.intro ⟨oM,oM⟩<|λ_=>Ce ((i+1,m)) (show src.length-(i+1)<src.length-i by omega) ⟨show i+1+m=_ by omega,show i+1≤_ by omega⟩ lE (λw f D=>⟨_,(by dsimp only;rw[gR hc1 h3];exact D)⟩));exact Aa 9 (And.intro ⟨oM,oM⟩<|λ_=>Ce ((i+1,m)) (show src.length-(i+1)<src.length-i by omega) ⟨show i+1+m=_ by omega,show i+1≤_ by omega⟩ lE (λw f D=>⟨_,(by dsimp only;rw[kQ hc1 h3];exact D)⟩));refine Aa 3 (λ_=>Df<|Aa 3 (λ_=>?_));obtain rfl:i=src.length:=by have:=dF h2;omega
   obtain rfl:m=1:=oM;refine bE 0 C C<|Aa 11 (λ_=>LY 97 5 ?_);refine DK (α:=Nat×List Aq×oA×Nat) (λx=>src.length-x.1) (λx=>x.1≤src.length∧x.2.1.length≤x.1∧aC src x.1 x.2.1) (λx=>(E7 0 (S src) 2 (.slice none 0 0) 3 (.pointer (some ⟨b1,0,none⟩)) 4 (.int .i64 0) 5 (.slice (some ⟨O,0,none⟩) (src.length+1) (src.length+1)) 8 (.slice x.2.2.1 x.2.1.length x.2.2.2) 9 (.int .i64 (x.1:Int)))) (λx=>X0 w f) (λx=>[⟨b1,[.int .i64 0,.int .i64 0],41,true⟩]) (λx=>[⟨97,5,x.2.2.1,x.2.2.2,x.2.1.length,x.2.1.flatMap Wv⟩]) (λx=>[⟨O,0,fL src src.length 1⟩]) (λx=>[]) ((0,[],none,0)) ⟨Nat.zero_le _,Nat.zero_le _,aC.start⟩ lE (λw f D=>D.less (sD (sK sZ)) sR (λ_ h=>h) (λ_ h=>h)) ?_;rintro⟨i,L,oa,oc⟩ ⟨hi,hl1,Y⟩;dsimp only at hi hl1 Y ⊢;refine Aa 9 (λ_=>Ap 54 C C (λh3=>?_) (λh3=>?_));refine Aa 5 (λ_=>?_);have hil:i<src.length:=by have:=dT h3;omega
   obtain⟨c,U⟩:=G7 hil;refine Hh (α:=Unit) (λx=>True) (λx=>[⟨O,0+i*2,ZQ (AF src i)⟩]) (λx=>[]) (λw f D=>⟨(),tQ,(λe he=>by cases he with|head=>exact Jj D.b0 oM|tail _ h=>cases h),λ_ h=>by cases h⟩) (λx=>Au.mem tQ) ?_;rintro⟨⟩ -;refine Cq [0] Aj (rd [0,1,2,3,4,5,6] (.br 7 (.rd 8 (.br 9 .fin .fin)) .fin)) C kR<|Bf 2 (λ_=>Iz C C C (λw hK=>C1 C C LM oM U)<|By 4 [100,0] (And.intro oM<|y2<|λ_=>Ak C<|Aa 2 (λb3=>λ_=>Ar [1] C<|Bf 1 (λ_=>Ak C<|Ae 2 [0] (y<|λ_=>?_)))));refine Ar [1] C<|BG<|Aa 5 (λ_=>BO C C (eC aV C C) (λw f D=>Zt w f D.vl c)<|Aa 2 (λ_=>Ap 63 C C (λh4=>?_) (λh4=>?_)));refine Aa 11 (And.intro ⟨oM,oM⟩<|λ_=>?_);have Z:=Y.step (ot':=[]) U (by rw[BA U];exact M6 U (by rw[Px];exact h4)) (Nat.lt_succ_self _) C nE;rw[List.append_nil] at Z;exact Ce ((i+1,L,oa,oc)) (show src.length-(i+1)<src.length-i by omega) ⟨show i+1≤_ by omega,show L.length≤i+1 by omega,Z⟩ lE (λw f D=>⟨_,D.less (sD (sK sZ)) sR (λ_ h=>.tail _ (h)) (λ_ h=>h)⟩);refine Aa 10 (λ_=>Ap 67 C C (λh5=>?_) (λh5=>?_));refine Aa 3 (λ_=>?_);refine DK (α:=Nat) (λx=>src.length-x) (λx=>i≤x∧x≤src.length∧L4 (AF src x) (src.drop x)=L4 (AF src i) (src.drop i)) (λx=>(E7 0 (S src) 2 (.slice none 0 0) 3 (.pointer (some ⟨b1,0,none⟩)) 4 (.int .i64 0) 5 (.slice (some ⟨O,0,none⟩) (src.length+1) (src.length+1)) 8 (.slice oa L.length oc) 9 (.int .i64 (x:Int)))) (λx=>X0 w f) (λx=>[⟨b1,[.int .i64 0,.int .i64 0],41,true⟩]) (λx=>[⟨97,5,oa,oc,L.length,L.flatMap Wv⟩]) (λx=>[⟨O,0,fL src src.length 1⟩]) (λx=>[]) (i) ⟨Nat.le_refl _,hi,C⟩ lE (λw f D=>D.less (sD (sK sZ)) sR (λ_ h=>.tail _ (h)) (λ_ h=>h)) ?_;rintro j ⟨hij,hj,hcm⟩;refine Aa 8 (λ_=>?_)
   · refine Ap 72 C C (λh6=>?_) (λh6=>?_)
     refine Aa 2 (λ_=>?_);have hij9:=dT h6;refine Aa 1 (And.intro oM<|λc1 hc1=>λ_=>?_);have J:src[j]?=some c1:=hc1;refine Aa 4 (λ_=>Ap 77 C C (λh7=>?_) (λh7=>?_));exact Aa 10 (And.intro ⟨oM,oM⟩<|λ_=>Ce (j+1) (show src.length-(j+1)<src.length-j by omega) ⟨show i≤j+1 by omega,show j+1≤_ by omega,by rw[← hcm,LO J h7,BA J]⟩ lE (λw f D=>⟨_,D⟩));refine Aa 3 (λ_=>Df<|Aa 5 (λ_=>?_));have hce:=Ju (p:=AF src j) (src:=src) (j:=j) (.inr ⟨_,J,h7⟩);have hij2:i<j:=by rcases Nat.eq_or_lt_of_le hij with e|e;(subst e;exfalso;rw[U] at J;cases J;have h8:=eq_of_beq h5;have h9:=bne_eq_false_iff_eq.1 h7;omega);exact e
     rotate_left
     refine Aa 10 (λ_=>Df<|Aa 5 (λ_=>?_));have hce:=Ju (p:=AF src j) (src:=src) (j:=j) (.inl (by have:=dF h6;omega));have hij2:i<j:=by rcases Nat.eq_or_lt_of_le hij with e|e;(subst e;exfalso;have:=dF h6;omega);exact e
     all_goals
       have hc0:=LO (p:=AF src i) U (bne_iff_ne.2 (by have:=eq_of_beq h5;omega));have Z:=Y.step (ot':=[]) U (by rw[LN U (by rw[Px];exact h4) h5,← hc0,← hcm,hce]) hij2 C nE;rw[List.append_nil] at Z;exact Ce ((j,L,oa,oc)) (show src.length-(j)<src.length-i by omega) ⟨show j≤_ by omega,show L.length≤j by omega,Z⟩ lE (λw f D=>⟨_,D.less (sK sZ) sR (λ_ h=>h) (λ_ h=>h)⟩)
   refine Aa 9 (λ_=>Ap 82 C C (λh6=>?_) (λh6=>?_));refine Aa 7 (λ_=>?_);have h40:40≤c.toNat∧c.toNat≤41:=by have:=eq_of_beq h6;omega
   refine Aa 3 (λ_=>BN C C (λw f D=>Ck ((c.toNat:Int)-40) C C (Io ⟨oM,oM⟩))<|BN C C (λw f D=>BW (m:=(c.toNat:Int)-40) C Rf (CL ⟨oM,oM⟩))<|Ae 3 [0] (y<|λb4=>λ_=>Dd 0 0 C C Wq C C C C C C C C (λ_ _=>C) oM oM λra rc=>Aa 13 (And.intro ⟨oM,oM⟩<|λ_=>?_)));have Z:=Y.step (ot':=[⟨(c.toNat:Int)-40,(AF src i).1,(AF src i).2,0,[]⟩]) U (by rw[BA U];exact SL U (by rw[Px];exact h4) h5 h6) (Nat.lt_succ_self _) (by rw[eq_of_beq h6];rfl) (λ_ h=>by cases List.mem_singleton.1 h;exact Nat.zero_le _);exact Ce ((i+1,L++[⟨(c.toNat:Int)-40,(AF src i).1,(AF src i).2,0,[]⟩],ra,rc)) (show src.length-(i+1)<src.length-i by omega) ⟨show i+1≤_ by omega,show (L++[(⟨(c.toNat:Int)-40,(AF src i).1,(AF src i).2,0,[]⟩:Aq)]).length≤i+1 by (rw[List.length_append,List.length_singleton];omega),Z⟩ ((by have e:(L++[(⟨(c.toNat:Int)-40,(AF src i).1,(AF src i).2,0,[]⟩:Aq)]).length=L.length+1:=(by simp);dsimp only;rw[e];exact Av lE C)) (λw f D=>⟨_,(by have e:(L++[(⟨(c.toNat:Int)-40,(AF src i).1,(AF src i).2,0,[]⟩:Aq)]).length=L.length+1:=(by simp);dsimp only;rw[e,BR];exact D.less (sD (sD (sK sZ))) sR (λ_ h=>.tail _ (h)) (λ_ h=>h))⟩);refine Aa 5 (λ_=>Ap 85 C C (λh7=>?_) (λh7=>?_));refine Aa 2 (λ_=>?_);have h40:40≤c.toNat∧c.toNat≤41:=by have:=eq_of_beq h7;omega
   refine Aa 3 (λ_=>BN C C (λw f D=>Ck ((c.toNat:Int)-40) C C (Io ⟨oM,oM⟩))<|BN C C (λw f D=>BW (m:=(c.toNat:Int)-40) C Rf (CL ⟨oM,oM⟩))<|Ae 3 [0] (y<|λb4=>λ_=>Dd 0 0 C C Wq C C C C C C C C (λ_ _=>C) oM oM λra rc=>Aa 13 (And.intro ⟨oM,oM⟩<|λ_=>?_)));have Z:=Y.step (ot':=[⟨(c.toNat:Int)-40,(AF src i).1,(AF src i).2,0,[]⟩]) U (by rw[BA U];exact Tn U (by rw[Px];exact h4) h5 h6 h7) (Nat.lt_succ_self _) (by rw[eq_of_beq h7];rfl) (λ_ h=>by cases List.mem_singleton.1 h;exact Nat.zero_le _);exact Ce ((i+1,L++[⟨(c.toNat:Int)-40,(AF src i).1,(AF src i).2,0,[]⟩],ra,rc)) (show src.length-(i+1)<src.length-i by omega) ⟨show i+1≤_ by omega,show (L++[(⟨(c.toNat:Int)-40,(AF src i).1,(AF src i).2,0,[]⟩:Aq)]).length≤i+1 by (rw[List.length_append,List.length_singleton];omega),Z⟩ ((by have e:(L++[(⟨(c.toNat:Int)-40,(AF src i).1,(AF src i).2,0,[]⟩:Aq)]).length=L.length+1:=(by simp);dsimp only;rw[e];exact Av lE C)) (λw f D=>⟨_,(by have e:(L++[(⟨(c.toNat:Int)-40,(AF src i).1,(AF src i).2,0,[]⟩:Aq)]).length=L.length+1:=(by simp);dsimp only;rw[e,BR];exact D.less (sD (sD (sK sZ))) sR (λ_ h=>.tail _ (h)) (λ_ h=>h))⟩);refine Aa 10 (λ_=>Ap 97 C C (λh8=>?_) (λh8=>?_));refine Aa 9 (λ_=>?_);refine DK (α:=Nat) (λx=>src.length-x) (λx=>i≤x∧x≤src.length∧Co (AF src i) (src.drop i)=(Cu src i x++(Co (AF src x) (src.drop x)).1,(Co (AF src x) (src.drop x)).2)) (λx=>(E9 0 (S src) 2 (.slice none 0 0) 3 (.pointer (some ⟨b1,0,none⟩)) 4 (.int .i64 0) 5 (.slice (some ⟨O,0,none⟩) (src.length+1) (src.length+1)) 8 (.slice oa L.length oc) 9 (.int .i64 (i:Int)) 11 (.pointer (some ⟨b3,0,none⟩)) 12 (.int .i64 (x:Int)))) (λx=>X0 w f) (λx=>[⟨b3,[.int .i64 (AF src i).1,.int .i64 (AF src i).2],41,true⟩,⟨b1,[.int .i64 0,.int .i64 0],41,true⟩]) (λx=>[⟨97,5,oa,oc,L.length,L.flatMap Wv⟩]) (λx=>[⟨O,0,fL src src.length 1⟩]) (λx=>[]) (i) ⟨Nat.le_refl _,hi,Vn⟩ lE (λw f D=>D.less (sK (sK sZ)) sR (λ_ h=>.tail _ (h)) (λ_ h=>h)) ?_;rintro k ⟨hik,hk,hsp⟩;refine Aa 8 (λ_=>?_)
   · refine Ap 103 C C (λh9=>?_) (λh9=>?_)
     refine Aa 2 (λ_=>?_);have hij9:=dT h9;refine Aa 1 (And.intro oM<|λc1 hc1=>λ_=>?_);have J:src[k]?=some c1:=hc1;refine BO C C (eC vI C C) (λw f D=>zL w f D.vl c1)<|Aa 4 (λ_=>Ap 109 C C (λF=>?_) (λF=>?_));replace F:=B5 F;exact Aa 10 (And.intro ⟨oM,oM⟩<|λ_=>Ce (k+1) (show src.length-(k+1)<src.length-k by omega) ⟨show i≤k+1 by omega,show k+1≤_ by omega,mQ hik (x:=([],[],(0,0))) hsp J F⟩ lE (λw f D=>⟨_,D⟩));replace F:=B3 F;refine Aa 3 (λ_=>Df<|Aa 3 (λ_=>?_));have hfn:=SR hsp (.inr ⟨_,J,F⟩);have hq34:((c.toNat:Int)==34)=false:=beq_false_of_ne (bne_iff_ne.1 h8);have hlt:i<k:=by rcases Nat.eq_or_lt_of_le hik with e|e;(exfalso;subst e;rw[U] at J;cases J;have h9:=F;unfold aQ at h9;rw[h4,h6,h7,hq34,h5] at h9;cases h9);exact e
     have hst:=PW U h4 h5 h6 h7 hq34 hfn;have hcl:=DX src i k;refine Aa 4 (λ_=>BN C C (λw f D=>WX C C C LM ⟨oM,oM,oM⟩ C)<|CR C C (eC Z5 C C) (λw f D=>oV w f D.vl (Cu src i k) oM c (by rw[AY hlt U];rfl)) (λx=>trivial) ?_);rintro⟨kk,nm,tx,ok⟩ hwd;dsimp only at hwd ⊢;refine Ae 15 [0] (λb4=>y<|λ_=>Ap 121 C C (λG=>?_) (λG=>?_));replace G:=B5 G;refine Aa 2 (λ_=>Cq [0,1] Aj (.rd 0 (.rd 1 (.br 2 (.rd 3 .fin) .fin))) C kR<|By 2 [1] (y<|λ_=>Ak C<|Ae 2 [2] (y<|λ_=>Ar [0,1] C<|Bf 1 (λ_=>BG<|Aa 5 (λ_=>Hf ?_)))));refine Aa 2 (λ_=>?_);have hwn:D9 (Cu src i k)=none:=hwd.elim (λh=>h.2) (λh=>by rw[h.1] at G;cases G);have W:=Y.bad hsl U (by rw[hst,hwn]);exact A5 (λw f D=>Dy C (Af C) (Ab C Dx D.k2 C) (Af C)) (λw f D=>⟨([],none,0,_,_,10),f,C,.inr ⟨C,_,W⟩,D.exm,⟨Dc.nil _ _ _ _,tQ⟩⟩);replace G:=B3 G;refine Aa 4 (λ_=>?_);have hwk:(∃t9,D9 (Cu src i k)=some (kk,nm,t9)∧(kk≠3→tx=t9))∧tx.length≤100000:=hwd.elim (λh=>by rw[h.1] at G;cases G) (λh=>h.2)
     rotate_left
     refine Aa 11 (λ_=>Df<|Aa 3 (λ_=>?_));have hfn:=SR hsp (.inl (by have:=dF h9;omega));have hq34:((c.toNat:Int)==34)=false:=beq_false_of_ne (bne_iff_ne.1 h8);have hlt:i<k:=by have:=dF h9;omega
     have hst:=PW U h4 h5 h6 h7 hq34 hfn;have hcl:=DX src i k;refine Aa 4 (λ_=>BN C C (λw f D=>WX C C C LM ⟨oM,oM,oM⟩ C)<|CR C C (eC Z5 C C) (λw f D=>oV w f D.vl (Cu src i k) oM c (by rw[AY hlt U];rfl)) (λx=>trivial) ?_);rintro⟨kk,nm,tx,ok⟩ hwd;dsimp only at hwd ⊢;refine Ae 15 [0] (λb4=>y<|λ_=>Ap 121 C C (λF=>?_) (λF=>?_));replace F:=B5 F;refine Aa 2 (λ_=>Cq [0,1] Aj (.rd 0 (.rd 1 (.br 2 (.rd 3 .fin) .fin))) C kR<|By 2 [1] (y<|λ_=>Ak C<|Ae 2 [2] (y<|λ_=>Ar [0,1] C<|Bf 1 (λ_=>BG<|Aa 5 (λ_=>Hf ?_)))));refine Aa 2 (λ_=>?_);have hwn:D9 (Cu src i k)=none:=hwd.elim (λh=>h.2) (λh=>by rw[h.1] at F;cases F);have W:=Y.bad hsl U (by rw[hst,hwn]);exact A5 (λw f D=>Dy C (Af C) (Ab C Dx D.k2 C) (Af C)) (λw f D=>⟨([],none,0,_,_,10),f,C,.inr ⟨C,_,W⟩,D.exm,⟨Dc.nil _ _ _ _,tQ⟩⟩);replace F:=B3 F;refine Aa 4 (λ_=>?_);have hwk:(∃t9,D9 (Cu src i k)=some (kk,nm,t9)∧(kk≠3→tx=t9))∧tx.length≤100000:=hwd.elim (λh=>by rw[h.1] at F;cases F) (λh=>h.2)
     all_goals
       obtain⟨⟨t9,hwm,hwt⟩,hwl⟩:=hwk;refine Ae 11 [1,0,0] (y<|y<|y<|λb5=>λ_=>Dd 0 0 C C Wq C C C C C C C C (λ_ _=>C) oM oM λra rc=>Aa 12 (λ_=>?_));have Z:=Y.step (ot':=[⟨kk,(AF src i).1,(AF src i).2,nm,tx⟩]) U (by rw[hst,hwm]) hlt (by show [_]=[_];rw[ft_eq hwt]) (λ_ h=>by cases List.mem_singleton.1 h;exact hwl);exact Ce ((k,L++[⟨kk,(AF src i).1,(AF src i).2,nm,tx⟩],ra,rc)) (show src.length-(k)<src.length-i by omega) ⟨show k≤_ by omega,show (L++[(⟨kk,(AF src i).1,(AF src i).2,nm,tx⟩:Aq)]).length≤k by (rw[List.length_append,List.length_singleton];omega),Z⟩ ((by have e:(L++[(⟨kk,(AF src i).1,(AF src i).2,nm,tx⟩:Aq)]).length=L.length+1:=(by simp);dsimp only;rw[e];exact Av lE C)) (λw f D=>⟨_,(by have e:(L++[(⟨kk,(AF src i).1,(AF src i).2,nm,tx⟩:Aq)]).length=L.length+1:=(by simp);dsimp only;rw[e,BR];exact D.less (sD (sD (sD (sK sZ)))) sR (λ_ h=>h) (λ_ h=>h))⟩)
   refine Aa 22 (And.intro ⟨oM,oM⟩<|λ_=>LY 5 1 ?_);refine DK (α:=Nat×lU×Bool×oA×Nat) (λx=>src.length-x.1) (λx=>i<x.1∧x.1≤src.length∧x.2.1.length≤x.1∧XG src i x.1 x.2.1 x.2.2.1) (λx=>(E11 0 (S src) 2 (.slice none 0 0) 3 (.pointer (some ⟨b1,0,none⟩)) 4 (.int .i64 0) 5 (.slice (some ⟨O,0,none⟩) (src.length+1) (src.length+1)) 8 (.slice oa L.length oc) 9 (.int .i64 (i:Int)) 11 (.pointer (some ⟨b3,0,none⟩)) 15 (.slice x.2.2.2.1 x.2.1.length x.2.2.2.2) 16 (.int .i64 (x.1:Int)) 17 (.bool x.2.2.1))) (λx=>X0 w f) (λx=>[⟨b3,[.int .i64 (AF src i).1,.int .i64 (AF src i).2],41,true⟩,⟨b1,[.int .i64 0,.int .i64 0],41,true⟩]) (λx=>[⟨5,1,x.2.2.2.1,x.2.2.2.2,x.2.1.length,bC x.2.1⟩,⟨97,5,oa,oc,L.length,L.flatMap Wv⟩]) (λx=>[⟨O,0,fL src src.length 1⟩]) (λx=>[]) ((i+1,[],false,none,0)) ⟨Nat.lt_succ_self _,hil,Nat.zero_le _,dM hil⟩ lE (λw f D=>D.less (sK (sK sZ)) sR (λ_ h=>.tail _ (h)) (λ_ h=>h)) ?_;rintro⟨k,K,dn,ba,bc⟩ ⟨hik,hk,hbl,Q⟩;dsimp only at hik hk hbl Q ⊢;refine Aa 8 (λ_=>Ap 136 C C (λh9=>?_) (λh9=>?_));refine Aa 5 (λ_=>Ap 139 C C (λF=>?_) (λF=>?_));replace F:=B5 F;refine Aa 5 (λ_=>?_);have hkl:k<src.length:=by have:=dT h9;omega
   obtain rfl:dn=false:=F;refine Aa 4 (And.intro oM<|λc1 hc1=>λ_=>?_);have J:src[k]?=some c1:=hc1;refine Aa 9 (λ_=>?_)
   · refine Ap 144 C C (λG=>?_) (λG=>?_)
     exact Aa 12 (And.intro ⟨oM,oM⟩<|λ_=>Ce ((k+1,K,true,ba,bc)) (show src.length-(k+1)<src.length-k by omega) ⟨show i<k+1 by omega,show k+1≤_ by omega,show K.length≤k+1 by omega,aS Q J G⟩ lE (λw f D=>⟨_,D.less (sK (sK sZ)) sR (λ_ h=>h) (λ_ h=>h)⟩));refine Aa 7 (λ_=>Ap 148 C C (λh12=>?_) (λh12=>?_));refine Aa 2 (λ_=>Hh (α:=Unit) (λx=>True) (λx=>[⟨O,0+k*2,ZQ (AF src k)⟩]) (λx=>[]) (λw f D=>⟨(),tQ,(λe he=>by cases he with|head=>exact Jj D.b0 oM|tail _ h=>cases h),λ_ h=>by cases h⟩) (λx=>Au.mem tQ) ?_);rintro⟨⟩ -;refine Cq [0] Aj (rd [0,1,2,3,4] (.br 5 (.rd 6 .fin) .fin)) C kR<|By 5 [100,0] (And.intro oM<|y2<|λ_=>Ak C<|Ae 2 [1] (y<|λ_=>Ar [0] C<|Bf 1 (λ_=>BG<|Aa 3 (λ_=>Hf<|Aa 3 (λ_=>?_)))));refine Hf<|Aa 2 (λ_=>?_);have hsr:=qL Q J G h12
     rotate_left
     refine Aa 7 (λ_=>Ap 154 C C (λh13=>?_) (λh13=>?_));exact Aa 6 (λb4=>λ_=>Dd 0 0 C C Mn C C C C C C C C (λ_ _=>C) oM oM λba2 bc2=>Aa 9 (And.intro ⟨oM,oM⟩<|λ_=>Ce ((k+1,K++[c1],false,ba2,bc2)) (show src.length-(k+1)<src.length-k by omega) ⟨show i<k+1 by omega,show k+1≤_ by omega,show (K++[c1]).length≤k+1 by (rw[List.length_append,List.length_singleton];omega),mX Q J G h12 h13⟩ ((by have e:(K++[c1]).length=K.length+1:=(by simp);dsimp only;rw[e];exact Av lE C)) (λw f D=>⟨_,(by have e:(K++[c1]).length=K.length+1:=(by simp);dsimp only;rw[e,Go.SW.bC_app];exact D.less (sD (sK (sK sZ))) sR (λ_ h=>h) (λ_ h=>h))⟩)));refine Aa 10 (And.intro ⟨oM,oM⟩<|λ_=>Ap 165 C C (λh14=>?_) (λh14=>?_));exact Aa 7 (And.intro ⟨oM,oM⟩<|λ_=>Ce ((k+1,K,false,ba,bc)) (show src.length-(k+1)<src.length-k by omega) ⟨show i<k+1 by omega,show k+1≤_ by omega,show K.length≤k+1 by omega,fT Q J G h12 h13 (by have:=dT h14;omega)⟩ lE (λw f D=>⟨_,D.less (sK (sK sZ)) sR (λ_ h=>h) (λ_ h=>h)⟩));refine Aa 2 (λ_=>?_);have hk1:k+1<src.length:=by have:=dF h14;omega
     refine Aa 5 (And.intro ⟨oM,oM⟩<|And.intro oM<|λc2 hc2=>λ_=>?_);obtain⟨d,hd⟩:∃d,src[k+1]?=some d:=⟨c2,hc2⟩;obtain rfl:d=c2:=Option.some.inj (hd.symm.trans hc2);refine Aa 8 (λ_=>Ap 174 C C (λh15=>?_) (λh15=>?_));exact Aa 11 (λb4=>λ_=>Dd 0 0 C C Mn C C C C C C C C (λ_ _=>C) oM oM λba2 bc2=>Aa 9 (And.intro ⟨oM,oM⟩<|λ_=>Ce ((k+2,K++[d],false,ba2,bc2)) (show src.length-(k+2)<src.length-k by omega) ⟨show i<k+2 by omega,show k+2≤_ by omega,show (K++[d]).length≤k+2 by (rw[List.length_append,List.length_singleton];omega),Uq Q J G h12 h13 hd (.inl ⟨h15,C⟩)⟩ ((by have e:(K++[d]).length=K.length+1:=(by simp);dsimp only;rw[e];exact Av lE C)) (λw f D=>⟨_,(by have e:(K++[d]).length=K.length+1:=(by simp);dsimp only;rw[e,Go.SW.bC_app];exact D.less (sD (sK (sK sZ))) sR (λ_ h=>h) (λ_ h=>h))⟩)));refine Aa 5 (λ_=>Ap 177 C C (λEg=>?_) (λEg=>?_));exact Aa 6 (λb4=>λ_=>Dd 0 0 C C Mn C C C C C C C C (λ_ _=>C) oM oM λba2 bc2=>Aa 9 (And.intro ⟨oM,oM⟩<|λ_=>Ce ((k+2,K++[d],false,ba2,bc2)) (show src.length-(k+2)<src.length-k by omega) ⟨show i<k+2 by omega,show k+2≤_ by omega,show (K++[d]).length≤k+2 by (rw[List.length_append,List.length_singleton];omega),Uq Q J G h12 h13 hd (.inr (.inl ⟨Eg,C⟩))⟩ ((by have e:(K++[d]).length=K.length+1:=(by simp);dsimp only;rw[e];exact Av lE C)) (λw f D=>⟨_,(by have e:(K++[d]).length=K.length+1:=(by simp);dsimp only;rw[e,Go.SW.bC_app];exact D.less (sD (sK (sK sZ))) sR (λ_ h=>h) (λ_ h=>h))⟩)));refine Aa 7 (λ_=>Ap 185 C C (λEE=>?_) (λEE=>?_));exact Aa 5 (λb4=>λ_=>Dd 0 0 C C Mn C C C C C C C C (λ_ _=>C) oM oM λba2 bc2=>Aa 9 (And.intro ⟨oM,oM⟩<|λ_=>Ce ((k+2,K++[10],false,ba2,bc2)) (show src.length-(k+2)<src.length-k by omega) ⟨show i<k+2 by omega,show k+2≤_ by omega,show (K++[10]).length≤k+2 by (rw[List.length_append,List.length_singleton];omega),Uq Q J G h12 h13 hd (.inr (.inr ⟨h15,Eg,EE,C⟩))⟩ ((by have e:(K++[10]).length=K.length+1:=(by simp);dsimp only;rw[e];exact Av lE C)) (λw f D=>⟨_,(by have e:(K++[10]).length=K.length+1:=(by simp);dsimp only;rw[e,Go.SW.bC_app];exact D.less (sD (sK (sK sZ))) sR (λ_ h=>h) (λ_ h=>h))⟩)));refine Aa 7 (λ_=>Ap 192 C C (λh18=>?_) (λh18=>?_));refine Aa 10 (And.intro ⟨oM,oM⟩<|λ_=>Ap 198 C C (λh19=>?_) (λh19=>?_));refine Aa 19 (λ_=>?_);have hk1:k+1<src.length:=by have:=dF h14;omega
     refine Hh (α:=Unit) (λx=>True) (λx=>[⟨O,0+(k+1)*2,ZQ (AF src (k+1))⟩]) (λx=>[]) (λw f D=>⟨(),tQ,(λe he=>by cases he with|head=>exact Jj D.b0 oM|tail _ h=>cases h),λ_ h=>by cases h⟩) (λx=>Au.mem tQ) ?_;rintro⟨⟩ -;refine Cq [0] Aj (rd [0,1,2,3,4,5] (.br 6 (.rd 7 .fin) .fin)) C kR<|By 6 [100,0] (And.intro ⟨oM,oM⟩<|And.intro oM<|y2<|λ_=>Ak C<|Ae 2 [1] (y<|λ_=>Ar [0] C<|Bf 1 (λ_=>BG<|Aa 4 (λ_=>Hf<|Aa 3 (λ_=>?_)))));refine Hf<|Aa 2 (λ_=>?_);obtain⟨e9,hsr⟩:=Q5 Q J G h12 h13 hd h15 Eg EE (.inr (.inl (by have:=dT h19;omega)))
     rotate_left
     refine Aa 3 (And.intro ⟨oM,oM⟩<|λ_=>?_);have hk3:k+3<src.length:=by have:=dF h19;omega
     refine Aa 1 (And.intro oM<|λc3 hc3=>λ_=>?_);obtain⟨xa,hx⟩:∃d,src[k+2]?=some d:=⟨c3,hc3⟩;obtain rfl:xa=c3:=Option.some.inj (hx.symm.trans hc3);refine BO C C (eC QW C C) (λw f D=>mO w f D.vl xa)<|Aa 3 (λ_=>Ap 206 C C (λh20=>?_) (λh20=>?_));refine Aa 11 (λ_=>?_);have hk1:k+1<src.length:=by have:=dF h14;omega
     refine Hh (α:=Unit) (λx=>True) (λx=>[⟨O,0+(k+1)*2,ZQ (AF src (k+1))⟩]) (λx=>[]) (λw f D=>⟨(),tQ,(λe he=>by cases he with|head=>exact Jj D.b0 oM|tail _ h=>cases h),λ_ h=>by cases h⟩) (λx=>Au.mem tQ) ?_;rintro⟨⟩ -;refine Cq [0] Aj (rd [0,1,2,3,4,5] (.br 6 (.rd 7 .fin) .fin)) C kR<|By 6 [100,0] (And.intro ⟨oM,oM⟩<|And.intro oM<|y2<|λ_=>Ak C<|Ae 2 [1] (y<|λ_=>Ar [0] C<|Bf 1 (λ_=>BG<|Aa 4 (λ_=>Hf<|Aa 3 (λ_=>?_)))));refine Hf<|Aa 2 (λ_=>?_);obtain⟨e9,hsr⟩:=Q5 Q J G h12 h13 hd h15 Eg EE (.inr (.inr (.inl ⟨_,hx,dT h20⟩)))
     rotate_left
     refine Aa 4 (And.intro ⟨oM,oM⟩<|And.intro oM<|λc4 hc4=>λ_=>?_);obtain⟨ya,hy⟩:∃d,src[k+3]?=some d:=⟨c4,hc4⟩;obtain rfl:ya=c4:=Option.some.inj (hy.symm.trans hc4);refine BO C C (eC QW C C) (λw f D=>mO w f D.vl ya)<|Aa 4 (λ_=>Ap 213 C C (λh21=>?_) (λh21=>?_));refine Aa 2 (λ_=>?_);have hk1:k+1<src.length:=by have:=dF h14;omega
     refine Hh (α:=Unit) (λx=>True) (λx=>[⟨O,0+(k+1)*2,ZQ (AF src (k+1))⟩]) (λx=>[]) (λw f D=>⟨(),tQ,(λe he=>by cases he with|head=>exact Jj D.b0 oM|tail _ h=>cases h),λ_ h=>by cases h⟩) (λx=>Au.mem tQ) ?_;rintro⟨⟩ -;refine Cq [0] Aj (rd [0,1,2,3,4,5] (.br 6 (.rd 7 .fin) .fin)) C kR<|By 6 [100,0] (And.intro ⟨oM,oM⟩<|And.intro oM<|y2<|λ_=>Ak C<|Ae 2 [1] (y<|λ_=>Ar [0] C<|Bf 1 (λ_=>BG<|Aa 4 (λ_=>Hf<|Aa 3 (λ_=>?_)))));refine Hf<|Aa 2 (λ_=>?_);obtain⟨e9,hsr⟩:=Q5 Q J G h12 h13 hd h15 Eg EE (.inr (.inr (.inr ⟨_,hy,dT h21⟩)))
     rotate_left
     refine Aa 4 (λ_=>?_);have hx0:=dF h20;have hy0:=dF h21;have hxl:=QU xa;have hyl:=QU ya;refine Cq [0,1] Aj (rd [0,1,2,3,4,7,8,9,10] (.br 5 (.rd 6 (.br 11 (.rd 12 (.rd 13 (.br 14 (.br 15 (.rd 16 .fin) .fin) .fin))) .fin)) .fin)) C kR<|Bf 4 (And.intro ⟨oM,oM⟩<|λ_=>Iz C C C (λw hK=>C1 C C LM oM hx)<|Bf 3 (And.intro ⟨oM,oM⟩<|λ_=>Iz C C C (λw hK=>C1 C C LM oM hy)<|Ak C<|BO C C (eC QW C C) (λw f D=>mO w f D.vl xa)<|Aa 1 (λ_=>Ar [0,1] C<|Iz C C C (λw hK=>KS _ C C (CL (n:=Lib.indexByte Bk xa*16) ⟨oM,oM⟩)) ?_)));refine Ak C<|BO C C (eC QW C C) (λw f D=>mO w f D.vl ya)<|Aa 1 (λ_=>Ar [0,1] C<|Iz C C C (λw hK=>J0 _ C C (CL (n:=Lib.indexByte Bk xa*16+Lib.indexByte Bk ya) ⟨oM,oM⟩))<|Iz C C C (λw hK=>BW (m:=((UInt8.ofNat ((Lib.indexByte Bk xa).toNat*16+(Lib.indexByte Bk ya).toNat)).toNat:Int)) C xV ((Io (n:=Lib.indexByte Bk xa*16+Lib.indexByte Bk ya) ⟨oM,oM⟩).trans (hexv ⟨oM,hxl⟩ ⟨oM,hyl⟩).symm))<|Ak C<|Aa 2 (λb4=>λ_=>Ar [1,2] C<|Ak C ?_));exact Dd 0 0 C C Mn C C C C C C C C (λ_ _=>C) oM oM λba2 bc2=>Aa 1 (λ_=>Ar [1,2] C<|Bf 1 (λ_=>BG<|Aa 7 (And.intro ⟨oM,oM⟩<|λ_=>Ce ((k+4,K++[(UInt8.ofNat ((Lib.indexByte Bk xa).toNat*16+(Lib.indexByte Bk ya).toNat))],false,ba2,bc2)) (show src.length-(k+4)<src.length-k by omega) ⟨show i<k+4 by omega,show k+4≤_ by omega,show (K++[(UInt8.ofNat ((Lib.indexByte Bk xa).toNat*16+(Lib.indexByte Bk ya).toNat))]).length≤k+4 by (rw[List.length_append,List.length_singleton];omega),vW Q J G h12 h13 hd h15 Eg EE h18 hx hy h20 h21⟩ ((by have e:(K++[(UInt8.ofNat ((Lib.indexByte Bk xa).toNat*16+(Lib.indexByte Bk ya).toNat))]).length=K.length+1:=(by simp);dsimp only;rw[e];exact Av lE C)) (λw f D=>⟨_,(by have e:(K++[(UInt8.ofNat ((Lib.indexByte Bk xa).toNat*16+(Lib.indexByte Bk ya).toNat))]).length=K.length+1:=(by simp);dsimp only;rw[e,Go.SW.bC_app];exact D.less (sD (sK (sK sZ))) sR (λ_ h=>h) (λ_ h=>h))⟩))));refine Aa 2 (λ_=>?_);have hk1:k+1<src.length:=by have:=dF h14;omega
     refine Hh (α:=Unit) (λx=>True) (λx=>[⟨O,0+(k+1)*2,ZQ (AF src (k+1))⟩]) (λx=>[]) (λw f D=>⟨(),tQ,(λe he=>by cases he with|head=>exact Jj D.b0 oM|tail _ h=>cases h),λ_ h=>by cases h⟩) (λx=>Au.mem tQ) ?_;rintro⟨⟩ -;refine Cq [0] Aj (rd [0,1,2,3,4,5] (.br 6 (.rd 7 .fin) .fin)) C kR<|By 6 [100,0] (And.intro ⟨oM,oM⟩<|And.intro oM<|y2<|λ_=>Ak C<|Ae 2 [1] (y<|λ_=>Ar [0] C<|Bf 1 (λ_=>BG<|Aa 3 (λ_=>Hf<|Aa 3 (λ_=>?_)))));refine Hf<|Aa 2 (λ_=>?_);obtain⟨e9,hsr⟩:=Q5 Q J G h12 h13 hd h15 Eg EE (.inl h18)
     all_goals
       have hst:=NK U h4 h5 h6 h7 (beq_iff_eq.2 (bne_eq_false_iff_eq.1 h8));have W:=Y.bad hsl U (by rw[hst,hsr]);exact A5 (λw f D=>Dy C (Af C) (Ab C Dx D.k1 C) (Af C)) (λw f D=>⟨([],none,0,_,_,10),f,C,.inr ⟨C,_,W⟩,D.exm,⟨Dc.nil _ _ _ _,tQ⟩⟩)
   replace F:=B3 F;refine Aa 3 (λ_=>Df<|Aa 4 (λ_=>?_));have hst:=NK U h4 h5 h6 h7 (beq_iff_eq.2 (bne_eq_false_iff_eq.1 h8));refine Aa 4 (λ_=>nW 244 false C C (congrArg Bool.not F) ?_)
   rotate_left
   refine Aa 8 (λ_=>Df<|Aa 4 (λ_=>?_));have hst:=NK U h4 h5 h6 h7 (beq_iff_eq.2 (bne_eq_false_iff_eq.1 h8));refine Aa 4 (λ_=>Ap 244 C C (λF=>?_) (λF=>?_));replace F:=B5 F;refine Aa 8 (λ_=>Cq [0] Aj (.rd 0 (.rd 1 (.br 2 (.rd 3 .fin) .fin))) C kR<|By 2 [0] (y<|λ_=>Ak C<|Ae 2 [1] (y<|λ_=>Ar [0] C<|Bf 1 (λ_=>BG<|Aa 4 (λ_=>Hf ?_)))));refine Aa 2 (λ_=>?_);obtain rfl:dn=false:=F;have hsr:=uX Q (by have:=dF h9;omega);have W:=Y.bad hsl U (by rw[hst,hsr]);exact A5 (λw f D=>Dy C (Af C) (Ab C Dx D.k1 C) (Af C)) (λw f D=>⟨([],none,0,_,_,10),f,C,.inr ⟨C,_,W⟩,D.exm,⟨Dc.nil _ _ _ _,tQ⟩⟩);replace F:=B3 F
   rotate_left
   refine Aa 3 (λ_=>Df<|Ae 12 [0] (y<|λ_=>?_));obtain rfl:i=src.length:=by have:=dF h3;omega
   obtain⟨hq1,hq2⟩:=Y.fin hsl;exact A5 (λw f D=>Dy C (Af C) (Ab C Dx D.k0 C) (Af C)) (λw f D=>let ⟨f2,hM2,hF⟩:=Hn D;⟨(L,oa,oc,0,0,0),f2,C,.inl ⟨C,hq1,hq2⟩,hM2.exm,⟨hF,tQ⟩⟩)
   all_goals
     refine Aa 6 (λ_=>Ap 248 C C (λG=>?_) (λG=>?_));refine Aa 2 (λ_=>Cq [0] Aj (.rd 0 (.rd 1 (.br 2 (.rd 3 .fin) .fin))) C kR<|By 2 [0] (y<|λ_=>Ak C<|Ae 2 [1] (y<|λ_=>Ar [0] C<|Bf 1 (λ_=>BG<|Aa 4 (λ_=>Hf ?_)))));refine Aa 2 (λ_=>?_);obtain rfl:dn=true:=F;have hsr:sR src i=.error (AF src i):=by rw[show sR src i=_ from Q,if_pos (by have:=dT G;simp;omega)]
     have W:=Y.bad hsl U (by rw[hst,hsr]);exact A5 (λw f D=>Dy C (Af C) (Ab C Dx D.k1 C) (Af C)) (λw f D=>⟨([],none,0,_,_,10),f,C,.inr ⟨C,_,W⟩,D.exm,⟨Dc.nil _ _ _ _,tQ⟩⟩);refine Aa 4 (λ_=>?_);obtain rfl:dn=true:=F;refine Ae 4 [0] (y<|λ_=>BN C C (λw f D=>QD (l:=K) C P6 (D.row _ (.head _)))<|Aa 2 (λb4=>λ_=>Dd 1 0 C C Wq C C C C C C C C (λ_ _=>C) oM oM λra rc=>Aa 8 (λ_=>?_)));have Z:=Y.step (ot':=[⟨4,(AF src i).1,(AF src i).2,0,K⟩]) U (by rw[hst];rw[show sR src i=_ from Q,if_neg (by have:=dF G;simp;omega)]) hik C (λ_ h=>by cases List.mem_singleton.1 h;show K.length≤100000;have:=dF G;omega);exact Ce ((k,L++[⟨4,(AF src i).1,(AF src i).2,0,K⟩],ra,rc)) (show src.length-(k)<src.length-i by omega) ⟨show k≤_ by omega,show (L++[(⟨4,(AF src i).1,(AF src i).2,0,K⟩:Aq)]).length≤k by (rw[List.length_append,List.length_singleton];omega),Z⟩ ((by have e:(L++[(⟨4,(AF src i).1,(AF src i).2,0,K⟩:Aq)]).length=L.length+1:=(by simp);dsimp only;rw[e];exact Av lE C)) (λw f D=>⟨_,(by have e:(L++[(⟨4,(AF src i).1,(AF src i).2,0,K⟩:Aq)]).length=L.length+1:=(by simp);dsimp only;rw[e,BR];exact D.less (sD (sD (sK sZ))) (List.sublist_cons_self _ _) (λ_ h=>h) (λ_ h=>h))⟩)

end Go.Proofs.YtnojaendcldjpaaGreatDoor
