/- What it rests on, part 6. -/
import Derived.Test.YtkahkniflkadoabGreatDoorGs5
import Derived.Test.YtkahkniflkadoabGreatDoorCards
import Derived.Test.YtkahkniflkadoabGreatDoorTie
import Derived.OpenShut
import Derived.Lib.LaidU8
import Derived.Clock
import Derived.ProofKit
import Derived.Lay
import Derived.Stop.Joined
import Derived.Deep.DeepHandedRow
set_option linter.unusedVariables false
set_option linter.unusedSimpArgs false
namespace Go.Proofs.YtkahkniflkadoabGreatDoor
open Go.SW Go.SP Go.RowKit Go.Proofs.Tryz
set_option maxHeartbeats 2000000 in
theorem Vd(w:World)(f:Fq)(hv:Vl w f)(A:Ad)(hA:A.ok)(s:CS)(hC:As 69 148 A s w f)(hf:∀b,Bx A b→f b=0)(hw:Dy s)(hG:EM w f)(op ln co nm:Int)(tx:lU)(kids:Nd)(na:Option Addr)(nc:Nat)(hsz:kids.size≤200000)(htx:tx.length≤100000)(htb0:kids.txb)(hN:AD w f kids na nc)(hvb : -800000000000≤s.vars-kids.len)(hvb2:s.vars≤0) :
  BB prog 16 #[pB A.cb,.agg #[iV op,iV ln,iV co,S tx,iV nm,.slice na kids.len nc]] w (Ey (α:=CS) (λ_=>.tuple #[]) (λx=>Gt s ln co tx kids=.ok x∧Dy x∧x.fresh=s.fresh∧s.vars-kids.len≤x.vars∧x.vars≤s.vars) (Bx A) (λx=>As 69 148 A x) (λ_=>[]) w f) (PanE 52 (Bx A) (λer=>Gt s ln co tx kids=.error er) w f):=by
 have hkl:=Nd.len_le kids;refine Mh (X:=XC 69 148 A s w f) (H:=[]) (R:=[]) (B:=[]) (Fs:=[λw f=>AD w f kids na nc,λw f=>EM w f]) (f:=f) func16 rfl rfl rfl (JX hv hC hf ⟨hN,hG,tQ⟩ ⟨AD.mono,EM.mono,tQ⟩)<|Aa 6 [] (λb1=>λ_=>?_)
 cases hdl:AS s.datas tx with
 |none =>
  refine Kv (λw=>AI w A.cb [pB A.sb,.map (some A.km),.map (some A.dm),.map (some A.rm),iV s.vars] 69∧BE BI w A.dm (s.datas.map λp=>(p.1,iV p.2))) (λw f h _=>⟨h.blk,h.datas⟩) [0] Al (rd [0,1,2,3,4,5,6,7,8,9,10,11] .fin) rfl kR kR kR (λ_ _ _ _ _ h=>h)<|A2 3 [] (λ_=>Gf rfl rfl rfl (λw hK=>Ai rfl QJ hK.2.2.1 rfl)<|A2 2 [0] (y<|λ_=>Gf rfl rfl rfl (λw hK=>Iq (K:=BI) (a:=tx) rfl rfl QP F8 cX hK.2.2.2 hw.dd (by rw[Ec (λc=>Value.int .i64 c),hdl];rfl))<|A2 5 [] (λ_=>Bj<|Aa 2 [] (λ_=>Cz [0] Al (rd [0,1,2,3,4,5,6,10,11] (.br 7 (.rd 8 (.rd 9 (.br 12 .fin .fin))) .fin)) rfl kR<|A2 9 [0,0] (y<|aI (by simp;omega)<|aI (by simp;omega)<|y<|λ_=>?_)))));refine Ag rfl ?_ Aj;refine Bw rfl rfl (eC Pd rfl rfl) (λw f hM=>GD w f hM.vl hM.f1 GC ([32]++tx++[32]) dC) (λx=>trivial) ?_;rintro⟨⟩ -;refine Aa 1 [] (λ_=>Au [0] rfl<|A2 2 [] (λ_=>Ag rfl ?_ Aj));refine D5 (α:=Unit) (val:=λ_=>.tuple #[]) (q:=λ_=>(!Dm GC ([32]++tx++[32]))=true) (I':=λ_=>As 69 148 A s) (F':=λ_=>[]) (pe:=λer=>(!Dm GC ([32]++tx++[32]))=false∧er=(ln,co,11)) (M:=λ_=>False) (T:=52) rfl rfl (eC Ek rfl rfl) (λ_ h=>h.elim) (λw f hM=>(Cg w f hM.vl (!Dm GC ([32]++tx++[32])) ln co).mono (λ_ _ ⟨x,f2,h1,h2,h3,h4⟩=>⟨x,f2,h1,h2,h3.mono (λ_ h=>h.elim),(hM.call0 h3).res,h4⟩) λ_ _ h=>h) (λ_=>As.stab) (λ_=>trivial) (λer w2 f2 he hE=>⟨rfl,er,f2,rfl,(by have h9:Dm GC ([32]++tx++[32])=true:=Fc he.1;rw[Gt,if_pos (by rw[hdl,h9];rfl),he.2]),hE⟩) ?_;rintro⟨⟩ hnd;have hnd0:¬((AS s.datas tx).isSome||Dm GC ([32]++tx++[32]))=true:=by rw[hdl,show Dm GC ([32]++tx++[32])=false from EN hnd];decide
  refine Aa 1 [] (λ_=>Au [0] rfl<|Bj<|Aa 3 [] (λ_=>Zu (K:=BI) rfl rfl λvm hvm=>Aa 7 [0] (y<|λ_=>Bw rfl rfl (eC Br rfl rfl) (λw f hM=>Bl w f hM.vl tx) (λx=>trivial) ?_)));rintro⟨⟩ -;refine Aa 19 [0,1] (λb2=>y<|y<|λ_=>NB 3 1<|NB 61 4 ?_);refine Fy (α:=Nat×Nd×Int×List (lU×T1)×Ty×List Value×Option Addr×Nat×List Int×Option Addr×Nat) (λx=>x.2.1.len) (λx=>x.1+x.2.1.len=kids.len∧DO ln co kids s.vars [] .nil []=DO ln co x.2.1 x.2.2.1 x.2.2.2.1 x.2.2.2.2.1 x.2.2.2.2.2.2.2.2.1∧x.2.2.2.2.1.len=x.2.2.2.2.2.2.2.2.1.length∧x.2.2.2.2.2.2.2.2.1.length≤x.1∧x.2.2.2.2.1.bnd∧Il (oI x.2.2.2.1)∧(∀n t,AS x.2.2.2.1 n=some t→∃q,t=.var q)∧s.vars-x.1≤x.2.2.1∧x.2.2.1≤s.vars) (λx=>(E8 0 (pB A.cb) 3 (pB b1) 6 (.map (some vm)) 7 (pB b2) 8 (.slice x.2.2.2.2.2.2.2.2.2.1 x.2.2.2.2.2.2.2.2.1.length x.2.2.2.2.2.2.2.2.2.2) 48 (.slice na kids.len nc) 49 (iV (kids.len:Int)) 50 (iV (x.1:Int)))) (λx=>⟨Bx A,λb=>Bx A b∨b=vm,DN 69 148 A ({s with vars:=x.2.2.1}:CS) vm x.2.2.2.1,w,f⟩) (λx=>[⟨b2,[iV 1,iV 0,S tx,.slice x.2.2.2.2.2.2.1 x.2.2.2.2.2.2.2.2.1.length x.2.2.2.2.2.2.2.1],61,true⟩,⟨b1,[iV op,iV ln,iV co,S tx,iV nm,.slice na kids.len nc],59,true⟩]) (λx=>[⟨61,4,x.2.2.2.2.2.2.1,x.2.2.2.2.2.2.2.1,x.2.2.2.2.2.2.2.2.1.length,x.2.2.2.2.2.1⟩,⟨3,1,x.2.2.2.2.2.2.2.2.2.1,x.2.2.2.2.2.2.2.2.2.2,x.2.2.2.2.2.2.2.2.1.length,x.2.2.2.2.2.2.2.2.1.map λn=>iV n⟩]) (λx=>[]) (λx=>[λw f=>AT w f na x.1 x.2.1,λw f=>Be w f x.2.2.2.2.1 x.2.2.2.2.2.1,λw f=>EM w f,λw f=>AD w f kids na nc]) (0,kids,s.vars,[],.nil,[],none,0,[],none,0) ⟨Nat.zero_add _,rfl,rfl,Nat.le_refl _,tQ,tQ,λ_ _ h=>(by cases h),by dsimp only;omega,Int.le_refl _⟩ lE (λw f hM=>hM.more (B':=[]) (F':=[λw f=>AT w f na 0 kids,λw f=>Be w f .nil []]) nE (AE.mem ⟨AD.at hM.f0,rfl,tQ⟩) (Ax.mem ⟨AT.mono,Be.mono,tQ⟩) |>.less sR sR nE (mR [0,1,3,2])) ?_;rintro⟨i,r,v,m,self,xs,ra,rc,nums,na2,nc2⟩ ⟨hi,hdv,hsl,hnl,hsb,hdm,hmv,hv1,hv2⟩;dsimp only at hi hdv hsl hnl hsb hdm hmv hv1 hv2 ⊢;refine Aa 6 [] (λ_=>AL 51 rfl rfl (λh1=>?_) (λh1=>?_));refine Aa 6 [] (λ_=>?_);have hil:i<kids.len:=by have:=of_decide_eq_true h1;omega
  obtain⟨op2,ln2,co2,tx2,nm2,k2,r,rfl⟩:=Nd.cases1 r oM;have hi2:i+(r.len+1)=kids.len:=hi;refine H9 0 rfl ?_;rintro⟨eb,eo,ka,kc⟩ rfl;refine Aa 15 [100,0,0,0] (aI oM<|y2<|λb3=>y<|y<|λ_=>AL 56 rfl rfl (λh2=>?_) (λh2=>?_));exact Aa 9 [] (aI ⟨oM,oM⟩<|λ_=>Dj ((i+1,r,v,m,self,xs,ra,rc,nums,na2,nc2)) (show r.len<(Nd.cons op2 ln2 co2 tx2 nm2 k2 r).len from Nat.lt_succ_self _) ⟨show i+1+r.len=_ by omega,hdv.trans (RM (by simpa using h2)),hsl,show nums.length≤i+1 by omega,hsb,hdm,hmv,show s.vars-((i+1:Nat):Int)≤v by omega,hv2⟩ lE (λw f hM=>⟨_,hM.less (sD (sK (sK sZ))) sR nE (mR [1,3,4,5])⟩));refine Aa 4 [] (λ_=>?_);have hop2:(op2==31)=true:=by have h9:(op2 != 31)=false:=h2;simpa using h9
  cases hvl:AS m tx2 with
  |none =>
   refine Aa 4 [0] (y<|λ_=>Dx rfl rfl (λw f hM=>Iq (K:=BI) (a:=tx2) rfl rfl Lb F8 Mm hM.res.2 hdm (by rw[Ec (λt=>tV t none 0),hvl];rfl))<|Aa 14 [0,3] (λb4=>y<|y<|λ_=>D5 (α:=Unit) (val:=λ_=>.tuple #[]) (q:=λ_=>true=true) (I':=λ_=>DN 69 148 A ({s with vars:=v}:CS) vm m) (F':=λ_=>[]) (pe:=λer=>true=false∧er=(ln,co,11)) (M:=λ_=>False) (T:=52) rfl rfl (eC Ek rfl rfl) (λ_ h=>h.elim) (λw f hM=>(Cg w f hM.vl true ln co).mono (λ_ _ ⟨x,f2,h1,h2,h3,h4⟩=>⟨x,f2,h1,h2,h3.mono (λ_ h=>h.elim),(hM.call0 h3).res,h4⟩) λ_ _ h=>h) (λ_=>DN.stab) (λ_=>trivial) (λer w2 f2 he hE=>⟨rfl,er,f2,rfl,(by cases he.1),hE⟩) ?_));rintro⟨⟩ hnd;refine Aa 7 [] (λ_=>Dx (v:=iV v) rfl rfl (λw f hM=>Ai rfl Ho hM.res.1.blk rfl)<|Aa 3 [] (aI ⟨oM,oM⟩<|λ_=>rN hA hvm rfl rfl rfl Ho<|Aa 3 [] (λ_=>Kv (λw=>AI w A.cb [pB A.sb,.map (some A.km),.map (some A.dm),.map (some A.rm),iV (v-1)] 69) (λw f h _=>h.1.blk) [0,1,2,3] Al (rd [0,1,2,3,4,5,6] (.br 7 (.br 8 .fin .fin) .fin)) rfl kR kR kR (λ_ _ _ _ _ h=>h)<|A2 6 [1] (y<|λ_=>Gf rfl rfl rfl (λw hK=>(Ai rfl Ho hK.2.2 rfl:AG _ _ _ _ _ (iV (v-1)) _))<|Ag rfl ?_ Aj))));refine Bw rfl rfl (eC GG rfl rfl) (λw f hM=>D6 w f hM.vl (v-1)) (λx=>trivial) ?_;rintro⟨⟩ -;refine Aa 1 [] (λ_=>AW [0,1,2,3] (λw f h _=>h.1.blk) rfl (λ_ h=>h)<|Ag rfl ?_ Aj);refine tN (q:=v-1) hvm rfl rfl rfl rfl Lb F8 hdm hvl<|Aa 1 [] (λ_=>AW [0,1,2,3] (λw f h _=>h.1.blk) rfl (λ_ h=>h)<|Bj<|Aa 2 [] (λ_=>Kv (λw=>AI w A.cb [pB A.sb,.map (some A.km),.map (some A.dm),.map (some A.rm),iV (v-1)] 69) (λw f h _=>h.1.blk) [0,1,3] Al (rd [0,2,3,4,5] (.br 1 (.br 6 (.br 7 (.br 8 (.rd 9 (.br 10 .fin .fin)) .fin) .fin) .fin) (.br 6 (.br 1 (.br 7 (.br 8 (.rd 9 (.br 10 .fin .fin)) .fin) .fin) (.br 7 (.br 1 (.br 8 (.rd 9 (.br 10 .fin .fin)) .fin) .fin) .fin)) .fin))) rfl kR kR kR (λ_ _ _ _ _ h=>h)<|A2 4 [] (λ_=>Gf rfl rfl rfl (λw hK=>(Ai rfl Ho hK.2.2 rfl:AG _ _ _ _ _ (iV (v-1)) _))<|Ag rfl ?_ ?_)));refine Aa 2 [2] (y<|λ_=>AW [0,1,3] (λw f h _=>h.1.blk) rfl (λ_ h=>h)<|Ag rfl ?_ Aj);refine Bw rfl rfl (eC GG rfl rfl) (λw f hM=>D6 w f hM.vl (v-1)) (λx=>trivial) ?_;rintro⟨⟩ -;refine Aa 1 [] (λ_=>AW [0,1,3] (λw f h _=>h.1.blk) rfl (λ_ h=>h)<|Ag rfl ?_ Aj);refine Aa 2 [] (λb5=>λ_=>AW [1,2,4] (λw f h _=>h.1.blk) rfl (λ_ h=>h)<|Ag rfl ?_ Aj);refine CY 0 0 rfl rfl CR rfl rfl rfl rfl rfl rfl rfl rfl (λ_ _=>rfl) oM oM λra2 rc2=>Aa 1 [] (λ_=>AW [1,2,4] (λw f h _=>h.1.blk) rfl (λ_ h=>h)<|A2 1 [] (λ_=>Ag rfl ?_ Aj));refine Aa 2 [3] (y<|λ_=>AW [1,2,4] (λw f h _=>h.1.blk) rfl (λ_ h=>h)<|Bj<|Aa 6 [] (λ_=>Dx (v:=iV (v-1)) rfl rfl (λw f hM=>Ai rfl Ho hM.res.1.blk rfl)<|Aa 1 [] (λb6=>λ_=>CY 1 0 rfl rfl I9 rfl rfl rfl rfl rfl rfl rfl rfl (λ_ _=>rfl) oM oM λna3 nc3=>Aa 8 [] (aI ⟨oM,oM⟩<|λ_=>?_))))
   exact Dj ((i+1,r,v-1,(tx2,.var (v-1))::m,self.snoc (.var (v-1)),xs++tC (.var (v-1)) none 0,ra2,rc2,(nums++[v-1]),na3,nc3)) (show r.len<(Nd.cons op2 ln2 co2 tx2 nm2 k2 r).len from Nat.lt_succ_self _) ⟨show i+1+r.len=_ by omega,hdv.trans (JP hop2 hvl),show (self.snoc _).len=_ by rw[Ty.len_snoc,hsl,List.length_append];rfl,show (nums++[v-1]).length≤i+1 by rw[List.length_append];simp;omega,Ty.bnd_snoc hsb (Bu _),IN (λt=>tV t none 0) hdm hvl,λn t h=>by rw[D7] at h;split at h;(cases h;exact⟨_,rfl⟩);exact hmv n t h,show s.vars-((i+1:Nat):Int)≤v-1 by omega,show v-1≤s.vars by omega⟩ (rJ rfl rfl rfl rfl (Eq.trans (b:=some (Value.slice na3 (nums.length+1) nc3)) rfl (by dsimp only;rw[List.length_append];rfl)) rfl rfl rfl) (λw f hM=>⟨_,by have hM9:=(hM.more (B':=[]) (F':=[λw f=>Be w f (self.snoc (.var (v-1))) (xs++tC (.var (v-1)) none 0)]) nE (AE.mem ⟨Be.snoc (Ak.nil _ _ _ _) hM.f3,tQ⟩) (Ax.mem ⟨Be.mono,tQ⟩)).less (sD (sD (sD (sD (sK (sK sZ)))))) sR (B':=[]) nE (F':=[λw f=>AT w f (some ⟨eb,eo,none⟩) (i+1) r,λw f=>Be w f (self.snoc (.var (v-1))) (xs++tC (.var (v-1)) none 0),λw f=>EM w f,λw f=>AD w f kids (some ⟨eb,eo,none⟩) nc]) (mR [2,0,5,6]);dsimp only;rw[show (nums++[v-1]).length=nums.length+1 by rw[List.length_append];rfl,List.map_append];exact hM9⟩);refine Ag rfl ?_ Aj;refine Bw rfl rfl (eC GG rfl rfl) (λw f hM=>D6 w f hM.vl (v-1)) (λx=>trivial) ?_;rintro⟨⟩ -;refine Aa 1 [] (λ_=>AW [0,1,3] (λw f h _=>h.1.blk) rfl (λ_ h=>h)<|Ag rfl ?_ ?_);refine Aa 2 [2] (y<|λ_=>AW [0,1,3] (λw f h _=>h.1.blk) rfl (λ_ h=>h)<|Ag rfl ?_ Aj);refine Aa 2 [] (λb7=>λ_=>AW [1,2,4] (λw f h _=>h.1.blk) rfl (λ_ h=>h)<|Ag rfl ?_ Aj);refine CY 0 0 rfl rfl CR rfl rfl rfl rfl rfl rfl rfl rfl (λ_ _=>rfl) oM oM λra2 rc2=>Aa 1 [] (λ_=>AW [1,2,4] (λw f h _=>h.1.blk) rfl (λ_ h=>h)<|A2 1 [] (λ_=>Ag rfl ?_ Aj));refine Aa 2 [3] (y<|λ_=>AW [1,2,4] (λw f h _=>h.1.blk) rfl (λ_ h=>h)<|Bj<|Aa 6 [] (λ_=>Dx (v:=iV (v-1)) rfl rfl (λw f hM=>Ai rfl Ho hM.res.1.blk rfl)<|Aa 1 [] (λb8=>λ_=>CY 1 0 rfl rfl I9 rfl rfl rfl rfl rfl rfl rfl rfl (λ_ _=>rfl) oM oM λna3 nc3=>Aa 8 [] (aI ⟨oM,oM⟩<|λ_=>?_))))
   exact Dj ((i+1,r,v-1,(tx2,.var (v-1))::m,self.snoc (.var (v-1)),xs++tC (.var (v-1)) none 0,ra2,rc2,(nums++[v-1]),na3,nc3)) (show r.len<(Nd.cons op2 ln2 co2 tx2 nm2 k2 r).len from Nat.lt_succ_self _) ⟨show i+1+r.len=_ by omega,hdv.trans (JP hop2 hvl),show (self.snoc _).len=_ by rw[Ty.len_snoc,hsl,List.length_append];rfl,show (nums++[v-1]).length≤i+1 by rw[List.length_append];simp;omega,Ty.bnd_snoc hsb (Bu _),IN (λt=>tV t none 0) hdm hvl,λn t h=>by rw[D7] at h;split at h;(cases h;exact⟨_,rfl⟩);exact hmv n t h,show s.vars-((i+1:Nat):Int)≤v-1 by omega,show v-1≤s.vars by omega⟩ (rJ rfl rfl rfl rfl (Eq.trans (b:=some (Value.slice na3 (nums.length+1) nc3)) rfl (by dsimp only;rw[List.length_append];rfl)) rfl rfl rfl) (λw f hM=>⟨_,by have hM9:=(hM.more (B':=[]) (F':=[λw f=>Be w f (self.snoc (.var (v-1))) (xs++tC (.var (v-1)) none 0)]) nE (AE.mem ⟨Be.snoc (Ak.nil _ _ _ _) hM.f3,tQ⟩) (Ax.mem ⟨Be.mono,tQ⟩)).less (sD (sD (sD (sD (sK (sK sZ)))))) sR (B':=[]) nE (F':=[λw f=>AT w f (some ⟨eb,eo,none⟩) (i+1) r,λw f=>Be w f (self.snoc (.var (v-1))) (xs++tC (.var (v-1)) none 0),λw f=>EM w f,λw f=>AD w f kids (some ⟨eb,eo,none⟩) nc]) (mR [2,0,5,6]);dsimp only;rw[show (nums++[v-1]).length=nums.length+1 by rw[List.length_append];rfl,List.map_append];exact hM9⟩);refine Ag rfl ?_ Aj;refine Aa 2 [] (λb9=>λ_=>AW [1,2,4] (λw f h _=>h.1.blk) rfl (λ_ h=>h)<|Ag rfl ?_ Aj);refine Aa 2 [3] (y<|λ_=>AW [1,2,4] (λw f h _=>h.1.blk) rfl (λ_ h=>h)<|Ag rfl ?_ Aj);refine CY 0 0 rfl rfl CR rfl rfl rfl rfl rfl rfl rfl rfl (λ_ _=>rfl) oM oM λra2 rc2=>Aa 1 [] (λ_=>AW [1,2,4] (λw f h _=>h.1.blk) rfl (λ_ h=>h)<|A2 1 [] (λ_=>Ag rfl ?_ Aj));refine Aa 2 [3] (y<|λ_=>AW [1,2,4] (λw f h _=>h.1.blk) rfl (λ_ h=>h)<|Bj<|Aa 6 [] (λ_=>Dx (v:=iV (v-1)) rfl rfl (λw f hM=>Ai rfl Ho hM.res.1.blk rfl)<|Aa 1 [] (λb10=>λ_=>CY 1 0 rfl rfl I9 rfl rfl rfl rfl rfl rfl rfl rfl (λ_ _=>rfl) oM oM λna3 nc3=>Aa 8 [] (aI ⟨oM,oM⟩<|λ_=>?_))))
   exact Dj ((i+1,r,v-1,(tx2,.var (v-1))::m,self.snoc (.var (v-1)),xs++tC (.var (v-1)) none 0,ra2,rc2,(nums++[v-1]),na3,nc3)) (show r.len<(Nd.cons op2 ln2 co2 tx2 nm2 k2 r).len from Nat.lt_succ_self _) ⟨show i+1+r.len=_ by omega,hdv.trans (JP hop2 hvl),show (self.snoc _).len=_ by rw[Ty.len_snoc,hsl,List.length_append];rfl,show (nums++[v-1]).length≤i+1 by rw[List.length_append];simp;omega,Ty.bnd_snoc hsb (Bu _),IN (λt=>tV t none 0) hdm hvl,λn t h=>by rw[D7] at h;split at h;(cases h;exact⟨_,rfl⟩);exact hmv n t h,show s.vars-((i+1:Nat):Int)≤v-1 by omega,show v-1≤s.vars by omega⟩ (rJ rfl rfl rfl rfl (Eq.trans (b:=some (Value.slice na3 (nums.length+1) nc3)) rfl (by dsimp only;rw[List.length_append];rfl)) rfl rfl rfl) (λw f hM=>⟨_,by have hM9:=(hM.more (B':=[]) (F':=[λw f=>Be w f (self.snoc (.var (v-1))) (xs++tC (.var (v-1)) none 0)]) nE (AE.mem ⟨Be.snoc (Ak.nil _ _ _ _) hM.f3,tQ⟩) (Ax.mem ⟨Be.mono,tQ⟩)).less (sD (sD (sD (sD (sK (sK sZ)))))) sR (B':=[]) nE (F':=[λw f=>AT w f (some ⟨eb,eo,none⟩) (i+1) r,λw f=>Be w f (self.snoc (.var (v-1))) (xs++tC (.var (v-1)) none 0),λw f=>EM w f,λw f=>AD w f kids (some ⟨eb,eo,none⟩) nc]) (mR [2,0,5,6]);dsimp only;rw[show (nums++[v-1]).length=nums.length+1 by rw[List.length_append];rfl,List.map_append];exact hM9⟩)
  |some tv =>
   obtain⟨q0,rfl⟩:=hmv tx2 tv hvl;exact Aa 4 [0] (y<|λ_=>Dx rfl rfl (λw f hM=>Io (K:=BI) (a:=tx2) (v:=tV (.var q0) none 0) rfl rfl Lb F8 Mm hM.res.2 hdm (by rw[Ec (λt=>tV t none 0),hvl];rfl))<|Aa 14 [0,3] (λb11=>y<|y<|λ_=>Nl rfl rfl (eC Ek rfl rfl) (λ_ h=>h.elim) (λw f hM=>(Cg w f hM.vl false ln co).mono (λ_ _ ⟨_,_,_,h,_⟩=>by cases h) λ_ _ h=>h) (λer w2 f2 he hE=>⟨rfl,er,f2,rfl,(by rw[Gt,if_neg hnd0,hdv,TJ hop2 hvl,he.2]),hE⟩)))
  refine Aa 3 [] (λ_=>ER<|Aa 3 [] (λ_=>?_));obtain rfl:r=.nil:=Nd.len0 (by have:=of_decide_eq_false h1;omega);have hdv2:DO ln co kids s.vars [] .nil []=.ok (v,m,self,nums):=hdv;have hil0:i≤kids.len:=oM;refine NC (λw f=>Ak w f self ra rc) Ak.mono (λw f hM=>GV hM hM.f1)<|NC (λw f=>BL w f nums na2 nc2) BL.mono (λw f hM=>LP hM) ?_;have hwv:Dy ({s with vars:=v}:CS):=hw.setVars;refine Kv (λw=>AI w A.cb [pB A.sb,.map (some A.km),.map (some A.dm),.map (some A.rm),iV v] 69) (λw f h _=>h.1.blk) [0,1] Al (rd [0,1,2,3,4,5,6,7] (.br 8 .fin .fin)) rfl kR kR kR (λ_ _ _ _ _ h=>h)<|A2 3 [] (λ_=>Gf rfl rfl rfl (λw hK=>Ai rfl QJ hK.2.2 rfl)<|A2 4 [1] (y<|λ_=>Ag rfl ?_ Aj));refine pS hA hvm hwv rfl rfl rfl rfl QP F8 hdl<|Aa 1 [] (λ_=>AW [0,1] (λw f h _=>h.1.blk) rfl (λ_ h=>h)<|Bj<|Aa 10 [1] (y<|λ_=>?_));refine Fy (α:=Nat×Nd×List (lU×Mk)) (λx=>x.2.1.len) (λx=>x.1+x.2.1.len=kids.len∧Dz ((tx,(nums.length:Int))::s.datas) m (.con tx self) nums kids s.cons=Dz ((tx,(nums.length:Int))::s.datas) m (.con tx self) nums x.2.1 x.2.2∧Dy ({s with vars:=v,datas:=(tx,(nums.length:Int))::s.datas,cons:=x.2.2}:CS)∧x.2.1.txb∧x.2.1.size≤kids.size) (λx=>(E7 0 (pB A.cb) 6 (.map (some vm)) 7 (pB b2) 8 (.slice na2 nums.length nc2) 111 (.slice na kids.len nc) 112 (iV (kids.len:Int)) 113 (iV (x.1:Int)))) (λx=>⟨Bx A,λb=>Bx A b∨b=vm,DN 69 148 A ({s with vars:=v,datas:=(tx,(nums.length:Int))::s.datas,cons:=x.2.2}:CS) vm m,w,f⟩) (λx=>[⟨b2,[iV 1,iV 0,S tx,.slice ra nums.length rc],61,true⟩,⟨b1,[iV op,iV ln,iV co,S tx,iV nm,.slice na kids.len nc],59,true⟩]) (λx=>[]) (λx=>[]) (λx=>[λw f=>AT w f na x.1 x.2.1,λw f=>BL w f nums na2 nc2,λw f=>Ak w f self ra rc,λw f=>EM w f]) (0,kids,s.cons) ⟨Nat.zero_add _,rfl,(hwv.addData hdl),htb0,Nat.le_refl _⟩ lE (λw f hM=>hM.more (B':=[]) (F':=[λw f=>AT w f na 0 kids]) nE (AE.mem ⟨AD.at hM.f5,tQ⟩) (Ax.mem ⟨AT.mono,tQ⟩) |>.less sR sR nE (mR [0,1,2,5])) ?_;rintro⟨j,r,cl⟩ ⟨hi3,hdc,hwc,htxb,hrs⟩;dsimp only at hi3 hdc hwc htxb hrs ⊢;refine Aa 6 [] (λ_=>AL 114 rfl rfl (λh3=>?_) (λh3=>?_));refine Aa 6 [] (λ_=>?_);have hil:j<kids.len:=by have:=of_decide_eq_true h3;omega
  obtain⟨op2,ln2,co2,tx2,nm2,k2,r,rfl⟩:=Nd.cases1 r oM;have hi2:j+(r.len+1)=kids.len:=hi3;obtain⟨htx2,hkx2,hrx2⟩:=htxb;have hrs2:k2.size+r.size+1≤kids.size:=hrs;have hkl2:=Nd.len_le k2;refine H9 0 rfl ?_;rintro⟨eb,eo,ka,kc⟩ rfl;refine Aa 15 [100,0,0,0] (aI oM<|y2<|λb12=>y<|y<|λ_=>AL 119 rfl rfl (λh4=>?_) (λh4=>?_));exact Aa 9 [] (aI ⟨oM,oM⟩<|λ_=>Dj ((j+1,r,cl)) (show r.len<(Nd.cons op2 ln2 co2 tx2 nm2 k2 r).len from Nat.lt_succ_self _) ⟨show j+1+r.len=_ by omega,hdc.trans (QQ (by simpa using h4)),hwc,hrx2,show r.size≤_ by omega⟩ lE (λw f hM=>⟨_,hM.less (sD (sK (sK sZ))) sR nE (mR [1,3,4,5])⟩));refine Aa 4 [] (λ_=>?_);have hop2:(op2==42)=true:=by have h9:(op2 != 42)=false:=h4;simpa using h9
  refine eI (λes w f=>DN 69 148 A ({s with vars:=v,datas:=(tx,(nums.length:Int))::s.datas,cons:=cl}:CS) vm m w f∧BE BI w A.km es∧BS w f cl es) (λw f h=>let ⟨es,h1,h2⟩:=h.1.cons;⟨es,h,h1,h2⟩) (λes w f w' f' h hF hb=>⟨DN.stab w f w' f' h.1 hF hb,h.2.1.heap (hb _ (.inl (.inr (.inr (.inr (.inl rfl)))))),BS.mono hF _ _ h.2.2⟩) λes=>HZ (λw f hM=>(show Il es from BS.dis hM.res.2.2 hwc.dc)) λhdis=>?_
  cases hcl:AS cl tx2 with
  |none =>
   refine HZ (λw f hM=>(BS.look hM.res.2.2).1 hcl) λhlk=>Kv (λw=>AI w A.cb [pB A.sb,.map (some A.km),.map (some A.dm),.map (some A.rm),iV v] 69∧BE BI w A.km es) (λw f h _=>⟨h.1.1.blk,h.2.1⟩) [0,1,2] Al (rd [0,1,2,3,4,5,6,7,8,9] (.br 10 (.br 11 (.rd 12 .fin) .fin) .fin)) rfl kR kR kR (λ_ _ _ _ _ h=>h)<|A2 3 [] (λ_=>Gf rfl rfl rfl (λw hK=>Ai rfl NR hK.2.2.1 rfl)<|A2 2 [0] (y<|λ_=>Gf rfl rfl rfl (λw hK=>Iq (K:=BI) (a:=tx2) rfl rfl Oi F8 OY hK.2.2.2 hdis hlk)<|A2 3 [] (λ_=>Ag rfl ?_ Aj)));refine Aa 2 [] (λb13=>λ_=>AW [1,2,3] (λw f h _=>⟨h.1.1.blk,h.2.1⟩) rfl (λ_ h=>h)<|Ag rfl ?_ Aj);refine Aa 2 [0] (y<|λ_=>AW [1,2,3] (λw f h _=>⟨h.1.1.blk,h.2.1⟩) rfl (λ_ h=>h)<|A2 1 [] (λ_=>Bj<|Aa 7 [1] (y<|λ_=>D5 (α:=Unit) (val:=λ_=>.tuple #[]) (q:=λ_=>true=true) (I':=λ_=>DN 69 148 A ({s with vars:=v,datas:=(tx,(nums.length:Int))::s.datas,cons:=cl}:CS) vm m) (F':=λ_=>[]) (pe:=λer=>true=false∧er=(ln2,co2,11)) (M:=λ_=>False) (T:=52) rfl rfl (eC Ek rfl rfl) (λ_ h=>h.elim) (λw f hM=>(Cg w f hM.vl true ln2 co2).mono (λ_ _ ⟨x,f2,h1,h2,h3,h4⟩=>⟨x,f2,h1,h2,h3.mono (λ_ h=>h.elim),(hM.call0 h3).res.1,h4⟩) λ_ _ h=>h) (λ_=>DN.stab) (λ_=>trivial) (λer w2 f2 he hE=>⟨rfl,er,f2,rfl,(by cases he.1),hE⟩) ?_)));rintro⟨⟩ hnd;refine Aa 21 [2,0,2] (y<|λb14=>y<|y<|λ_=>NB 61 4 ?_);refine Fy (α:=Nat×Nd×Ty×List Value×Option Addr×Nat) (λx=>x.2.1.len) (λx=>x.1+x.2.1.len=k2.len∧x.2.2.1.len=x.1∧FF ((tx,(nums.length:Int))::s.datas) m k2=(match FF ((tx,(nums.length:Int))::s.datas) m x.2.1 with|.error x=>.error x|.ok l=>.ok (x.2.2.1.app l))∧x.2.2.1.bnd∧x.2.1.txb∧x.2.1.size≤k2.size) (λx=>(uQ 0 (pB A.cb) 6 (.map (some vm)) 7 (pB b2) 8 (.slice na2 nums.length nc2) 14 (pB b12) 17 (pB b14) 111 (.slice (some ⟨eb,eo,none⟩) kids.len nc) 112 (iV (kids.len:Int)) 113 (iV (j:Int)) 139 (.slice ka k2.len kc) 140 (iV (k2.len:Int)) 141 (iV (x.1:Int)))) (λx=>⟨Bx A,λb=>Bx A b∨b=vm,DN 69 148 A ({s with vars:=v,datas:=(tx,(nums.length:Int))::s.datas,cons:=cl}:CS) vm m,w,f⟩) (λx=>[⟨b14,[.slice x.2.2.2.2.1 x.1 x.2.2.2.2.2,iV 1,iV 0,S tx,.slice ra nums.length rc,.slice na2 nums.length nc2],105,true⟩,⟨b12,JQ op2 ln2 co2 tx2 nm2 ka k2.len kc,59,true⟩,⟨b2,[iV 1,iV 0,S tx,.slice ra nums.length rc],61,true⟩,⟨b1,[iV op,iV ln,iV co,S tx,iV nm,.slice (some ⟨eb,eo,none⟩) kids.len nc],59,true⟩]) (λx=>[⟨61,4,x.2.2.2.2.1,x.2.2.2.2.2,x.1,x.2.2.2.1⟩]) (λx=>[]) (λx=>[λw f=>AT w f ka x.1 x.2.1,λw f=>Be w f x.2.2.1 x.2.2.2.1,λw f=>EM w f,λw f=>BL w f nums na2 nc2,λw f=>Ak w f self ra rc,λw f=>AT w f (some ⟨eb,eo,none⟩) (j+1) r]) (0,k2,.nil,[],none,0) ⟨Nat.zero_add _,rfl,ME,tQ,hkx2,Nat.le_refl _⟩ lE (λw f hM=>hM.more (B':=[]) (F':=[λw f=>AT w f ka 0 k2,λw f=>Be w f .nil []]) nE (AE.mem ⟨AD.at hM.f0,rfl,tQ⟩) (Ax.mem ⟨AT.mono,Be.mono,tQ⟩) |>.less (sK (sD (sK (sK (sK sZ))))) sR nE (mR [0,1,7,5,6,3])) ?_;rintro⟨i4,r4,dn,xs4,ra5,rc5⟩ ⟨hi4,hdl2,hty,hdb,htxb4,hrs4⟩
   dsimp only at hi4 hdl2 hty hdb htxb4 hrs4 ⊢;refine Aa 6 [] (λ_=>AL 142 rfl rfl (λh5=>?_) (λh5=>?_));refine Aa 6 [] (λ_=>?_);have hil4:i4<k2.len:=by have:=of_decide_eq_true h5;omega
   obtain⟨op3,ln3,co3,tx3,nm3,k3,r4,rfl⟩:=Nd.cases1 r4 oM;have hi5:i4+(r4.len+1)=k2.len:=hi4;obtain⟨htx3,hkx3,hrx3⟩:=htxb4;have hrs4b:k3.size+r4.size+1≤k2.size:=hrs4;refine H9 0 rfl ?_;rintro⟨eb4,eo4,ka4,kc4⟩ rfl;refine Aa 7 [100,0,0] (aI oM<|y2<|λb15=>y<|λ_=>Cz [0,2,3,4] Al (rd [0,2,3,4] (.br 1 (.br 5 (.br 6 (.br 7 (.rd 8 (.br 9 .fin .fin)) .fin) .fin) .fin) (.br 5 (.br 1 (.br 6 (.br 7 (.rd 8 (.br 9 .fin .fin)) .fin) .fin) (.br 6 (.br 1 (.br 7 (.rd 8 (.br 9 .fin .fin)) .fin) .fin) .fin)) .fin))) rfl kR<|A2 4 [0] (y<|λ_=>Ag rfl ?_ ?_));refine Aa 2 [1] (y<|λ_=>Au [0,2,3,4] rfl<|Ag rfl ?_ Aj);refine D5 (I':=λ_=>DN 69 148 A ({s with vars:=v,datas:=(tx,(nums.length:Int))::s.datas,cons:=cl}:CS) vm m) (M:=λ_=>False) (α:=T1×Option Addr×Nat) (val:=λx=>tV x.1 x.2.1 x.2.2) (q:=λx=>CB ((tx,(nums.length:Int))::s.datas) m op3 ln3 co3 tx3 k3=.ok x.1∧x.1.bnd) (F':=λx=>[λw f=>Ak w f x.1.kids x.2.1 x.2.2]) (pe:=λer=>CB ((tx,(nums.length:Int))::s.datas) m op3 ln3 co3 tx3 k3=.error er) (T:=52) rfl rfl (eC Mp rfl rfl) (λ_ h=>h.elim) (λw f hM=>(K4 (k3.size+1) w f hM.vl A ({s with vars:=v,datas:=(tx,(nums.length:Int))::s.datas,cons:=cl}:CS) hM.res.1 hwc hM.f4 op3 ln3 co3 nm3 tx3 k3 ka4 kc4 (.map (some vm)) m (Nat.lt_succ_self _) oM htx3 hkx3 (.inr ⟨vm,rfl,hM.res.2,hdm,hmv⟩) hM.f0).mono (λ_ _ ⟨x,f2,h1,h2,h3,h4⟩=>⟨x,f2,h1,h2,h3.mono (λ_ h=>h.elim),(hM.call0 h3).res,h4⟩) λ_ _ h=>h) (λ_=>DN.stab) (λ_=>⟨Ak.mono,tQ⟩) (λer w2 f2 he hE=>⟨rfl,er,f2,rfl,(by rw[Gt,if_neg hnd0,hdv2];simp only;rw[hdc,Mg hop2 hcl (by rw[hty,ID he])]),hE⟩) ?_;rintro⟨q5,qa,qc⟩ ⟨hp5,hqb⟩;dsimp only at hp5 hqb ⊢;refine Aa 1 [] (λ_=>Au [0,2,3,4] rfl<|Ag rfl ?_ Aj);refine Aa 2 [] (λb16=>λ_=>Au [1,3,4,5] rfl<|Ag rfl ?_ Aj);refine CY 0 0 rfl rfl CR rfl rfl rfl rfl rfl rfl rfl rfl (λ_ _=>rfl) oM oM λra6 rc6=>Aa 1 [] (λ_=>Au [1,3,4,5] rfl<|A2 1 [] (λ_=>Ag rfl ?_ Aj));exact Aa 2 [2] (y<|λ_=>Au [1,3,4,5] rfl<|Bj<|Aa 6 [] (aI ⟨oM,oM⟩<|λ_=>Dj ((i4+1,r4,dn.snoc q5,xs4++tC q5 qa qc,ra6,rc6)) (show r4.len<(Nd.cons op3 ln3 co3 tx3 nm3 k3 r4).len from Nat.lt_succ_self _) ⟨show i4+1+r4.len=_ by omega,show (dn.snoc _).len=i4+1 by rw[Ty.len_snoc,hdl2],hty.trans (Gk hp5),show (dn.snoc _).bnd from Ty.bnd_snoc hdb hqb,hrx3,show r4.size≤_ by omega⟩ lE (λw f hM=>⟨_,(hM.more (B':=[]) (F':=[λw f=>Be w f (dn.snoc q5) (xs4++tC q5 qa qc)]) nE (AE.mem ⟨Be.snoc hM.f0 hM.f4,tQ⟩) (Ax.mem ⟨Be.mono,tQ⟩)).less (sD (sD (sK (sK (sK (sK sZ)))))) sR nE (mR [3,0,6,7,8,9])⟩)));refine Ag rfl ?_ Aj
   refine D5 (I':=λ_=>DN 69 148 A ({s with vars:=v,datas:=(tx,(nums.length:Int))::s.datas,cons:=cl}:CS) vm m) (M:=λ_=>False) (α:=T1×Option Addr×Nat) (val:=λx=>tV x.1 x.2.1 x.2.2) (q:=λx=>CB ((tx,(nums.length:Int))::s.datas) m op3 ln3 co3 tx3 k3=.ok x.1∧x.1.bnd) (F':=λx=>[λw f=>Ak w f x.1.kids x.2.1 x.2.2]) (pe:=λer=>CB ((tx,(nums.length:Int))::s.datas) m op3 ln3 co3 tx3 k3=.error er) (T:=52) rfl rfl (eC Mp rfl rfl) (λ_ h=>h.elim) (λw f hM=>(K4 (k3.size+1) w f hM.vl A ({s with vars:=v,datas:=(tx,(nums.length:Int))::s.datas,cons:=cl}:CS) hM.res.1 hwc hM.f4 op3 ln3 co3 nm3 tx3 k3 ka4 kc4 (.map (some vm)) m (Nat.lt_succ_self _) oM htx3 hkx3 (.inr ⟨vm,rfl,hM.res.2,hdm,hmv⟩) hM.f0).mono (λ_ _ ⟨x,f2,h1,h2,h3,h4⟩=>⟨x,f2,h1,h2,h3.mono (λ_ h=>h.elim),(hM.call0 h3).res,h4⟩) λ_ _ h=>h) (λ_=>DN.stab) (λ_=>⟨Ak.mono,tQ⟩) (λer w2 f2 he hE=>⟨rfl,er,f2,rfl,(by rw[Gt,if_neg hnd0,hdv2];simp only;rw[hdc,Mg hop2 hcl (by rw[hty,ID he])]),hE⟩) ?_;rintro⟨q5,qa,qc⟩ ⟨hp5,hqb⟩;dsimp only at hp5 hqb ⊢;refine Aa 1 [] (λ_=>Au [0,2,3,4] rfl<|Ag rfl ?_ ?_);refine Aa 2 [1] (y<|λ_=>Au [0,2,3,4] rfl<|Ag rfl ?_ Aj);refine Aa 2 [] (λb17=>λ_=>Au [1,3,4,5] rfl<|Ag rfl ?_ Aj);refine CY 0 0 rfl rfl CR rfl rfl rfl rfl rfl rfl rfl rfl (λ_ _=>rfl) oM oM λra6 rc6=>Aa 1 [] (λ_=>Au [1,3,4,5] rfl<|A2 1 [] (λ_=>Ag rfl ?_ Aj));exact Aa 2 [2] (y<|λ_=>Au [1,3,4,5] rfl<|Bj<|Aa 6 [] (aI ⟨oM,oM⟩<|λ_=>Dj ((i4+1,r4,dn.snoc q5,xs4++tC q5 qa qc,ra6,rc6)) (show r4.len<(Nd.cons op3 ln3 co3 tx3 nm3 k3 r4).len from Nat.lt_succ_self _) ⟨show i4+1+r4.len=_ by omega,show (dn.snoc _).len=i4+1 by rw[Ty.len_snoc,hdl2],hty.trans (Gk hp5),show (dn.snoc _).bnd from Ty.bnd_snoc hdb hqb,hrx3,show r4.size≤_ by omega⟩ lE (λw f hM=>⟨_,(hM.more (B':=[]) (F':=[λw f=>Be w f (dn.snoc q5) (xs4++tC q5 qa qc)]) nE (AE.mem ⟨Be.snoc hM.f0 hM.f4,tQ⟩) (Ax.mem ⟨Be.mono,tQ⟩)).less (sD (sD (sK (sK (sK (sK sZ)))))) sR nE (mR [3,0,6,7,8,9])⟩)));refine Ag rfl ?_ Aj;refine Aa 2 [] (λb18=>λ_=>Au [1,3,4,5] rfl<|Ag rfl ?_ Aj);refine Aa 2 [2] (y<|λ_=>Au [1,3,4,5] rfl<|Ag rfl ?_ Aj);refine CY 0 0 rfl rfl CR rfl rfl rfl rfl rfl rfl rfl rfl (λ_ _=>rfl) oM oM λra6 rc6=>Aa 1 [] (λ_=>Au [1,3,4,5] rfl<|A2 1 [] (λ_=>Ag rfl ?_ Aj));exact Aa 2 [2] (y<|λ_=>Au [1,3,4,5] rfl<|Bj<|Aa 6 [] (aI ⟨oM,oM⟩<|λ_=>Dj ((i4+1,r4,dn.snoc q5,xs4++tC q5 qa qc,ra6,rc6)) (show r4.len<(Nd.cons op3 ln3 co3 tx3 nm3 k3 r4).len from Nat.lt_succ_self _) ⟨show i4+1+r4.len=_ by omega,show (dn.snoc _).len=i4+1 by rw[Ty.len_snoc,hdl2],hty.trans (Gk hp5),show (dn.snoc _).bnd from Ty.bnd_snoc hdb hqb,hrx3,show r4.size≤_ by omega⟩ lE (λw f hM=>⟨_,(hM.more (B':=[]) (F':=[λw f=>Be w f (dn.snoc q5) (xs4++tC q5 qa qc)]) nE (AE.mem ⟨Be.snoc hM.f0 hM.f4,tQ⟩) (Ax.mem ⟨Be.mono,tQ⟩)).less (sD (sD (sK (sK (sK (sK sZ)))))) sR nE (mR [3,0,6,7,8,9])⟩)));refine Aa 3 [] (λ_=>ER<|Aa 2 [] (λ_=>?_));obtain rfl:r4=.nil:=Nd.len0 (by have:=of_decide_eq_false h5;omega)
   have hty2:FF ((tx,(nums.length:Int))::s.datas) m k2=.ok dn:=by rw[hty];show (Except.ok (dn.app .nil):RI Ty)=_;rw[Ty.app_nil]
   have hdk:dn.len≤200000:=by have:i4+0=k2.len:=hi4;omega
   subst hdl2;refine NC (λw f=>Ak w f dn ra5 rc5) Ak.mono (λw f hM=>GV hM hM.f1)<|Kv (λw=>AI w A.cb [pB A.sb,.map (some A.km),.map (some A.dm),.map (some A.rm),iV v] 69) (λw f h _=>h.1.blk) [0,1,2,3] Al (rd [0,1,2,3,4,5,6] (.br 7 .fin .fin)) rfl kR kR kR (λ_ _ _ _ _ h=>h)<|A2 3 [] (λ_=>Gf rfl rfl rfl (λw hK=>Ai rfl NR hK.2.2 rfl)<|A2 3 [1,0] (y<|y<|λ_=>Ag rfl ?_ Aj));exact mK (m:=⟨dn,.con tx self,nums⟩) (aa:=ra5) (ac:=rc5) (oa:=ra) (oc:=rc) (va:=na2) (vc:=nc2) (i1:=0) (i2:=5) (i3:=4) hA hvm hwc rfl rfl rfl rfl (by unfold Z2 tC;simp only[T1.kids,hsl];rfl) Oi F8 hcl rfl rfl rfl<|Aa 1 [] (λ_=>AW [0,1,2,3] (λw f h _=>h.1.blk) rfl (λ_ h=>h)<|Bj<|Aa 6 [] (aI ⟨oM,oM⟩<|λ_=>Dj ((j+1,r,(tx2,⟨dn,.con tx self,nums⟩)::cl)) (show r.len<(Nd.cons op2 ln2 co2 tx2 nm2 k2 r).len from Nat.lt_succ_self _) ⟨show j+1+r.len=_ by omega,hdc.trans (Sr hop2 hcl hty2),hwc.addCons hcl ⟨hdk,hdb,CZ oM oM hsb,by dsimp only;omega⟩,hrx2,show r.size≤_ by omega⟩ lE (λw f hM=>⟨_,hM.less (sD (sD (sK (sK sZ)))) sR nE (mR [6,4,5,3])⟩)))
  |some mk =>
   refine LM (α:=Option Addr×Nat×Option Addr×Nat×Option Addr×Nat) (λx=>Ej es tx2=some (.agg (Z2 mk x.1 x.2.1 x.2.2.1 x.2.2.2.1 x.2.2.2.2.1 x.2.2.2.2.2).toArray)) (λx=>[]) (λx=>[]) (λw f hM=>let ⟨aa,ac,oa,oc,va,vc,h1,_⟩:=(BS.look hM.res.2.2).2 mk hcl;⟨(aa,ac,oa,oc,va,vc),h1,nE,nE⟩) (λx _ h=>by cases h) ?_;rintro⟨aa,ac,oa,oc,va,vc⟩ hlk;refine Kv (λw=>AI w A.cb [pB A.sb,.map (some A.km),.map (some A.dm),.map (some A.rm),iV v] 69∧BE BI w A.km es) (λw f h _=>⟨h.1.1.blk,h.2.1⟩) [0,1,2] Al (rd [0,1,2,3,4,5,6,7,8,9] (.br 10 (.br 11 (.rd 12 .fin) .fin) .fin)) rfl kR kR kR (λ_ _ _ _ _ h=>h)<|A2 3 [] (λ_=>Gf rfl rfl rfl (λw hK=>Ai rfl NR hK.2.2.1 rfl)<|A2 2 [0] (y<|λ_=>Gf rfl rfl rfl (λw hK=>Io (K:=BI) (a:=tx2) rfl rfl Oi F8 OY hK.2.2.2 hdis hlk)<|A2 3 [] (λ_=>Ag rfl ?_ Aj)));refine Aa 2 [] (λb19=>λ_=>AW [1,2,3] (λw f h _=>⟨h.1.1.blk,h.2.1⟩) rfl (λ_ h=>h)<|Ag rfl ?_ Aj);exact Aa 2 [0] (y<|λ_=>AW [1,2,3] (λw f h _=>⟨h.1.1.blk,h.2.1⟩) rfl (λ_ h=>h)<|A2 1 [] (λ_=>Bj<|Aa 7 [1] (y<|λ_=>Nl rfl rfl (eC Ek rfl rfl) (λ_ h=>h.elim) (λw f hM=>(Cg w f hM.vl false ln2 co2).mono (λ_ _ ⟨_,_,_,h,_⟩=>by cases h) λ_ _ h=>h) (λer w2 f2 he hE=>⟨rfl,er,f2,rfl,(by rw[Gt,if_neg hnd0,hdv2];simp only;rw[hdc,OX hop2 hcl,he.2]),hE⟩))))
  refine Aa 3 [] (λ_=>ER<|Aa 1 [] (λ_=>?_));obtain rfl:r=.nil:=Nd.len0 (by have:=of_decide_eq_false h3;omega);have hdc2:Dz ((tx,(nums.length:Int))::s.datas) m (.con tx self) nums kids s.cons=.ok cl:=hdc;exact bH (λw f hM=>D0 rfl) (λw f hM=>⟨({s with vars:=v,datas:=(tx,(nums.length:Int))::s.datas,cons:=cl}:CS),f,rfl,⟨(by rw[Gt,if_neg hnd0,hdv2];simp only;rw[hdc2]),hwc,rfl,by dsimp only;omega,hv2⟩,hM.exm,hM.res.1,tQ⟩)
 |some cnt =>
  refine Kv (λw=>AI w A.cb [pB A.sb,.map (some A.km),.map (some A.dm),.map (some A.rm),iV s.vars] 69∧BE BI w A.dm (s.datas.map λp=>(p.1,iV p.2))) (λw f h _=>⟨h.blk,h.datas⟩) [0] Al (rd [0,1,2,3,4,5,6,7,8,9,10,11] .fin) rfl kR kR kR (λ_ _ _ _ _ h=>h)<|A2 3 [] (λ_=>Gf rfl rfl rfl (λw hK=>Ai rfl QJ hK.2.2.1 rfl)<|A2 2 [0] (y<|λ_=>Gf rfl rfl rfl (λw hK=>Io (K:=BI) (a:=tx) (v:=iV cnt) rfl rfl QP F8 cX hK.2.2.2 hw.dd (by rw[Ec (λc=>Value.int .i64 c),hdl];rfl))<|A2 5 [] (λ_=>Bj<|Aa 2 [] (λ_=>Cz [0] Al (rd [0,1,2,3,4,5,6,10,11] (.br 7 (.rd 8 (.rd 9 (.br 12 .fin .fin))) .fin)) rfl kR<|A2 9 [0] (y<|λ_=>?_)))));refine Ag rfl ?_ Aj;refine Aa 2 [] (λ_=>Au [0] rfl<|A2 2 [] (λ_=>Ag rfl ?_ Aj));exact Nl rfl rfl (eC Ek rfl rfl) (λ_ h=>h.elim) (λw f hM=>(Cg w f hM.vl false ln co).mono (λ_ _ ⟨_,_,_,h,_⟩=>by cases h) λ_ _ h=>h) (λer w2 f2 he hE=>⟨rfl,er,f2,rfl,(by rw[Gt,if_pos (by rw[hdl];rfl),he.2]),hE⟩)
theorem WH(w:World)(f:Fq)(hv:Vl w f)(hG:EM w f)(ob:Nat)(oa:Option Addr)(oc n0:Nat)(oxs:List Value)(l:List RE)(hP:DA 106 109 ob (.slice oa n0 oc) oa oc n0 oxs w f)(hL:CF w f l oxs)(hf:∀b,MZ ob oa b→f b=0)(hn0:n0≤1000)(nms:lU)(fs:List lU)(hfs:Lib.fields nms=fs)(hns:nms.length≤1000)(hasc:nms.all (λc=>decide (c.toNat<128))=true)(hfl:fs.length≤1000)(k:Ty)(ka:Option Addr)(kc:Nat)(hk0:0<k.len)(hkl:k.len≤1000)(hkb:k.bnd)(hT:Ak w f k ka kc) :
  Bq prog 73 #[S nms,.slice ka k.len kc,pB ob] w (JD (α:=Option Addr×Nat×List Value) (λ_=>.tuple #[]) (λ_=>True) (MZ ob oa) (λx=>MZ ob x.1) (λx=>DA 106 109 ob (.slice x.1 (n0+fs.length) x.2.1) x.1 x.2.1 (n0+fs.length) x.2.2) (λx=>[λw f=>CF w f (l++fs.map (λnm=>(nm,(k.len:Int)-1,He k))) x.2.2]) w f):=by
 refine Co (X:=⟨MZ ob oa,MZ ob oa,DA 106 109 ob (.slice oa n0 oc) oa oc n0 oxs,w,f⟩) (H:=[]) (R:=[]) (B:=[]) (Fs:=[λw f=>EM w f,λw f=>Ak w f k ka kc,λw f=>CF w f l oxs]) (f:=f) func73 rfl rfl rfl (PZ (M:=MZ ob oa) hv hP DA.stab (λb hb=>⟨hP.lt hb,hf b hb⟩) ⟨hG,hT,hL,tQ⟩ ⟨EM.mono,Ak.mono,CF.mono,tQ⟩)<|Aa 3 [] (λ_=>Bw rfl rfl (eC fE rfl rfl) (λw f hM=>Qj w f hM.vl hM.f0 nms oM hasc) (λx=>⟨XV.mono,tQ⟩) ?_);rintro⟨sa,sc⟩ -;rw[hfs];refine Aa 5 [] (λ_=>?_);refine Fy (α:=Nat×Option Addr×Nat×List Value) (λx=>fs.length-x.1) (λx=>x.1≤fs.length) (λx=>(E5 1 (.slice ka k.len kc) 2 (pB ob) 8 (.slice sa fs.length sc) 9 (iV (fs.length:Int)) 10 (iV (x.1:Int)))) (λx=>⟨MZ ob oa,MZ ob x.2.1,DA 106 109 ob (.slice x.2.1 (n0+x.1) x.2.2.1) x.2.1 x.2.2.1 (n0+x.1) x.2.2.2,w,f⟩) (λx=>[]) (λx=>[]) (λx=>[]) (λx=>[λw f=>XV w f fs sa sc,λw f=>Ak w f k ka kc,λw f=>CF w f (l++(fs.take x.1).map (λnm=>(nm,(k.len:Int)-1,He k))) x.2.2.2]) (0,oa,oc,oxs) (Nat.zero_le _) lE (λw f hM=>(by have hM9:=hM.more (B':=[]) (F':=[λw f=>CF w f (l++(fs.take 0).map (λnm=>(nm,(k.len:Int)-1,He k))) oxs]) nE (AE.mem ⟨by simpa using hM.f3,tQ⟩) (Ax.mem ⟨CF.mono,tQ⟩);exact hM9.less sR sR nE (mR [1,3,0]))) ?_;rintro⟨i,oa2,oc2,xs⟩ hi;dsimp only at hi ⊢;refine Aa 6 [] (λ_=>AL 11 rfl rfl (λh1=>?_) (λh1=>?_));refine Aa 6 [] (λ_=>?_);have hil:i<fs.length:=by have:=of_decide_eq_true h1;omega
 obtain⟨nm,hx⟩:∃v,fs[i]?=some v:=⟨_,List.getElem?_eq_getElem hil⟩;refine LM (α:=Nat) (λx=>sa=some ⟨x,0,none⟩) (λx=>[⟨x,0+i*1,[S nm]⟩]) (λx=>[]) (λw f hM=>let ⟨_,b,h1,h2⟩:=hM.f0;⟨b,h1,(λe he=>by cases he with|head=>(rw[Nat.mul_one];exact Cs.at h2 (by rw[List.getElem?_map,hx];rfl))|tail _ h=>cases h),λ_ h=>by cases h⟩) (λx=>Ax.mem tQ) ?_;rintro sb rfl;refine Aa 6 [100,0] (aI oM<|y2<|λ_=>Cz [] Al (rd [1,2,3,4,5] (.br 0 (.br 6 (.rd 7 (.br 8 (.br 9 (.br 10 .fin .fin) .fin) .fin)) .fin) (.br 6 (.rd 7 (.br 0 (.br 8 (.br 9 (.br 10 .fin .fin) .fin) .fin) (.br 8 (.br 0 (.br 9 (.br 10 .fin .fin) .fin) .fin) .fin))) .fin))) rfl kR<|A2 5 [] (aI ⟨oM,oM⟩<|λ_=>Ag rfl ?_ ?_));refine Dx rfl rfl (λw f hM=>Ai rfl JC hM.res.blk rfl)<|Aa 1 [] (λ_=>Au [] rfl<|Ag rfl ?_ Aj);refine Bw rfl rfl (eC P0 rfl rfl) (λw f hM=>L8 w f hM.vl k ka kc hk0 oM hkb hM.f1) (λx=>⟨Ak.mono,tQ⟩) ?_;rintro⟨ta,tc⟩ -;refine Aa 1 [] (λ_=>Au [] rfl<|A2 1 [] (λ_=>Ag rfl ?_ Aj));refine Aa 2 [] (λb1=>λ_=>Au [] rfl<|Ag rfl ?_ Aj);refine Mw (MI':=MZ ob) (I':=λa' c'=>DA 106 109 ob (.slice oa2 (n0+i) oc2) a' c' (n0+i+1) (xs++pC (nm,(k.len:Int)-1,He k) ta tc)) 0 rfl rfl SN rfl rfl rfl rfl rfl rfl rfl oM oM (λw f h=>h.row) (λb h=>.inr h) (λ_ _ h=>MZ.or h) (λw f w2 a2 c2 h hM hr hG=>h.app hr hG) (λ_ _=>DA.stab) λa2 c2=>Aa 1 [] (λ_=>Au [] rfl<|Ag rfl ?_ Aj);exact Tb (b:=ob) (I':=DA 106 109 ob (.slice a2 (n0+i+1) c2) a2 c2 (n0+i+1) (xs++pC (nm,(k.len:Int)-1,He k) ta tc)) rfl rfl rfl rfl JC rfl rfl rfl (.inl rfl) (λw f h=>h.blk) (λw f w2 h hM hC hb=>h.store hC hb) DA.stab<|Aa 1 [] (λ_=>Au [] rfl<|Bj<|Aa 6 [] (aI ⟨oM,oM⟩<|λ_=>Dj ((i+1,a2,c2,xs++pC (nm,(k.len:Int)-1,He k) ta tc)) (show fs.length-(i+1)<fs.length-i by omega) (show i+1≤_ by omega) lE (λw f hM=>⟨_,(hM.more (B':=[]) (F':=[λw f=>CF w f (l++(fs.take (i+1)).map (λnm=>(nm,(k.len:Int)-1,He k))) (xs++pC (nm,(k.len:Int)-1,He k) ta tc)]) nE (AE.mem ⟨by rw[CT hx,List.map_append,← List.append_assoc];exact CF.snoc (p:=(nm,(k.len:Int)-1,He k)) hM.f0 hM.f3,tQ⟩) (Ax.mem ⟨CF.mono,tQ⟩)).less (sD sZ) sR nE (mR [2,3,0])⟩)));refine Ag rfl ?_ Aj;refine Bw rfl rfl (eC P0 rfl rfl) (λw f hM=>L8 w f hM.vl k ka kc hk0 oM hkb hM.f1) (λx=>⟨Ak.mono,tQ⟩) ?_;rintro⟨ta,tc⟩ -;refine Aa 1 [] (λ_=>Au [] rfl<|A2 1 [] (λ_=>Ag rfl ?_ ?_));refine Dx rfl rfl (λw f hM=>Ai rfl JC hM.res.blk rfl)<|Aa 1 [] (λ_=>Au [] rfl<|Ag rfl ?_ Aj);refine Aa 2 [] (λb2=>λ_=>Au [] rfl<|Ag rfl ?_ Aj);refine Mw (MI':=MZ ob) (I':=λa' c'=>DA 106 109 ob (.slice oa2 (n0+i) oc2) a' c' (n0+i+1) (xs++pC (nm,(k.len:Int)-1,He k) ta tc)) 0 rfl rfl SN rfl rfl rfl rfl rfl rfl rfl oM oM (λw f h=>h.row) (λb h=>.inr h) (λ_ _ h=>MZ.or h) (λw f w2 a2 c2 h hM hr hG=>h.app hr hG) (λ_ _=>DA.stab) λa2 c2=>Aa 1 [] (λ_=>Au [] rfl<|Ag rfl ?_ Aj)
 exact Tb (b:=ob) (I':=DA 106 109 ob (.slice a2 (n0+i+1) c2) a2 c2 (n0+i+1) (xs++pC (nm,(k.len:Int)-1,He k) ta tc)) rfl rfl rfl rfl JC rfl rfl rfl (.inl rfl) (λw f h=>h.blk) (λw f w2 h hM hC hb=>h.store hC hb) DA.stab<|Aa 1 [] (λ_=>Au [] rfl<|Bj<|Aa 6 [] (aI ⟨oM,oM⟩<|λ_=>Dj ((i+1,a2,c2,xs++pC (nm,(k.len:Int)-1,He k) ta tc)) (show fs.length-(i+1)<fs.length-i by omega) (show i+1≤_ by omega) lE (λw f hM=>⟨_,(hM.more (B':=[]) (F':=[λw f=>CF w f (l++(fs.take (i+1)).map (λnm=>(nm,(k.len:Int)-1,He k))) (xs++pC (nm,(k.len:Int)-1,He k) ta tc)]) nE (AE.mem ⟨by rw[CT hx,List.map_append,← List.append_assoc];exact CF.snoc (p:=(nm,(k.len:Int)-1,He k)) hM.f0 hM.f3,tQ⟩) (Ax.mem ⟨CF.mono,tQ⟩)).less (sD sZ) sR nE (mR [2,3,0])⟩)));refine Ag rfl ?_ Aj;refine Aa 2 [] (λb3=>λ_=>Au [] rfl<|Ag rfl ?_ Aj);refine Dx rfl rfl (λw f hM=>Ai rfl JC hM.res.blk rfl)<|Aa 1 [] (λ_=>Au [] rfl<|Ag rfl ?_ Aj);refine Mw (MI':=MZ ob) (I':=λa' c'=>DA 106 109 ob (.slice oa2 (n0+i) oc2) a' c' (n0+i+1) (xs++pC (nm,(k.len:Int)-1,He k) ta tc)) 0 rfl rfl SN rfl rfl rfl rfl rfl rfl rfl oM oM (λw f h=>h.row) (λb h=>.inr h) (λ_ _ h=>MZ.or h) (λw f w2 a2 c2 h hM hr hG=>h.app hr hG) (λ_ _=>DA.stab) λa2 c2=>Aa 1 [] (λ_=>Au [] rfl<|Ag rfl ?_ Aj);exact Tb (b:=ob) (I':=DA 106 109 ob (.slice a2 (n0+i+1) c2) a2 c2 (n0+i+1) (xs++pC (nm,(k.len:Int)-1,He k) ta tc)) rfl rfl rfl rfl JC rfl rfl rfl (.inl rfl) (λw f h=>h.blk) (λw f w2 h hM hC hb=>h.store hC hb) DA.stab<|Aa 1 [] (λ_=>Au [] rfl<|Bj<|Aa 6 [] (aI ⟨oM,oM⟩<|λ_=>Dj ((i+1,a2,c2,xs++pC (nm,(k.len:Int)-1,He k) ta tc)) (show fs.length-(i+1)<fs.length-i by omega) (show i+1≤_ by omega) lE (λw f hM=>⟨_,(hM.more (B':=[]) (F':=[λw f=>CF w f (l++(fs.take (i+1)).map (λnm=>(nm,(k.len:Int)-1,He k))) (xs++pC (nm,(k.len:Int)-1,He k) ta tc)]) nE (AE.mem ⟨by rw[CT hx,List.map_append,← List.append_assoc];exact CF.snoc (p:=(nm,(k.len:Int)-1,He k)) hM.f0 hM.f3,tQ⟩) (Ax.mem ⟨CF.mono,tQ⟩)).less (sD sZ) sR nE (mR [2,3,0])⟩)));refine Aa 3 [] (λ_=>ER<|Aa 1 [] (λ_=>?_));obtain rfl:i=fs.length:=by have:=of_decide_eq_false h1;omega
 exact bH (λw f hM=>D0 rfl) (λw f hM=>⟨(oa2,oc2,xs),f,rfl,tQ,hM.exm,(λb hb=>let ⟨h1,h2,h3⟩:=hM.mi b hb;h3.elim (λh=>.inr ⟨h,h1,h2⟩) .inl),hM.res,⟨by have h9:=hM.f2;rw[List.take_length] at h9;exact h9,tQ⟩⟩)
def OJ:List Value:=[S [70,97,108,115,101],S [98,111,111,108],iV 0,iV 0,S [84,114,117,101],S [98,111,111,108],iV 1,iV 0,S [68,105,118],S [101,120,110],iV 0,iV 0,S [77,97,116,99,104],S [101,120,110],iV 1,iV 0,S [65,98,111,114,116],S [101,120,110],iV 2,iV 0,S [75,101,101,112],S [101,120,110],iV 3,iV 0,S [79,117,116],S [101,120,110],iV 4,iV 0,S [70,97,105,108],S [101,120,110],iV 5,iV 1]
theorem Tc(w:World)(f:Fq)(hv:Vl w f)  :
  Bq prog 45 #[.slice none 0 0] w (B4 (α:=Nat) (λb=>.slice (some ⟨b,0,none⟩) 8 8) (λ_=>True) (λb=>[λw f=>Cs w f b 0 OJ]) w f):=by
 refine Co (X:=X0 w f) (H:=[]) (R:=[]) (B:=[]) (Fs:=[]) (f:=f) func45 rfl rfl rfl (Ca hv tQ tQ)<|Aa 28 [] (λb1=>λ_=>?_);refine Fy (α:=Unit) (λx=>0) (λx=>True) (λx=>(E3 3 (.slice (some ⟨b1,0,none⟩) 8 8) 19 (iV ((0:Nat):Int)) 20 (iV 0))) (λx=>X0 w f) (λx=>[⟨b1,OJ,102,true⟩]) (λx=>[]) (λx=>[]) (λx=>[]) (()) tQ lE (λw f hM=>hM) ?_;rintro⟨⟩ -;exact Aa 9 [] (λ_=>ER<|Aa 9 [] (λ_=>CI 0 rfl rfl<|AM (CQ rfl rfl) (λw f hM=>⟨b1,f,rfl,tQ,hM.exm,⟨hM.b0,tQ⟩⟩)))
abbrev rM:=Nat×Nat×Nat×Nat×(Option Addr×Nat)×(Option Addr×Nat)
abbrev Q3:=T1×Option Addr×Nat
abbrev qI:Q3:=(c0 bI,none,0)
abbrev qF:Q3:=(c0 bF,none,0)
abbrev qS:Q3:=(c0 bS,none,0)
abbrev qB:Q3:=(c0 bB,none,0)
abbrev qU:Q3:=(c0 bU,none,0)
abbrev qV:Q3:=(.var 1,none,0)
abbrev qR(a:Option Addr)(c:Nat):Q3:=(T1.con I8 (T1.var 1).one,a,c)
abbrev qP(a:Option Addr)(c:Nat):Q3:=(T1.con CK (T1.var 1).one,a,c)
def pm(x:lU)(l:List Q3):RE:=(x,((RV l).len:Int)-1,He (RV l))
theorem kI:(c0 bI).bnd:=CE dC
theorem kF:(c0 bF).bnd:=CE dC
theorem kS:(c0 bS).bnd:=CE dC
theorem kB:(c0 bB).bnd:=CE dC
theorem kU:(c0 bU).bnd:=CE dC
theorem kV:(T1.var 1).bnd:=Bu _
variable {Q:AU}{σ:Bc}{f:Fq}{ds:List Deferred}{B:List FB}{fs:List Fr}{H H':List HB}{xs:List Value}{b d n n0 ob oc:Nat}{M:Nat→Prop}{g:Option (Nat×Bool)}{oa:Option Addr}{T:TypeId}{w w0:World}
theorem qN:Ak w f .nil none 0:=Ak.nil _ _ _ _
def Th:List Nat→Nat→Bool
 | [],_=>false
 |a::l,b=>bif Nat.beq a b then true else Th l b
def sU(c:Bool)(d:Nat)(v:Value)(σ:Bc):Bc:=bif c then AA σ d v else σ
def sL{α:Type}(c:Bool)(e:α)(l:List α):List α:=bif c then e::l else l
def KA(b1 b2 b3 b4 b5 b6:Nat)(S:List Nat)(x:rM):Bc :=
 sU (Th S 7) 8 (pB x.2.2.2.1)<|sU (Th S 6) 7 (pB x.2.2.1)<|sU (Th S 5) 22 (tV (T1.con CK (T1.var 1).one) x.2.2.2.2.2.1 x.2.2.2.2.2.2)<|sU (Th S 2) 19 (tV (T1.con I8 (T1.var 1).one) x.2.2.2.2.1.1 x.2.2.2.2.1.2) <|
 sU (Th S 4) 21 (.slice (some ⟨x.2.1,0,none⟩) 1 1)<|sU (Th S 1) 18 (.slice (some ⟨x.1,0,none⟩) 1 1)<|E8 1 (pB b1) 2 (pB b2) 3 (pB b3) 4 (pB b4) 5 (pB b5) 6 (pB b6) 17 (tV (.var 1) none 0) 20 (tV (.var 1) none 0)
def D2(b1 b2 b3 b4 b5 b6:Nat)(S:List Nat)(x:rM):List HB :=
 sL (Th S 7) ⟨x.2.2.2.1,zT,61,true⟩<|sL (Th S 6) ⟨x.2.2.1,zT,61,true⟩<|sL (Th S 4&&!Th S 5) ⟨x.2.1,tC (.var 1) none 0,61,true⟩<|sL (Th S 1&&!Th S 2) ⟨x.1,tC (.var 1) none 0,61,true⟩ [⟨b6,tC (.var 1) none 0,61,true⟩,⟨b5,tC (c0 bU) none 0,61,true⟩,⟨b4,tC (c0 bB) none 0,61,true⟩,⟨b3,tC (c0 bS) none 0,61,true⟩,⟨b2,tC (c0 bF) none 0,61,true⟩,⟨b1,tC (c0 bI) none 0,61,true⟩]
def f16(S:List Nat)(x:rM):List (World→Fq→Prop) :=
 sL (Th S 5) (λw f=>Ak w f (T1.var 1).one x.2.2.2.2.2.1 x.2.2.2.2.2.2)<|sL (Th S 2) (λw f=>Ak w f (T1.var 1).one x.2.2.2.2.1.1 x.2.2.2.2.1.2) [λw f=>EM w f]
def Cb:List RE:=[pm [43] [qI,qI,qI],pm [45] [qI,qI,qI],pm [42] [qI,qI,qI],pm [100,105,118] [qI,qI,qI],pm [109,111,100] [qI,qI,qI],pm [110,101,103] [qI,qI],pm [60] [qI,qI,qB],pm [60,61] [qI,qI,qB],pm [61] [qI,qI,qB],pm [102,43] [qF,qF,qF],pm [102,45] [qF,qF,qF],pm [102,42] [qF,qF,qF],pm [102,47] [qF,qF,qF],pm [102,115,113,114,116] [qF,qF],pm [102,110,101,103] [qF,qF],pm [102,60] [qF,qF,qB],pm [102,61] [qF,qF,qB],pm [102,97,104,101,97,100] [qF,qF,qB],pm [105,116,111,102] [qI,qF],pm [102,116,111,105] [qF,qI],pm [102,98,105,116,115] [qF,qS],pm [110,97,110] [qF],pm [105,110,102] [qF],pm [99,97,116] [qS,qS,qS],pm [108,101,110] [qS,qI],pm [111,114,100] [qS,qI],pm [97,116,111,105] [qS,qI],pm [115,117,98] [qS,qI,qI,qS],pm [115,61] [qS,qS,qB],pm [115,60] [qS,qS,qB],pm [105,116,111,97] [qI,qS],pm [99,104,114] [qI,qS],pm [112,114,105,110,116] [qS,qU],pm [114,101,97,100] [qU,qS],pm [114,101,102] [qV,(qR none 0)],pm [103,101,116] [(qR none 0),qV],pm [115,101,116] [(qR none 0),qV,qU],pm [110,101,119] [qV,(qP none 0)],pm [108,111,97,100] [(qP none 0),qV],pm [115,116,111,114,101] [(qP none 0),qV,qU]]
def Yl:List (T1×Option Addr×Nat)→Prop
 | []=>True
 |t::l=>t.1.bnd∧Yl l
theorem OD:∀{l:List (T1×Option Addr×Nat)},Yl l→(RV l).bnd
 | [],_=>trivial
 |_::_,h=>T1.bnd_cons.2 ⟨h.1,OD h.2⟩
theorem G7{f0:Fq}{F0:List (World→Fq→Prop)}{all r:List Oper}{gg:Operand}{args:List Operand}{ts:Array TypeId}{ty:TypeId}{pos:String}{af:Array Edge}{NM:lU}(kb n1:Nat)(lst:List Q3)
  (hgv:ev σ gg=some (.func (.func 73) #[] [Value.pointer (some ⟨ob,0,none⟩)].toArray)) (hga:Ia σ args=some [S NM,.slice (some ⟨b,0,none⟩) lst.length lst.length]) (hg:gd all σ g=some true) (hd:Nat.blt d n=true) (hk:Hf H kb=some ⟨b,mE lst,T,true⟩) (hs:Ks H kb=some H')
  (hG:∀w f H B,AN ⟨M,MZ ob oa,DA 106 109 ob (.slice oa n0 oc) oa oc n0 xs,w0,f0⟩ w f H [] B ((λw f=>CF w f (Cb.take n0) xs)::F0)→EM w f∧rK w f lst) (hbd:Yl lst)
  (h:∀a c xs,A3 prog n Q ds ⟨M,MZ ob a,DA 106 109 ob (.slice a n1 c) a c n1 xs,w0,f0⟩ [] B ((λw f=>CF w f (Cb.take n1) xs)::F0) (.ops all r) fs (AA σ d (.tuple #[])) H')
  (hp:Cb.take n0++(Lib.fields NM).map (λnm=>(nm,((RV lst).len:Int)-1,He (RV lst)))=Cb.take n1:=by kernel_rfl) (hn:n0+(Lib.fields NM).length=n1:=by kernel_rfl)
  (hc:(Nat.ble n0 1000&&(Nat.ble NM.length 1000&&(NM.all (λc=>decide (c.toNat<128))&&(Nat.ble (Lib.fields NM).length 1000&&(Nat.blt 0 lst.length&&Nat.ble lst.length 1000)))))=true:=by kernel_rfl) :
  A3 prog n Q ds ⟨M,MZ ob oa,DA 106 109 ob (.slice oa n0 oc) oa oc n0 xs,w0,f0⟩ [] B ((λw f=>CF w f (Cb.take n0) xs)::F0) (.ops all (⟨some d,.call {callee:=.value gg,args:=args.toArray,argTypes:=ts},ty,pos,af,g⟩::r)) fs σ H:=by
 simp only[Bool.and_eq_true] at hc;obtain⟨h1,h2,h3,h4,h5,h6⟩:=hc;have e:=OO lst;have h5':0<(RV lst).len:=by rw[e];exact Nat.le_of_ble_eq_true h5
 have h6':(RV lst).len≤1000:=by rw[e];exact Nat.le_of_ble_eq_true h6
 subst hn;have he':∀w,SW.Enters prog σ (.call {callee:=.value gg,args:=args.toArray,argTypes:=ts}) ty w 73 #[S NM,.slice (some ⟨b,0,none⟩) (RV lst).len lst.length,pB ob]:=by rw[e];exact λ_=>SY kX hgv hga
 refine CI kb hk hs<|Dk (λw f=>Ak w f (RV lst) (some ⟨b,0,none⟩) lst.length) (λw f hM=>CL (hG w f _ _ hM).2 hM.b0) Ak.mono<|Tn (XX:=λ_ _=>False) hg hd he' (λw f hM=>(WH w f hM.vl (hG w f _ _ (hM.less sR sR (λ_ h=>h) (λ_ h=>.tail _ h))).1 ob oa oc n0 xs (Cb.take n0) hM.res hM.f1 hM.mz (Nat.le_of_ble_eq_true h1) NM (Lib.fields NM) rfl (Nat.le_of_ble_eq_true h2) h3 (Nat.le_of_ble_eq_true h4) (RV lst) (some ⟨b,0,none⟩) lst.length h5' h6' (OD hbd) hM.f0).retP) (λ_=>DA.stab) (λ_=>⟨CF.mono,tQ⟩) (λ_ _ _ _ _ h=>h.elim) ?_;rintro⟨a,c,xs'⟩ -;refine λw f hM=>h a c xs' w f ?_;rw[← hp];refine hM.less sR sR (λe he=>.tail _ he) (λφ hφ=>?_);rcases List.mem_cons.1 hφ with rfl|hφ
 · exact .head _
 · exact .tail _ (.tail _ (.tail _ hφ))
def QH:OT:=.br 9 .fin .fin
def HX:OT:=.br 8 QH .fin
def Hu:OT:=.br 5 HX .fin
def I0:OT:=.br 2 Hu .fin
def LK:OT:=.br 1 I0 .fin
def Kg:OT:=.br 4 Hu .fin
def LL:OT:=.br 2 Kg (.br 4 I0 .fin)
def Sg:OT:=.br 1 LL (.br 4 LK .fin)
def KO:OT:=.br 6 HX .fin
def K6:OT:=.br 5 KO (.br 6 Hu .fin)
def LA:OT:=.br 2 K6 (.br 6 I0 .fin)
def TL:OT:=.br 1 LA (.br 6 LK .fin)
def OS:OT:=.br 4 K6 (.br 6 Kg .fin)
def To:OT:=.br 2 OS (.br 4 LA (.br 6 LL .fin))
def eX:OT:=.br 1 To (.br 4 TL (.br 6 Sg .fin))
def KR:OT:=.br 7 HX .fin
def Ku:OT:=.br 5 KR (.br 7 Hu .fin)
def LG:OT:=.br 2 Ku (.br 7 I0 .fin)
def Te:OT:=.br 1 LG (.br 7 LK .fin)
def Ph:OT:=.br 4 Ku (.br 7 Kg .fin)
def TW:OT:=.br 2 Ph (.br 4 LG (.br 7 LL .fin))
def dT:OT:=.br 1 TW (.br 4 Te (.br 7 Sg .fin))
def Re:OT:=.br 6 KR (.br 7 KO .fin)
def P5:OT:=.br 5 Re (.br 6 Ku (.br 7 K6 .fin))
def Sw:OT:=.br 2 P5 (.br 6 LG (.br 7 LA .fin))
def eQ:OT:=.br 1 Sw (.br 6 Te (.br 7 TL .fin))
def Zn:OT:=.br 4 P5 (.br 6 Ph (.br 7 OS .fin))
def dE:OT:=.br 2 Zn (.br 4 Sw (.br 6 TW (.br 7 To .fin)))
def pU:OT:=.br 1 dE (.br 4 eQ (.br 6 dT (.br 7 eX .fin)))
set_option maxHeartbeats 2000000 in
theorem Ss(w:World)(f:Fq)(hv:Vl w f)(hG:EM w f) :
  Bq prog 46 #[] w (B4 (α:=Option Addr×Nat) (λx=>.slice x.1 Cb.length x.2) (λ_=>True) (λx=>[λw f=>SU w f Cb x.1 x.2]) w f):=by
 refine Co (X:=X0 w f) (H:=[]) (R:=[]) (B:=[]) (Fs:=[λw f=>EM w f]) (f:=f) func46 rfl rfl rfl (Ca hv ⟨hG,tQ⟩ ⟨EM.mono,tQ⟩)<|Aa 7 [] (λ_=>Bw rfl rfl (eC Br rfl rfl) (λw f hM=>Bl w f hM.vl [105,110,116]) (λx=>trivial) ?_);rintro⟨⟩ -;refine Bw rfl rfl (eC Br rfl rfl) (λw f hM=>Bl w f hM.vl [102,108,111,97,116]) (λx=>trivial) ?_;rintro⟨⟩ -;refine Bw rfl rfl (eC Br rfl rfl) (λw f hM=>Bl w f hM.vl [115,116,114,105,110,103]) (λx=>trivial) ?_;rintro⟨⟩ -;refine Bw rfl rfl (eC Br rfl rfl) (λw f hM=>Bl w f hM.vl [98,111,111,108]) (λx=>trivial) ?_;rintro⟨⟩ -;refine Bw rfl rfl (eC Br rfl rfl) (λw f hM=>Bl w f hM.vl [117,110,105,116]) (λx=>trivial) ?_;rintro⟨⟩ -;refine Aa 14 [4,3,2,1,0] (λb1=>λb2=>λb3=>λb4=>λb5=>y<|y<|y<|y<|y<|λ_=>Bw rfl rfl (eC GG rfl rfl) (λw f hM=>D6 w f hM.vl 1) (λx=>trivial) ?_);rintro⟨⟩ -;refine Aa 5 [0] (λb6=>y<|λ_=>?_);refine MK (α:=Nat×Nat×(Option Addr×Nat)×(Option Addr×Nat)) (λx=>True) (λx=>(E8 1 (pB b1) 2 (pB b2) 3 (pB b3) 4 (pB b4) 5 (pB b5) 6 (pB b6) 7 (pB x.1) 8 (pB x.2.1))) (λx=>X0 w f) (λx=>[⟨x.2.1,tC (T1.con CK (T1.var 1).one) x.2.2.2.1 x.2.2.2.2,61,true⟩,⟨x.1,tC (T1.con I8 (T1.var 1).one) x.2.2.1.1 x.2.2.1.2,61,true⟩,⟨b6,tC (.var 1) none 0,61,true⟩,⟨b5,tC (c0 bU) none 0,61,true⟩,⟨b4,tC (c0 bB) none 0,61,true⟩,⟨b3,tC (c0 bS) none 0,61,true⟩,⟨b2,tC (c0 bF) none 0,61,true⟩,⟨b1,tC (c0 bI) none 0,61,true⟩]) (λx=>[]) (λx=>[]) (λx=>[λw f=>Ak w f (T1.var 1).one x.2.2.2.1 x.2.2.2.2,λw f=>Ak w f (T1.var 1).one x.2.2.1.1 x.2.2.1.2,λw f=>EM w f]) ?_ ?_;refine Cz [0,1,2,3,4,5] Al (.rd 0 (.rd 3 pU)) rfl kR<|A2 2 [0,0] (y<|y<|λ_=>K9 HX (KA b1 b2 b3 b4 b5 b6 [1,2,4,5,6,7]) (D2 b1 b2 b3 b4 b5 b6 [1,2,4,5,6,7]) (λ_=>[]) (f16 [1,2,4,5,6,7]) ?_ (λhS124567=>?_))
 ·
  rintro⟨b18,b21,b7,b8,⟨ra,rc⟩,⟨pa,pc⟩⟩;refine Ag rfl ?_ Aj;refine Aa 2 [1] (y<|λ_=>Au [2,3,4,5,6,7] rfl<|Ag rfl ?_ Aj);exact Aa 2 [0] (y<|λ_=>Au [2,3,4,5,6,7] rfl<|Bj<|H8 (b7,b8,(ra,rc),(pa,pc)) tQ lE (λw f hM=>⟨f,hM⟩))
 refine K9 KO (KA b1 b2 b3 b4 b5 b6 [1,2,4,5,7]) (D2 b1 b2 b3 b4 b5 b6 [1,2,4,5,7]) (λ_=>[]) (f16 [1,2,4,5,7]) ?_ (λhS12457=>?_)
 ·
  rintro⟨b18,b21,b7,b8,⟨ra,rc⟩,⟨pa,pc⟩⟩;refine Ag rfl ?_ Aj;exact Aa 2 [] (λq=>λ_=>Au [2,3,4,5,6,7] rfl<|E0 hS124567 (b18,b21,q,b8,(ra,rc),(pa,pc)) lE (λw f hM=>hM.perm (List.perm_middle (l₁:=[_]))))
 refine K9 KR (KA b1 b2 b3 b4 b5 b6 [1,2,4,5,6]) (D2 b1 b2 b3 b4 b5 b6 [1,2,4,5,6]) (λ_=>[]) (f16 [1,2,4,5,6]) ?_ (λhS12456=>?_)
 ·
  rintro⟨b18,b21,b7,b8,⟨ra,rc⟩,⟨pa,pc⟩⟩;refine Ag rfl ?_ Aj;exact Aa 2 [] (λq=>λ_=>Au [2,3,4,5,6,7] rfl<|E0 hS124567 (b18,b21,b7,q,(ra,rc),(pa,pc)) lE (λw f hM=>hM))
 refine K9 Hu (KA b1 b2 b3 b4 b5 b6 [1,2,4,6,7]) (D2 b1 b2 b3 b4 b5 b6 [1,2,4,6,7]) (λ_=>[]) (f16 [1,2,4,6,7]) ?_ (λhS12467=>?_)
 ·
  rintro⟨b18,b21,b7,b8,⟨ra,rc⟩,⟨pa,pc⟩⟩;refine Ag rfl ?_ Aj;refine CI 2 rfl rfl<|Dk (λw f=>Ak w f (T1.var 1).one (some ⟨b21,0,none⟩) 1) (λw f hM=>CL (l:=[(.var 1,none,0)]) ⟨Ak.nil _ _ _ _,tQ⟩ hM.b0) Ak.mono<|Bw rfl rfl (eC Br rfl rfl) (λw f hM=>C2 w f hM.vl CK (T1.var 1).one (some ⟨b21,0,none⟩) 1 dC hM.f0) (λ_=>⟨Ak.mono,tQ⟩) ?_;rintro⟨qa,qc⟩ -;exact Aa 1 [] (λ_=>AW [2,3,4,5,6,7] EA rfl (λ_ h=>.tail _ h)<|E0 hS124567 (b18,b21,b7,b8,(ra,rc),(qa,qc)) lE (λw f hM=>hM.less sR sR nE (mR [0,2,3])))
 refine K9 K6 (KA b1 b2 b3 b4 b5 b6 [1,2,4,7]) (D2 b1 b2 b3 b4 b5 b6 [1,2,4,7]) (λ_=>[]) (f16 [1,2,4,7]) ?_ (λhS1247=>?_)
 ·
  rintro⟨b18,b21,b7,b8,⟨ra,rc⟩,⟨pa,pc⟩⟩;refine Ag rfl ?_ ?_;refine CI 1 rfl rfl<|Dk (λw f=>Ak w f (T1.var 1).one (some ⟨b21,0,none⟩) 1) (λw f hM=>CL (l:=[(.var 1,none,0)]) ⟨Ak.nil _ _ _ _,tQ⟩ hM.b0) Ak.mono<|Bw rfl rfl (eC Br rfl rfl) (λw f hM=>C2 w f hM.vl CK (T1.var 1).one (some ⟨b21,0,none⟩) 1 dC hM.f0) (λ_=>⟨Ak.mono,tQ⟩) ?_;rintro⟨qa,qc⟩ -;exact Aa 1 [] (λ_=>AW [1,2,3,4,5,6] EA rfl (λ_ h=>.tail _ h)<|E0 hS12457 (b18,b21,b7,b8,(ra,rc),(qa,qc)) lE (λw f hM=>hM.less sR sR nE (mR [0,2,3])));refine Ag rfl ?_ Aj;exact Aa 2 [] (λq=>λ_=>Au [3,4,5,6,7,8] rfl<|E0 hS12467 (b18,b21,q,b8,(ra,rc),(pa,pc)) lE (λw f hM=>hM.perm (List.perm_middle (l₁:=[_]))))
 refine K9 Kg (KA b1 b2 b3 b4 b5 b6 [1,2,6,7]) (D2 b1 b2 b3 b4 b5 b6 [1,2,6,7]) (λ_=>[]) (f16 [1,2,6,7]) ?_ (λhS1267=>?_)
 ·
  rintro⟨b18,b21,b7,b8,⟨ra,rc⟩,⟨pa,pc⟩⟩;refine Ag rfl ?_ Aj;exact Aa 2 [] (λq=>λ_=>Au [3,4,5,6,7,8] rfl<|E0 hS12467 (b18,q,b7,b8,(ra,rc),(pa,pc)) lE (λw f hM=>hM.perm (List.perm_middle (l₁:=[_,_]))))
 refine K9 Ku (KA b1 b2 b3 b4 b5 b6 [1,2,4,6]) (D2 b1 b2 b3 b4 b5 b6 [1,2,4,6]) (λ_=>[]) (f16 [1,2,4,6]) ?_ (λhS1246=>?_)
 ·
  rintro⟨b18,b21,b7,b8,⟨ra,rc⟩,⟨pa,pc⟩⟩;refine Ag rfl ?_ ?_;refine CI 1 rfl rfl<|Dk (λw f=>Ak w f (T1.var 1).one (some ⟨b21,0,none⟩) 1) (λw f hM=>CL (l:=[(.var 1,none,0)]) ⟨Ak.nil _ _ _ _,tQ⟩ hM.b0) Ak.mono<|Bw rfl rfl (eC Br rfl rfl) (λw f hM=>C2 w f hM.vl CK (T1.var 1).one (some ⟨b21,0,none⟩) 1 dC hM.f0) (λ_=>⟨Ak.mono,tQ⟩) ?_;rintro⟨qa,qc⟩ -;exact Aa 1 [] (λ_=>AW [1,2,3,4,5,6] EA rfl (λ_ h=>.tail _ h)<|E0 hS12456 (b18,b21,b7,b8,(ra,rc),(qa,qc)) lE (λw f hM=>hM.less sR sR nE (mR [0,2,3])));refine Ag rfl ?_ Aj;exact Aa 2 [] (λq=>λ_=>Au [3,4,5,6,7,8] rfl<|E0 hS12467 (b18,b21,b7,q,(ra,rc),(pa,pc)) lE (λw f hM=>hM))
 refine K9 Re (KA b1 b2 b3 b4 b5 b6 [1,2,4,5]) (D2 b1 b2 b3 b4 b5 b6 [1,2,4,5]) (λ_=>[]) (f16 [1,2,4,5]) ?_ (λhS1245=>?_)
 ·
  rintro⟨b18,b21,b7,b8,⟨ra,rc⟩,⟨pa,pc⟩⟩;refine Ag rfl ?_ ?_;exact Aa 2 [] (λq=>λ_=>Au [1,2,3,4,5,6] rfl<|E0 hS12456 (b18,b21,q,b8,(ra,rc),(pa,pc)) lE (λw f hM=>hM));refine Ag rfl ?_ Aj;exact Aa 2 [] (λq=>λ_=>Au [1,2,3,4,5,6] rfl<|E0 hS12457 (b18,b21,b7,q,(ra,rc),(pa,pc)) lE (λw f hM=>hM))
 refine K9 I0 (KA b1 b2 b3 b4 b5 b6 [1,4,6,7]) (D2 b1 b2 b3 b4 b5 b6 [1,4,6,7]) (λ_=>[]) (f16 [1,4,6,7]) ?_ (λhS1467=>?_)
 ·
  rintro⟨b18,b21,b7,b8,⟨ra,rc⟩,⟨pa,pc⟩⟩;refine Ag rfl ?_ Aj;refine CI 3 rfl rfl<|Dk (λw f=>Ak w f (T1.var 1).one (some ⟨b18,0,none⟩) 1) (λw f hM=>CL (l:=[(.var 1,none,0)]) ⟨Ak.nil _ _ _ _,tQ⟩ hM.b0) Ak.mono<|Bw rfl rfl (eC Br rfl rfl) (λw f hM=>C2 w f hM.vl I8 (T1.var 1).one (some ⟨b18,0,none⟩) 1 dC hM.f0) (λ_=>⟨Ak.mono,tQ⟩) ?_;rintro⟨qa,qc⟩ -;exact Aa 1 [] (λ_=>AW [3,4,5,6,7,8] EA rfl (λ_ h=>.tail _ h)<|E0 hS12467 (b18,b21,b7,b8,(qa,qc),(pa,pc)) lE (λw f hM=>hM.less sR sR nE (mR [0,2])))
 refine K9 LG (KA b1 b2 b3 b4 b5 b6 [1,4,6]) (D2 b1 b2 b3 b4 b5 b6 [1,4,6]) (λ_=>[]) (f16 [1,4,6]) ?_ (λhS146=>?_)
 ·
  rintro⟨b18,b21,b7,b8,⟨ra,rc⟩,⟨pa,pc⟩⟩;refine Ag rfl ?_ ?_;refine CI 2 rfl rfl<|Dk (λw f=>Ak w f (T1.var 1).one (some ⟨b18,0,none⟩) 1) (λw f hM=>CL (l:=[(.var 1,none,0)]) ⟨Ak.nil _ _ _ _,tQ⟩ hM.b0) Ak.mono<|Bw rfl rfl (eC Br rfl rfl) (λw f hM=>C2 w f hM.vl I8 (T1.var 1).one (some ⟨b18,0,none⟩) 1 dC hM.f0) (λ_=>⟨Ak.mono,tQ⟩) ?_;rintro⟨qa,qc⟩ -;exact Aa 1 [] (λ_=>AW [2,3,4,5,6,7] EA rfl (λ_ h=>.tail _ h)<|E0 hS1246 (b18,b21,b7,b8,(qa,qc),(pa,pc)) lE (λw f hM=>hM.less sR sR nE (mR [0,2])));refine Ag rfl ?_ Aj;exact Aa 2 [] (λq=>λ_=>Au [4,5,6,7,8,9] rfl<|E0 hS1467 (b18,b21,b7,q,(ra,rc),(pa,pc)) lE (λw f hM=>hM))
 refine K9 LA (KA b1 b2 b3 b4 b5 b6 [1,4,7]) (D2 b1 b2 b3 b4 b5 b6 [1,4,7]) (λ_=>[]) (f16 [1,4,7]) ?_ (λhS147=>?_)
 ·
  rintro⟨b18,b21,b7,b8,⟨ra,rc⟩,⟨pa,pc⟩⟩;refine Ag rfl ?_ ?_;refine CI 2 rfl rfl<|Dk (λw f=>Ak w f (T1.var 1).one (some ⟨b18,0,none⟩) 1) (λw f hM=>CL (l:=[(.var 1,none,0)]) ⟨Ak.nil _ _ _ _,tQ⟩ hM.b0) Ak.mono<|Bw rfl rfl (eC Br rfl rfl) (λw f hM=>C2 w f hM.vl I8 (T1.var 1).one (some ⟨b18,0,none⟩) 1 dC hM.f0) (λ_=>⟨Ak.mono,tQ⟩) ?_;rintro⟨qa,qc⟩ -;exact Aa 1 [] (λ_=>AW [2,3,4,5,6,7] EA rfl (λ_ h=>.tail _ h)<|E0 hS1247 (b18,b21,b7,b8,(qa,qc),(pa,pc)) lE (λw f hM=>hM.less sR sR nE (mR [0,2])));refine Ag rfl ?_ Aj;exact Aa 2 [] (λq=>λ_=>Au [4,5,6,7,8,9] rfl<|E0 hS1467 (b18,b21,q,b8,(ra,rc),(pa,pc)) lE (λw f hM=>hM.perm (List.perm_middle (l₁:=[_]))))
 refine K9 OS (KA b1 b2 b3 b4 b5 b6 [1,2,7]) (D2 b1 b2 b3 b4 b5 b6 [1,2,7]) (λ_=>[]) (f16 [1,2,7]) ?_ (λhS127=>?_)
 ·
  rintro⟨b18,b21,b7,b8,⟨ra,rc⟩,⟨pa,pc⟩⟩;refine Ag rfl ?_ ?_;exact Aa 2 [] (λq=>λ_=>Au [2,3,4,5,6,7] rfl<|E0 hS1247 (b18,q,b7,b8,(ra,rc),(pa,pc)) lE (λw f hM=>hM.perm (List.perm_middle (l₁:=[_]))));refine Ag rfl ?_ Aj;exact Aa 2 [] (λq=>λ_=>Au [2,3,4,5,6,7] rfl<|E0 hS1267 (b18,b21,q,b8,(ra,rc),(pa,pc)) lE (λw f hM=>hM.perm (List.perm_middle (l₁:=[_]))))
 refine K9 LL (KA b1 b2 b3 b4 b5 b6 [1,6,7]) (D2 b1 b2 b3 b4 b5 b6 [1,6,7]) (λ_=>[]) (f16 [1,6,7]) ?_ (λhS167=>?_)
 ·
  rintro⟨b18,b21,b7,b8,⟨ra,rc⟩,⟨pa,pc⟩⟩;refine Ag rfl ?_ ?_;refine CI 2 rfl rfl<|Dk (λw f=>Ak w f (T1.var 1).one (some ⟨b18,0,none⟩) 1) (λw f hM=>CL (l:=[(.var 1,none,0)]) ⟨Ak.nil _ _ _ _,tQ⟩ hM.b0) Ak.mono<|Bw rfl rfl (eC Br rfl rfl) (λw f hM=>C2 w f hM.vl I8 (T1.var 1).one (some ⟨b18,0,none⟩) 1 dC hM.f0) (λ_=>⟨Ak.mono,tQ⟩) ?_;rintro⟨qa,qc⟩ -;exact Aa 1 [] (λ_=>AW [2,3,4,5,6,7] EA rfl (λ_ h=>.tail _ h)<|E0 hS1267 (b18,b21,b7,b8,(qa,qc),(pa,pc)) lE (λw f hM=>hM.less sR sR nE (mR [0,2])));refine Ag rfl ?_ Aj;exact Aa 2 [] (λq=>λ_=>Au [4,5,6,7,8,9] rfl<|E0 hS1467 (b18,q,b7,b8,(ra,rc),(pa,pc)) lE (λw f hM=>hM.perm (List.perm_middle (l₁:=[_,_]))))
 refine K9 Ph (KA b1 b2 b3 b4 b5 b6 [1,2,6]) (D2 b1 b2 b3 b4 b5 b6 [1,2,6]) (λ_=>[]) (f16 [1,2,6]) ?_ (λhS126=>?_)
 ·
  rintro⟨b18,b21,b7,b8,⟨ra,rc⟩,⟨pa,pc⟩⟩;refine Ag rfl ?_ ?_;exact Aa 2 [] (λq=>λ_=>Au [2,3,4,5,6,7] rfl<|E0 hS1246 (b18,q,b7,b8,(ra,rc),(pa,pc)) lE (λw f hM=>hM.perm (List.perm_middle (l₁:=[_]))));refine Ag rfl ?_ Aj;exact Aa 2 [] (λq=>λ_=>Au [2,3,4,5,6,7] rfl<|E0 hS1267 (b18,b21,b7,q,(ra,rc),(pa,pc)) lE (λw f hM=>hM))
 refine K9 LK (KA b1 b2 b3 b4 b5 b6 [4,6,7]) (D2 b1 b2 b3 b4 b5 b6 [4,6,7]) (λ_=>[]) (f16 [4,6,7]) ?_ (λhS467=>?_)
 ·
  rintro⟨b18,b21,b7,b8,⟨ra,rc⟩,⟨pa,pc⟩⟩;refine Ag rfl ?_ Aj;exact Aa 2 [] (λq=>λ_=>Au [4,5,6,7,8,9] rfl<|E0 hS1467 (q,b21,b7,b8,(ra,rc),(pa,pc)) lE (λw f hM=>hM.perm (List.perm_middle (l₁:=[_,_,_]))))
 refine K9 P5 (KA b1 b2 b3 b4 b5 b6 [1,2,4]) (D2 b1 b2 b3 b4 b5 b6 [1,2,4]) (λ_=>[]) (f16 [1,2,4]) ?_ (λhS124=>?_)
 ·
  rintro⟨b18,b21,b7,b8,⟨ra,rc⟩,⟨pa,pc⟩⟩;refine Ag rfl ?_ ?_;refine CI 0 rfl rfl<|Dk (λw f=>Ak w f (T1.var 1).one (some ⟨b21,0,none⟩) 1) (λw f hM=>CL (l:=[(.var 1,none,0)]) ⟨Ak.nil _ _ _ _,tQ⟩ hM.b0) Ak.mono<|Bw rfl rfl (eC Br rfl rfl) (λw f hM=>C2 w f hM.vl CK (T1.var 1).one (some ⟨b21,0,none⟩) 1 dC hM.f0) (λ_=>⟨Ak.mono,tQ⟩) ?_;rintro⟨qa,qc⟩ -;exact Aa 1 [] (λ_=>AW [0,1,2,3,4,5] EA rfl (λ_ h=>.tail _ h)<|E0 hS1245 (b18,b21,b7,b8,(ra,rc),(qa,qc)) lE (λw f hM=>hM.less sR sR nE (mR [0,2,3])));refine Ag rfl ?_ ?_;exact Aa 2 [] (λq=>λ_=>Au [2,3,4,5,6,7] rfl<|E0 hS1246 (b18,b21,q,b8,(ra,rc),(pa,pc)) lE (λw f hM=>hM));refine Ag rfl ?_ Aj;exact Aa 2 [] (λq=>λ_=>Au [2,3,4,5,6,7] rfl<|E0 hS1247 (b18,b21,b7,q,(ra,rc),(pa,pc)) lE (λw f hM=>hM))
 refine K9 Sw (KA b1 b2 b3 b4 b5 b6 [1,4]) (D2 b1 b2 b3 b4 b5 b6 [1,4]) (λ_=>[]) (f16 [1,4]) ?_ (λhS14=>?_)
 ·
  rintro⟨b18,b21,b7,b8,⟨ra,rc⟩,⟨pa,pc⟩⟩;refine Ag rfl ?_ ?_;refine CI 1 rfl rfl<|Dk (λw f=>Ak w f (T1.var 1).one (some ⟨b18,0,none⟩) 1) (λw f hM=>CL (l:=[(.var 1,none,0)]) ⟨Ak.nil _ _ _ _,tQ⟩ hM.b0) Ak.mono<|Bw rfl rfl (eC Br rfl rfl) (λw f hM=>C2 w f hM.vl I8 (T1.var 1).one (some ⟨b18,0,none⟩) 1 dC hM.f0) (λ_=>⟨Ak.mono,tQ⟩) ?_;rintro⟨qa,qc⟩ -;exact Aa 1 [] (λ_=>AW [1,2,3,4,5,6] EA rfl (λ_ h=>.tail _ h)<|E0 hS124 (b18,b21,b7,b8,(qa,qc),(pa,pc)) lE (λw f hM=>hM.less sR sR nE (mR [0,2])));refine Ag rfl ?_ ?_;exact Aa 2 [] (λq=>λ_=>Au [3,4,5,6,7,8] rfl<|E0 hS146 (b18,b21,q,b8,(ra,rc),(pa,pc)) lE (λw f hM=>hM));refine Ag rfl ?_ Aj;exact Aa 2 [] (λq=>λ_=>Au [3,4,5,6,7,8] rfl<|E0 hS147 (b18,b21,b7,q,(ra,rc),(pa,pc)) lE (λw f hM=>hM))
 refine K9 Te (KA b1 b2 b3 b4 b5 b6 [4,6]) (D2 b1 b2 b3 b4 b5 b6 [4,6]) (λ_=>[]) (f16 [4,6]) ?_ (λhS46=>?_)
 ·
  rintro⟨b18,b21,b7,b8,⟨ra,rc⟩,⟨pa,pc⟩⟩;refine Ag rfl ?_ ?_;exact Aa 2 [] (λq=>λ_=>Au [3,4,5,6,7,8] rfl<|E0 hS146 (q,b21,b7,b8,(ra,rc),(pa,pc)) lE (λw f hM=>hM.perm (List.perm_middle (l₁:=[_,_]))));refine Ag rfl ?_ Aj;exact Aa 2 [] (λq=>λ_=>Au [3,4,5,6,7,8] rfl<|E0 hS467 (b18,b21,b7,q,(ra,rc),(pa,pc)) lE (λw f hM=>hM))
 refine K9 To (KA b1 b2 b3 b4 b5 b6 [1,7]) (D2 b1 b2 b3 b4 b5 b6 [1,7]) (λ_=>[]) (f16 [1,7]) ?_ (λhS17=>?_)
 ·
  rintro⟨b18,b21,b7,b8,⟨ra,rc⟩,⟨pa,pc⟩⟩;refine Ag rfl ?_ ?_;refine CI 1 rfl rfl<|Dk (λw f=>Ak w f (T1.var 1).one (some ⟨b18,0,none⟩) 1) (λw f hM=>CL (l:=[(.var 1,none,0)]) ⟨Ak.nil _ _ _ _,tQ⟩ hM.b0) Ak.mono<|Bw rfl rfl (eC Br rfl rfl) (λw f hM=>C2 w f hM.vl I8 (T1.var 1).one (some ⟨b18,0,none⟩) 1 dC hM.f0) (λ_=>⟨Ak.mono,tQ⟩) ?_;rintro⟨qa,qc⟩ -;exact Aa 1 [] (λ_=>AW [1,2,3,4,5,6] EA rfl (λ_ h=>.tail _ h)<|E0 hS127 (b18,b21,b7,b8,(qa,qc),(pa,pc)) lE (λw f hM=>hM.less sR sR nE (mR [0,2])));refine Ag rfl ?_ ?_;exact Aa 2 [] (λq=>λ_=>Au [3,4,5,6,7,8] rfl<|E0 hS147 (b18,q,b7,b8,(ra,rc),(pa,pc)) lE (λw f hM=>hM.perm (List.perm_middle (l₁:=[_]))));refine Ag rfl ?_ Aj;exact Aa 2 [] (λq=>λ_=>Au [3,4,5,6,7,8] rfl<|E0 hS167 (b18,b21,q,b8,(ra,rc),(pa,pc)) lE (λw f hM=>hM.perm (List.perm_middle (l₁:=[_]))))
 refine K9 TW (KA b1 b2 b3 b4 b5 b6 [1,6]) (D2 b1 b2 b3 b4 b5 b6 [1,6]) (λ_=>[]) (f16 [1,6]) ?_ (λhS16=>?_)
 ·
  rintro⟨b18,b21,b7,b8,⟨ra,rc⟩,⟨pa,pc⟩⟩;refine Ag rfl ?_ ?_;refine CI 1 rfl rfl<|Dk (λw f=>Ak w f (T1.var 1).one (some ⟨b18,0,none⟩) 1) (λw f hM=>CL (l:=[(.var 1,none,0)]) ⟨Ak.nil _ _ _ _,tQ⟩ hM.b0) Ak.mono<|Bw rfl rfl (eC Br rfl rfl) (λw f hM=>C2 w f hM.vl I8 (T1.var 1).one (some ⟨b18,0,none⟩) 1 dC hM.f0) (λ_=>⟨Ak.mono,tQ⟩) ?_;rintro⟨qa,qc⟩ -;exact Aa 1 [] (λ_=>AW [1,2,3,4,5,6] EA rfl (λ_ h=>.tail _ h)<|E0 hS126 (b18,b21,b7,b8,(qa,qc),(pa,pc)) lE (λw f hM=>hM.less sR sR nE (mR [0,2])));refine Ag rfl ?_ ?_;exact Aa 2 [] (λq=>λ_=>Au [3,4,5,6,7,8] rfl<|E0 hS146 (b18,q,b7,b8,(ra,rc),(pa,pc)) lE (λw f hM=>hM.perm (List.perm_middle (l₁:=[_]))));refine Ag rfl ?_ Aj;exact Aa 2 [] (λq=>λ_=>Au [3,4,5,6,7,8] rfl<|E0 hS167 (b18,b21,b7,q,(ra,rc),(pa,pc)) lE (λw f hM=>hM))
 refine K9 TL (KA b1 b2 b3 b4 b5 b6 [4,7]) (D2 b1 b2 b3 b4 b5 b6 [4,7]) (λ_=>[]) (f16 [4,7]) ?_ (λhS47=>?_)
 ·
  rintro⟨b18,b21,b7,b8,⟨ra,rc⟩,⟨pa,pc⟩⟩;refine Ag rfl ?_ ?_;exact Aa 2 [] (λq=>λ_=>Au [3,4,5,6,7,8] rfl<|E0 hS147 (q,b21,b7,b8,(ra,rc),(pa,pc)) lE (λw f hM=>hM.perm (List.perm_middle (l₁:=[_,_]))));refine Ag rfl ?_ Aj;exact Aa 2 [] (λq=>λ_=>Au [3,4,5,6,7,8] rfl<|E0 hS467 (b18,b21,q,b8,(ra,rc),(pa,pc)) lE (λw f hM=>hM.perm (List.perm_middle (l₁:=[_]))))
 refine K9 Sg (KA b1 b2 b3 b4 b5 b6 [6,7]) (D2 b1 b2 b3 b4 b5 b6 [6,7]) (λ_=>[]) (f16 [6,7]) ?_ (λhS67=>?_)
 ·
  rintro⟨b18,b21,b7,b8,⟨ra,rc⟩,⟨pa,pc⟩⟩;refine Ag rfl ?_ ?_;exact Aa 2 [] (λq=>λ_=>Au [3,4,5,6,7,8] rfl<|E0 hS167 (q,b21,b7,b8,(ra,rc),(pa,pc)) lE (λw f hM=>hM.perm (List.perm_middle (l₁:=[_,_]))));refine Ag rfl ?_ Aj;exact Aa 2 [] (λq=>λ_=>Au [3,4,5,6,7,8] rfl<|E0 hS467 (b18,q,b7,b8,(ra,rc),(pa,pc)) lE (λw f hM=>hM.perm (List.perm_middle (l₁:=[_,_]))))
 refine K9 Zn (KA b1 b2 b3 b4 b5 b6 [1,2]) (D2 b1 b2 b3 b4 b5 b6 [1,2]) (λ_=>[]) (f16 [1,2]) ?_ (λhS12=>?_)
 ·
  rintro⟨b18,b21,b7,b8,⟨ra,rc⟩,⟨pa,pc⟩⟩;refine Ag rfl ?_ ?_;exact Aa 2 [] (λq=>λ_=>Au [1,2,3,4,5,6] rfl<|E0 hS124 (b18,q,b7,b8,(ra,rc),(pa,pc)) lE (λw f hM=>hM));refine Ag rfl ?_ ?_;exact Aa 2 [] (λq=>λ_=>Au [1,2,3,4,5,6] rfl<|E0 hS126 (b18,b21,q,b8,(ra,rc),(pa,pc)) lE (λw f hM=>hM));refine Ag rfl ?_ Aj;exact Aa 2 [] (λq=>λ_=>Au [1,2,3,4,5,6] rfl<|E0 hS127 (b18,b21,b7,q,(ra,rc),(pa,pc)) lE (λw f hM=>hM))
 refine K9 dE (KA b1 b2 b3 b4 b5 b6 [1]) (D2 b1 b2 b3 b4 b5 b6 [1]) (λ_=>[]) (f16 [1]) ?_ (λhS1=>?_)
 ·
  rintro⟨b18,b21,b7,b8,⟨ra,rc⟩,⟨pa,pc⟩⟩;refine Ag rfl ?_ ?_;refine CI 0 rfl rfl<|Dk (λw f=>Ak w f (T1.var 1).one (some ⟨b18,0,none⟩) 1) (λw f hM=>CL (l:=[(.var 1,none,0)]) ⟨Ak.nil _ _ _ _,tQ⟩ hM.b0) Ak.mono<|Bw rfl rfl (eC Br rfl rfl) (λw f hM=>C2 w f hM.vl I8 (T1.var 1).one (some ⟨b18,0,none⟩) 1 dC hM.f0) (λ_=>⟨Ak.mono,tQ⟩) ?_;rintro⟨qa,qc⟩ -;exact Aa 1 [] (λ_=>AW [0,1,2,3,4,5] EA rfl (λ_ h=>.tail _ h)<|E0 hS12 (b18,b21,b7,b8,(qa,qc),(pa,pc)) lE (λw f hM=>hM.less sR sR nE (mR [0,2])));refine Ag rfl ?_ ?_;exact Aa 2 [] (λq=>λ_=>Au [2,3,4,5,6,7] rfl<|E0 hS14 (b18,q,b7,b8,(ra,rc),(pa,pc)) lE (λw f hM=>hM));refine Ag rfl ?_ ?_;exact Aa 2 [] (λq=>λ_=>Au [2,3,4,5,6,7] rfl<|E0 hS16 (b18,b21,q,b8,(ra,rc),(pa,pc)) lE (λw f hM=>hM));refine Ag rfl ?_ Aj;exact Aa 2 [] (λq=>λ_=>Au [2,3,4,5,6,7] rfl<|E0 hS17 (b18,b21,b7,q,(ra,rc),(pa,pc)) lE (λw f hM=>hM))
 refine K9 eQ (KA b1 b2 b3 b4 b5 b6 [4]) (D2 b1 b2 b3 b4 b5 b6 [4]) (λ_=>[]) (f16 [4]) ?_ (λhS4=>?_)
 ·
  rintro⟨b18,b21,b7,b8,⟨ra,rc⟩,⟨pa,pc⟩⟩;refine Ag rfl ?_ ?_;exact Aa 2 [] (λq=>λ_=>Au [2,3,4,5,6,7] rfl<|E0 hS14 (q,b21,b7,b8,(ra,rc),(pa,pc)) lE (λw f hM=>hM.perm (List.perm_middle (l₁:=[_]))));refine Ag rfl ?_ ?_;exact Aa 2 [] (λq=>λ_=>Au [2,3,4,5,6,7] rfl<|E0 hS46 (b18,b21,q,b8,(ra,rc),(pa,pc)) lE (λw f hM=>hM));refine Ag rfl ?_ Aj;exact Aa 2 [] (λq=>λ_=>Au [2,3,4,5,6,7] rfl<|E0 hS47 (b18,b21,b7,q,(ra,rc),(pa,pc)) lE (λw f hM=>hM))
 refine K9 eX (KA b1 b2 b3 b4 b5 b6 [7]) (D2 b1 b2 b3 b4 b5 b6 [7]) (λ_=>[]) (f16 [7]) ?_ (λhS7=>?_)
 ·
  rintro⟨b18,b21,b7,b8,⟨ra,rc⟩,⟨pa,pc⟩⟩;refine Ag rfl ?_ ?_;exact Aa 2 [] (λq=>λ_=>Au [2,3,4,5,6,7] rfl<|E0 hS17 (q,b21,b7,b8,(ra,rc),(pa,pc)) lE (λw f hM=>hM.perm (List.perm_middle (l₁:=[_]))));refine Ag rfl ?_ ?_;exact Aa 2 [] (λq=>λ_=>Au [2,3,4,5,6,7] rfl<|E0 hS47 (b18,q,b7,b8,(ra,rc),(pa,pc)) lE (λw f hM=>hM.perm (List.perm_middle (l₁:=[_]))));refine Ag rfl ?_ Aj;exact Aa 2 [] (λq=>λ_=>Au [2,3,4,5,6,7] rfl<|E0 hS67 (b18,b21,q,b8,(ra,rc),(pa,pc)) lE (λw f hM=>hM.perm (List.perm_middle (l₁:=[_]))))
 refine K9 dT (KA b1 b2 b3 b4 b5 b6 [6]) (D2 b1 b2 b3 b4 b5 b6 [6]) (λ_=>[]) (f16 [6]) ?_ (λhS6=>?_)
 ·
  rintro⟨b18,b21,b7,b8,⟨ra,rc⟩,⟨pa,pc⟩⟩;refine Ag rfl ?_ ?_;exact Aa 2 [] (λq=>λ_=>Au [2,3,4,5,6,7] rfl<|E0 hS16 (q,b21,b7,b8,(ra,rc),(pa,pc)) lE (λw f hM=>hM.perm (List.perm_middle (l₁:=[_]))));refine Ag rfl ?_ ?_;exact Aa 2 [] (λq=>λ_=>Au [2,3,4,5,6,7] rfl<|E0 hS46 (b18,q,b7,b8,(ra,rc),(pa,pc)) lE (λw f hM=>hM.perm (List.perm_middle (l₁:=[_]))));refine Ag rfl ?_ Aj;exact Aa 2 [] (λq=>λ_=>Au [2,3,4,5,6,7] rfl<|E0 hS67 (b18,b21,b7,q,(ra,rc),(pa,pc)) lE (λw f hM=>hM))
 refine K9 pU (KA b1 b2 b3 b4 b5 b6 []) (D2 b1 b2 b3 b4 b5 b6 []) (λ_=>[]) (f16 []) ?_ (λhS=>?_)
 ·
  rintro⟨b18,b21,b7,b8,⟨ra,rc⟩,⟨pa,pc⟩⟩;refine Ag rfl ?_ ?_;exact Aa 2 [] (λq=>λ_=>Au [1,2,3,4,5,6] rfl<|E0 hS1 (q,b21,b7,b8,(ra,rc),(pa,pc)) lE (λw f hM=>hM));refine Ag rfl ?_ ?_;exact Aa 2 [] (λq=>λ_=>Au [1,2,3,4,5,6] rfl<|E0 hS4 (b18,q,b7,b8,(ra,rc),(pa,pc)) lE (λw f hM=>hM));refine Ag rfl ?_ ?_;exact Aa 2 [] (λq=>λ_=>Au [1,2,3,4,5,6] rfl<|E0 hS6 (b18,b21,q,b8,(ra,rc),(pa,pc)) lE (λw f hM=>hM));refine Ag rfl ?_ Aj;exact Aa 2 [] (λq=>λ_=>Au [1,2,3,4,5,6] rfl<|E0 hS7 (b18,b21,b7,q,(ra,rc),(pa,pc)) lE (λw f hM=>hM))
 exact E0 hS (0,0,0,0,(none,0),(none,0)) lE (λw f hM=>hM);rintro⟨b7,b8,⟨ra,rc⟩,⟨pa,pc⟩⟩ -;dsimp only;refine Aa 8 [] (λb31=>λ_=>Dx rfl rfl (λw f hM=>P2 rfl)<|Aa 4 [] (λ_=>lZ 0 rfl rfl<|tY (MZ b31 none) (DA 106 109 b31 (.slice none 0 0) none 0 0 []) (λb h=>h.elim .inr λh=>by cases h) (λw f h=>⟨h.2,⟨rfl,.inl ⟨rfl,rfl,rfl⟩⟩,λh=>by cases h⟩) DA.stab<|Dk (λw f=>CF w f [] []) (λw f hM=>rfl) CF.mono<|Aa 6 [7,7,7] (y<|y<|y<|λb32=>λ_=>G7 0 5 [qI,qI,qI] rfl rfl rfl rfl rfl rfl (λw f _ _ hM=>⟨hM.f3,⟨qN,⟨qN,⟨qN,tQ⟩⟩⟩⟩) ⟨kI,⟨kI,⟨kI,tQ⟩⟩⟩ λa1 c1 xs1=>Aa 8 [7,7] (y<|y<|λb33=>λ_=>G7 0 6 [qI,qI] rfl rfl rfl rfl rfl rfl (λw f _ _ hM=>⟨hM.f3,⟨qN,⟨qN,tQ⟩⟩⟩) ⟨kI,⟨kI,tQ⟩⟩ λa2 c2 xs2=>?_))));refine Aa 9 [7,7,4] (y<|y<|y<|λb34=>λ_=>G7 0 9 [qI,qI,qB] rfl rfl rfl rfl rfl rfl (λw f _ _ hM=>⟨hM.f3,⟨qN,⟨qN,⟨qN,tQ⟩⟩⟩⟩) ⟨kI,⟨kI,⟨kB,tQ⟩⟩⟩ λa3 c3 xs3=>Aa 9 [6,6,6] (y<|y<|y<|λb35=>λ_=>G7 0 13 [qF,qF,qF] rfl rfl rfl rfl rfl rfl (λw f _ _ hM=>⟨hM.f3,⟨qN,⟨qN,⟨qN,tQ⟩⟩⟩⟩) ⟨kF,⟨kF,⟨kF,tQ⟩⟩⟩ λa4 c4 xs4=>Aa 8 [6,6] (y<|y<|λb36=>λ_=>G7 0 15 [qF,qF] rfl rfl rfl rfl rfl rfl (λw f _ _ hM=>⟨hM.f3,⟨qN,⟨qN,tQ⟩⟩⟩) ⟨kF,⟨kF,tQ⟩⟩ λa5 c5 xs5=>Aa 9 [6,6,4] (y<|y<|y<|λb37=>λ_=>G7 0 18 [qF,qF,qB] rfl rfl rfl rfl rfl rfl (λw f _ _ hM=>⟨hM.f3,⟨qN,⟨qN,⟨qN,tQ⟩⟩⟩⟩) ⟨kF,⟨kF,⟨kB,tQ⟩⟩⟩ λa6 c6 xs6=>Aa 8 [7,6] (y<|y<|λb38=>λ_=>G7 0 19 [qI,qF] rfl rfl rfl rfl rfl rfl (λw f _ _ hM=>⟨hM.f3,⟨qN,⟨qN,tQ⟩⟩⟩) ⟨kI,⟨kF,tQ⟩⟩ λa7 c7 xs7=>?_)))));refine Aa 8 [6,7] (y<|y<|λb39=>λ_=>G7 0 20 [qF,qI] rfl rfl rfl rfl rfl rfl (λw f _ _ hM=>⟨hM.f3,⟨qN,⟨qN,tQ⟩⟩⟩) ⟨kF,⟨kI,tQ⟩⟩ λa8 c8 xs8=>Aa 8 [6,5] (y<|y<|λb40=>λ_=>G7 0 21 [qF,qS] rfl rfl rfl rfl rfl rfl (λw f _ _ hM=>⟨hM.f3,⟨qN,⟨qN,tQ⟩⟩⟩) ⟨kF,⟨kS,tQ⟩⟩ λa9 c9 xs9=>Aa 7 [6] (y<|λb41=>λ_=>G7 0 23 [qF] rfl rfl rfl rfl rfl rfl (λw f _ _ hM=>⟨hM.f3,⟨qN,tQ⟩⟩) ⟨kF,tQ⟩ λa10 c10 xs10=>Aa 9 [5,5,5] (y<|y<|y<|λb42=>λ_=>G7 0 24 [qS,qS,qS] rfl rfl rfl rfl rfl rfl (λw f _ _ hM=>⟨hM.f3,⟨qN,⟨qN,⟨qN,tQ⟩⟩⟩⟩) ⟨kS,⟨kS,⟨kS,tQ⟩⟩⟩ λa11 c11 xs11=>Aa 8 [5,7] (y<|y<|λb43=>λ_=>G7 0 27 [qS,qI] rfl rfl rfl rfl rfl rfl (λw f _ _ hM=>⟨hM.f3,⟨qN,⟨qN,tQ⟩⟩⟩) ⟨kS,⟨kI,tQ⟩⟩ λa12 c12 xs12=>?_)))))
 refine Aa 10 [5,7,7,5] (y<|y<|y<|y<|λb44=>λ_=>G7 0 28 [qS,qI,qI,qS] rfl rfl rfl rfl rfl rfl (λw f _ _ hM=>⟨hM.f3,⟨qN,⟨qN,⟨qN,⟨qN,tQ⟩⟩⟩⟩⟩) ⟨kS,⟨kI,⟨kI,⟨kS,tQ⟩⟩⟩⟩ λa13 c13 xs13=>Aa 9 [5,5,4] (y<|y<|y<|λb45=>λ_=>G7 0 30 [qS,qS,qB] rfl rfl rfl rfl rfl rfl (λw f _ _ hM=>⟨hM.f3,⟨qN,⟨qN,⟨qN,tQ⟩⟩⟩⟩) ⟨kS,⟨kS,⟨kB,tQ⟩⟩⟩ λa14 c14 xs14=>Aa 8 [7,5] (y<|y<|λb46=>λ_=>G7 0 32 [qI,qS] rfl rfl rfl rfl rfl rfl (λw f _ _ hM=>⟨hM.f3,⟨qN,⟨qN,tQ⟩⟩⟩) ⟨kI,⟨kS,tQ⟩⟩ λa15 c15 xs15=>Aa 8 [5,3] (y<|y<|λb47=>λ_=>G7 0 33 [qS,qU] rfl rfl rfl rfl rfl rfl (λw f _ _ hM=>⟨hM.f3,⟨qN,⟨qN,tQ⟩⟩⟩) ⟨kS,⟨kU,tQ⟩⟩ λa16 c16 xs16=>Aa 8 [3,5] (y<|y<|λb48=>λ_=>G7 0 34 [qU,qS] rfl rfl rfl rfl rfl rfl (λw f _ _ hM=>⟨hM.f3,⟨qN,⟨qN,tQ⟩⟩⟩) ⟨kU,⟨kS,tQ⟩⟩ λa17 c17 xs17=>?_)))));refine Aa 8 [2,1] (y<|y<|λb49=>λ_=>G7 0 35 [qV,(qR ra rc)] rfl rfl rfl rfl rfl rfl (λw f _ _ hM=>⟨hM.f3,⟨qN,⟨hM.f2,tQ⟩⟩⟩) ⟨kV,⟨(CZ dC dC tQ),tQ⟩⟩ λa18 c18 xs18=>Aa 8 [1,2] (y<|y<|λb50=>λ_=>G7 0 36 [(qR ra rc),qV] rfl rfl rfl rfl rfl rfl (λw f _ _ hM=>⟨hM.f3,⟨hM.f2,⟨qN,tQ⟩⟩⟩) ⟨(CZ dC dC tQ),⟨kV,tQ⟩⟩ λa19 c19 xs19=>Aa 9 [1,2,3] (y<|y<|y<|λb51=>λ_=>G7 0 37 [(qR ra rc),qV,qU] rfl rfl rfl rfl rfl rfl (λw f _ _ hM=>⟨hM.f3,⟨hM.f2,⟨qN,⟨qN,tQ⟩⟩⟩⟩) ⟨(CZ dC dC tQ),⟨kV,⟨kU,tQ⟩⟩⟩ λa20 c20 xs20=>Aa 8 [2,0] (y<|y<|λb52=>λ_=>G7 0 38 [qV,(qP pa pc)] rfl rfl rfl rfl rfl rfl (λw f _ _ hM=>⟨hM.f3,⟨qN,⟨hM.f1,tQ⟩⟩⟩) ⟨kV,⟨(CZ dC dC tQ),tQ⟩⟩ λa21 c21 xs21=>Aa 8 [0,2] (y<|y<|λb53=>λ_=>G7 0 39 [(qP pa pc),qV] rfl rfl rfl rfl rfl rfl (λw f _ _ hM=>⟨hM.f3,⟨hM.f1,⟨qN,tQ⟩⟩⟩) ⟨(CZ dC dC tQ),⟨kV,tQ⟩⟩ λa22 c22 xs22=>?_)))));exact Aa 9 [0,2,3] (y<|y<|y<|λb54=>λ_=>G7 0 40 [(qP pa pc),qV,qU] rfl rfl rfl rfl rfl rfl (λw f _ _ hM=>⟨hM.f3,⟨hM.f1,⟨qN,⟨qN,tQ⟩⟩⟩⟩) ⟨(CZ dC dC tQ),⟨kV,⟨kU,tQ⟩⟩⟩ λa23 c23 xs23=>Aa 4 [] (λ_=>Dx rfl rfl (λw f hM=>Ai rfl JC hM.res.blk rfl)<|Aa 4 [] (λ_=>AM (CQ rfl rfl) (λw f hM=>by obtain⟨f2,h1,h2⟩:=hM.res.fin (l:=Cb) hM.exm (λb hb=>(hM.mi b (.inr hb)).2.2.elim id λh=>h.elim) hM.f0 rfl dC;exact⟨(a23,c23),f2,rfl,tQ,h1,⟨h2,tQ⟩⟩))))
def P6(p:RE):Bd:=⟨p.1,Cn p.2.2 [1] (T1.var (0-1)).one,[0-1]⟩
def Gz(i:Nat):Ba:=((Cb.take i).map P6).reverse
variable {nu:Int}{i:Nat}{dt:lU}
theorem Vc{p:RE}(h:Cb[i]?=some p):Gz (i+1)=P6 p::Gz i:=by
 unfold Gz;rw[CT h,List.map_append,List.reverse_append];rfl
theorem R4:Gz Cb.length=OP:=kR
theorem Ny:∀p,p∈Cb→p.2.2.bnd:=by
 intro p hp;simp only[Cb,List.mem_cons,List.not_mem_nil,or_false] at hp;have h1:∀{l:List (T1×Option Addr×Nat)},Yl l→(He (RV l)).bnd:=λh=>UK (OD h);have hv:=Bu 1;have h0:∀{t:lU},t.length≤1000000→(c0 t).bnd:=λh=>CE h;have hr:(T1.con I8 (T1.var 1).one).bnd:=CZ dC dC tQ;have hp2:(T1.con CK (T1.var 1).one).bnd:=CZ dC dC tQ;have bi:=h0 (t:=bI) dC;have bf:=h0 (t:=bF) dC;have bs:=h0 (t:=bS) dC;have bb:=h0 (t:=bB) dC;have bu:=h0 (t:=bU) dC
 repeat' (rcases hp with rfl|hp)
 all_goals first|(subst hp)|skip
 all_goals (refine h1 ?_;simp only[Yl,and_true];simp[*])
theorem Ro{nm:lU}{ar:Nat}(h:Hj[i]?=some (nm,dt,nu,ar)):ar≤1:=by
 have:∀p∈Hj,p.2.2.2≤1:=dC;exact this _ (List.mem_of_getElem? h)
theorem RH{nm:lU}{ar:Nat}(h:Hj[i]?=some (nm,dt,nu,ar)):dt.length≤1000000:=by
 have:∀p∈Hj,p.2.1.length≤1000000:=dC;exact this _ (List.mem_of_getElem? h)
theorem rU:Dy (⟨[],0,WC 0,[],[],0⟩:CS):=⟨tQ,λ_ _ h=>(by cases h),tQ,tQ,tQ,Int.le_refl _⟩
set_option maxHeartbeats 2000000 in
theorem SJ(w:World)(f:Fq)(hv:Vl w f)(hG:EM w f) :
  Bq prog 15 #[] w (JD (α:=Ad×Option Addr) (λx=>.tuple #[pB x.1.cb,.pointer x.2]) (λx=>x.1.ok) (λ_=>False) (λx=>Bx x.1) (λx=>As 69 148 x.1 Z4) (λx=>[λw f=>AF w f OP x.2]) w f):=by
 refine Co (X:=X0 w f) (H:=[]) (R:=[]) (B:=[]) (Fs:=[λw f=>EM w f]) (f:=f) func15 rfl rfl rfl (Ca hv ⟨hG,tQ⟩ ⟨EM.mono,tQ⟩)<|Aa 8 [] (λ_=>Tn (XX:=λ_ _=>False) rfl rfl (eC jF rfl rfl) (λw f hM=>(YO w f hM.vl).retP) (λ_=>BA.stab (.inl rfl) (.inr rfl)) (λ_=>trivial) (λ_ _ _ _ _ h=>h.elim) ?_);rintro⟨sb,mb⟩ hsm;dsimp only at hsm ⊢;refine Zu (K:=BI) rfl rfl λkm hkm=>Zu (K:=BI) rfl rfl λdm hdm=>Zu (K:=BI) rfl rfl λrm hrm=>Aa 7 [] (λb1=>λ_=>HZ (λw f hM=>(hM.own b1 (.head _)).2.2) λhcb=>lZ 0 rfl rfl ?_);obtain⟨A,rfl,rfl,rfl,rfl,rfl,rfl⟩:∃A:Ad,A.cb=b1∧A.sb=sb∧A.mb=mb∧A.km=km∧A.dm=dm∧A.rm=rm:=⟨⟨b1,sb,mb,km,dm,rm⟩,rfl,rfl,rfl,rfl,rfl,rfl⟩;have hA:A.ok:=⟨λe=>hcb (.inl (.inl (.inl (.inl e)))),⟨λe=>hcb (.inl (.inl (.inl (.inr e)))),λe=>hcb (.inl (.inl (.inr e))),λe=>hcb (.inl (.inr e)),λe=>hcb (.inr e)⟩,⟨hsm,λe=>hkm (.inl e.symm),λe=>hdm (.inl (.inl e.symm)),λe=>hrm (.inl (.inl (.inl e.symm)))⟩,⟨λe=>hkm (.inr e.symm),λe=>hdm (.inl (.inr e.symm)),λe=>hrm (.inl (.inl (.inr e.symm))),λe=>hdm (.inr e.symm),λe=>hrm (.inl (.inr e.symm)),λe=>hrm (.inr e.symm)⟩⟩;refine tY (Bx A) (As 69 148 A (⟨[],0,WC 0,[],[],0⟩:CS)) (λb h=>by rcases h with h|h|h|h|h|h;exact .inr h;exact .inl (.inl (.inl (.inl (.inl h))));exact .inl (.inl (.inl (.inl (.inr h))));exact .inl (.inl (.inl (.inr h)));exact .inl (.inl (.inr h));exact .inl (.inr h)) (λw f h=>⟨h.2,⟨0,h.1.1.1.1⟩,⟨[],h.1.1.1.2,rfl⟩,h.1.1.2,h.1.2⟩) As.stab<|Aa 1 [] (λ_=>Bw rfl rfl (eC jW rfl rfl) (λw f hM=>Tc w f hM.vl) (λx=>⟨λ_ _ _ _ h hF=>Cs.mono h hF,tQ⟩) ?_);rintro kb -;refine Aa 5 [] (λ_=>?_);refine Fy (α:=Nat) (λi=>8-i) (λi=>i≤8∧Dy (⟨[],0,WC i,[],[],0⟩:CS)) (λi=>(E4 2 (pB A.cb) 15 (.slice (some ⟨kb,0,none⟩) 8 8) 16 (iV ((8:Nat):Int)) 17 (iV (i:Int)))) (λi=>⟨λ_=>False,Bx A,As 69 148 A (⟨[],0,WC i,[],[],0⟩:CS),w,f⟩) (λi=>[]) (λi=>[]) (λi=>[]) (λi=>[λw f=>Cs w f kb 0 OJ,λw f=>EM w f]) (0) ⟨Nat.zero_le _,rU⟩ lE (λw f hM=>hM.less sR sR nE (mR [0,1])) ?_;rintro i ⟨hi,hwi⟩;refine Aa 6 [] (λ_=>AL 18 rfl rfl (λh1=>?_) (λh1=>?_));refine Aa 6 [] (λ_=>?_);have hil:i<8:=by have:=of_decide_eq_true h1;omega
 obtain⟨⟨nm,dt,nu,ar⟩,hx⟩:∃v,Hj[i]?=some v:=⟨_,List.getElem?_eq_getElem (l:=Hj) hil⟩;have har:ar≤1:=Ro hx;refine LM (α:=Unit) (λx=>True) (λx=>[⟨kb,0+i*4,cC (nm,dt,nu,ar)⟩]) (λx=>[]) (λw f hM=>⟨(),tQ,(λe he=>by cases he with|head=>exact Cs.flat cC 4 (λ_=>rfl) Hj 0 i _ hM.f0 hx|tail _ h=>cases h),λ_ h=>by cases h⟩) (λx=>Ax.mem tQ) ?_;rintro⟨⟩ -;refine Aa 11 [100,0,0,0] (aI oM<|y2<|λb2=>y<|y<|λ_=>Bw rfl rfl (eC Br rfl rfl) (λw f hM=>Bl w f hM.vl dt) (λx=>trivial) ?_);rintro⟨⟩ -;refine Aa 14 [0,1] (λb3=>y<|y<|λ_=>NB 61 4 ?_);refine Fy (α:=Nat×List Value×Option Addr×Nat) (λx=>ar-x.1) (λx=>x.1≤ar) (λx=>(E8 2 (pB A.cb) 4 (pB b2) 5 (pB b3) 15 (.slice (some ⟨kb,0,none⟩) 8 8) 16 (iV ((8:Nat):Int)) 17 (iV (i:Int)) 26 (iV (ar:Int)) 27 (iV (x.1:Int)))) (λx=>⟨λ_=>False,Bx A,As 69 148 A (⟨[],0,WC i,[],[],0⟩:CS),w,f⟩) (λx=>[⟨b3,[.slice x.2.2.1 x.1 x.2.2.2,iV 1,iV 0,S dt,.slice none 0 0,.slice none 0 0],105,true⟩,⟨b2,cC (nm,dt,nu,ar),102,true⟩]) (λx=>[⟨61,4,x.2.2.1,x.2.2.2,x.1,x.2.1⟩]) (λx=>[]) (λx=>[λw f=>Be w f (Np x.1) x.2.1,λw f=>Cs w f kb 0 OJ,λw f=>EM w f]) (0,[],none,0) (Nat.zero_le _) lE (λw f hM=>hM.more (B':=[]) (F':=[λw f=>Be w f .nil []]) nE (AE.mem ⟨rfl,tQ⟩) (Ax.mem ⟨Be.mono,tQ⟩) |>.less (sK (sK sZ)) sR nE (mR [0,1,2])) ?_;rintro⟨j,xs,ra,rc⟩ hj;dsimp only at hj ⊢;have hj0:=hj;refine Aa 6 [] (λ_=>AL 28 rfl rfl (λh2=>?_) (λh2=>?_));refine Aa 5 [] (λ_=>?_);have hjl:j<ar:=by have:=of_decide_eq_true h2;omega
 refine Cz [1] Al (.rd 0 (.br 1 (.br 2 (.br 3 (.br 4 (.rd 5 (.br 6 .fin .fin)) .fin) .fin) .fin) (.br 2 (.br 1 (.br 3 (.br 4 (.rd 5 (.br 6 .fin .fin)) .fin) .fin) (.br 3 (.br 1 (.br 4 (.rd 5 (.br 6 .fin .fin)) .fin) .fin) .fin)) .fin))) rfl kR<|A2 1 [] (λ_=>Ag rfl ?_ ?_);refine Aa 2 [0] (y<|λ_=>Au [1] rfl<|Ag rfl ?_ Aj);refine Bw rfl rfl (eC Br rfl rfl) (λw f hM=>Bl w f hM.vl [115,116,114,105,110,103]) (λx=>trivial) ?_;rintro⟨⟩ -;refine Aa 1 [] (λ_=>Au [1] rfl<|Ag rfl ?_ Aj);refine Aa 2 [] (λb4=>λ_=>Au [2] rfl<|Ag rfl ?_ Aj);refine CY 0 0 rfl rfl CR rfl rfl rfl rfl rfl rfl rfl rfl (λ_ _=>rfl) oM oM λra2 rc2=>Aa 1 [] (λ_=>Au [2] rfl<|A2 1 [] (λ_=>Ag rfl ?_ Aj));exact Aa 2 [1] (y<|λ_=>Au [2] rfl<|Bj<|Aa 6 [] (aI ⟨oM,oM⟩<|λ_=>Dj ((j+1,xs++tC (c0 bS) none 0,ra2,rc2)) (show ar-(j+1)<ar-j by omega) (show j+1≤ar by omega) lE (λw f hM=>⟨_,(hM.more (B':=[]) (F':=[λw f=>Be w f (Np (j+1)) (xs++tC (c0 bS) none 0)]) nE (AE.mem ⟨Be.snoc (Ak.nil _ _ _ _) hM.f0,tQ⟩) (Ax.mem ⟨Be.mono,tQ⟩)).less (sD (sK (sK sZ))) sR nE (mR [0,2,3])⟩)));refine Ag rfl ?_ Aj;refine Bw rfl rfl (eC Br rfl rfl) (λw f hM=>Bl w f hM.vl [115,116,114,105,110,103]) (λx=>trivial) ?_;rintro⟨⟩ -;refine Aa 1 [] (λ_=>Au [1] rfl<|Ag rfl ?_ ?_);refine Aa 2 [0] (y<|λ_=>Au [1] rfl<|Ag rfl ?_ Aj);refine Aa 2 [] (λb5=>λ_=>Au [2] rfl<|Ag rfl ?_ Aj);refine CY 0 0 rfl rfl CR rfl rfl rfl rfl rfl rfl rfl rfl (λ_ _=>rfl) oM oM λra2 rc2=>Aa 1 [] (λ_=>Au [2] rfl<|A2 1 [] (λ_=>Ag rfl ?_ Aj));exact Aa 2 [1] (y<|λ_=>Au [2] rfl<|Bj<|Aa 6 [] (aI ⟨oM,oM⟩<|λ_=>Dj ((j+1,xs++tC (c0 bS) none 0,ra2,rc2)) (show ar-(j+1)<ar-j by omega) (show j+1≤ar by omega) lE (λw f hM=>⟨_,(hM.more (B':=[]) (F':=[λw f=>Be w f (Np (j+1)) (xs++tC (c0 bS) none 0)]) nE (AE.mem ⟨Be.snoc (Ak.nil _ _ _ _) hM.f0,tQ⟩) (Ax.mem ⟨Be.mono,tQ⟩)).less (sD (sK (sK sZ))) sR nE (mR [0,2,3])⟩)));refine Ag rfl ?_ Aj;refine Aa 2 [] (λb6=>λ_=>Au [2] rfl<|Ag rfl ?_ Aj);refine Aa 2 [1] (y<|λ_=>Au [2] rfl<|Ag rfl ?_ Aj);refine CY 0 0 rfl rfl CR rfl rfl rfl rfl rfl rfl rfl rfl (λ_ _=>rfl) oM oM λra2 rc2=>Aa 1 [] (λ_=>Au [2] rfl<|A2 1 [] (λ_=>Ag rfl ?_ Aj));exact Aa 2 [1] (y<|λ_=>Au [2] rfl<|Bj<|Aa 6 [] (aI ⟨oM,oM⟩<|λ_=>Dj ((j+1,xs++tC (c0 bS) none 0,ra2,rc2)) (show ar-(j+1)<ar-j by omega) (show j+1≤ar by omega) lE (λw f hM=>⟨_,(hM.more (B':=[]) (F':=[λw f=>Be w f (Np (j+1)) (xs++tC (c0 bS) none 0)]) nE (AE.mem ⟨Be.snoc (Ak.nil _ _ _ _) hM.f0,tQ⟩) (Ax.mem ⟨Be.mono,tQ⟩)).less (sD (sK (sK sZ))) sR nE (mR [0,2,3])⟩)));refine Aa 3 [] (λ_=>ER<|Aa 2 [] (λ_=>?_));obtain rfl:j=ar:=by have:=of_decide_eq_false h2;omega
 refine NC (λw f=>Ak w f (Np j) ra rc) Ak.mono (λw f hM=>GV hM hM.f0)<|Kv (λw=>AI w A.cb [pB A.sb,.map (some A.km),.map (some A.dm),.map (some A.rm),iV 0] 69) (λw f h _=>h.blk) [0,1] Al (rd [0,1,2,3,4,5,6] (.br 7 .fin .fin)) rfl kR kR kR (λ_ _ _ _ _ h=>h)<|A2 3 [] (λ_=>Gf rfl rfl rfl (λw hK=>Ai rfl NR hK.2.2 rfl)<|A2 3 [1,0] (y<|y<|λ_=>Ag rfl ?_ Aj));exact oR (m:=⟨Np j,c0 dt,[]⟩) (aa:=ra) (ac:=rc) (oa:=none) (oc:=0) (va:=none) (vc:=0) (i1:=0) hA hwi rfl rfl rfl rfl (by unfold Z2 tC;simp only[Kn];rfl) Oi F8 (Nr i hil _ hx) rfl rfl rfl<|Aa 1 [] (λ_=>AW [0,1] (λw f h _=>h.blk) rfl (λ_ h=>h)<|Bj<|Aa 6 [] (aI ⟨oM,oM⟩<|λ_=>Dj (i+1) (show 8-(i+1)<8-i by omega) ⟨show i+1≤8 by omega,(by rw[Nb hx];exact hwi.addCons (Nr i hil _ hx) ⟨by rw[Kn];dsimp only;omega,Nx _,CE (RH hx),Nat.zero_le _⟩)⟩ lE (λw f hM=>⟨_,by rw[Nb hx];exact hM.less (sD (sD sZ)) sR nE (mR [2,3])⟩)));refine Aa 3 [] (λ_=>ER<|Aa 3 [] (λ_=>?_));obtain rfl:i=8:=by have:=of_decide_eq_false h1;omega
 refine Aa 4 [] (λ_=>Dx (v:=iV 0) rfl rfl (λw f hM=>Ai rfl Ho hM.res.blk rfl)<|Aa 3 [] (aI ⟨oM,oM⟩<|λ_=>tX (v:=0-1) hA rfl rfl rfl Ho<|Aa 10 [] (λ_=>Bw rfl rfl (eC jS rfl rfl) (λw f hM=>Ss w f hM.vl hM.f1) (λx=>⟨SU.mono,tQ⟩) ?_)));rintro⟨pa,pc⟩ -;refine Aa 5 [] (λ_=>?_);refine Fy (α:=Nat×Option Addr) (λx=>Cb.length-x.1) (λx=>x.1≤Cb.length) (λx=>(E5 2 (pB A.cb) 6 (.pointer x.2) 51 (.slice pa Cb.length pc) 52 (iV (Cb.length:Int)) 53 (iV (x.1:Int)))) (λx=>⟨λ_=>False,Bx A,As 69 148 A (⟨[],0,WC 8,[],[],0-1⟩:CS),w,f⟩) (λx=>[]) (λx=>[]) (λx=>[]) (λx=>[λw f=>SU w f Cb pa pc,λw f=>AF w f (Gz x.1) x.2]) (0,none) (Nat.zero_le _) lE (λw f hM=>hM.more (B':=[]) (F':=[λw f=>AF w f (Gz 0) none]) nE (AE.mem ⟨rfl,tQ⟩) (Ax.mem ⟨AF.mono,tQ⟩) |>.less sR sR nE (mR [1,0])) ?_;rintro⟨i,ea⟩ hi;dsimp only at hi ⊢;refine Aa 6 [] (λ_=>AL 54 rfl rfl (λh3=>?_) (λh3=>?_));refine Aa 6 [] (λ_=>?_);have hpl:Cb.length≤1000:=dC;have hil:i<Cb.length:=by have:=of_decide_eq_true h3;omega
 obtain⟨p,hx⟩:∃v,Cb[i]?=some v:=⟨_,List.getElem?_eq_getElem hil⟩;have hpb:p.2.2.bnd:=Ny p (List.mem_of_getElem? hx);refine LM (α:=Nat×Option Addr×Nat) (λx=>pa=some ⟨x.1,0,none⟩) (λx=>[⟨x.1,0+i*6,pC p x.2.1 x.2.2⟩]) (λx=>[λw f=>Ak w f p.2.2.kids x.2.1 x.2.2]) (λw f hM=>let ⟨_,b,xs,h1,h2,h3⟩:=hM.f0;let ⟨a,c,h4,h5⟩:=CF.get h3 h2 hx;⟨(b,a,c),h1,(λe he=>by cases he with|head=>exact h4|tail _ h=>cases h),AE.mem ⟨h5,tQ⟩⟩) (λx=>Ax.mem ⟨Ak.mono,tQ⟩) ?_;rintro⟨pb,qa,qc⟩ rfl;refine Aa 7 [100,0,0] (aI oM<|y2<|λb7=>y<|λ_=>?_);refine MK (α:=Option Addr) (λx=>True) (λx=>(E5 2 (pB A.cb) 6 (.pointer x) 51 (.slice (some (⟨pb,0,none⟩:Addr)) Cb.length pc) 52 (iV (Cb.length:Int)) 53 (iV (i:Int)))) (λx=>⟨λ_=>False,Bx A,As 69 148 A (⟨[],0,WC 8,[],[],0-1⟩:CS),w,f⟩) (λx=>[]) (λx=>[]) (λx=>[]) (λx=>[λw f=>SU w f Cb (some (⟨pb,0,none⟩:Addr)) pc,λw f=>AF w f (P6 p::Gz i) x]) ?_ ?_;refine Kv (λw=>AI w A.cb [pB A.sb,.map (some A.km),.map (some A.dm),.map (some A.rm),iV (0-1)] 69) (λw f h _=>h.blk) [0] Al (rd [0,1,2,3,5,6,7,8,12,13,14,15,18] (.br 4 (.br 9 (.br 10 (.br 11 (.br 16 (.rd 17 (.rd 19 (.br 20 (.rd 21 .fin) .fin))) .fin) (.br 16 (.br 11 (.rd 17 (.rd 19 (.br 20 (.rd 21 .fin) .fin))) .fin) .fin)) (.br 16 (.br 10 (.br 11 (.rd 17 (.rd 19 (.br 20 (.rd 21 .fin) .fin))) .fin) .fin) .fin)) (.br 16 (.br 9 (.br 10 (.br 11 (.rd 17 (.rd 19 (.br 20 (.rd 21 .fin) .fin))) .fin) .fin) .fin) .fin)) (.br 9 (.br 4 (.br 10 (.br 11 (.br 16 (.rd 17 (.rd 19 (.br 20 (.rd 21 .fin) .fin))) .fin) (.br 16 (.br 11 (.rd 17 (.rd 19 (.br 20 (.rd 21 .fin) .fin))) .fin) .fin)) (.br 16 (.br 10 (.br 11 (.rd 17 (.rd 19 (.br 20 (.rd 21 .fin) .fin))) .fin) .fin) .fin)) (.br 10 (.br 4 (.br 11 (.br 16 (.rd 17 (.rd 19 (.br 20 (.rd 21 .fin) .fin))) .fin) (.br 16 (.br 11 (.rd 17 (.rd 19 (.br 20 (.rd 21 .fin) .fin))) .fin) .fin)) (.br 16 (.br 4 (.br 11 (.rd 17 (.rd 19 (.br 20 (.rd 21 .fin) .fin))) .fin) .fin) .fin)) (.br 16 (.br 4 (.br 10 (.br 11 (.rd 17 (.rd 19 (.br 20 (.rd 21 .fin) .fin))) .fin) .fin) (.br 10 (.br 4 (.br 11 (.rd 17 (.rd 19 (.br 20 (.rd 21 .fin) .fin))) .fin) .fin) .fin)) .fin))) (.br 16 (.br 4 (.br 9 (.br 10 (.br 11 (.rd 17 (.rd 19 (.br 20 (.rd 21 .fin) .fin))) .fin) .fin) .fin) (.br 9 (.br 4 (.br 10 (.br 11 (.rd 17 (.rd 19 (.br 20 (.rd 21 .fin) .fin))) .fin) .fin) (.br 10 (.br 4 (.br 11 (.rd 17 (.rd 19 (.br 20 (.rd 21 .fin) .fin))) .fin) .fin) .fin)) .fin)) .fin)))) rfl kR kR kR (λ_ _ _ _ _ h=>h)<|A2 7 [0,0] (y<|y<|λ_=>Gf rfl rfl rfl (λw hK=>(Ai rfl Ho hK.2.2 rfl:AG _ _ _ _ _ (iV (0-1)) _))<|A2 3 [] (λ_=>Gf rfl rfl rfl (λw hK=>(Ai rfl Ho hK.2.2 rfl:AG _ _ _ _ _ (iV (0-1)) _))<|A2 1 [] (λ_=>Ag rfl ?_ ?_)));refine Aa 2 [] (λb8=>λ_=>AW [1] (λw f h _=>h.blk) rfl (λ_ h=>h)<|Ag rfl ?_ ?_);refine Bw rfl rfl (eC GG rfl rfl) (λw f hM=>D6 w f hM.vl (0-1)) (λx=>trivial) ?_;rintro⟨⟩ -;refine Aa 1 [] (λ_=>AW [1] (λw f h _=>h.blk) rfl (λ_ h=>h)<|Ag rfl ?_ ?_)
 refine Aa 2 [] (λb9=>λ_=>AW [2] (λw f h _=>h.blk) rfl (λ_ h=>h)<|Ag rfl ?_ ?_);refine CI 1 rfl rfl<|CI 0 rfl rfl<|Bw (α:=Option Addr×Nat) rfl rfl (eC Dh rfl rfl) (λw f hM=>B6 w f hM.vl [1] (some ⟨b8,0,none⟩) 1 (T1.var (0-1)).one (some ⟨b9,0,none⟩) 1 dC dC tQ ⟨Nat.le_refl _,.inr ⟨b8,0,rfl,hM.b1⟩⟩ (CL (l:=[(.var (0-1),none,0)]) ⟨Ak.nil _ _ _ _,tQ⟩ hM.b0) p.2.2 qa qc hpb hM.f0) (λ_=>⟨Ak.mono,tQ⟩) ?_;rintro⟨wa,wc⟩ -;refine Aa 1 [] (λ_=>AW [0] (λw f h _=>h.blk) rfl (λ_ h=>.tail _ (.tail _ h))<|Ag rfl ?_ Aj);refine Aa 2 [] (λb10=>λ_=>AW [1] (λw f h _=>h.blk) rfl (λ_ h=>.tail _ (.tail _ h))<|A2 2 [] (λ_=>Ag rfl ?_ Aj));exact Aa 2 [] (λb11=>λ_=>AW [2] (λw f h _=>h.blk) rfl (λ_ h=>.tail _ (.tail _ h))<|A2 1 [] (λ_=>Bj<|CI 0 rfl rfl<|CI 0 rfl rfl<|H8 (some ⟨b11,0,none⟩) tQ lE (λw f hM=>⟨f,(hM.more (B':=[]) (F':=[λw f=>AF w f (P6 p::Gz i) (some ⟨b11,0,none⟩)]) nE (AE.mem ⟨⟨b11,wa,wc,some ⟨b10,0,none⟩,1,ea,rfl,hM.b1,hM.f0,⟨Nat.le_refl _,.inr ⟨b10,0,rfl,hM.b0⟩⟩,hM.f3⟩,tQ⟩) (Ax.mem ⟨AF.mono,tQ⟩)).less (sD sZ) sR nE (mR [3,0])⟩)));refine Ag rfl ?_ Aj;refine Aa 2 [] (λb12=>λ_=>AW [3] (λw f h _=>h.blk) rfl (λ_ h=>h)<|Ag rfl ?_ Aj);refine CI 2 rfl rfl<|CI 1 rfl rfl<|Bw (α:=Option Addr×Nat) rfl rfl (eC Dh rfl rfl) (λw f hM=>B6 w f hM.vl [1] (some ⟨b8,0,none⟩) 1 (T1.var (0-1)).one (some ⟨b9,0,none⟩) 1 dC dC tQ ⟨Nat.le_refl _,.inr ⟨b8,0,rfl,hM.b1⟩⟩ (CL (l:=[(.var (0-1),none,0)]) ⟨Ak.nil _ _ _ _,tQ⟩ hM.b0) p.2.2 qa qc hpb hM.f0) (λ_=>⟨Ak.mono,tQ⟩) ?_;rintro⟨wa,wc⟩ -;refine Aa 1 [] (λ_=>AW [1] (λw f h _=>h.blk) rfl (λ_ h=>.tail _ (.tail _ h))<|A2 2 [] (λ_=>Ag rfl ?_ Aj));exact Aa 2 [] (λb13=>λ_=>AW [2] (λw f h _=>h.blk) rfl (λ_ h=>.tail _ (.tail _ h))<|A2 1 [] (λ_=>Bj<|CI 0 rfl rfl<|CI 0 rfl rfl<|H8 (some ⟨b13,0,none⟩) tQ lE (λw f hM=>⟨f,(hM.more (B':=[]) (F':=[λw f=>AF w f (P6 p::Gz i) (some ⟨b13,0,none⟩)]) nE (AE.mem ⟨⟨b13,wa,wc,some ⟨b12,0,none⟩,1,ea,rfl,hM.b1,hM.f0,⟨Nat.le_refl _,.inr ⟨b12,0,rfl,hM.b0⟩⟩,hM.f3⟩,tQ⟩) (Ax.mem ⟨AF.mono,tQ⟩)).less (sD sZ) sR nE (mR [3,0])⟩)));refine Ag rfl ?_ Aj;refine Aa 2 [] (λb14=>λ_=>AW [2] (λw f h _=>h.blk) rfl (λ_ h=>h)<|Ag rfl ?_ Aj);refine Aa 2 [] (λb15=>λ_=>AW [3] (λw f h _=>h.blk) rfl (λ_ h=>h)<|Ag rfl ?_ Aj);refine CI 2 rfl rfl<|CI 0 rfl rfl<|Bw (α:=Option Addr×Nat) rfl rfl (eC Dh rfl rfl) (λw f hM=>B6 w f hM.vl [1] (some ⟨b8,0,none⟩) 1 (T1.var (0-1)).one (some ⟨b15,0,none⟩) 1 dC dC tQ ⟨Nat.le_refl _,.inr ⟨b8,0,rfl,hM.b1⟩⟩ (CL (l:=[(.var (0-1),none,0)]) ⟨Ak.nil _ _ _ _,tQ⟩ hM.b0) p.2.2 qa qc hpb hM.f0) (λ_=>⟨Ak.mono,tQ⟩) ?_;rintro⟨wa,wc⟩ -;refine Aa 1 [] (λ_=>AW [1] (λw f h _=>h.blk) rfl (λ_ h=>.tail _ (.tail _ h))<|A2 2 [] (λ_=>Ag rfl ?_ Aj))
 exact Aa 2 [] (λb16=>λ_=>AW [2] (λw f h _=>h.blk) rfl (λ_ h=>.tail _ (.tail _ h))<|A2 1 [] (λ_=>Bj<|CI 0 rfl rfl<|CI 0 rfl rfl<|H8 (some ⟨b16,0,none⟩) tQ lE (λw f hM=>⟨f,(hM.more (B':=[]) (F':=[λw f=>AF w f (P6 p::Gz i) (some ⟨b16,0,none⟩)]) nE (AE.mem ⟨⟨b16,wa,wc,some ⟨b14,0,none⟩,1,ea,rfl,hM.b1,hM.f0,⟨Nat.le_refl _,.inr ⟨b14,0,rfl,hM.b0⟩⟩,hM.f3⟩,tQ⟩) (Ax.mem ⟨AF.mono,tQ⟩)).less (sD sZ) sR nE (mR [3,0])⟩)));refine Ag rfl ?_ Aj;refine Aa 2 [] (λb17=>λ_=>AW [2] (λw f h _=>h.blk) rfl (λ_ h=>h)<|Ag rfl ?_ Aj);refine Bw rfl rfl (eC GG rfl rfl) (λw f hM=>D6 w f hM.vl (0-1)) (λx=>trivial) ?_;rintro⟨⟩ -;refine Aa 1 [] (λ_=>AW [2] (λw f h _=>h.blk) rfl (λ_ h=>h)<|Ag rfl ?_ Aj);refine Aa 2 [] (λb18=>λ_=>AW [3] (λw f h _=>h.blk) rfl (λ_ h=>h)<|Ag rfl ?_ Aj);refine CI 2 rfl rfl<|CI 0 rfl rfl<|Bw (α:=Option Addr×Nat) rfl rfl (eC Dh rfl rfl) (λw f hM=>B6 w f hM.vl [1] (some ⟨b8,0,none⟩) 1 (T1.var (0-1)).one (some ⟨b18,0,none⟩) 1 dC dC tQ ⟨Nat.le_refl _,.inr ⟨b8,0,rfl,hM.b1⟩⟩ (CL (l:=[(.var (0-1),none,0)]) ⟨Ak.nil _ _ _ _,tQ⟩ hM.b0) p.2.2 qa qc hpb hM.f0) (λ_=>⟨Ak.mono,tQ⟩) ?_;rintro⟨wa,wc⟩ -;refine Aa 1 [] (λ_=>AW [1] (λw f h _=>h.blk) rfl (λ_ h=>.tail _ (.tail _ h))<|A2 2 [] (λ_=>Ag rfl ?_ Aj));exact Aa 2 [] (λb19=>λ_=>AW [2] (λw f h _=>h.blk) rfl (λ_ h=>.tail _ (.tail _ h))<|A2 1 [] (λ_=>Bj<|CI 0 rfl rfl<|CI 0 rfl rfl<|H8 (some ⟨b19,0,none⟩) tQ lE (λw f hM=>⟨f,(hM.more (B':=[]) (F':=[λw f=>AF w f (P6 p::Gz i) (some ⟨b19,0,none⟩)]) nE (AE.mem ⟨⟨b19,wa,wc,some ⟨b17,0,none⟩,1,ea,rfl,hM.b1,hM.f0,⟨Nat.le_refl _,.inr ⟨b17,0,rfl,hM.b0⟩⟩,hM.f3⟩,tQ⟩) (Ax.mem ⟨AF.mono,tQ⟩)).less (sD sZ) sR nE (mR [3,0])⟩)));refine Ag rfl ?_ ?_;refine Bw rfl rfl (eC GG rfl rfl) (λw f hM=>D6 w f hM.vl (0-1)) (λx=>trivial) ?_;rintro⟨⟩ -;refine Aa 1 [] (λ_=>AW [0] (λw f h _=>h.blk) rfl (λ_ h=>h)<|Ag rfl ?_ ?_);refine Aa 2 [] (λb20=>λ_=>AW [1] (λw f h _=>h.blk) rfl (λ_ h=>h)<|Ag rfl ?_ ?_);refine Aa 2 [] (λb21=>λ_=>AW [2] (λw f h _=>h.blk) rfl (λ_ h=>h)<|Ag rfl ?_ ?_);refine CI 1 rfl rfl<|CI 0 rfl rfl<|Bw (α:=Option Addr×Nat) rfl rfl (eC Dh rfl rfl) (λw f hM=>B6 w f hM.vl [1] (some ⟨b20,0,none⟩) 1 (T1.var (0-1)).one (some ⟨b21,0,none⟩) 1 dC dC tQ ⟨Nat.le_refl _,.inr ⟨b20,0,rfl,hM.b1⟩⟩ (CL (l:=[(.var (0-1),none,0)]) ⟨Ak.nil _ _ _ _,tQ⟩ hM.b0) p.2.2 qa qc hpb hM.f0) (λ_=>⟨Ak.mono,tQ⟩) ?_;rintro⟨wa,wc⟩ -;refine Aa 1 [] (λ_=>AW [0] (λw f h _=>h.blk) rfl (λ_ h=>.tail _ (.tail _ h))<|Ag rfl ?_ Aj);refine Aa 2 [] (λb22=>λ_=>AW [1] (λw f h _=>h.blk) rfl (λ_ h=>.tail _ (.tail _ h))<|A2 2 [] (λ_=>Ag rfl ?_ Aj))
 exact Aa 2 [] (λb23=>λ_=>AW [2] (λw f h _=>h.blk) rfl (λ_ h=>.tail _ (.tail _ h))<|A2 1 [] (λ_=>Bj<|CI 0 rfl rfl<|CI 0 rfl rfl<|H8 (some ⟨b23,0,none⟩) tQ lE (λw f hM=>⟨f,(hM.more (B':=[]) (F':=[λw f=>AF w f (P6 p::Gz i) (some ⟨b23,0,none⟩)]) nE (AE.mem ⟨⟨b23,wa,wc,some ⟨b22,0,none⟩,1,ea,rfl,hM.b1,hM.f0,⟨Nat.le_refl _,.inr ⟨b22,0,rfl,hM.b0⟩⟩,hM.f3⟩,tQ⟩) (Ax.mem ⟨AF.mono,tQ⟩)).less (sD sZ) sR nE (mR [3,0])⟩)));refine Ag rfl ?_ Aj;refine Aa 2 [] (λb24=>λ_=>AW [3] (λw f h _=>h.blk) rfl (λ_ h=>h)<|Ag rfl ?_ Aj);refine CI 2 rfl rfl<|CI 1 rfl rfl<|Bw (α:=Option Addr×Nat) rfl rfl (eC Dh rfl rfl) (λw f hM=>B6 w f hM.vl [1] (some ⟨b20,0,none⟩) 1 (T1.var (0-1)).one (some ⟨b21,0,none⟩) 1 dC dC tQ ⟨Nat.le_refl _,.inr ⟨b20,0,rfl,hM.b1⟩⟩ (CL (l:=[(.var (0-1),none,0)]) ⟨Ak.nil _ _ _ _,tQ⟩ hM.b0) p.2.2 qa qc hpb hM.f0) (λ_=>⟨Ak.mono,tQ⟩) ?_;rintro⟨wa,wc⟩ -;refine Aa 1 [] (λ_=>AW [1] (λw f h _=>h.blk) rfl (λ_ h=>.tail _ (.tail _ h))<|A2 2 [] (λ_=>Ag rfl ?_ Aj));exact Aa 2 [] (λb25=>λ_=>AW [2] (λw f h _=>h.blk) rfl (λ_ h=>.tail _ (.tail _ h))<|A2 1 [] (λ_=>Bj<|CI 0 rfl rfl<|CI 0 rfl rfl<|H8 (some ⟨b25,0,none⟩) tQ lE (λw f hM=>⟨f,(hM.more (B':=[]) (F':=[λw f=>AF w f (P6 p::Gz i) (some ⟨b25,0,none⟩)]) nE (AE.mem ⟨⟨b25,wa,wc,some ⟨b24,0,none⟩,1,ea,rfl,hM.b1,hM.f0,⟨Nat.le_refl _,.inr ⟨b24,0,rfl,hM.b0⟩⟩,hM.f3⟩,tQ⟩) (Ax.mem ⟨AF.mono,tQ⟩)).less (sD sZ) sR nE (mR [3,0])⟩)));refine Ag rfl ?_ Aj;refine Aa 2 [] (λb26=>λ_=>AW [2] (λw f h _=>h.blk) rfl (λ_ h=>h)<|Ag rfl ?_ Aj);refine Aa 2 [] (λb27=>λ_=>AW [3] (λw f h _=>h.blk) rfl (λ_ h=>h)<|Ag rfl ?_ Aj);refine CI 2 rfl rfl<|CI 0 rfl rfl<|Bw (α:=Option Addr×Nat) rfl rfl (eC Dh rfl rfl) (λw f hM=>B6 w f hM.vl [1] (some ⟨b20,0,none⟩) 1 (T1.var (0-1)).one (some ⟨b27,0,none⟩) 1 dC dC tQ ⟨Nat.le_refl _,.inr ⟨b20,0,rfl,hM.b1⟩⟩ (CL (l:=[(.var (0-1),none,0)]) ⟨Ak.nil _ _ _ _,tQ⟩ hM.b0) p.2.2 qa qc hpb hM.f0) (λ_=>⟨Ak.mono,tQ⟩) ?_;rintro⟨wa,wc⟩ -;refine Aa 1 [] (λ_=>AW [1] (λw f h _=>h.blk) rfl (λ_ h=>.tail _ (.tail _ h))<|A2 2 [] (λ_=>Ag rfl ?_ Aj));exact Aa 2 [] (λb28=>λ_=>AW [2] (λw f h _=>h.blk) rfl (λ_ h=>.tail _ (.tail _ h))<|A2 1 [] (λ_=>Bj<|CI 0 rfl rfl<|CI 0 rfl rfl<|H8 (some ⟨b28,0,none⟩) tQ lE (λw f hM=>⟨f,(hM.more (B':=[]) (F':=[λw f=>AF w f (P6 p::Gz i) (some ⟨b28,0,none⟩)]) nE (AE.mem ⟨⟨b28,wa,wc,some ⟨b26,0,none⟩,1,ea,rfl,hM.b1,hM.f0,⟨Nat.le_refl _,.inr ⟨b26,0,rfl,hM.b0⟩⟩,hM.f3⟩,tQ⟩) (Ax.mem ⟨AF.mono,tQ⟩)).less (sD sZ) sR nE (mR [3,0])⟩)));refine Ag rfl ?_ ?_;refine Aa 2 [] (λb29=>λ_=>AW [1] (λw f h _=>h.blk) rfl (λ_ h=>h)<|Ag rfl ?_ ?_);refine Aa 2 [] (λb30=>λ_=>AW [2] (λw f h _=>h.blk) rfl (λ_ h=>h)<|Ag rfl ?_ ?_)
 refine CI 0 rfl rfl<|CI 0 rfl rfl<|Bw (α:=Option Addr×Nat) rfl rfl (eC Dh rfl rfl) (λw f hM=>B6 w f hM.vl [1] (some ⟨b30,0,none⟩) 1 (T1.var (0-1)).one (some ⟨b29,0,none⟩) 1 dC dC tQ ⟨Nat.le_refl _,.inr ⟨b30,0,rfl,hM.b1⟩⟩ (CL (l:=[(.var (0-1),none,0)]) ⟨Ak.nil _ _ _ _,tQ⟩ hM.b0) p.2.2 qa qc hpb hM.f0) (λ_=>⟨Ak.mono,tQ⟩) ?_;rintro⟨wa,wc⟩ -;refine Aa 1 [] (λ_=>AW [0] (λw f h _=>h.blk) rfl (λ_ h=>.tail _ (.tail _ h))<|Ag rfl ?_ Aj);refine Aa 2 [] (λb31=>λ_=>AW [1] (λw f h _=>h.blk) rfl (λ_ h=>.tail _ (.tail _ h))<|A2 2 [] (λ_=>Ag rfl ?_ Aj));exact Aa 2 [] (λb32=>λ_=>AW [2] (λw f h _=>h.blk) rfl (λ_ h=>.tail _ (.tail _ h))<|A2 1 [] (λ_=>Bj<|CI 0 rfl rfl<|CI 0 rfl rfl<|H8 (some ⟨b32,0,none⟩) tQ lE (λw f hM=>⟨f,(hM.more (B':=[]) (F':=[λw f=>AF w f (P6 p::Gz i) (some ⟨b32,0,none⟩)]) nE (AE.mem ⟨⟨b32,wa,wc,some ⟨b31,0,none⟩,1,ea,rfl,hM.b1,hM.f0,⟨Nat.le_refl _,.inr ⟨b31,0,rfl,hM.b0⟩⟩,hM.f3⟩,tQ⟩) (Ax.mem ⟨AF.mono,tQ⟩)).less (sD sZ) sR nE (mR [3,0])⟩)));refine Ag rfl ?_ Aj;refine Aa 2 [] (λb33=>λ_=>AW [3] (λw f h _=>h.blk) rfl (λ_ h=>h)<|Ag rfl ?_ Aj);refine CI 1 rfl rfl<|CI 1 rfl rfl<|Bw (α:=Option Addr×Nat) rfl rfl (eC Dh rfl rfl) (λw f hM=>B6 w f hM.vl [1] (some ⟨b30,0,none⟩) 1 (T1.var (0-1)).one (some ⟨b29,0,none⟩) 1 dC dC tQ ⟨Nat.le_refl _,.inr ⟨b30,0,rfl,hM.b1⟩⟩ (CL (l:=[(.var (0-1),none,0)]) ⟨Ak.nil _ _ _ _,tQ⟩ hM.b0) p.2.2 qa qc hpb hM.f0) (λ_=>⟨Ak.mono,tQ⟩) ?_;rintro⟨wa,wc⟩ -;refine Aa 1 [] (λ_=>AW [1] (λw f h _=>h.blk) rfl (λ_ h=>.tail _ (.tail _ h))<|A2 2 [] (λ_=>Ag rfl ?_ Aj));exact Aa 2 [] (λb34=>λ_=>AW [2] (λw f h _=>h.blk) rfl (λ_ h=>.tail _ (.tail _ h))<|A2 1 [] (λ_=>Bj<|CI 0 rfl rfl<|CI 0 rfl rfl<|H8 (some ⟨b34,0,none⟩) tQ lE (λw f hM=>⟨f,(hM.more (B':=[]) (F':=[λw f=>AF w f (P6 p::Gz i) (some ⟨b34,0,none⟩)]) nE (AE.mem ⟨⟨b34,wa,wc,some ⟨b33,0,none⟩,1,ea,rfl,hM.b1,hM.f0,⟨Nat.le_refl _,.inr ⟨b33,0,rfl,hM.b0⟩⟩,hM.f3⟩,tQ⟩) (Ax.mem ⟨AF.mono,tQ⟩)).less (sD sZ) sR nE (mR [3,0])⟩)));refine Ag rfl ?_ Aj;refine Aa 2 [] (λb35=>λ_=>AW [2] (λw f h _=>h.blk) rfl (λ_ h=>h)<|Ag rfl ?_ Aj);refine Aa 2 [] (λb36=>λ_=>AW [3] (λw f h _=>h.blk) rfl (λ_ h=>h)<|Ag rfl ?_ Aj);refine CI 0 rfl rfl<|CI 1 rfl rfl<|Bw (α:=Option Addr×Nat) rfl rfl (eC Dh rfl rfl) (λw f hM=>B6 w f hM.vl [1] (some ⟨b36,0,none⟩) 1 (T1.var (0-1)).one (some ⟨b29,0,none⟩) 1 dC dC tQ ⟨Nat.le_refl _,.inr ⟨b36,0,rfl,hM.b1⟩⟩ (CL (l:=[(.var (0-1),none,0)]) ⟨Ak.nil _ _ _ _,tQ⟩ hM.b0) p.2.2 qa qc hpb hM.f0) (λ_=>⟨Ak.mono,tQ⟩) ?_;rintro⟨wa,wc⟩ -;refine Aa 1 [] (λ_=>AW [1] (λw f h _=>h.blk) rfl (λ_ h=>.tail _ (.tail _ h))<|A2 2 [] (λ_=>Ag rfl ?_ Aj))
 exact Aa 2 [] (λb37=>λ_=>AW [2] (λw f h _=>h.blk) rfl (λ_ h=>.tail _ (.tail _ h))<|A2 1 [] (λ_=>Bj<|CI 0 rfl rfl<|CI 0 rfl rfl<|H8 (some ⟨b37,0,none⟩) tQ lE (λw f hM=>⟨f,(hM.more (B':=[]) (F':=[λw f=>AF w f (P6 p::Gz i) (some ⟨b37,0,none⟩)]) nE (AE.mem ⟨⟨b37,wa,wc,some ⟨b35,0,none⟩,1,ea,rfl,hM.b1,hM.f0,⟨Nat.le_refl _,.inr ⟨b35,0,rfl,hM.b0⟩⟩,hM.f3⟩,tQ⟩) (Ax.mem ⟨AF.mono,tQ⟩)).less (sD sZ) sR nE (mR [3,0])⟩)));refine Ag rfl ?_ Aj;refine Aa 2 [] (λb38=>λ_=>AW [1] (λw f h _=>h.blk) rfl (λ_ h=>h)<|Ag rfl ?_ ?_);refine Aa 2 [] (λb39=>λ_=>AW [2] (λw f h _=>h.blk) rfl (λ_ h=>h)<|Ag rfl ?_ Aj);refine Aa 2 [] (λb40=>λ_=>AW [3] (λw f h _=>h.blk) rfl (λ_ h=>h)<|Ag rfl ?_ Aj);refine CI 1 rfl rfl<|CI 0 rfl rfl<|Bw (α:=Option Addr×Nat) rfl rfl (eC Dh rfl rfl) (λw f hM=>B6 w f hM.vl [1] (some ⟨b39,0,none⟩) 1 (T1.var (0-1)).one (some ⟨b40,0,none⟩) 1 dC dC tQ ⟨Nat.le_refl _,.inr ⟨b39,0,rfl,hM.b1⟩⟩ (CL (l:=[(.var (0-1),none,0)]) ⟨Ak.nil _ _ _ _,tQ⟩ hM.b0) p.2.2 qa qc hpb hM.f0) (λ_=>⟨Ak.mono,tQ⟩) ?_;rintro⟨wa,wc⟩ -;refine Aa 1 [] (λ_=>AW [1] (λw f h _=>h.blk) rfl (λ_ h=>.tail _ (.tail _ h))<|A2 2 [] (λ_=>Ag rfl ?_ Aj));exact Aa 2 [] (λb41=>λ_=>AW [2] (λw f h _=>h.blk) rfl (λ_ h=>.tail _ (.tail _ h))<|A2 1 [] (λ_=>Bj<|CI 0 rfl rfl<|CI 0 rfl rfl<|H8 (some ⟨b41,0,none⟩) tQ lE (λw f hM=>⟨f,(hM.more (B':=[]) (F':=[λw f=>AF w f (P6 p::Gz i) (some ⟨b41,0,none⟩)]) nE (AE.mem ⟨⟨b41,wa,wc,some ⟨b38,0,none⟩,1,ea,rfl,hM.b1,hM.f0,⟨Nat.le_refl _,.inr ⟨b38,0,rfl,hM.b0⟩⟩,hM.f3⟩,tQ⟩) (Ax.mem ⟨AF.mono,tQ⟩)).less (sD sZ) sR nE (mR [3,0])⟩)));refine Ag rfl ?_ Aj;refine Aa 2 [] (λb42=>λ_=>AW [2] (λw f h _=>h.blk) rfl (λ_ h=>h)<|Ag rfl ?_ Aj);refine Aa 2 [] (λb43=>λ_=>AW [3] (λw f h _=>h.blk) rfl (λ_ h=>h)<|Ag rfl ?_ Aj);refine CI 0 rfl rfl<|CI 0 rfl rfl<|Bw (α:=Option Addr×Nat) rfl rfl (eC Dh rfl rfl) (λw f hM=>B6 w f hM.vl [1] (some ⟨b43,0,none⟩) 1 (T1.var (0-1)).one (some ⟨b42,0,none⟩) 1 dC dC tQ ⟨Nat.le_refl _,.inr ⟨b43,0,rfl,hM.b1⟩⟩ (CL (l:=[(.var (0-1),none,0)]) ⟨Ak.nil _ _ _ _,tQ⟩ hM.b0) p.2.2 qa qc hpb hM.f0) (λ_=>⟨Ak.mono,tQ⟩) ?_;rintro⟨wa,wc⟩ -;refine Aa 1 [] (λ_=>AW [1] (λw f h _=>h.blk) rfl (λ_ h=>.tail _ (.tail _ h))<|A2 2 [] (λ_=>Ag rfl ?_ Aj));exact Aa 2 [] (λb44=>λ_=>AW [2] (λw f h _=>h.blk) rfl (λ_ h=>.tail _ (.tail _ h))<|A2 1 [] (λ_=>Bj<|CI 0 rfl rfl<|CI 0 rfl rfl<|H8 (some ⟨b44,0,none⟩) tQ lE (λw f hM=>⟨f,(hM.more (B':=[]) (F':=[λw f=>AF w f (P6 p::Gz i) (some ⟨b44,0,none⟩)]) nE (AE.mem ⟨⟨b44,wa,wc,some ⟨b38,0,none⟩,1,ea,rfl,hM.b1,hM.f0,⟨Nat.le_refl _,.inr ⟨b38,0,rfl,hM.b0⟩⟩,hM.f3⟩,tQ⟩) (Ax.mem ⟨AF.mono,tQ⟩)).less (sD sZ) sR nE (mR [3,0])⟩)));refine Ag rfl ?_ Aj;refine Aa 2 [] (λb45=>λ_=>AW [1] (λw f h _=>h.blk) rfl (λ_ h=>h)<|Ag rfl ?_ ?_);refine Aa 2 [] (λb46=>λ_=>AW [2] (λw f h _=>h.blk) rfl (λ_ h=>h)<|Ag rfl ?_ Aj)
 refine Bw rfl rfl (eC GG rfl rfl) (λw f hM=>D6 w f hM.vl (0-1)) (λx=>trivial) ?_;rintro⟨⟩ -;refine Aa 1 [] (λ_=>AW [2] (λw f h _=>h.blk) rfl (λ_ h=>h)<|Ag rfl ?_ Aj);refine Aa 2 [] (λb47=>λ_=>AW [3] (λw f h _=>h.blk) rfl (λ_ h=>h)<|Ag rfl ?_ Aj);refine CI 1 rfl rfl<|CI 0 rfl rfl<|Bw (α:=Option Addr×Nat) rfl rfl (eC Dh rfl rfl) (λw f hM=>B6 w f hM.vl [1] (some ⟨b46,0,none⟩) 1 (T1.var (0-1)).one (some ⟨b47,0,none⟩) 1 dC dC tQ ⟨Nat.le_refl _,.inr ⟨b46,0,rfl,hM.b1⟩⟩ (CL (l:=[(.var (0-1),none,0)]) ⟨Ak.nil _ _ _ _,tQ⟩ hM.b0) p.2.2 qa qc hpb hM.f0) (λ_=>⟨Ak.mono,tQ⟩) ?_;rintro⟨wa,wc⟩ -;refine Aa 1 [] (λ_=>AW [1] (λw f h _=>h.blk) rfl (λ_ h=>.tail _ (.tail _ h))<|A2 2 [] (λ_=>Ag rfl ?_ Aj));exact Aa 2 [] (λb48=>λ_=>AW [2] (λw f h _=>h.blk) rfl (λ_ h=>.tail _ (.tail _ h))<|A2 1 [] (λ_=>Bj<|CI 0 rfl rfl<|CI 0 rfl rfl<|H8 (some ⟨b48,0,none⟩) tQ lE (λw f hM=>⟨f,(hM.more (B':=[]) (F':=[λw f=>AF w f (P6 p::Gz i) (some ⟨b48,0,none⟩)]) nE (AE.mem ⟨⟨b48,wa,wc,some ⟨b45,0,none⟩,1,ea,rfl,hM.b1,hM.f0,⟨Nat.le_refl _,.inr ⟨b45,0,rfl,hM.b0⟩⟩,hM.f3⟩,tQ⟩) (Ax.mem ⟨AF.mono,tQ⟩)).less (sD sZ) sR nE (mR [3,0])⟩)));refine Ag rfl ?_ Aj;refine Bw rfl rfl (eC GG rfl rfl) (λw f hM=>D6 w f hM.vl (0-1)) (λx=>trivial) ?_;rintro⟨⟩ -;refine Aa 1 [] (λ_=>AW [1] (λw f h _=>h.blk) rfl (λ_ h=>h)<|Ag rfl ?_ ?_);refine Aa 2 [] (λb49=>λ_=>AW [2] (λw f h _=>h.blk) rfl (λ_ h=>h)<|Ag rfl ?_ Aj);refine Aa 2 [] (λb50=>λ_=>AW [3] (λw f h _=>h.blk) rfl (λ_ h=>h)<|Ag rfl ?_ Aj);refine CI 1 rfl rfl<|CI 0 rfl rfl<|Bw (α:=Option Addr×Nat) rfl rfl (eC Dh rfl rfl) (λw f hM=>B6 w f hM.vl [1] (some ⟨b49,0,none⟩) 1 (T1.var (0-1)).one (some ⟨b50,0,none⟩) 1 dC dC tQ ⟨Nat.le_refl _,.inr ⟨b49,0,rfl,hM.b1⟩⟩ (CL (l:=[(.var (0-1),none,0)]) ⟨Ak.nil _ _ _ _,tQ⟩ hM.b0) p.2.2 qa qc hpb hM.f0) (λ_=>⟨Ak.mono,tQ⟩) ?_;rintro⟨wa,wc⟩ -;refine Aa 1 [] (λ_=>AW [1] (λw f h _=>h.blk) rfl (λ_ h=>.tail _ (.tail _ h))<|A2 2 [] (λ_=>Ag rfl ?_ Aj));exact Aa 2 [] (λb51=>λ_=>AW [2] (λw f h _=>h.blk) rfl (λ_ h=>.tail _ (.tail _ h))<|A2 1 [] (λ_=>Bj<|CI 0 rfl rfl<|CI 0 rfl rfl<|H8 (some ⟨b51,0,none⟩) tQ lE (λw f hM=>⟨f,(hM.more (B':=[]) (F':=[λw f=>AF w f (P6 p::Gz i) (some ⟨b51,0,none⟩)]) nE (AE.mem ⟨⟨b51,wa,wc,some ⟨b45,0,none⟩,1,ea,rfl,hM.b1,hM.f0,⟨Nat.le_refl _,.inr ⟨b45,0,rfl,hM.b0⟩⟩,hM.f3⟩,tQ⟩) (Ax.mem ⟨AF.mono,tQ⟩)).less (sD sZ) sR nE (mR [3,0])⟩)));refine Ag rfl ?_ Aj;refine Aa 2 [] (λb52=>λ_=>AW [2] (λw f h _=>h.blk) rfl (λ_ h=>h)<|Ag rfl ?_ Aj);refine Aa 2 [] (λb53=>λ_=>AW [3] (λw f h _=>h.blk) rfl (λ_ h=>h)<|Ag rfl ?_ Aj)
 refine CI 0 rfl rfl<|CI 0 rfl rfl<|Bw (α:=Option Addr×Nat) rfl rfl (eC Dh rfl rfl) (λw f hM=>B6 w f hM.vl [1] (some ⟨b53,0,none⟩) 1 (T1.var (0-1)).one (some ⟨b52,0,none⟩) 1 dC dC tQ ⟨Nat.le_refl _,.inr ⟨b53,0,rfl,hM.b1⟩⟩ (CL (l:=[(.var (0-1),none,0)]) ⟨Ak.nil _ _ _ _,tQ⟩ hM.b0) p.2.2 qa qc hpb hM.f0) (λ_=>⟨Ak.mono,tQ⟩) ?_;rintro⟨wa,wc⟩ -;refine Aa 1 [] (λ_=>AW [1] (λw f h _=>h.blk) rfl (λ_ h=>.tail _ (.tail _ h))<|A2 2 [] (λ_=>Ag rfl ?_ Aj));exact Aa 2 [] (λb54=>λ_=>AW [2] (λw f h _=>h.blk) rfl (λ_ h=>.tail _ (.tail _ h))<|A2 1 [] (λ_=>Bj<|CI 0 rfl rfl<|CI 0 rfl rfl<|H8 (some ⟨b54,0,none⟩) tQ lE (λw f hM=>⟨f,(hM.more (B':=[]) (F':=[λw f=>AF w f (P6 p::Gz i) (some ⟨b54,0,none⟩)]) nE (AE.mem ⟨⟨b54,wa,wc,some ⟨b45,0,none⟩,1,ea,rfl,hM.b1,hM.f0,⟨Nat.le_refl _,.inr ⟨b45,0,rfl,hM.b0⟩⟩,hM.f3⟩,tQ⟩) (Ax.mem ⟨AF.mono,tQ⟩)).less (sD sZ) sR nE (mR [3,0])⟩)));rintro ea2 -;dsimp only;exact Aa 6 [] (aI ⟨oM,oM⟩<|λ_=>Dj ((i+1,ea2)) (show Cb.length-(i+1)<Cb.length-i by omega) (show i+1≤_ by omega) lE (λw f hM=>⟨_,by dsimp only;rw[Vc hx];exact hM⟩));refine Aa 3 [] (λ_=>ER<|Aa 11 [] (λ_=>?_));obtain rfl:i=Cb.length:=by have:=of_decide_eq_false h3;omega
 exact AM (λw f hM=>Ce rfl (Ah rfl) (Ah rfl)) (λw f hM=>⟨(A,ea),f,rfl,hA,hM.exm,(λb hb=>let ⟨h1,h2,h3⟩:=hM.mi b hb;h3.elim (λh=>.inr ⟨h,h1,h2⟩) .inl),hM.res,⟨R4▸hM.f1,tQ⟩⟩)
theorem QA(w:World)(c2 c3 c4:Nat) :
  CallsD prog 14 [pB c2,pB c3,pB c4].toArray .returning w λr m w'=>∃x,r=.returned x∧m=.returning∧AR w w':=by
 refine De (R:=λw'=>AR w w') func14 rfl rfl rfl rfl Ma<|(?_:A3 prog _ (EU prog _ (λ_ w'=>AR w w') λ_ _=>False) [] (X0 w (λ_=>0)) [] [] [] (.code _) [] _ []) w (λ_=>0) (Ca (λ_ _=>rfl) tQ tQ);exact Aa 3 [] (λ_=>Dx rfl rfl (λw f hM=>Pg PU rfl)<|Aa 7 [] (λ_=>bH (λw f hM=>D0 rfl) (λw f hM=>hM.exm.stp.ext)))
theorem Tq(w:World)(f:Fq)(hv:Vl w f)(c2 c3 c4:Nat)(v2 x3 y3 v4:Value)(hc2:AI w c2 [v2] 35)(hc3:AI w c3 [x3,y3] 26)(hc4:AI w c4 [v4] 27)(hf:f c2=0∧f c3=0∧f c4=0)(hn:c2≠c3∧c2≠c4∧c3≠c4)(er:Er) :
  CallsD prog 14 [pB c2,pB c3,pB c4].toArray (.panicking (trI 52 er)) w λr m w'=>∃x,r=.returned x∧m=.panicking [{v:=.iface 52 (.agg #[iV er.1,iV er.2.1,iV er.2.2]),recovered:=true}]∧(∃f',C1 (λb=>b=c2∨b=c3∨b=c4) w f w' f'∧AI w' c2 [.slice none 0 0] 35∧AI w' c3 [iV er.1,iV er.2.1] 26∧AI w' c4 [iV er.2.2] 27):=by
 refine De (R:=λw'=>∃f',C1 (λb=>b=c2∨b=c3∨b=c4) w f w' f'∧AI w' c2 [.slice none 0 0] 35∧AI w' c3 [iV er.1,iV er.2.1] 26∧AI w' c4 [iV er.2.2] 27) func14 rfl rfl rfl rfl P9<|(?_:A3 prog _ (EU prog _ (λ_ w'=>∃f',C1 (λb=>b=c2∨b=c3∨b=c4) w f w' f'∧AI w' c2 [.slice none 0 0] 35∧AI w' c3 [iV er.1,iV er.2.1] 26∧AI w' c4 [iV er.2.2] 27) λ_ _=>False) [] ⟨λb=>b=c2∨b=c3∨b=c4,λ_=>False,λ_ _=>True,w,f⟩ [] [] [] (.code _) [] _ [⟨c2,[v2],35,false⟩,⟨c3,[x3,y3],26,false⟩,⟨c4,[v4],27,false⟩]) w f (eM hv hc2 hc3 hc4 hf hn);refine Aa 3 [] (λ_=>Dx rfl rfl (λw f hM=>OR PU rfl)<|Aa 5 [] (λ_=>Dx rfl rfl (λw f hM=>T6 rfl iH)<|Aa 11 [0] (λb1=>y<|λ_=>Cz [0] Al (rd [0,1,2,3] (.br 4 (.br 5 (.br 6 .fin .fin) .fin) .fin)) rfl kR<|A2 4 [0,0] (y<|y<|λ_=>Ag rfl ?_ Aj))));refine Aa 2 [1] (y<|λ_=>Au [0] rfl<|Ag rfl ?_ Aj);refine Aa 2 [2] (y<|λ_=>Au [0] rfl<|Ag rfl ?_ Aj);exact Aa 2 [3] (y<|λ_=>Au [0] rfl<|Bj<|Aa 1 [] (λ_=>bH (λw f hM=>D0 rfl) (λw f hM=>⟨f,hM.exm,hM.blk _ jH,hM.blk _ Um,hM.blk _ U4⟩)))
end Go.Proofs.YtkahkniflkadoabGreatDoor
namespace Go.SP
open Go.SW Go.RowKit
def Nd.wft:Nd→Prop
 |.nil=>True
 |.cons op _ _ _ _ k r=>(op=41∨(op=43∧k.wfm 2)∨((op=44∨op=45∨op=46)∧k.wfm 3))∧r.wft
def Fi:List (lU×T1)→Ty
 | []=>.nil
 |b::l=>b.2.cons (Fi l)
theorem DF(b:lU×T1):∀l:List (lU×T1),Fi (l++[b])=(Fi l).snoc b.2
 | []=>by simp[Fi,Ty.snoc,Ty.app,T1.one]
 |c::l=>by
   simp only[List.cons_append,Fi,DF b l]
   cases c.2 <;> rfl
def bC:List (lU×lU)→List Value
 | []=>[]
 |b::l=>S b.1::S b.2::bC l
theorem bC_app:∀a b:List (lU×lU),bC (a++b)=bC a++bC b
 | [],_=>rfl
 |x::a,b=>by simp only[List.cons_append,bC,bC_app a b]
theorem XU:∀a:List (lU×lU),(bC a).length=a.length*2
 | []=>rfl
 |x::a=>by simp only[bC,List.length_cons,XU a];omega
abbrev Sd(l:List (lU×T1)):List (lU×lU):=l.map λb=>(b.1,[])
section
variable{s s1:CS}{e e1:Ba}{op ln co nm:Int}{tx:lU}{k r:Nd}{out:List (lU×T1)}{er:Er}
theorem Tp(h:Dn s e op ln co tx k=.ok (none,e1,s1)):DY s e (.cons op ln co tx nm k r) out=DY s1 e1 r out:=by rw[DY,h]
theorem HP{b:lU×T1}(h:Dn s e op ln co tx k=.ok (some b,e1,s1)):DY s e (.cons op ln co tx nm k r) out=DY s1 e1 r (out++[b]):=by rw[DY,h]
theorem Dw(h:Dn s e op ln co tx k=.error er):DY s e (.cons op ln co tx nm k r) out=.error er:=by rw[DY,h]
end
structure rG(Rl:CS→CS→Prop):Prop where
 refl:∀s,Rl s s
 trans:∀{s t u},Rl s t→Rl t u→Rl s u
 fresh:∀s,Rl s (A7 s).2
 has:∀{s a b ln co s'},EC s a b ln co=.ok s'→Rl s s'
section
variable{Rl:CS→CS→Prop}(hR:rG Rl)
include hR
theorem Ml:∀(l:List Int)(s:CS),Rl s (Bo l s).2
 | [],s=>hR.refl s
 |_::l,s=>hR.trans (hR.fresh s) (Ml l _)
variable {s s':CS}{co ln:Int}{n:Nat}{k:Nd}
theorem Q5{tx:lU}{k:Nat}{a:Ty}{o:T1}(h:Ib s tx k ln co=.ok (a,o,s')):Rl s s':=by
 unfold Ib at h
 split at h
 · cases h
 · split at h
   · cases h
     exact Ml hR _ _
   · cases h
theorem WQ{e:Ba}{tx:lU}{t:T1}(h:GR s e tx ln co=.ok (t,s')):Rl s s':=by
 unfold GR at h
 split at h
 · cases h
 · split at h
   · cases h
   · cases h
     exact Ml hR _ _
def oU(Rl:CS→CS→Prop)(p:L1):Prop:=∀{s e op ln co tx nm k t s'},p s e op ln co tx nm k=.ok (t,s')→Rl s s'
def pW(Rl:CS→CS→Prop)(p:LS):Prop:=∀{s e op ln co tx nm k t e' s'},p s e op ln co tx nm k=.ok (t,e',s')→Rl s s'
variable{p:L1}(hp:oU Rl p)
include hp
theorem MF{e:Ba}:∀(k:Nd){s s':CS}{l:Ty},DW p e s k=.ok (l,s')→Rl s s'
 |.nil,_,_,_,h=>by cases h;exact hR.refl _
 |.cons op ln co tx nm k r,s,s',l,h=>by
   unfold DW at h
   split at h
   · cases h
   · rename_i h1
     split at h
     · cases h
     · rename_i h2
       cases h
       exact hR.trans (hp h1) (MF r h2)
theorem Qm{e:Ba}:∀(k:Nd){s s':CS}{l:Ty},FR p e s l k=.ok s'→Rl s s'
 |.nil,_,_,_,h=>by cases h;exact hR.refl _
 |.cons op ln co tx nm k r,s,s',l,h=>by
   unfold FR at h
   split at h
   · cases h
   · rename_i h1
     split at h
     · cases h
     · rename_i h2
       exact hR.trans (hp h1) (hR.trans (hR.has h2) (Qm r h))
theorem Up{e:Ba}:∀(k:Nd){s s':CS}{t t':T1},Jw p e s t k=.ok (t',s')→Rl s s'
 |.nil,_,_,_,_,h=>by cases h;exact hR.refl _
 |.cons op ln co tx nm k r,s,s',t,t',h=>by
   unfold Jw at h
   split at h
   · cases h
   · rename_i h1
     split at h
     · cases h
     · rename_i h2
       exact hR.trans (hp h1) (hR.trans (hR.fresh _) (hR.trans (hR.has h2) (Up r h)))
theorem ON{e:Ba}{o l c m:Int}{tx x:lU}{t:T1}(h:GO p s e ln co tx o l c x m k=.ok (t,s')):Rl s s':=by
 unfold GO at h
 split at h
 · cases h
 · rename_i h1
   split at h
   · cases h
   · rename_i h2
     cases h
     exact hR.trans (hR.fresh _) (hR.trans (hp h1) (hR.has h2))
omit hp
theorem Qf:∀(k:Nd){s:CS}{e:Ba},Rl s (ET s e k).2.2
 |.nil,_,_=>hR.refl _
 |.cons _ _ _ _ _ _ .nil,_,_=>hR.refl _
 |.cons _ _ _ _ _ _ (.cons o l c x m k r),_,_=>hR.trans (hR.fresh _) (Qf (.cons o l c x m k r))
variable{q:LS}(hq:pW Rl q)
include hq
theorem Oy:∀(k:Nd){s s':CS}{e e':Ba}{l:Ty},FU q s e l k=.ok (e',s')→Rl s s'
 |.nil,_,_,_,_,_,h=>by cases h;exact hR.refl _
 |.cons op ln co tx nm k r,s,s',e,e',l,h=>by
   unfold FU at h
   split at h
   · cases h
   · rename_i h1
     split at h
     · cases h
     · rename_i h2
       exact hR.trans (hq h1) (hR.trans (hR.has h2) (Oy r h))
theorem Oo:∀(k:Nd){s s':CS}{e e':Ba}{l:Ty},EP q s e k=.ok (l,e',s')→Rl s s'
 |.nil,_,_,_,_,_,h=>by cases h;exact hR.refl _
 |.cons op ln co tx nm k r,s,s',e,e',l,h=>by
   unfold EP at h
   split at h
   · cases h
   · rename_i h1
     split at h
     · cases h
     · rename_i h2
       cases h
       exact hR.trans (hq h1) (Oo r h2)
theorem Ys{e e':Ba}{op:Int}{tx:lU}{t:T1}(h:CJ q s e op ln co tx k=.ok (t,e',s')):Rl s s':=by
 unfold CJ at h
 repeat' (split at h)
 all_goals first|(cases h;first|exact hR.refl _|exact hR.fresh _|exact hR.trans (Q5 hR (by assumption)) (Oy hR hq _ (by assumption))|exact Oo hR hq _ (by assumption))|cases h
omit hq
theorem US:∀n,pW Rl (Cj n)
 |0=>λh=>by cases h
 |n+1=>λh=>by
   unfold Cj at h
   split at h
   · cases h
   · rename_i h1
     split at h
     · cases h
     · cases h
       exact Ys hR (US n) h1
include hp
theorem Kh{e:Ba}{pt:T1}:∀(k:Nd){s s':CS}{t:Option T1}{u:T1},Dv n p e pt s t k=.ok (u,s')→Rl s s'
 |.nil,_,_,_,_,h=>by unfold Dv at h;cases h;exact hR.refl _
 |.cons _ _ _ _ _ ks r,s,s',t,u,h=>by
   unfold Dv at h
   split at h
   · split at h
     · cases h
     · rename_i h1
       split at h
       · cases h
       · rename_i h2
         split at h
         · cases h
         · rename_i h3
           refine hR.trans (US hR _ h1) (hR.trans (hR.has h2) (hR.trans (hp h3) ?_))
           split at h
           · split at h
             · cases h
             · rename_i h4
               exact hR.trans (hR.has h4) (Kh r h)
           · exact Kh r h
   · cases h
     exact hR.refl _
theorem XR{e:Ba}{op:Int}{tx:lU}{t:T1}(h:Bi n p s e op ln co tx k=.ok (t,s')):Rl s s':=by
 have tr:=@rG.trans _ hR;have hs:=@rG.has _ hR;unfold Bi at h
 by_cases o1:(op==1)=true
 · rw[if_pos o1] at h
   cases h;exact hR.refl _
 rw[if_neg o1] at h
 by_cases o2:(op==2)=true
 · rw[if_pos o2] at h
   cases h;exact hR.refl _
 rw[if_neg o2] at h
 by_cases o3:(op==3)=true
 · rw[if_pos o3] at h
   cases h;exact hR.refl _
 rw[if_neg o3] at h
 by_cases o4:(op==4)=true
 · rw[if_pos o4] at h
   cases h;exact hR.refl _
 rw[if_neg o4] at h
 by_cases o5:(op==5)=true
 · rw[if_pos o5] at h
   exact WQ hR h
 rw[if_neg o5] at h
 by_cases o6:(op==6)=true
 · rw[if_pos o6] at h
   split at h
   · cases h
   rename_i h1
   split at h
   · cases h
   rename_i h2
   cases h
   exact tr (Q5 hR h1) (Qm hR hp _ h2)
 rw[if_neg o6] at h
 by_cases o7:(op==7)=true
 · rw[if_pos o7] at h
   split at h
   · cases h
     exact hR.refl _
   simp only at h
   split at h
   · cases h
   rename_i h1
   cases h
   exact tr (Qf hR _) (hp h1)
 rw[if_neg o7] at h
 by_cases o8:(op==8)=true
 · rw[if_pos o8] at h
   split at h
   · cases h
     exact hR.refl _
   split at h
   · cases h
   rename_i h1;exact tr (hp h1) (Up hR hp _ h)
 rw[if_neg o8] at h
 by_cases o9:(op==9)=true
 · rw[if_pos o9] at h
   split at h
   · split at h
     · cases h
     rename_i h1
     split at h
     · cases h
     exact tr (hp h1) (hp h)
   · cases h
     exact hR.refl _
 rw[if_neg o9] at h
 by_cases o10:(op==10)=true
 · rw[if_pos o10] at h
   split at h
   · split at h
     · cases h
     rename_i h1
     split at h
     · cases h
     exact tr (ON hR hp h1) (hp h)
   · cases h
     exact hR.refl _
 rw[if_neg o10] at h
 by_cases o11:(op==11)=true
 · rw[if_pos o11] at h
   split at h
   · split at h
     · cases h
     rename_i h1
     split at h
     · cases h
     rename_i h2
     split at h
     · cases h
     rename_i h3
     split at h
     · cases h
     rename_i h4
     split at h
     · cases h
     rename_i h5
     cases h
     exact tr (hp h1) (tr (hs h2) (tr (hp h3) (tr (hp h4) (hs h5))))
   · cases h
     exact hR.refl _
 rw[if_neg o11] at h
 by_cases o12:(op==12)=true
 · rw[if_pos o12] at h
   split at h
   · cases h
   rename_i h1
   cases h
   exact MF hR hp _ h1
 rw[if_neg o12] at h
 by_cases o13:(op==13)=true
 · rw[if_pos o13] at h
   split at h
   · cases h
   rename_i h1
   cases h
   exact MF hR hp _ h1
 rw[if_neg o13] at h
 by_cases o14:(op==14)=true
 · rw[if_pos o14] at h
   split at h
   · cases h
     exact hR.refl _
   split at h
   · cases h
   rename_i h1;exact tr (hp h1) (Kh hR hp _ h)
 rw[if_neg o14] at h
 by_cases o15:(op==15)=true
 · rw[if_pos o15] at h
   split at h
   · cases h
     exact hR.refl _
   split at h
   · cases h
   rename_i h1;exact tr (hp h1) (Kh hR hp _ h)
 rw[if_neg o15] at h
 by_cases o16:(op==16)=true
 · rw[if_pos o16] at h
   split at h
   · cases h
     exact hR.refl _
   split at h
   · cases h
   rename_i h1
   split at h
   · cases h
   rename_i h2
   cases h
   exact tr (hp h1) (tr (hs h2) (hR.fresh _))
 rw[if_neg o16] at h
 split at h
 · cases h
   exact hR.refl _
 exact hp h
omit hp
theorem FW:∀n,oU Rl (BZ n)
 |0=>λh=>by cases h
 |n+1=>λh=>by
   unfold BZ at h
   split at h
   · cases h
   · rename_i h1
     split at h
     · cases h
     · cases h
       exact XR hR (FW n) h1
end
def vL(s s':CS):Prop:=s'.cons=s.cons∧s'.datas=s.datas∧s'.roots=s.roots∧s'.vars=s.vars
variable {s s':CS}{co ln:Int}
theorem ZE{a b:T1}(h:EC s a b ln co=.ok s'):∃m,FD s.sol a b=.ok m∧s'={s with sol:=m}:=by
 unfold EC at h
 split at h
 · cases h
 · cases h
   exact⟨_,by assumption,rfl⟩
theorem Eb:rG vL where
 refl _:=⟨rfl,rfl,rfl,rfl⟩
 trans h1 h2:=⟨h2.1.trans h1.1,h2.2.1.trans h1.2.1,h2.2.2.1.trans h1.2.2.1,h2.2.2.2.trans h1.2.2.2⟩
 fresh _:=⟨rfl,rfl,rfl,rfl⟩
 has h:=by obtain⟨m,-,rfl⟩:=ZE h;exact⟨rfl,rfl,rfl,rfl⟩
section
variable{s s1 s2:CS}{e e1:Ba}{op ln co nm o l c m o2 l2 c2 m2:Int}{tx x x2:lU}{kids k r k2 r2:Nd}{t q:T1}{er:Er}
theorem Wz(h:(op==41)=true)(hd:Gt s ln co tx kids=.ok s1):Dn s e op ln co tx kids=.ok (none,e,s1):=by unfold Dn;rw[if_pos h,hd]
theorem SZ(h:(op==41)=true)(hd:Gt s ln co tx kids=.error er):Dn s e op ln co tx kids=.error er:=by unfold Dn;rw[if_pos h,hd]
theorem Xx(h:(op==44)=true)(hx:BZ (k.size+1) s e o l c x m k=.ok (t,s1))(hw:Gw s1 e tx t (Cm (k.size+1) o k) ln co=.ok e1):Dn s e op ln co tx (.cons o l c x m k r)=.ok (some (tx,t),e1,s1):=by
 obtain rfl:=beq_iff_eq.1 h;unfold Dn;rw[if_neg (by decide)];simp only;rw[if_neg (by decide),if_pos (by decide),hx];simp only;rw[hw]
theorem Wr(h:(op==44)=true)(hx:BZ (k.size+1) s e o l c x m k=.error er):Dn s e op ln co tx (.cons o l c x m k r)=.error er:=by
 obtain rfl:=beq_iff_eq.1 h;unfold Dn;rw[if_neg (by decide)];simp only;rw[if_neg (by decide),if_pos (by decide),hx]
theorem Ww(h:(op==44)=true)(hx:BZ (k.size+1) s e o l c x m k=.ok (t,s1))(hw:Gw s1 e tx t (Cm (k.size+1) o k) ln co=.error er):Dn s e op ln co tx (.cons o l c x m k r)=.error er:=by
 obtain rfl:=beq_iff_eq.1 h;unfold Dn;rw[if_neg (by decide)];simp only;rw[if_neg (by decide),if_pos (by decide),hx];simp only;rw[hw]
theorem Yw(h:(op==45)=true)(hx:GO (BZ (k.size+1)) s e ln co tx o l c x m k=.ok (t,s1))(hw:Gw s1 e tx t true ln co=.ok e1):Dn s e op ln co tx (.cons o l c x m k r)=.ok (some (tx,t),e1,s1):=by
 obtain rfl:=beq_iff_eq.1 h;unfold Dn;rw[if_neg (by decide)];simp only;rw[if_neg (by decide),if_neg (by decide),if_pos (by decide),hx];simp only;rw[hw]
theorem Vu(h:(op==45)=true)(hx:GO (BZ (k.size+1)) s e ln co tx o l c x m k=.error er):Dn s e op ln co tx (.cons o l c x m k r)=.error er:=by
 obtain rfl:=beq_iff_eq.1 h;unfold Dn;rw[if_neg (by decide)];simp only;rw[if_neg (by decide),if_neg (by decide),if_pos (by decide),hx]
theorem Vw(h:(op==45)=true)(hx:GO (BZ (k.size+1)) s e ln co tx o l c x m k=.ok (t,s1))(hw:Gw s1 e tx t true ln co=.error er):Dn s e op ln co tx (.cons o l c x m k r)=.error er:=by
 obtain rfl:=beq_iff_eq.1 h;unfold Dn;rw[if_neg (by decide)];simp only;rw[if_neg (by decide),if_neg (by decide),if_pos (by decide),hx];simp only;rw[hw]
theorem bT(h:(op==46)=true)(hx:BZ (k.size+1) s e o l c x m k=.ok (t,s1)):Dn s e op ln co tx (.cons o l c x m k r)=.ok (some ([],t),e,s1):=by
 obtain rfl:=beq_iff_eq.1 h;unfold Dn;rw[if_neg (by decide)];simp only;rw[if_neg (by decide),if_neg (by decide),if_neg (by decide),hx]
theorem YL(h:(op==46)=true)(hx:BZ (k.size+1) s e o l c x m k=.error er):Dn s e op ln co tx (.cons o l c x m k r)=.error er:=by
 obtain rfl:=beq_iff_eq.1 h;unfold Dn;rw[if_neg (by decide)];simp only;rw[if_neg (by decide),if_neg (by decide),if_neg (by decide),hx]
theorem Na(h:CB s.datas [] o l c x k=.ok q):FF s.datas [] (.cons o l c x m k .nil)=.ok q.one:=by
 rw[Je,h];simp only[FF];cases q <;> rfl
theorem Tf(h:(op==43)=true)(hr:s.roots.contains tx=true):Dn s e op ln co tx (.cons o l c x m k r)=.error (ln,co,11):=by
 obtain rfl:=beq_iff_eq.1 h;unfold Dn;rw[if_neg (by decide)];simp only;rw[if_pos (by decide),if_pos hr]
theorem TA(h:(op==43)=true)(hr:s.roots.contains tx=false)(ht:CB s.datas [] o l c x k=.error er):Dn s e op ln co tx (.cons o l c x m k r)=.error er:=by
 obtain rfl:=beq_iff_eq.1 h;unfold Dn;rw[if_neg (by decide)];simp only;rw[if_pos (by decide),if_neg (by rw[hr];decide),ID ht]
theorem Sz(h:(op==43)=true)(hr:s.roots.contains tx=false)(ht:CB s.datas [] o l c x k=.ok q)(hx:BZ (k2.size+1) {s with roots:=tx::s.roots} e o2 l2 c2 x2 m2 k2=.error er):Dn s e op ln co tx (.cons o l c x m k (.cons o2 l2 c2 x2 m2 k2 r2))=.error er:=by
 obtain rfl:=beq_iff_eq.1 h;unfold Dn;rw[if_neg (by decide)];simp only;rw[if_pos (by decide),if_neg (by rw[hr];decide),Na ht];simp only;rw[hx]
theorem TD(h:(op==43)=true)(hr:s.roots.contains tx=false)(ht:CB s.datas [] o l c x k=.ok q)(hx:BZ (k2.size+1) {s with roots:=tx::s.roots} e o2 l2 c2 x2 m2 k2=.ok (t,s1))(hh:EC s1 q t ln co=.error er):Dn s e op ln co tx (.cons o l c x m k (.cons o2 l2 c2 x2 m2 k2 r2))=.error er:=by
 obtain rfl:=beq_iff_eq.1 h;unfold Dn;rw[if_neg (by decide)];simp only;rw[if_pos (by decide),if_neg (by rw[hr];decide),Na ht];simp only;rw[hx];simp only;rw[show q.one.hd=q by cases q <;> rfl,hh]
theorem Wf(h:(op==43)=true)(hr:s.roots.contains tx=false)(ht:CB s.datas [] o l c x k=.ok q)(hx:BZ (k2.size+1) {s with roots:=tx::s.roots} e o2 l2 c2 x2 m2 k2=.ok (t,s1))(hh:EC s1 q t ln co=.ok s2) :
   Dn s e op ln co tx (.cons o l c x m k (.cons o2 l2 c2 x2 m2 k2 r2))=.ok (some (tx,.con CK q.one),⟨tx,.con CK q.one,[]⟩::e,s2):=by
 obtain rfl:=beq_iff_eq.1 h;unfold Dn;rw[if_neg (by decide)];simp only;rw[if_pos (by decide),if_neg (by rw[hr];decide),Na ht];simp only;rw[hx];simp only;rw[show q.one.hd=q by cases q <;> rfl,hh]
end
def L6(w:World)(f:Fq)(l:List (lU×lU))(a:Option Addr)(c:Nat):Prop:=l.length≤c∧(l=[]∨∃b off,a=some ⟨b,off,none⟩∧Cs w f b off (bC l))
variable {X:Cx}{f:Fq}{Fs:List (World→Fq→Prop)}{B:List FB}{H:List HB}{a:Option Addr}{T:TypeId}{w:World}
theorem L6.mono{l:List (lU×lU)}{c:Nat}:F6 (λw f=>L6 w f l a c):=λ_ _ _ _ h hF=>⟨h.1,h.2.imp id λ⟨b,off,h1,h2⟩=>⟨b,off,h1,h2.mono hF⟩⟩
def Wv(nds:Nd)(w:World)(f:Fq)(v:Value)(w':World):Prop:=∃f',C1 (λ_=>False) w f w' f' ∧
 match C5 nds with
 |.error er=>v=.tuple #[.slice none 0 0,.agg #[.int .i64 er.1,.int .i64 er.2.1],.int .i64 er.2.2]
 |.ok bs=>∃a c,v=.tuple #[.slice a bs.length c,.agg #[.int .i64 0,.int .i64 0],.int .i64 0]∧L6 w' f' bs a c
def P7(l:List (lU×lU))(r:List (lU×T1)):List (lU×lU):=l++Sd r
theorem Wq{s:CS}{n:lU}{t f:T1}{r:List (lU×T1)}{d:List (lU×lU)}(h:G4 s t 0 0=.ok f) :
   (match JH s ((n,t)::r) with|.error x=>.error x|.ok l=>.ok (d++l):RI (List (lU×lU)))=(match JH s r with|.error x=>.error x|.ok l=>.ok ((d++[(n,Ob f)])++l)):=by
 rw[JH,h];simp only
 cases JH s r with
 |error x=>rfl
 |ok z=>simp
theorem SE{s:CS}{r:List (lU×T1)}:JH s r=(match JH s r with|.error x=>.error x|.ok l=>.ok ([]++l)):=by
 cases JH s r <;> rfl
theorem Yu{s:CS}{n:lU}{t:T1}{r:List (lU×T1)}{er:Er}(h:G4 s t 0 0=.error er):JH s ((n,t)::r)=.error er:=by rw[JH,h]
theorem V7{d:List (lU×lU)}{n y:lU}{t:T1}{r:List (lU×T1)}:DQ (bC (P7 d ((n,t)::r))) (d.length*2+1) [S y]=bC (P7 (d++[(n,y)]) r):=by
 unfold P7;rw[bC_app,bC_app,bC_app];have hl:=XU d;rw[← hl];generalize bC d=D;simp[DQ,Sd,bC,List.set_append_right]
theorem Qv{a:lU}:∀l:List lU,(Ej (l.map λk=>(k,Value.bool true)) a).getD (.bool false)=.bool (l.contains a)
 | []=>rfl
 |b::l=>by
   simp only[List.map_cons,Ej,List.contains_cons]
   by_cases h:a=b
   · subst h;simp
   · rw[show (a==b)=false from beq_eq_false_iff_ne.2 h]
     simpa using Qv l
theorem Dy.addRoot{s:CS}(h:Dy s){a:lU}(hn:s.roots.contains a=false):Dy {s with roots:=a::s.roots} :=
 {h with
   dr:=⟨by
     have:∀l:List lU,l.contains a=false→Ej (l.map λk=>(k,Value.bool true)) a=none:=by
       intro l
       induction l with
       |nil=>intro _;rfl
       |cons b l ih =>
         intro hc;rw[List.contains_cons,Bool.or_eq_false_iff] at hc;simp only[List.map_cons,Ej];rw[hc.1];simpa using ih hc.2
     exact this _ hn,h.dr⟩}
theorem Ft{nds:Nd}{er:Er}(h:DY Z4 OP nds []=.error er):C5 nds=.error er:=by rw[C5,h]
theorem kG{nds:Nd}{out:List (lU×T1)}{s:CS}(h:DY Z4 OP nds []=.ok (out,s)):C5 nds=JH s out:=by rw[C5,h]
theorem XD{R:List RB}{c:Nat}{l:List (lU×lU)}(hM:AN X w f H (⟨T,2,a,c,l.length,bC l⟩::R) B Fs):∃f',AN X w f' H R B Fs∧L6 w f' l a c:=by
 have hr:=hM.row _ (.head _);rcases hr.2 with ⟨_,_,hz⟩|⟨b,q,ha,hb,hmc,_,hq,ht⟩
 · simp only at hz
   exact⟨f,hM.less (List.Sublist.refl _) (List.sublist_cons_self _ _) (λ_ h=>h) (λ_ h=>h),oM,.inl (by cases l with|nil=>rfl|cons _ _=>simp at hz)⟩
 · simp only at ha
   subst ha;obtain⟨f',hM'⟩:=hM.done (i:=0) rfl rfl;refine⟨f',hM'.less (List.Sublist.refl _) (List.Sublist.refl _) (λ_ h=>.tail _ h) (λ_ h=>h),hmc,.inr ⟨b,0,rfl,hM'.fro _ (.head _)⟩⟩
end Go.SP
namespace Go.Proofs.YtkahkniflkadoabGreatDoor
open Go.SW Go.SP Go.RowKit Go.Proofs.Tryz
theorem Xd:∀i,i≤8→Dy (⟨[],0,WC i,[],[],-1⟩:CS)
 |0,_=>⟨tQ,λ_ _ h=>(by cases h),tQ,tQ,tQ,Int.le_refl _⟩
 |i+1,h=>by
  obtain⟨⟨nm,dt,nu,ar⟩,hx⟩:∃v,Hj[i]?=some v:=⟨_,List.getElem?_eq_getElem (l:=Hj) (by have:Hj.length=8:=rfl;omega)⟩;have har:=Ro hx;rw[Nb hx];exact (Xd i oM).addCons (Nr i oM _ hx) ⟨by rw[Kn];dsimp only;omega,Nx _,CE (RH hx),Nat.zero_le _⟩
theorem rQ:Dy Z4:=Xd 8 (Nat.le_refl _)
theorem pY:F4 OP:=by
 rw[← R4];intro b hb;unfold Gz at hb;rw[List.take_length,List.mem_reverse] at hb;obtain⟨p,hp,rfl⟩:=List.mem_map.1 hb;exact⟨Is (Ge (Bu _)) (Ny p hp),by dsimp only[P6];decide⟩
theorem VR(w:World)(f:Fq)(hv:Vl w f)(tx:lU)(t:T1)(b:Nat)(hT:Ak w f t.one (some ⟨b,0,none⟩) 1) :
  Bq prog 21 #[S tx,.slice (some ⟨b,0,none⟩) 1 1] w (B4 (α:=Option Addr×Nat) (λx=>tV (.con tx t.one) x.1 x.2) (λ_=>True) (λx=>[λw f=>Ak w f t.one x.1 x.2]) w f):=by
 have hl:t.one.len=1:=by cases t <;> rfl
 have h:=C2 w f hv tx t.one (some ⟨b,0,none⟩) 1 (by rw[hl];decide) hT;rwa[hl] at h
variable {σ:Bc}{f f':Fq}{a:Option Addr}{v2 v4 x3 y3:Value}{w w':World}
theorem L4{nds:Nd}{b2 b3 b4:Nat}(hn:b2≠b3∧b2≠b4∧b3≠b4){fn:Func}(hr:fn.results=#[.cell 2 35,.cell 3 26,.cell 4 27])(h2:σ 2=some (pB b2))(h3:σ 3=some (pB b3))(h4:σ 4=some (pB b4)){er:Er}(hm:C5 nds=.error er)(hE:C1 (λ_=>False) w f w' f')
  (k2:AI w' b2 [v2] 35∧f' b2=0∧(true=true→w.heap.size≤b2)) (k3:AI w' b3 [x3,y3] 26∧f' b3=0∧(true=true→w.heap.size≤b3)) (k4:AI w' b4 [v4] 27∧f' b4=0∧(true=true→w.heap.size≤b4))
  (tmps:Array Value) (ht:∀t,t∈[2,3,4]→∀v,σ t=some v→tmps.getD t undef=v):Leaves prog fn tmps (λe w'=>∃v,e=.returned v∧Wv nds w f v w') [{target:=.fn (.func 14) ([pB b2,pB b3,pB b4]:List Value).toArray,args:=#[]}] (.panicking (trI 52 er)) w':=by
 refine Fg (by simp) XH (Tq w' f' hE.val b2 b3 b4 v2 x3 y3 v4 k2.1 k3.1 k4.1 ⟨k2.2.1,k3.2.1,k4.2.1⟩ hn er) λwz hz=>?_;rw[JK];obtain⟨f3,e3,z2,z3,z4⟩:=hz;refine BJ (σ:=AA (E2 2 (pB b2) 3 (pB b3)) 4 (pB b4)) (λt v hv=>?_) (D4 hr (Bp rfl Xv z2 rfl) (Ac rfl Eo z3 rfl) (Bp rfl H4 z4 rfl)) ⟨_,rfl,f3,C1.trans0 hE e3 (λb hb=>?_),by rw[hm]⟩
 ·
  by_cases e4:t=4
  · subst e4;exact ht 4 (by simp) v (h4.trans hv)
  by_cases e5:t=3
  · subst e5;exact ht 3 (by simp) v (h3.trans hv)
  by_cases e2:t=2
  · subst e2;exact ht 2 (by simp) v (h2.trans hv)
  have n4:Nat.beq t 4=false:=by cases h:Nat.beq t 4 with|false=>rfl|true=>exact absurd (Nat.eq_of_beq_eq_true h) e4
  have n3:Nat.beq t 3=false:=by cases h:Nat.beq t 3 with|false=>rfl|true=>exact absurd (Nat.eq_of_beq_eq_true h) e5
  have n2:Nat.beq t 2=false:=by cases h:Nat.beq t 2 with|false=>rfl|true=>exact absurd (Nat.eq_of_beq_eq_true h) e2
  simp[AA,Go.SW.e0,n2,n3,n4] at hv
 ·
  rcases hb with rfl|rfl|rfl
  · exact k2.2.2 rfl
  · exact k3.2.2 rfl
  · exact k4.2.2 rfl
theorem qE{nds:Nd}{b2 b3 b4:Nat}{fn:Func}(hr:fn.results=#[.cell 2 35,.cell 3 26,.cell 4 27])(h2:σ 2=some (pB b2))(h3:σ 3=some (pB b3))(h4:σ 4=some (pB b4)){bs:List (lU×lU)}(hm:C5 nds=.ok bs)(hE:C1 (λ_=>False) w f w' f'){c:Nat}(hB:L6 w' f' bs a c)
  (k2:AI w' b2 [.slice a bs.length c] 35) (k3:AI w' b3 [iV 0,iV 0] 26) (k4:AI w' b4 [iV 0] 27)
  (tmps:Array Value) (ht:∀t v,σ t=some v→tmps.getD t undef=v):Leaves prog fn tmps (λe w'=>∃v,e=.returned v∧Wv nds w f v w') [{target:=.fn (.func 14) ([pB b2,pB b3,pB b4]:List Value).toArray,args:=#[]}] .returning w':=by
 refine Fg (by simp) XH (QA w' b2 b3 b4) λwz hz=>?_;have e3:=C1.of_ext hz hE.val;refine BJ ht (D4 hr (Bp h2 Xv (k2.ext hz) rfl) (Ac h3 Eo (k3.ext hz) rfl) (Bp h4 H4 (k4.ext hz) rfl)) ⟨_,rfl,f',C1.trans0 hE e3 (λb hb=>hb.elim),?_⟩;rw[hm];exact⟨a,c,rfl,L6.mono _ _ _ _ hB (e3.fle hE.val (λ_ h=>h.elim))⟩
set_option maxHeartbeats 2000000 in
theorem T7(w:World)(f:Fq)(hv:Vl w f)(hG:EM w f)(nds:Nd)(na:Option Addr)(nc:Nat)(hwt:nds.wft)(hsz:nds.size≤200000)(htb:nds.txb)(hN:AD w f nds na nc) :
  Bq prog 7 #[.slice na nds.len nc] w (Wv nds w f):=by
 have hkl0:=Nd.len_le nds;refine iI (K:=[2,3,4]) (X:=X0 w f) (H:=[]) (R:=[]) (B:=[]) (Fs:=[λw f=>AD w f nds na nc,λw f=>EM w f]) (f:=f) func7 rfl rfl rfl (Ca hv ⟨hN,hG,tQ⟩ ⟨AD.mono,EM.mono,tQ⟩)<|Aa 8 [] (λb1=>λb2=>λb3=>λ_=>HZ (p:=b1≠b2∧b1≠b3∧b2≠b3) (λw f hM=>by have h9:=hM.nd;simp[C4] at h9;exact⟨λe=>h9.2 e.symm,λe=>h9.1.2 e.symm,λe=>h9.1.1 e.symm⟩) λhn=>Aa 1 [] (λ_=>Dx rfl rfl (λw f hM=>TK rfl)<|uM rfl rfl<|Aa 4 [] (λ_=>Tn (XX:=λ_ _=>False) rfl rfl (eC fL rfl rfl) (λw f hM=>(SJ w f hM.vl hM.f1).retP) (λ_=>As.stab) (λ_=>⟨AF.mono,tQ⟩) (λ_ _ _ _ _ h=>h.elim) ?_)));rintro⟨A,ea⟩ hA;dsimp only at hA ⊢;refine Aa 21 [] (λ_=>NB 76 2<|NB 61 4 ?_);refine Fy (α:=Nat×Nd×List (lU×T1)×List Value×Option Addr×Nat×Option Addr×Nat×Ba×Option Addr×CS) (λx=>x.2.1.len) (λx=>x.1+x.2.1.len=nds.len∧DY Z4 OP nds []=DY x.2.2.2.2.2.2.2.2.2.2 x.2.2.2.2.2.2.2.2.1 x.2.1 x.2.2.1∧x.2.2.1.length≤x.1∧(Fi x.2.2.1).bnd∧F4 x.2.2.2.2.2.2.2.2.1∧x.2.1.wft∧x.2.1.txb∧Dy x.2.2.2.2.2.2.2.2.2.2∧x.2.1.size≤nds.size∧x.2.2.2.2.2.2.2.2.2.2.fresh+200002*x.2.1.size≤200002*nds.size∧x.2.1.size-(nds.size:Int)-1≤x.2.2.2.2.2.2.2.2.2.2.vars∧x.2.2.2.2.2.2.2.2.2.2.vars≤0) (λx=>(E9 2 (pB b1) 3 (pB b2) 4 (pB b3) 5 (pB A.cb) 6 (.pointer x.2.2.2.2.2.2.2.2.2.1) 7 (.slice x.2.2.2.2.1 x.2.2.1.length x.2.2.2.2.2.1) 19 (.slice na nds.len nc) 20 (iV (nds.len:Int)) 21 (iV (x.1:Int)))) (λx=>⟨λ_=>False,Bx A,As 69 148 A x.2.2.2.2.2.2.2.2.2.2,w,f⟩) (λx=>[⟨b3,[iV 0],27,true⟩,⟨b2,[iV 0,iV 0],26,true⟩,⟨b1,[.slice x.2.2.2.2.2.2.1 x.2.2.1.length x.2.2.2.2.2.2.2.1],35,true⟩]) (λx=>[⟨61,4,x.2.2.2.2.1,x.2.2.2.2.2.1,x.2.2.1.length,x.2.2.2.1⟩,⟨76,2,x.2.2.2.2.2.2.1,x.2.2.2.2.2.2.2.1,x.2.2.1.length,bC (Sd x.2.2.1)⟩]) (λx=>[]) (λx=>[λw f=>AT w f na x.1 x.2.1,λw f=>Be w f (Fi x.2.2.1) x.2.2.2.1,λw f=>AF w f x.2.2.2.2.2.2.2.2.1 x.2.2.2.2.2.2.2.2.2.1,λw f=>EM w f]) (0,nds,[],[],none,0,none,0,OP,ea,Z4) ⟨Nat.zero_add _,rfl,Nat.le_refl _,tQ,pY,hwt,htb,rQ,Nat.le_refl _,by dsimp only[Z4];omega,by dsimp only[Z4];omega,(by decide:(-1:Int)≤0)⟩ lE (λw f hM=>hM.more (B':=[]) (F':=[λw f=>AT w f na 0 nds,λw f=>Be w f .nil []]) nE (AE.mem ⟨AD.at hM.f1,rfl,tQ⟩) (Ax.mem ⟨AT.mono,Be.mono,tQ⟩) |>.less sR sR nE (mR [0,1,2,4])) ?_;rintro⟨i,r,out,txs,ta,tc,oa,oc,e,ea,s⟩ ⟨hi,hti,hol,htyb,heB,hwt2,htx,hw,hrs,hfr,hv1,hv2⟩;dsimp only at hi hti hol htyb heB hwt2 htx hw hrs hfr hv1 hv2 ⊢;refine Aa 6 [] (λ_=>AL 22 rfl rfl (λh1=>?_) (λh1=>?_));refine Aa 6 [] (λ_=>?_);have hil:i<nds.len:=by have:=of_decide_eq_true h1;omega
 obtain⟨op2,ln2,co2,tx2,nm2,k2,r,rfl⟩:=Nd.cases1 r oM;have hi2:i+(r.len+1)=nds.len:=hi;obtain⟨htx2,hkx2,hrx2⟩:=htx;have hrs2:k2.size+r.size+1≤nds.size:=hrs;have hfr2:s.fresh+200002*((k2.size+r.size+1:Nat):Int)≤200002*nds.size:=hfr;have hv3:((k2.size+r.size+1:Nat):Int)-nds.size-1≤s.vars:=hv1;have hkl:=Nd.len_le k2;have hfr0:=hw.fr;refine H9 0 rfl ?_;rintro⟨eb,eo,ka,kc⟩ rfl;refine Aa 26 [100,0,0,1] (aI oM<|y2<|λb4=>y<|λb5=>y<|λ_=>AL 27 rfl rfl (λh2=>?_) (λh2=>?_));refine Aa 5 [1] (y<|λ_=>W8 rfl rfl (eC gE rfl rfl) (λ_ h=>h) (λw f hM=>Vd w f hM.vl A hA s hM.res hM.mz hw hM.f5 op2 ln2 co2 nm2 tx2 k2 ka kc oM htx2 hkx2 hM.f0 oM hv2) (λ_=>As.stab) (λ_=>trivial) (λer w2 f2 he hE hH=>L4 hn rfl rfl rfl rfl (Ft (hti.trans (Dw (SZ h2 he)))) hE (hH _ Y0) (hH _ U4) (hH _ Um)) ?_);rintro s5 ⟨hda,hw5,hfr5,hvv5,hvw5⟩;dsimp only at hda hw5 hfr5 hvv5 hvw5 ⊢;exact Aa 11 [] (aI ⟨oM,oM⟩<|λ_=>Dj ((i+1,r,out,txs,ta,tc,oa,oc,e,ea,s5)) (show r.len<r.len+1 from Nat.lt_succ_self _) ⟨show i+1+r.len=_ by omega,hti.trans (Tp (Wz h2 hda)),show out.length≤i+1 by omega,htyb,heB,hwt2.2,hrx2,hw5,show r.size≤_ by omega,show s5.fresh+200002*(r.size:Int)≤_ by omega,show (r.size:Int)-nds.size-1≤s5.vars by omega,show s5.vars≤0 by omega⟩ lE (λw f hM=>⟨_,hM.less (sD (sD (sK (sK (sK sZ))))) sR nE (mR [1,3,4,5])⟩));refine Aa 7 [] (λ_=>AL 32 rfl rfl (λh3=>?_) (λh3=>?_));refine Aa 2 [] (λ_=>?_);have hwk:k2.wfm 2:=by rcases hwt2.1 with h9|⟨h9,h8⟩|⟨h9,h8⟩ <;> first|exact h8|(exfalso;have:=beq_iff_eq.1 h3;omega)
 obtain⟨op3,ln3,co3,tx3,nm3,k3,r3,hkk⟩:=Cr hwk dC;have hwk2:r3.wfm 3:=by have h9:=hwk;rw[hkk] at h9;exact h9
 obtain⟨op4,ln4,co4,tx4,nm4,k4,r4,rfl⟩:=Cr hwk2 dC;rw[Vf] at hwk2;have hks2:(Nd.cons op4 ln4 co4 tx4 nm4 k4 r4).size=k4.size+r4.size+1:=rfl;have hkl3:(Nd.cons op4 ln4 co4 tx4 nm4 k4 r4).len=r4.len+1:=rfl;have hkx3:tx3.length≤100000∧k3.txb:=by have h9:=hkx2;rw[hkk] at h9;exact⟨h9.1,h9.2.1⟩
 have hks:k2.size=k3.size+(Nd.cons op4 ln4 co4 tx4 nm4 k4 r4).size+1:=by rw[hkk];rfl
 have hkl2:k2.len=(Nd.cons op4 ln4 co4 tx4 nm4 k4 r4).len+1:=by rw[hkk];rfl
 refine XQ 0 rfl hkk<|H9 0 rfl ?_;rintro⟨eb3,eo3,ka3,kc3⟩ rfl;refine H9 1 rfl ?_;rintro⟨eb4,eo4,ka4,kc4⟩ h44;obtain⟨rfl,rfl⟩:eb3=eb4∧eo3=eo4:=by cases h44;exact⟨rfl,rfl⟩
 refine Wx [2,3,4] (λw=>AI w A.cb [pB A.sb,.map (some A.km),.map (some A.dm),.map (some A.rm),iV s.vars] 69∧BE BI w A.rm (s.roots.map λk=>(k,.bool true))) (λw f h _=>⟨h.blk,h.roots⟩) [0,1,2,3,4] Al (rd [0,1,2,3,4,5,6,7,8,9] (.br 10 .fin .fin)) rfl kR kR kR rfl Es<|A2 3 [] (λ_=>Gf rfl rfl rfl (λw hK=>Ai rfl dO hK.2.2.1 rfl)<|A2 2 [1] (y<|λ_=>Gf rfl rfl rfl (λw hK=>KW (K:=BI) (a:=tx2) rfl rfl U0 F8 ZS hK.2.2.2 hw.dr (Qv s.roots))<|A2 3 [1] (y<|λ_=>Ag rfl ?_ Aj)));refine W8 (α:=Unit) (val:=λ_=>.tuple #[]) (q:=λ_=>(!s.roots.contains tx2)=true) (I':=λ_=>As 69 148 A s) (F':=λ_=>[]) (pe:=λer=>(!s.roots.contains tx2)=false∧er=(ln2,co2,11)) (M:=λ_=>False) (T:=52) rfl rfl (eC Ek rfl rfl) (λ_ h=>h.elim) (λw f hM=>(Cg w f hM.vl (!s.roots.contains tx2) ln2 co2).mono (λ_ _ ⟨x,f2,h1,h2,h3,h4⟩=>⟨x,f2,h1,h2,h3.mono (λ_ h=>h.elim),(hM.call0 h3).res,h4⟩) λ_ _ h=>h) (λ_=>As.stab) (λ_=>trivial) (λer w2 f2 he hE hH=>L4 hn rfl rfl rfl rfl (Ft (hti.trans (Dw (by obtain⟨h9,rfl⟩:=he;rw[hkk];exact Tf h3 (Fc h9))))) hE (hH _ Y0) (hH _ U4) (hH _ Um)) ?_;rintro⟨⟩ hnd;replace hnd:s.roots.contains tx2=false:=EN hnd;refine Aa 1 [] (λ_=>AW [0,1,2,3,4] (λw f h _=>⟨h.blk,h.roots⟩) rfl (λ_ h=>h)<|Bj<|Aa 2 [] (λ_=>Wx [2,3,4] (λw=>AI w A.cb [pB A.sb,.map (some A.km),.map (some A.dm),.map (some A.rm),iV s.vars] 69) (λw f h _=>h.blk) [0,1,2,3,4] Al (rd [0,1,2,3,4,5] (.br 6 .fin .fin)) rfl kR kR kR rfl Es<|A2 3 [] (λ_=>Gf rfl rfl rfl (λw hK=>Ai rfl dO hK.2.2 rfl)<|A2 2 [1] (y<|λ_=>Ag rfl ?_ Aj))));refine nJ (a:=tx2) hA hw rfl rfl rfl rfl U0 F8 hnd ?_;have hwr:=hw.addRoot hnd;refine Aa 1 [] (λ_=>AW [0,1,2,3,4] (λw f h _=>h.blk) rfl (λ_ h=>h)<|Bj<|Aa 8 [1,101,0] (y<|aI oM<|y2<|λ_=>W8 (α:=T1×Option Addr×Nat) (val:=λx=>tV x.1 x.2.1 x.2.2) (q:=λx=>CB s.datas [] op3 ln3 co3 tx3 k3=.ok x.1∧x.1.bnd) (I':=λ_=>As 69 148 A ({s with roots:=tx2::s.roots}:CS)) (F':=λx=>[λw f=>Ak w f x.1.kids x.2.1 x.2.2]) (pe:=λer=>CB s.datas [] op3 ln3 co3 tx3 k3=.error er) (M:=λ_=>False) (T:=52) rfl rfl (eC Mp rfl rfl) (λ_ h=>h.elim) (λw f hM=>(K4 (k3.size+1) w f hM.vl A ({s with roots:=tx2::s.roots}:CS) hM.res hwr hM.f10 op3 ln3 co3 nm3 tx3 k3 ka3 kc3 (.map none) [] (Nat.lt_succ_self _) oM hkx3.1 hkx3.2 (.inl ⟨rfl,rfl⟩) hM.f2).mono (λ_ _ ⟨x,f2,h1,h2,h3,h4⟩=>⟨x,f2,h1,h2,h3.mono (λ_ h=>h.elim),(hM.call0 h3).res,h4⟩) λ_ _ h=>h) (λ_=>As.stab) (λ_=>⟨Ak.mono,tQ⟩) (λer w2 f2 he hE hH=>L4 hn rfl rfl rfl rfl (Ft (hti.trans (Dw (by rw[hkk];exact TA h3 hnd he)))) hE (hH _ Y0) (hH _ U4) (hH _ Um)) ?_));rintro⟨q5,qa,qc⟩ ⟨hp5,hqb⟩;dsimp only at hp5 hqb ⊢;refine Aa 5 [0] (λb6=>y<|λ_=>Wx [2,3,4] (λ_=>True) EA [0,1,2,3,4,5] Al (rd [0,1,2,3,4,5,6,7,9,10] (.br 8 (.br 11 .fin .fin) .fin)) rfl kR kR kR rfl Es<|A2 10 [0,2,100,0,2] (y<|y<|aI oM<|y2<|y<|λ_=>Ag rfl ?_ Aj))
 refine W8 rfl rfl (eC C8 rfl rfl) (λ_ h=>h) (λw f hM=>I7 (k4.size+1) w f hM.vl A hA ({s with roots:=tx2::s.roots}:CS) hM.res hM.mz hwr op4 ln4 co4 nm4 tx4 k4 ka4 kc4 e ea (Nat.lt_succ_self _) oM hwk2 hM.f1 heB hM.f10 (by first|omega|(dsimp only;omega))) (λ_=>As.stab) (λ_=>⟨Ak.mono,tQ⟩) (λer w2 f2 he hE hH=>L4 hn rfl rfl rfl rfl (Ft (hti.trans (Dw (by rw[hkk];exact Sz h3 hnd hp5 he)))) hE (hH _ tF) (hH _ Y0) (hH _ U4)) ?_;rintro⟨⟨t6,t6a,t6c⟩,s6⟩ ⟨hp6,htb6,hw6,hf6⟩;dsimp only at hp6 htb6 hw6 hf6 ⊢;have hfm6:=FW Eb _ hp6;have hvv6:s6.vars=s.vars:=hfm6.2.2.2;refine Aa 1 [] (λ_=>Au [0,1,2,3,4,5] rfl<|Ag rfl ?_ Aj);refine W8 rfl rfl (eC FG rfl rfl) (λ_ h=>h) (λw f hM=>CH w f hM.vl A hA s6 hM.res hM.mz hw6 q5 t6 qa qc t6a t6c hqb htb6 hM.f1 hM.f0 ln2 co2) (λ_=>As.stab) (λ_=>trivial) (λer w2 f2 he hE hH=>L4 hn rfl rfl rfl rfl (Ft (hti.trans (Dw (by rw[hkk];exact TD h3 hnd hp5 hp6 he)))) hE (hH _ tF) (hH _ Y0) (hH _ U4)) ?_;rintro s7 ⟨hh7,hw7,hf7⟩;have hvv7:s7.vars=s.vars:=(Eb.has hh7).2.2.2.trans hvv6;refine Aa 1 [] (λ_=>Au [0,1,2,3,4,5] rfl<|Bj<|Aa 5 [0] (y<|λb7=>λ_=>CI 0 rfl rfl<|Bw (α:=Option Addr×Nat) rfl rfl (eC Br rfl rfl) (λw f hM=>VR w f hM.vl CK q5 b7 (CL (l:=[(q5,qa,qc)]) ⟨hM.f1,tQ⟩ hM.b0)) (λ_=>⟨Ak.mono,tQ⟩) ?_));rintro⟨ua,uc⟩ -;refine Aa 11 [1,2,1,2] (y<|y<|y<|y<|λ_=>?_);have hub:(T1.con CK q5.one).bnd:=CZ dC (by rw[T1.one,T1.len_cons];simp only[Ty.len];omega) (Ge hqb);refine W8 rfl rfl (eC HD rfl rfl) (λ_ h=>h) (λw f hM=>DJ w f hM.vl A hA s7 hM.res hM.mz hw7 e ea heB hM.f12 tx2 (T1.con CK q5.one) ua uc hub hM.f0 false ln2 co2) (λ_=>As.stab) (λ_=>⟨AF.mono,tQ⟩) (λer w2 f2 he hE hH=>L4 hn rfl rfl rfl rfl (by cases he) hE (hH _ tF) (hH _ Y0) (hH _ U4)) ?_;rintro⟨e7,ea7⟩ ⟨he7,heB7⟩;dsimp only at he7 heB7 ⊢;have hee:e7=⟨tx2,.con CK q5.one,[]⟩::e:=by cases he7;rfl
 subst hee;refine Aa 11 [5,2] (y<|y<|λb8=>λ_=>CY 1 0 rfl rfl Uh rfl rfl rfl rfl rfl rfl rfl rfl (λ_ _=>rfl) oM oM λoa2 oc2=>Aa 7 [6,2] (y<|y<|λb9=>λ_=>CY 0 0 rfl rfl CR rfl rfl rfl rfl rfl rfl rfl rfl (λ_ _=>rfl) oM oM λta2 tc2=>Aa 8 [] (aI ⟨oM,oM⟩<|λ_=>?_)));exact Dj ((i+1,r,(out++[(tx2,(T1.con CK q5.one))]),txs++tC (T1.con CK q5.one) ua uc,ta2,tc2,oa2,oc2,(⟨tx2,.con CK q5.one,[]⟩::e),ea7,s7)) (show r.len<r.len+1 from Nat.lt_succ_self _) ⟨show i+1+r.len=_ by omega,hti.trans (HP (by rw[hkk];exact Wf h3 hnd hp5 hp6 hh7)),show (out++[(tx2,(T1.con CK q5.one))]).length≤i+1 by rw[List.length_append];simp;omega,show (Fi (out++[(tx2,(T1.con CK q5.one))])).bnd by rw[DF];exact Ty.bnd_snoc htyb hub,heB7,hwt2.2,hrx2,hw7,show r.size≤_ by omega,show s7.fresh+200002*(r.size:Int)≤_ by omega,show (r.size:Int)-nds.size-1≤s7.vars by omega,show s7.vars≤0 by omega⟩ (dN rfl rfl rfl rfl rfl (Eq.trans (b:=some (Value.slice ta2 (out.length+1) tc2)) rfl (by dsimp only;rw[List.length_append];rfl)) rfl rfl rfl) (λw f hM=>⟨_,by have hM9:=(hM.more (B':=[]) (F':=[λw f=>Be w f (Fi (out++[(tx2,(T1.con CK q5.one))])) (txs++tC (T1.con CK q5.one) ua uc)]) nE (AE.mem ⟨by rw[DF];exact Be.snoc hM.f1 hM.f12,tQ⟩) (Ax.mem ⟨Be.mono,tQ⟩)).less (sD (sD (sD (sD (sD (sK (sK (sK sZ)))))))) sR (B':=[]) nE (F':=[λw f=>AT w f (some ⟨eb,eo,none⟩) (i+1) r,λw f=>Be w f (Fi (out++[(tx2,(T1.con CK q5.one))])) (txs++tC (T1.con CK q5.one) ua uc),λw f=>AF w f (⟨tx2,.con CK q5.one,[]⟩::e) ea7,λw f=>EM w f]) (mR [11,0,1,15]);dsimp only;rw[show (out++[(tx2,(T1.con CK q5.one))]).length=out.length+1 by rw[List.length_append];rfl,show bC (Sd (out++[(tx2,(T1.con CK q5.one))]))=bC (Sd out)++[S tx2,S []] by rw[Sd,List.map_append,SP.bC_app];rfl];exact hM9⟩);refine Aa 7 [] (λ_=>AL 80 rfl rfl (λh4=>?_) (λh4=>?_));refine Aa 2 [] (λ_=>?_);have hwk:k2.wfm 3:=by rcases hwt2.1 with h9|⟨h9,h8⟩|⟨h9,h8⟩ <;> first|exact h8|(exfalso;have:=beq_iff_eq.1 h4;omega)
 obtain⟨op3,ln3,co3,tx3,nm3,k3,r3,hkk⟩:=Cr hwk dC;have hwk1:Gq op3 k3:=by have h9:=hwk;rw[hkk] at h9;exact h9
 have hks:k2.size=k3.size+r3.size+1:=by rw[hkk];rfl
 have hkl2:k2.len=r3.len+1:=by rw[hkk];rfl
 refine XQ 0 rfl hkk<|H9 0 rfl ?_;rintro⟨eb3,eo3,ka3,kc3⟩ rfl;refine Aa 7 [1,100,0] (y<|aI oM<|y2<|λ_=>W8 rfl rfl (eC C8 rfl rfl) (λ_ h=>h) (λw f hM=>I7 (k3.size+1) w f hM.vl A hA s hM.res hM.mz hw op3 ln3 co3 nm3 tx3 k3 ka3 kc3 e ea (Nat.lt_succ_self _) oM hwk1 hM.f0 heB hM.f7 (by first|omega|(dsimp only;omega))) (λ_=>As.stab) (λ_=>⟨Ak.mono,tQ⟩) (λer w2 f2 he hE hH=>L4 hn rfl rfl rfl rfl (Ft (hti.trans (Dw (by rw[hkk];exact Wr h4 he)))) hE (hH _ Y0) (hH _ U4) (hH _ Um)) ?_);rintro⟨⟨t6,t6a,t6c⟩,s6⟩ ⟨hp6,htb6,hw6,hf6⟩;dsimp only at hp6 htb6 hw6 hf6 ⊢;have hfm6:=FW Eb _ hp6;have hvv6:s6.vars=s.vars:=hfm6.2.2.2;refine Aa 3 [0] (y<|λ_=>Wx [2,3,4] (λ_=>True) EA [0,1,2,3,4] Al (rd [0,1,2,3,4,5,6,7,8,10,11] (.br 9 (.br 12 (.rd 13 .fin) .fin) .fin)) rfl kR kR kR rfl Es<|A2 11 [1,0,1,100,0,1] (y<|y<|y<|aI oM<|y2<|y<|λ_=>Ag rfl ?_ Aj));refine Bw rfl rfl (eC Sc rfl rfl) (λw f hM=>J6 (k3.size+1) w f hM.vl op3 ln3 co3 nm3 tx3 k3 ka3 kc3 (Nat.lt_succ_self _) oM hM.f1) (λx=>trivial) ?_;rintro⟨⟩ -;refine Aa 1 [] (λ_=>Au [0,1,2,3,4] rfl<|Ag rfl ?_ Aj);refine W8 rfl rfl (eC HD rfl rfl) (λ_ h=>h) (λw f hM=>DJ w f hM.vl A hA s6 hM.res hM.mz hw6 e ea heB hM.f8 tx2 t6 t6a t6c htb6 hM.f0 (Cm (k3.size+1) op3 k3) ln2 co2) (λ_=>As.stab) (λ_=>⟨AF.mono,tQ⟩) (λer w2 f2 he hE hH=>L4 hn rfl rfl rfl rfl (Ft (hti.trans (Dw (by rw[hkk];exact Ww h4 hp6 he)))) hE (hH _ Y0) (hH _ U4) (hH _ Um)) ?_;rintro⟨e7,ea7⟩ ⟨he7,heB7⟩;dsimp only at he7 heB7 ⊢;refine Aa 1 [] (λ_=>Au [0,1,2,3,4] rfl<|A2 1 [] (λ_=>Bj<|Aa 9 [4,1] (y<|y<|λb10=>λ_=>CY 1 0 rfl rfl Uh rfl rfl rfl rfl rfl rfl rfl rfl (λ_ _=>rfl) oM oM λoa2 oc2=>Aa 7 [5,1] (y<|y<|λb11=>λ_=>CY 0 0 rfl rfl CR rfl rfl rfl rfl rfl rfl rfl rfl (λ_ _=>rfl) oM oM λta2 tc2=>Aa 8 [] (aI ⟨oM,oM⟩<|λ_=>?_)))))
 exact Dj ((i+1,r,(out++[(tx2,t6)]),txs++tC t6 t6a t6c,ta2,tc2,oa2,oc2,e7,ea7,s6)) (show r.len<r.len+1 from Nat.lt_succ_self _) ⟨show i+1+r.len=_ by omega,hti.trans (HP (by rw[hkk];exact Xx h4 hp6 he7)),show (out++[(tx2,t6)]).length≤i+1 by rw[List.length_append];simp;omega,show (Fi (out++[(tx2,t6)])).bnd by rw[DF];exact Ty.bnd_snoc htyb htb6,heB7,hwt2.2,hrx2,hw6,show r.size≤_ by omega,show s6.fresh+200002*(r.size:Int)≤_ by omega,show (r.size:Int)-nds.size-1≤s6.vars by omega,show s6.vars≤0 by omega⟩ (dN rfl rfl rfl rfl rfl (Eq.trans (b:=some (Value.slice ta2 (out.length+1) tc2)) rfl (by dsimp only;rw[List.length_append];rfl)) rfl rfl rfl) (λw f hM=>⟨_,by have hM9:=(hM.more (B':=[]) (F':=[λw f=>Be w f (Fi (out++[(tx2,t6)])) (txs++tC t6 t6a t6c)]) nE (AE.mem ⟨by rw[DF];exact Be.snoc hM.f1 hM.f8,tQ⟩) (Ax.mem ⟨Be.mono,tQ⟩)).less (sD (sD (sD (sD (sK (sK (sK sZ))))))) sR (B':=[]) nE (F':=[λw f=>AT w f (some ⟨eb,eo,none⟩) (i+1) r,λw f=>Be w f (Fi (out++[(tx2,t6)])) (txs++tC t6 t6a t6c),λw f=>AF w f e7 ea7,λw f=>EM w f]) (mR [7,0,1,11]);dsimp only;rw[show (out++[(tx2,t6)]).length=out.length+1 by rw[List.length_append];rfl,show bC (Sd (out++[(tx2,t6)]))=bC (Sd out)++[S tx2,S []] by rw[Sd,List.map_append,SP.bC_app];rfl];exact hM9⟩);refine Aa 7 [] (λ_=>AL 102 rfl rfl (λh5=>?_) (λh5=>?_));refine Aa 2 [] (λ_=>?_);have hwk:k2.wfm 3:=by rcases hwt2.1 with h9|⟨h9,h8⟩|⟨h9,h8⟩ <;> first|exact h8|(exfalso;have:=beq_iff_eq.1 h5;omega)
 obtain⟨op3,ln3,co3,tx3,nm3,k3,r3,rfl⟩:=Cr hwk dC;rw[Vf] at hwk;have hks:(Nd.cons op3 ln3 co3 tx3 nm3 k3 r3).size=k3.size+r3.size+1:=rfl;refine Aa 4 [1] (y<|λ_=>W8 rfl rfl (eC Y1 rfl rfl) (λ_ h=>h) (λw f hM=>Qe (k3.size+1) (I7 (k3.size+1)) w f hM.vl A hA s hM.res hM.mz hw op2 ln2 co2 nm2 tx2 op3 ln3 co3 nm3 tx3 k3 r3 ka kc e ea (Nat.lt_succ_self _) oM hwk hM.f0 heB hM.f4 oM) (λ_=>As.stab) (λ_=>⟨Ak.mono,tQ⟩) (λer w2 f2 he hE hH=>L4 hn rfl rfl rfl rfl (Ft (hti.trans (Dw (Vu h5 he)))) hE (hH _ Y0) (hH _ U4) (hH _ Um)) ?_);rintro⟨⟨t6,t6a,t6c⟩,s6⟩ ⟨hp6,htb6,hw6,hf6⟩;dsimp only at hp6 htb6 hw6 hf6 ⊢;have hfm6:=ON Eb (FW Eb _) hp6;have hvv6:s6.vars=s.vars:=hfm6.2.2.2;refine Aa 11 [0,1,0,1] (y<|y<|y<|y<|λ_=>W8 rfl rfl (eC HD rfl rfl) (λ_ h=>h) (λw f hM=>DJ w f hM.vl A hA s6 hM.res hM.mz hw6 e ea heB hM.f5 tx2 t6 t6a t6c htb6 hM.f0 true ln2 co2) (λ_=>As.stab) (λ_=>⟨AF.mono,tQ⟩) (λer w2 f2 he hE hH=>L4 hn rfl rfl rfl rfl (Ft (hti.trans (Dw (Vw h5 hp6 he)))) hE (hH _ Y0) (hH _ U4) (hH _ Um)) ?_);rintro⟨e7,ea7⟩ ⟨he7,heB7⟩;dsimp only at he7 heB7 ⊢;exact Aa 11 [4,1] (y<|y<|λb12=>λ_=>CY 1 0 rfl rfl Uh rfl rfl rfl rfl rfl rfl rfl rfl (λ_ _=>rfl) oM oM λoa2 oc2=>Aa 7 [5,1] (y<|y<|λb13=>λ_=>CY 0 0 rfl rfl CR rfl rfl rfl rfl rfl rfl rfl rfl (λ_ _=>rfl) oM oM λta2 tc2=>Aa 8 [] (aI ⟨oM,oM⟩<|λ_=>Dj ((i+1,r,(out++[(tx2,t6)]),txs++tC t6 t6a t6c,ta2,tc2,oa2,oc2,e7,ea7,s6)) (show r.len<r.len+1 from Nat.lt_succ_self _) ⟨show i+1+r.len=_ by omega,hti.trans (HP (Yw h5 hp6 he7)),show (out++[(tx2,t6)]).length≤i+1 by rw[List.length_append];simp;omega,show (Fi (out++[(tx2,t6)])).bnd by rw[DF];exact Ty.bnd_snoc htyb htb6,heB7,hwt2.2,hrx2,hw6,show r.size≤_ by omega,show s6.fresh+200002*(r.size:Int)≤_ by omega,show (r.size:Int)-nds.size-1≤s6.vars by omega,show s6.vars≤0 by omega⟩ (dN rfl rfl rfl rfl rfl (Eq.trans (b:=some (Value.slice ta2 (out.length+1) tc2)) rfl (by dsimp only;rw[List.length_append];rfl)) rfl rfl rfl) (λw f hM=>⟨_,by have hM9:=(hM.more (B':=[]) (F':=[λw f=>Be w f (Fi (out++[(tx2,t6)])) (txs++tC t6 t6a t6c)]) nE (AE.mem ⟨by rw[DF];exact Be.snoc hM.f1 hM.f5,tQ⟩) (Ax.mem ⟨Be.mono,tQ⟩)).less (sD (sD (sD (sD (sK (sK (sK sZ))))))) sR (B':=[]) nE (F':=[λw f=>AT w f (some ⟨eb,eo,none⟩) (i+1) r,λw f=>Be w f (Fi (out++[(tx2,t6)])) (txs++tC t6 t6a t6c),λw f=>AF w f e7 ea7,λw f=>EM w f]) (mR [4,0,1,8]);dsimp only;rw[show (out++[(tx2,t6)]).length=out.length+1 by rw[List.length_append];rfl,show bC (Sd (out++[(tx2,t6)]))=bC (Sd out)++[S tx2,S []] by rw[Sd,List.map_append,SP.bC_app];rfl];exact hM9⟩))));refine Aa 7 [] (λ_=>AL 116 rfl rfl (λh6=>?_) (λh6=>?_));refine Aa 2 [] (λ_=>?_);have hwk:k2.wfm 3:=by rcases hwt2.1 with h9|⟨h9,h8⟩|⟨h9,h8⟩ <;> first|exact h8|(exfalso;have:=beq_iff_eq.1 h6;omega)
 obtain⟨op3,ln3,co3,tx3,nm3,k3,r3,hkk⟩:=Cr hwk dC;have hwk1:Gq op3 k3:=by have h9:=hwk;rw[hkk] at h9;exact h9
 have hks:k2.size=k3.size+r3.size+1:=by rw[hkk];rfl
 have hkl2:k2.len=r3.len+1:=by rw[hkk];rfl
 refine XQ 0 rfl hkk<|H9 0 rfl ?_;rintro⟨eb3,eo3,ka3,kc3⟩ rfl;refine Aa 7 [1,100,0] (y<|aI oM<|y2<|λ_=>W8 rfl rfl (eC C8 rfl rfl) (λ_ h=>h) (λw f hM=>I7 (k3.size+1) w f hM.vl A hA s hM.res hM.mz hw op3 ln3 co3 nm3 tx3 k3 ka3 kc3 e ea (Nat.lt_succ_self _) oM hwk1 hM.f0 heB hM.f7 (by first|omega|(dsimp only;omega))) (λ_=>As.stab) (λ_=>⟨Ak.mono,tQ⟩) (λer w2 f2 he hE hH=>L4 hn rfl rfl rfl rfl (Ft (hti.trans (Dw (by rw[hkk];exact YL h6 he)))) hE (hH _ Y0) (hH _ U4) (hH _ Um)) ?_);rintro⟨⟨t6,t6a,t6c⟩,s6⟩ ⟨hp6,htb6,hw6,hf6⟩;dsimp only at hp6 htb6 hw6 hf6 ⊢;have hfm6:=FW Eb _ hp6;have hvv6:s6.vars=s.vars:=hfm6.2.2.2;refine Aa 16 [0,1,4,1] (y<|y<|y<|y<|λb14=>λ_=>CY 1 0 rfl rfl Uh rfl rfl rfl rfl rfl rfl rfl rfl (λ_ _=>rfl) oM oM λoa2 oc2=>Aa 7 [5,1] (y<|y<|λb15=>λ_=>CY 0 0 rfl rfl CR rfl rfl rfl rfl rfl rfl rfl rfl (λ_ _=>rfl) oM oM λta2 tc2=>Aa 8 [] (aI ⟨oM,oM⟩<|λ_=>?_)));exact Dj ((i+1,r,(out++[(([]:lU),t6)]),txs++tC t6 t6a t6c,ta2,tc2,oa2,oc2,e,ea,s6)) (show r.len<r.len+1 from Nat.lt_succ_self _) ⟨show i+1+r.len=_ by omega,hti.trans (HP (by rw[hkk];exact bT h6 hp6)),show (out++[(([]:lU),t6)]).length≤i+1 by rw[List.length_append];simp;omega,show (Fi (out++[(([]:lU),t6)])).bnd by rw[DF];exact Ty.bnd_snoc htyb htb6,heB,hwt2.2,hrx2,hw6,show r.size≤_ by omega,show s6.fresh+200002*(r.size:Int)≤_ by omega,show (r.size:Int)-nds.size-1≤s6.vars by omega,show s6.vars≤0 by omega⟩ (dN rfl rfl rfl rfl rfl (Eq.trans (b:=some (Value.slice ta2 (out.length+1) tc2)) rfl (by dsimp only;rw[List.length_append];rfl)) rfl rfl rfl) (λw f hM=>⟨_,by have hM9:=(hM.more (B':=[]) (F':=[λw f=>Be w f (Fi (out++[(([]:lU),t6)])) (txs++tC t6 t6a t6c)]) nE (AE.mem ⟨by rw[DF];exact Be.snoc hM.f0 hM.f7,tQ⟩) (Ax.mem ⟨Be.mono,tQ⟩)).less (sD (sD (sD (sD (sK (sK (sK sZ))))))) sR (B':=[]) nE (F':=[λw f=>AT w f (some ⟨eb,eo,none⟩) (i+1) r,λw f=>Be w f (Fi (out++[(([]:lU),t6)])) (txs++tC t6 t6a t6c),λw f=>AF w f e ea,λw f=>EM w f]) (mR [6,0,9,10]);dsimp only;rw[show (out++[(([]:lU),t6)]).length=out.length+1 by rw[List.length_append];rfl,show bC (Sd (out++[(([]:lU),t6)]))=bC (Sd out)++[S ([]:lU),S []] by rw[Sd,List.map_append,SP.bC_app];rfl];exact hM9⟩);exfalso;have gh2:=beq_eq_false_iff_ne.1 h2;have gh3:=beq_eq_false_iff_ne.1 h3;have gh4:=beq_eq_false_iff_ne.1 h4;have gh5:=beq_eq_false_iff_ne.1 h5;have gh6:=beq_eq_false_iff_ne.1 h6;rcases hwt2.1 with h9|⟨h9,h8⟩|⟨h9,h8⟩ <;> omega
 refine Aa 3 [] (λ_=>ER<|Aa 4 [] (λ_=>?_));obtain rfl:r=.nil:=Nd.len0 (by have:=of_decide_eq_false h1;omega);have hti2:DY Z4 OP nds []=.ok (out,s):=hti;have hol2:out.length≤200000:=oM;refine NC (λw f=>Ak w f (Fi out) ta tc) Ak.mono (λw f hM=>GV hM hM.f1)<|Aa 7 [] (λ_=>?_);refine Fy (α:=List (lU×lU)×List (lU×T1)) (λx=>x.2.length) (λx=>x.1.length+x.2.length=out.length∧(C5 nds=match JH s x.2 with|.error e=>.error e|.ok l=>.ok (x.1++l))∧(Fi x.2).bnd) (λx=>(E7 2 (pB b1) 3 (pB b2) 4 (pB b3) 5 (pB A.cb) 137 (.slice ta out.length tc) 138 (iV (out.length:Int)) 139 (iV (x.1.length:Int)))) (λx=>⟨λ_=>False,Bx A,As 69 148 A s,w,f⟩) (λx=>[⟨b3,[iV 0],27,true⟩,⟨b2,[iV 0,iV 0],26,true⟩,⟨b1,[.slice oa out.length oc],35,true⟩]) (λx=>[⟨76,2,oa,oc,out.length,bC (P7 x.1 x.2)⟩]) (λx=>[]) (λx=>[λw f=>BG w f ta x.1.length (Fi x.2)]) ([],out) ⟨by simp,(kG hti2).trans SE,htyb⟩ lE (λw f hM=>hM.more (B':=[]) (F':=[λw f=>BG w f ta 0 (Fi out)]) nE (AE.mem ⟨Ak.at hM.f0,tQ⟩) (Ax.mem ⟨BG.mono,tQ⟩) |>.less (sK (sK (sK sZ))) sR nE (mR [0])) ?_;rintro⟨d,r⟩ ⟨hdl,hfi,htyr⟩;dsimp only at hdl hfi htyr ⊢;refine Aa 6 [] (λ_=>AL 140 rfl rfl (λh7=>?_) (λh7=>?_));refine Aa 6 [] (λ_=>?_);have hjl:d.length<out.length:=by have:=of_decide_eq_true h7;omega
 obtain⟨⟨nm2,t2⟩,r2,rfl⟩:∃p q,r=p::q:=by cases r with|nil=>simp only[List.length_nil] at hdl;omega|cons p q=>exact⟨p,q,rfl⟩
 have htb2:t2.bnd∧(Fi r2).bnd:=T1.bnd_cons.1 htyr;refine HZ (p:=∃ob,oa=some ⟨ob,0,none⟩) (λw f hM=>by rcases (hM.row _ (.head _)).2 with ⟨_,_,h9⟩|⟨ob,_,h9,_⟩;(dsimp only at h9;omega);exact⟨ob,h9⟩) λhob=>?_;obtain⟨ob,rfl⟩:=hob;refine LM (α:=Nat×Nat×Option Addr×Nat) (λx=>ta=some ⟨x.1,x.2.1,none⟩) (λx=>[⟨x.1,x.2.1+d.length*4,tC t2 x.2.2.1 x.2.2.2⟩]) (λx=>[λw f=>Ak w f t2.kids x.2.2.1 x.2.2.2,λw f=>BG w f ta (d.length+1) (Fi r2)]) (λw f hM=>let ⟨b,off,ka,kc,h1,h2,h3,h4⟩:=BG.head (show BG w f ta d.length (t2.cons (Fi r2)) from hM.f0);⟨(b,off,ka,kc),h1,(oE h2),AE.mem ⟨h3,h4,tQ⟩⟩) (λx=>Ax.mem ⟨Ak.mono,BG.mono,tQ⟩) ?_;rintro⟨ab2,ao2,ka2,kc2⟩ rfl;refine Aa 9 [100,0,0] (aI oM<|y2<|λb16=>y<|λ_=>Wx [2,3,4] (λ_=>True) EA [0,1,2,3] Al (rd [0,1,2,3,4] (.br 5 (.br 6 (.rd 7 (.rd 8 (.br 9 .fin .fin))) .fin) .fin)) rfl kR kR kR rfl Es<|A2 5 [3,0] (y<|y<|λ_=>Ag rfl ?_ Aj));refine W8 rfl rfl (eC Fj rfl rfl) (λ_ h=>h) (λw f hM=>Cf w f hM.vl A hA s hM.res hM.mz hw t2 ka2 kc2 htb2.1 hM.f0 0 0) (λ_=>As.stab) (λ_=>⟨Ak.mono,tQ⟩) (λer w2 f2 he hE hH=>L4 hn rfl rfl rfl rfl (by rw[hfi,Yu he]) hE (hH _ U4) (hH _ Um) (hH _ jH)) ?_;rintro⟨u2,ua2,uc2⟩ ⟨hfu,hub2,hus2⟩;dsimp only at hfu hub2 hus2 ⊢;refine Aa 1 [] (λ_=>Au [0,1,2,3] rfl<|Ag rfl ?_ Aj);refine Bw rfl rfl (eC lQ rfl rfl) (λw f hM=>Wt w f hM.vl u2 ua2 uc2 hus2 hub2 hM.f0) (λx=>trivial) ?_;rintro⟨⟩ -;refine Aa 1 [] (λ_=>Au [0,1,2,3] rfl<|A2 2 [] (aI oM<|λ_=>Ag rfl ?_ Aj));exact tO 0 (bC (P7 (d++[(nm2,Ob u2)]) r2)) rfl rfl rfl rfl kN rfl rfl rfl (by simp only[Nat.zero_add,List.length_cons,List.length_nil,Int.toNat_natCast];omega) (by rw[Nat.zero_add,Int.toNat_natCast];exact V7) rfl<|Aa 1 [] (λ_=>Au [0,1,2,3] rfl<|Bj<|Aa 6 [] (aI ⟨oM,oM⟩<|λ_=>Dj ((d++[(nm2,Ob u2)],r2)) (show r2.length<((nm2,t2)::r2).length from Nat.lt_succ_self _) ⟨show (d++[(nm2,Ob u2)]).length+r2.length=_ by simp only[List.length_append,List.length_cons,List.length_nil] at hdl ⊢;omega,hfi.trans (Wq hfu),htb2.2⟩ (vJ rfl rfl rfl rfl rfl rfl (Eq.trans (b:=some (Value.int .i64 ((d.length:Int)+1))) rfl (by dsimp only;simp))) (λw f hM=>⟨_,by have hM9:=hM.less (sD (sK (sK (sK sZ)))) sR (B':=[]) nE (F':=[λw f=>BG w f (some ⟨ab2,ao2,none⟩) (d.length+1) (Fi r2)]) (mR [2]);dsimp only;rw[List.length_append];exact hM9⟩)));refine Aa 3 [] (λ_=>ER<|Aa 3 [] (λ_=>?_));obtain rfl:r=[]:=by have h9:=of_decide_eq_false h7;cases r with|nil=>rfl|cons p q=>simp only[List.length_cons] at hdl;omega
 refine Aa 9 [2,2,1,0] (y<|y<|y<|y<|λ_=>λw9 f9 hM=>?_);obtain⟨f8,hM8,hB8⟩:=XD (l:=P7 d []) (by have hM9:=hM;rw[show out.length=(P7 d []).length by rw[P7,List.length_append];simp only[List.map_nil,List.length_nil];exact hdl.symm] at hM9;exact hM9);have hinf:C5 nds=.ok d:=by rw[hfi];show (Except.ok (d++[]):RI _)=_;rw[List.append_nil]
 have hdd:P7 d []=d:=List.append_nil d;rw[hdd] at hB8;exact λtmps ht=>qE rfl rfl rfl rfl hinf hM8.exm hB8 (by have h9:=hM8.blk _ Um;rw[hdd] at h9;exact h9) (hM8.blk _ jH) (hM8.blk _ sI) tmps ht
end Go.Proofs.YtkahkniflkadoabGreatDoor
namespace Go.SP
open Go.SW Go.RowKit
def Fo.sz:Fo→Nat
 |.nil=>0
 |.cons _ k r=>k.sz+r.sz+1
structure NW(k:Fo)(a:N):Prop where
 tx:a.tx.length≤100000
 kt:a.kids.txb
 sz:a.kids.size+2≤2*(k.sz+1)
def EW(f:AK→Fo→R N):Prop:=∀t k a,t.ok→k.ok→f t k=.ok a→NW k a
theorem Iz{f:AK→Fo→R N}(hf:EW f):∀(fo:Fo)(x:Nd),fo.ok→Bk f fo=.ok x→x.txb∧x.size+x.len≤2*fo.sz∧x.len=fo.len
 |.nil,x,_,h=>by cases h;exact⟨tQ,Nat.le_refl _,rfl⟩
 |.cons t k r,x,hk,h=>by
   unfold Bk at h
   split at h
   · cases h
   rename_i a h1
   split at h
   · cases h
   rename_i b h2
   cases h
   have ha:=hf t k a hk.1 hk.2.1 h1;obtain⟨e1,e2,e3⟩:=Iz hf r b hk.2.2.2 h2;refine⟨⟨ha.tx,ha.kt,e1⟩,?_,by simp only[N.cons,Nd.len,Fo.len,e3]⟩;have:=ha.sz;simp only[N.cons,Nd.size,Nd.len,Fo.sz];omega
variable {h:AK}{hk:Fo}{co ln nm:Int}{n:Nat}{ks:Nd}
theorem dD{t:AK}{k:Fo}{op:Int}{tx:lU}(h:tx.length≤100000):NW k ⟨op,ln,co,tx,nm,.nil⟩:=⟨h,tQ,by simp only[Nd.size];omega⟩
theorem nT{f:AK→Fo→R N}(hf:EW f){l:Fo}(hl:(Fo.cons h hk l).ok){op:Int}{tx:lU}(ht:tx.length≤100000)(he:Bk f l=.ok ks):NW (.cons h hk l) ⟨op,ln,co,tx,nm,ks⟩:=by
 obtain⟨e1,e2,_⟩:=Iz hf l ks hl.2.2.2 he;refine⟨ht,e1,?_⟩;simp only[Fo.sz];omega
theorem uH{f:AK→Fo→R N}(hf:EW f){l:Fo}(hl:l.ok){op:Int}{tx:lU}(ht:tx.length≤100000)(he:Bk f l=.ok ks):NW l ⟨op,ln,co,tx,nm,ks⟩:=by
 obtain⟨e1,e2,_⟩:=Iz hf l ks hl he;refine⟨ht,e1,?_⟩;simp only;omega
theorem Uu:EW Jz:=λt k a ht _ h=>by
 unfold Jz at h
 cases h
 split
 · exact dD (t:=t) (Nat.zero_le _)
 · exact dD (t:=t) ht.2
theorem YF:∀n,EW (Eg n)
 |0=>λ_ _ _ _ _ h=>by cases h
 |n+1=>λt k a ht hk h=>by
   have ih:=YF n;unfold Eg at h;simp only[need] at h
   repeat' (split at h)
   all_goals first
     |(cases h;done)
     |exact Uu t _ a ht hk h
     |(cases h;first|exact dD (t:=t) (Nat.zero_le _)|exact dD (t:=t) ht.2|exact nT ih hk (Nat.zero_le _) (by assumption)|exact nT ih hk hk.1.2 (by assumption))
theorem QG{t:AK}:∀(x:Nd)(o:N),x.txb→FM t x=some o→o.tx.length≤100000∧o.kids.txb∧o.kids.size+2≤x.size+x.len
 |.nil,_,_,h=>by cases h
 |.cons op ln co tx nm kids .nil,o,hb,h=>by
   unfold FM at h
   cases h
   exact⟨hb.1,hb.2.1,by simp only[Nd.size,Nd.len];omega⟩
 |.cons op ln co tx nm kids (.cons a b c d e f r),o,hb,h=>by
   unfold FM at h;simp only at h
   cases hr:FM t (.cons a b c d e f r) with
   |none=>rw[hr] at h;cases h
   |some q =>
     rw[hr] at h
     cases h
     obtain⟨h1,h2,h3⟩:=QG (.cons a b c d e f r) q hb.2.2 hr;refine⟨by simp[A0],⟨hb.1,hb.2.1,h1,h2,tQ⟩,?_⟩;simp only[A0,N.one,N.cons,Nd.size,Nd.len] at h3 ⊢;omega
theorem IM{α:Type}{t:AK}{b:Bool}{x:R α}{a:α}(h:need t b x=.ok a):b=true∧x=.ok a:=by
 unfold need at h
 split at h
 · rename_i hb;exact⟨hb,h⟩
 · cases h
theorem S0:∀n,EW (Dr n)
 |0=>λ_ _ _ _ _ h=>by cases h
 |n+1=>λt k a ht hk h=>by
   have ih:=S0 n;unfold Dr at h
   by_cases hk0:(t.k==0)=true
   · rw[if_pos hk0] at h
     split at h
     · cases h
     rename_i hd hkk l;simp only at h
     by_cases hw:hd.isWord [45,62]=true
     · rw[if_pos hw] at h
       obtain⟨_,h⟩:=IM h
       split at h
       · cases h
       rename_i ks he;obtain⟨e1,e2,e3⟩:=Iz ih l ks hk.2.2.2 he
       split at h
       · rename_i o ho
         cases h
         obtain⟨h1,h2,h3⟩:=QG ks _ e1 ho;exact⟨h1,h2,by simp only[Fo.sz];omega⟩
       · cases h
     · rw[if_neg hw] at h
       obtain⟨_,h⟩:=IM h
       split at h
       · cases h
       rename_i ks he
       cases h
       exact nT ih hk hk.1.2 he
   · rw[if_neg hk0] at h
     split at h
     · cases h;exact dD (t:=t) ht.2
     · obtain⟨_,h⟩:=IM h
       cases h;exact dD (t:=t) ht.2
theorem iR{ex:AK→Fo→R N}(hex:EW ex):EW (GN n ex):=λt k a ht hk h=>by
 unfold GN at h
 split at h
 · rename_i p pk b bk
   obtain⟨_,h⟩:=IM h
   split at h
   · cases h
   rename_i q h1;obtain⟨_,h⟩:=IM h
   split at h
   · cases h
   rename_i x h3
   cases h
   have h1:=YF n _ _ _ hk.1 hk.2.1 h1;have h3:=hex _ _ _ hk.2.2.2.1 hk.2.2.2.2.1 h3;refine⟨by simp[A0],⟨h1.tx,h1.kt,h3.tx,h3.kt,tQ⟩,?_⟩;have:=h1.sz;have:=h3.sz;simp only[A0,N.one,N.cons,Nd.size,Fo.sz];omega
 · cases h
theorem Pu:∀{x y:Nd},x.txb→y.txb→(x.app y).txb
 |.nil,_,_,h=>h
 |.cons _ _ _ _ _ _ _,_,h,hy=>⟨h.1,h.2.1,Pu h.2.2 hy⟩
theorem Kw:∀(x y:Nd),(x.app y).size=x.size+y.size
 |.nil,_=>by simp[Nd.app,Nd.size]
 |.cons _ _ _ _ _ _ r,y=>by simp only[Nd.app,Nd.size,Kw r y];omega
theorem sY{x y:N}{k1 k2 k:Fo}(h1:NW k1 x)(h2:NW k2 y)(hs:k1.sz+k2.sz+2≤k.sz){op:Int}{tx:lU}(ht:tx.length≤100000):NW k ⟨op,ln,co,tx,nm,x.cons y.one⟩:=by
 refine⟨ht,⟨h1.tx,h1.kt,h2.tx,h2.kt,tQ⟩,?_⟩;have:=h1.sz;have:=h2.sz;simp only[N.one,N.cons,Nd.size];omega
theorem rL{x:N}{k1 k:Fo}(h1:NW k1 x)(hs:k1.sz+1≤k.sz){op:Int}{tx:lU}(ht:tx.length≤100000):NW k ⟨op,ln,co,tx,nm,x.one⟩:=by
 refine⟨ht,⟨h1.tx,h1.kt,tQ⟩,?_⟩;have:=h1.sz;simp only[N.one,N.cons,Nd.size];omega
theorem ZG{ex:AK→Fo→R N}(hex:EW ex){t:AK}{w:lU}{l:Fo}{a:N}(hl:l.ok)(h:Bh n ex t w l=.ok a):NW l a:=by
 unfold Bh at h;simp only[need] at h
 split at h
 · split at h
   · split at h
     · split at h
       · cases h
       rename_i hs h1
       split at h
       · cases h
       rename_i x h3
       cases h
       obtain⟨e1,e2,_⟩:=Iz Uu _ _ hl.2.1 h1;have hx:=hex _ _ _ hl.2.2.2.1 hl.2.2.2.2.1 h3;refine⟨by simp[A0],Pu e1 ⟨hx.tx,hx.kt,tQ⟩,?_⟩;have:=hx.sz;simp only[A0,Kw,N.one,N.cons,Nd.size,Fo.sz];omega
     · cases h
   · cases h
 split at h
 · split at h
   · split at h
     · split at h
       · cases h
       rename_i x h1
       split at h
       · cases h
       rename_i y h3
       cases h
       exact sY (hex _ _ _ hl.2.2.2.1 hl.2.2.2.2.1 h1) (hex _ _ _ hl.2.2.2.2.2.2.1 hl.2.2.2.2.2.2.2.1 h3) (by simp only[Fo.sz];omega) hl.1.2
     · cases h
   · cases h
 split at h
 · split at h
   · split at h
     · split at h
       · cases h
       rename_i x h1
       split at h
       · cases h
       rename_i y h3
       cases h
       exact sY (hex _ _ _ hl.2.2.2.1 hl.2.2.2.2.1 h1) (hex _ _ _ hl.2.2.2.2.2.2.1 hl.2.2.2.2.2.2.2.1 h3) (by simp only[Fo.sz];omega) hl.1.2
     · cases h
   · cases h
 iterate 3
   split at h
   · split at h
     · split at h
       · cases h
       rename_i ks h1
       cases h
       exact uH hex hl (Nat.zero_le _) h1
     · cases h
 split at h
 · split at h
   · split at h
     · cases h
     · split at h
       · cases h
       rename_i x h1
       split at h
       · cases h
       rename_i ars h3
       cases h
       have hx:=hex _ _ _ hl.1 hl.2.1 h1;obtain⟨e1,e2,_⟩:=Iz (iR hex) _ _ hl.2.2.2 h3;refine⟨by simp[A0],⟨hx.tx,hx.kt,e1⟩,?_⟩;have:=hx.sz;simp only[A0,N.cons,Nd.size,Fo.sz];omega
   · cases h
 split at h
 · split at h
   · split at h
     · cases h
     rename_i x h1
     cases h
     exact rL (hex _ _ _ hl.1 hl.2.1 h1) (by simp only[Fo.sz];omega) (Nat.zero_le _)
   · cases h
 · cases h
theorem pZ{l:Fo}{a:N}(h1:NW l a):NW (.cons h hk l) a:=⟨h1.tx,h1.kt,by have:=h1.sz;simp only[Fo.sz];omega⟩
theorem Nh:∀n,EW (Cc n)
 |0=>λ_ _ _ _ _ h=>by cases h
 |n+1=>λt k a ht hk h=>by
   have ih:=Nh n;unfold Cc at h;simp only[need] at h
   repeat' (split at h)
   all_goals first
     |(cases h;done)
     |exact pZ (ZG ih hk.2.2.2 h)
     |(cases h;first|exact dD (t:=t) (Nat.zero_le _)|exact dD (t:=t) ht.2|exact nT ih hk hk.1.2 (by assumption)|exact uH ih hk (Nat.zero_le _) (by assumption))
theorem bG(n:Nat):EW (Hi n):=λt k a ht hk h=>by
 unfold Hi at h;simp only[need] at h
 repeat' (split at h)
 all_goals first
   |(cases h;done)
   |(cases h;exact nT (S0 n) hk hk.1.2 (by assumption))
theorem R6:∀(k:Fo)(x:Nd),k.ok→BV k=some x→x.txb∧x.size≤k.sz
 |.nil,x,_,h=>by cases h;exact⟨tQ,Nat.le_refl _⟩
 |.cons v _ r,x,hk,h=>by
   unfold BV at h
   split at h
   · cases hr:BV r with
     |none=>rw[hr] at h;cases h
     |some y =>
       rw[hr] at h
       cases h
       have:=R6 r y hk.2.2.2 hr;exact⟨⟨hk.1.2,tQ,this.1⟩,by simp only[A0,N.cons,Nd.size,Fo.sz];omega⟩
   · cases h
theorem fQ(n:Nat):EW (C9 n):=λt k a ht hk h=>by
 unfold C9 at h;simp only[need] at h
 split at h
 · cases h
 rename_i hd hkk l;have hl:=hk.2.2.2
 split at h
 · split at h
   · split at h
     · split at h
       · split at h
         · cases h
         rename_i vs hv
         split at h
         · cases h
         rename_i cs h1
         cases h
         obtain⟨e1,e2⟩:=R6 _ _ hl.2.2.2.2.1 hv;obtain⟨e3,e4,_⟩:=Iz (bG n) _ _ hl.2.2.2.2.2.2 h1;refine⟨hl.1.2,Pu e1 e3,?_⟩;simp only[A0,Kw,Fo.sz] at e4 ⊢;omega
       · cases h
     · cases h
   split at h
   · split at h
     · split at h
       · split at h
         · cases h
         rename_i x h1
         split at h
         · cases h
         rename_i y h3
         cases h
         exact sY (S0 n _ _ _ hl.2.2.2.1 hl.2.2.2.2.1 h1) (Nh n _ _ _ hl.2.2.2.2.2.2.1 hl.2.2.2.2.2.2.2.1 h3) (by simp only[Fo.sz];omega) hl.1.2
       · cases h
     · cases h
   split at h
   · split at h
     · split at h
       · split at h
         · cases h
         rename_i x h1
         cases h
         exact rL (Nh n _ _ _ hl.2.2.2.1 hl.2.2.2.2.1 h1) (by simp only[Fo.sz];omega) hl.1.2
       · cases h
     · cases h
   split at h
   · split at h
     · split at h
       · split at h
         · cases h
         rename_i x h1
         cases h
         exact rL (Nh n _ _ _ hl.2.2.2.1 hl.2.2.2.2.1 h1) (by simp only[Fo.sz];omega) hl.1.2
       · cases h
     · cases h
   split at h
   · split at h
     · split at h
       · cases h
       rename_i x h1
       cases h
       exact rL (Nh n _ _ _ hl.1 hl.2.1 h1) (by simp only[Fo.sz];omega) (Nat.zero_le _)
     · cases h
   · cases h
 · cases h
def EX(f:AK→Fo→R N):Prop:=∀t k a,f t k=.ok a→Gq a.op a.kids
theorem KZ{f:AK→Fo→R N}(hf:EX f):∀(fo:Fo)(x:Nd),Bk f fo=.ok x→x.wfm 0
 |.nil,x,h=>by cases h;exact .inl rfl
 |.cons t k r,x,h=>by
   unfold Bk at h
   split at h
   · cases h
   rename_i a h1
   split at h
   · cases h
   rename_i b h2
   cases h
   exact⟨hf t k a h1,KZ hf r b h2⟩
theorem JV{f:AK→Fo→R N}:∀(fo:Fo)(x:Nd),Bk f fo=.ok x→x.len=fo.len
 |.nil,x,h=>by cases h;rfl
 |.cons t k r,x,h=>by
   unfold Bk at h
   split at h
   · cases h
   split at h
   · cases h
   rename_i b h2
   cases h
   simp only[N.cons,Nd.len,Fo.len,JV r b h2]
theorem XF{ex:AK→Fo→R N}(hex:EX ex):∀(fo:Fo)(x:Nd),Bk (GN n ex) fo=.ok x→x.wfm 1
 |.nil,x,h=>by cases h;exact .inr rfl
 |.cons t k r,x,h=>by
   unfold Bk at h
   split at h
   · cases h
   rename_i a h1
   split at h
   · cases h
   rename_i b h2
   cases h
   refine⟨?_,XF hex r b h2⟩;unfold GN at h1;simp only[need] at h1
   repeat' (split at h1)
   all_goals first
     |(cases h1;done)
     |(rename_i h3;cases h1;exact hex _ _ _ h3)
theorem oW:∀(hs:Nd){x:N},Gq x.op x.kids→(hs.app x.one).wfm 4
 |.nil,x,h=>.inl ⟨rfl,h⟩
 |.cons op ln co tx nm k r,x,h=>by
   refine .inr ⟨?_,oW r h⟩
   cases r <;> simp[Nd.app,N.one,N.cons]
theorem ZV:∀{x:Nd},x.wfm 0→x.len=3→x.wfm 7
 |.cons _ _ _ _ _ _ (.cons _ _ _ _ _ _ (.cons _ _ _ _ _ _ .nil)),h,_=>⟨h.1,h.2.1,h.2.2.1⟩
 |.nil,_,h=>by cases h
 |.cons _ _ _ _ _ _ .nil,_,h=>by cases h
 |.cons _ _ _ _ _ _ (.cons _ _ _ _ _ _ .nil),_,h=>by cases h
 |.cons _ _ _ _ _ _ (.cons _ _ _ _ _ _ (.cons _ _ _ _ _ _ (.cons _ _ _ _ _ _ _))),_,h=>by simp[Nd.len] at h
theorem bE{ex:AK→Fo→R N}(hex:EX ex){t:AK}{w:lU}{l:Fo}{a:N}(h:Bh n ex t w l=.ok a):Gq a.op a.kids:=by
 unfold Bh at h;simp only[need] at h
 split at h
 · repeat' (split at h)
   all_goals first
     |(cases h;done)
     |(rename_i h3;cases h;exact .inr (.inr (.inl ⟨rfl,oW _ (hex _ _ _ h3)⟩)))
 split at h
 · repeat' (split at h)
   all_goals first
     |(cases h;done)
     |(rename_i h1 _ _ h3;cases h;exact .inr (.inr (.inr (.inr (.inl ⟨.inl rfl,hex _ _ _ h1,hex _ _ _ h3⟩)))))
 split at h
 · repeat' (split at h)
   all_goals first
     |(cases h;done)
     |(rename_i h1 _ _ h3;cases h;exact .inr (.inr (.inr (.inr (.inl ⟨.inr rfl,hex _ _ _ h1,hex _ _ _ h3⟩)))))
 split at h
 · split at h
   · rename_i hn
     split at h
     · cases h
     rename_i ks h1
     cases h
     have e:=JV _ _ h1;have hn:=beq_iff_eq.1 hn;exact .inr (.inr (.inr (.inr (.inr (.inl ⟨rfl,ZV (KZ hex _ _ h1) (show ks.len=3 by omega)⟩)))))
   · cases h
 split at h
 · split at h
   · rename_i hn
     split at h
     · cases h
     rename_i ks h1
     cases h
     have e:=JV _ _ h1;have hn:=of_decide_eq_true hn;exact .inr (.inr (.inr (.inl ⟨.inr rfl,by show 0<ks.len;omega,KZ hex _ _ h1⟩)))
   · cases h
 split at h
 · split at h
   · split at h
     · cases h
     rename_i ks h1
     cases h
     exact .inr (.inr (.inr (.inr (.inr (.inr (.inl ⟨rfl,KZ hex _ _ h1⟩))))))
   · cases h
 split at h
 · split at h
   · split at h
     · cases h
     · split at h
       · cases h
       rename_i x h1
       split at h
       · cases h
       rename_i ars h3
       cases h
       refine .inr (.inr (.inr (.inr (.inr (.inr (.inr (.inl ⟨?_,hex _ _ _ h1,XF hex _ _ h3⟩)))))));simp only[A0]
       split
       · exact .inr rfl
       · exact .inl rfl
   · cases h
 split at h
 · split at h
   · split at h
     · cases h
     rename_i x h1
     cases h
     refine .inr (.inr (.inr (.inr (.inr (.inr (.inr (.inr ⟨?_,hex _ _ _ h1⟩)))))));simp only[A0]
     split
     · exact .inr rfl
     · exact .inl rfl
   · cases h
 · cases h
theorem LR:∀n,EX (Cc n)
 |0=>λ_ _ _ h=>by cases h
 |n+1=>λt k a h=>by
   have ih:=LR n;unfold Cc at h;simp only[need] at h
   iterate 4
     split at h
     · cases h;first|exact .inr (.inl ⟨rfl,.inl rfl⟩)|exact .inl (by simp[A0])
   split at h
   · split at h
     · cases h;exact .inl (by simp[A0])
     · cases h
   split at h
   · cases h;exact .inl (by simp[A0])
   split at h
   · split at h
     · split at h
       · cases h
       rename_i ks h1
       cases h
       exact .inr (.inl ⟨rfl,KZ ih _ _ h1⟩)
     · cases h
   split at h
   · exact bE ih h
   · split at h
     · split at h
       · cases h
       rename_i ks h1
       cases h
       have e:=JV _ _ h1;exact .inr (.inr (.inr (.inl ⟨.inl rfl,by show 0<ks.len;rw[e];exact Nat.succ_pos _,KZ ih _ _ h1⟩)))
     · cases h
theorem fR{t:AK}{k:Fo}{a:N}(h:C9 n t k=.ok a):a.op=41∨(a.op=43∧a.kids.wfm 2)∨((a.op=44∨a.op=45∨a.op=46)∧a.kids.wfm 3):=by
 unfold C9 at h;simp only[need] at h
 split at h
 · cases h
 split at h
 · split at h
   · repeat' (split at h)
     all_goals first
       |(cases h;done)
       |(cases h;exact .inl rfl)
   split at h
   · repeat' (split at h)
     all_goals first
       |(cases h;done)
       |(rename_i h3;cases h;exact .inr (.inl ⟨rfl,LR n _ _ _ h3⟩))
   split at h
   · repeat' (split at h)
     all_goals first
       |(cases h;done)
       |(rename_i h3;cases h;exact .inr (.inr ⟨.inl rfl,LR n _ _ _ h3⟩))
   split at h
   · repeat' (split at h)
     all_goals first
       |(cases h;done)
       |(rename_i h3;cases h;exact .inr (.inr ⟨.inr (.inl rfl),LR n _ _ _ h3⟩))
   split at h
   · repeat' (split at h)
     all_goals first
       |(cases h;done)
       |(rename_i h3;cases h;exact .inr (.inr ⟨.inr (.inr rfl),LR n _ _ _ h3⟩))
   · cases h
 · cases h
theorem WW:∀(fo:Fo)(x:Nd),Bk (C9 n) fo=.ok x→x.wft
 |.nil,x,h=>by cases h;trivial
 |.cons t k r,x,h=>by
   unfold Bk at h
   split at h
   · cases h
   rename_i a h1
   split at h
   · cases h
   rename_i b h2
   cases h
   exact⟨fR h1,WW r b h2⟩
theorem P4:∀(a:Fo)(t:AK)(k:Fo),(a.snoc t k).sz=a.sz+k.sz+1
 |.nil,_,_=>by simp[Fo.snoc,Fo.sz]
 |.cons _ _ r,t,k=>by simp only[Fo.snoc,Fo.sz,P4 r t k];omega
def VD:List (AK×Fo)→Nat
 | []=>0
 |(_,p)::s=>p.sz+1+VD s
theorem Km:∀(l:List AK)(st:List (AK×Fo))(cur fo:Fo),Bn l st cur=.ok fo→fo.sz≤VD st+cur.sz+l.length
 | [],[],cur,fo,h=>by simp only[Bn] at h;cases h;simp[VD]
 | [],(o,p)::s,cur,fo,h=>by unfold Bn at h;split at h <;> cases h
 |k::l,st,cur,fo,h=>by
   unfold Bn at h
   split at h
   · split at h
     · cases h
     · have:=Km l _ _ _ h
       simp only[VD,Fo.sz,List.length_cons] at this ⊢;omega
   · split at h
     · cases st with
       |nil=>cases h
       |cons op s =>
         have:=Km l _ _ _ h;simp only[VD,P4,List.length_cons] at this ⊢;omega
     · have:=Km l _ _ _ h
       simp only[P4,Fo.sz,List.length_cons] at this ⊢;omega
structure uE(nds:Nd):Prop where
 wft:nds.wft
 txb:nds.txb
 size:nds.size≤200000
theorem ZQ(n:Nat)(src:lU):uE (Kf n (KG src)).1:=by
 unfold Kf
 cases hl:KG src with
 |error e=>exact⟨tQ,tQ,Nat.zero_le _⟩
 |ok toks =>
   obtain⟨h1,h2⟩:=Uo hl;simp only
   cases ht:Bn toks [] .nil with
   |error e=>exact⟨tQ,tQ,Nat.zero_le _⟩
   |ok fo =>
     simp only
     cases he:Bk (C9 n) fo with
     |error e=>exact⟨tQ,tQ,Nat.zero_le _⟩
     |ok nds =>
       have h3:=(Gv toks 0 [] .nil fo h2 oM (by simp) tQ tQ (by simp[Fo.len]) (by rfl) ht).1;have h4:=Km toks [] .nil fo ht;obtain⟨e1,e2,_⟩:=Iz (fQ n) fo nds h3 he;simp only[VD,Fo.sz] at h4;exact⟨WW fo nds he,e1,by show nds.size≤_;omega⟩
theorem XO{a b:Int}:((a,b,11):Er).2.2≠0:=(by decide:(11:Int)≠0)
theorem e4{a b:Int}:((a,b,4):Er).2.2≠0:=(by decide:(4:Int)≠0)
theorem aA{b:BR}{n:Int}{t:T1}{x:Int}(h:Ci b n t=.error x):x≠0:=by
 unfold Ci at h
 repeat' split at h
 all_goals (cases h;try decide)
theorem NX{f:BR→Ty→Ty→Except Int BR}(hf:∀ {b x y e},f b x y=.error e→e≠0){b:BR}{x y:T1}{r q:Ty}{e:Int}(h:HT f b x y r q=.error e):e≠0:=by
 unfold HT at h
 repeat' split at h
 all_goals first
   |exact hf h
   |(cases h;first|decide|exact aA (by assumption))
theorem KS:∀(k:Nat){b:BR}{x y:Ty}{e:Int},KY k b x y=.error e→e≠0
 |k,b,.nil,y,e,h=>by cases k <;> cases h
 |0,b,.var _ _,y,e,h=>by cases h;decide
 |0,b,.con _ _ _,y,e,h=>by cases h;decide
 |k+1,b,.var n r,y,e,h=>NX (KS k) h
 |k+1,b,.con tx ka r,y,e,h=>NX (KS k) h
section
variable{s:CS}{e:Ba}{ln co:Int}{tx:lU}{t u:T1}{x:Er}
theorem Hd(h:EC s t u ln co=.error x):x.2.2≠0:=by
 unfold EC at h
 split at h
 · rename_i h1;cases h;exact KS _ h1
 · cases h
theorem Kj(h:G4 s t ln co=.error x):x.2.2≠0:=by
 unfold G4 at h
 split at h
 · cases h;first|exact XO|exact e4
 · cases h
theorem Pp{v:Bool}(h:Gw s e tx t v ln co=.error x):x.2.2≠0:=by
 unfold Gw at h
 repeat' split at h
 · rename_i h1;cases h;exact Kj h1
 · cases h
 · cases h
theorem Ut{k:Nat}(h:Ib s tx k ln co=.error x):x.2.2≠0:=by
 unfold Ib at h
 repeat' split at h
 all_goals (cases h;try exact XO)
theorem aT(h:GR s e tx ln co=.error x):x.2.2≠0:=by
 unfold GR at h
 repeat' split at h
 · cases h;first|exact XO|exact e4
 · rename_i h1;cases h;exact Kj h1
 · cases h
end
def uK(p:L1):Prop:=∀{s e op ln co tx nm k x},p s e op ln co tx nm k=.error x→x.2.2≠0
def tZ(p:LS):Prop:=∀{s e op ln co tx nm k x},p s e op ln co tx nm k=.error x→x.2.2≠0
section
variable{p:L1}(hp:uK p)
include hp
theorem OE{e:Ba}:∀(k:Nd){s:CS}{x:Er},DW p e s k=.error x→x.2.2≠0
 |.nil,_,_,h=>by cases h
 |.cons op ln co tx nm k r,s,x,h=>by
   unfold DW at h
   split at h
   · rename_i h1;cases h;exact hp h1
   · split at h
     · rename_i h2;cases h;exact OE r h2
     · cases h
theorem Us{e:Ba}:∀(k:Nd){s:CS}{l:Ty}{x:Er},FR p e s l k=.error x→x.2.2≠0
 |.nil,_,_,_,h=>by cases h
 |.cons op ln co tx nm k r,s,l,x,h=>by
   unfold FR at h
   split at h
   · rename_i h1;cases h;exact hp h1
   · split at h
     · rename_i h2;cases h;exact Hd h2
     · exact Us r h
theorem Yx{e:Ba}:∀(k:Nd){s:CS}{t:T1}{x:Er},Jw p e s t k=.error x→x.2.2≠0
 |.nil,_,_,_,h=>by cases h
 |.cons op ln co tx nm k r,s,t,x,h=>by
   unfold Jw at h
   split at h
   · rename_i h1;cases h;exact hp h1
   · split at h
     · rename_i h2;cases h;exact Hd h2
     · exact Yx r h
variable {k:Nd}
theorem Xr{s:CS}{e:Ba}{ln co o l c m:Int}{tx x:lU}{y:Er}(h:GO p s e ln co tx o l c x m k=.error y):y.2.2≠0:=by
 unfold GO at h
 split at h
 · rename_i h1;cases h;exact hp h1
 · split at h
   · rename_i h2;cases h;exact Hd h2
   · cases h
omit hp
variable{q:LS}(hq:tZ q)
include hq
theorem RL:∀(k:Nd){s:CS}{e:Ba}{l:Ty}{x:Er},FU q s e l k=.error x→x.2.2≠0
 |.nil,_,_,_,_,h=>by cases h
 |.cons op ln co tx nm k r,s,e,l,x,h=>by
   unfold FU at h
   split at h
   · rename_i h1;cases h;exact hq h1
   · split at h
     · rename_i h2;cases h;exact Hd h2
     · exact RL r h
theorem Qo:∀(k:Nd){s:CS}{e:Ba}{x:Er},EP q s e k=.error x→x.2.2≠0
 |.nil,_,_,_,h=>by cases h
 |.cons op ln co tx nm k r,s,e,x,h=>by
   unfold EP at h
   split at h
   · rename_i h1;cases h;exact hq h1
   · split at h
     · rename_i h2;cases h;exact Qo r h2
     · cases h
theorem aE{s:CS}{e:Ba}{op ln co:Int}{tx:lU}{x:Er}(h:CJ q s e op ln co tx k=.error x):x.2.2≠0:=by
 unfold CJ at h
 repeat' (split at h)
 all_goals first
   |(cases h;done)
   |(cases h;first|exact Ut (by assumption)|exact RL hq _ (by assumption)|exact Qo hq _ (by assumption))
omit hq
theorem Ym:∀n,tZ (Cj n)
 |0=>λh=>by cases h;first|exact XO|exact e4
 |n+1=>λh=>by
   unfold Cj at h
   split at h
   · rename_i h1;cases h;exact aE (Ym n) h1
   · split at h
     · rename_i h1;cases h;exact Kj h1
     · cases h
include hp
theorem L9{e:Ba}{pt:T1}:∀(k:Nd){s:CS}{t:Option T1}{x:Er},Dv n p e pt s t k=.error x→x.2.2≠0
 |.nil,_,_,_,h=>by unfold Dv at h;cases h
 |.cons _ _ _ _ _ ks r,s,t,x,h=>by
   unfold Dv at h
   split at h
   · split at h
     · rename_i h1;cases h;exact Ym _ h1
     · split at h
       · rename_i h1;cases h;exact Hd h1
       · split at h
         · rename_i h1;cases h;exact hp h1
         · split at h
           · split at h
             · rename_i h1;cases h;exact Hd h1
             · exact L9 r h
           · exact L9 r h
   · cases h
theorem ZY{s:CS}{e:Ba}{op ln co:Int}{tx:lU}{x:Er}(h:Bi n p s e op ln co tx k=.error x):x.2.2≠0:=by
 unfold Bi at h
 by_cases o1:(op==1)=true
 · rw[if_pos o1] at h
   cases h
 rw[if_neg o1] at h
 by_cases o2:(op==2)=true
 · rw[if_pos o2] at h
   cases h
 rw[if_neg o2] at h
 by_cases o3:(op==3)=true
 · rw[if_pos o3] at h
   cases h
 rw[if_neg o3] at h
 by_cases o4:(op==4)=true
 · rw[if_pos o4] at h
   cases h
 rw[if_neg o4] at h
 by_cases o5:(op==5)=true
 · rw[if_pos o5] at h
   exact aT h
 rw[if_neg o5] at h
 by_cases o6:(op==6)=true
 · rw[if_pos o6] at h
   split at h
   · rename_i h1;cases h;exact Ut h1
   split at h
   · rename_i h1;cases h;exact Us hp _ h1
   cases h
 rw[if_neg o6] at h
 by_cases o7:(op==7)=true
 · rw[if_pos o7] at h
   split at h
   · cases h
   simp only at h
   split at h
   · rename_i h1;cases h;exact hp h1
   cases h
 rw[if_neg o7] at h
 by_cases o8:(op==8)=true
 · rw[if_pos o8] at h
   split at h
   · cases h
   split at h
   · rename_i h1;cases h;exact hp h1
   exact Yx hp _ h
 rw[if_neg o8] at h
 by_cases o9:(op==9)=true
 · rw[if_pos o9] at h
   split at h
   · split at h
     · rename_i h1;cases h;exact hp h1
     split at h
     · rename_i h1
       cases h
       split at h1
       · cases h1
       · exact Pp h1
     exact hp h
   · cases h
 rw[if_neg o9] at h
 by_cases o10:(op==10)=true
 · rw[if_pos o10] at h
   split at h
   · split at h
     · rename_i h1;cases h;exact Xr hp h1
     split at h
     · rename_i h1;cases h;exact Pp h1
     exact hp h
   · cases h
 rw[if_neg o10] at h
 by_cases o11:(op==11)=true
 · rw[if_pos o11] at h
   split at h
   · split at h
     · rename_i h1;cases h;exact hp h1
     split at h
     · rename_i h1;cases h;exact Hd h1
     split at h
     · rename_i h1;cases h;exact hp h1
     split at h
     · rename_i h1;cases h;exact hp h1
     split at h
     · rename_i h1;cases h;exact Hd h1
     cases h
   · cases h
 rw[if_neg o11] at h
 by_cases o12:(op==12)=true
 · rw[if_pos o12] at h
   split at h
   · rename_i h1;cases h;exact OE hp _ h1
   cases h
 rw[if_neg o12] at h
 by_cases o13:(op==13)=true
 · rw[if_pos o13] at h
   split at h
   · rename_i h1;cases h;exact OE hp _ h1
   cases h
 rw[if_neg o13] at h
 by_cases o14:(op==14)=true
 · rw[if_pos o14] at h
   split at h
   · cases h
   split at h
   · rename_i h1;cases h;exact hp h1
   exact L9 hp _ h
 rw[if_neg o14] at h
 by_cases o15:(op==15)=true
 · rw[if_pos o15] at h
   split at h
   · cases h
   split at h
   · rename_i h1;cases h;exact hp h1
   exact L9 hp _ h
 rw[if_neg o15] at h
 by_cases o16:(op==16)=true
 · rw[if_pos o16] at h
   split at h
   · cases h
   split at h
   · rename_i h1;cases h;exact hp h1
   split at h
   · rename_i h1;cases h;exact Hd h1
   cases h
 rw[if_neg o16] at h
 split at h
 · cases h
 exact hp h
omit hp
theorem SI:∀n,uK (BZ n)
 |0=>λh=>by cases h;first|exact XO|exact e4
 |n+1=>λh=>by
   unfold BZ at h
   split at h
   · rename_i h1;cases h;exact ZY (SI n) h1
   · split at h
     · rename_i h1;cases h;exact Kj h1
     · cases h
end
theorem PO{d:List (lU×Int)}{v:List (lU×T1)}:∀(k:Nd){x:Er},FF d v k=.error x→x.2.2≠0
 |.nil,_,h=>by cases h
 |.cons op ln co tx nm k r,x,h=>by
   have ih1:=λ{x:Er}=>PO (d:=d) (v:=v) k (x:=x);have ih2:=λ{x:Er}=>PO (d:=d) (v:=v) r (x:=x);rw[Je] at h
   split at h
   · rename_i h1
     cases h
     unfold CB at h1
     split at h1
     · split at h1
       · cases h1
       · cases h1;exact XO
     · split at h1
       · split at h1
         · rename_i h2;cases h1;exact ih1 h2
         · cases h1
       · cases h1;exact XO
   · split at h
     · rename_i h2;cases h;exact ih2 h2
     · cases h
theorem LY{ln co:Int}:∀(k:Nd){v:Int}{m:List (lU×T1)}{self:Ty}{nums:List Int}{x:Er},DO ln co k v m self nums=.error x→x.2.2≠0
 |.nil,_,_,_,_,_,h=>by cases h
 |.cons op _ _ tx _ _ r,v,m,self,nums,x,h=>by
   unfold DO at h
   repeat' (split at h)
   · cases h;first|exact XO|exact e4
   · exact LY r h
   · exact LY r h
theorem Mi{d:List (lU×Int)}{m:List (lU×T1)}{out:T1}{nums:List Int}:∀(k:Nd){c:List (lU×Mk)}{x:Er},Dz d m out nums k c=.error x→x.2.2≠0
 |.nil,_,_,h=>by cases h
 |.cons op ln co tx _ kids r,c,x,h=>by
   unfold Dz at h
   repeat' (split at h)
   · cases h;first|exact XO|exact e4
   · rename_i h1;cases h;exact PO _ h1
   · exact Mi r h
   · exact Mi r h
variable {k:Nd}
theorem Z7{s:CS}{ln co:Int}{tx:lU}{x:Er}(h:Gt s ln co tx k=.error x):x.2.2≠0:=by
 unfold Gt at h
 split at h
 · cases h;first|exact XO|exact e4
 · split at h
   · rename_i h1;cases h;exact LY _ h1
   · simp only at h
     split at h
     · rename_i h1;cases h;exact Mi _ h1
     · cases h
theorem kE{s:CS}{e:Ba}{op ln co:Int}{tx:lU}{x:Er}(h:Dn s e op ln co tx k=.error x):x.2.2≠0:=by
 unfold Dn at h
 repeat' (split at h)
 all_goals first
   |(cases h;done)
   |(cases h;first|exact XO|exact Z7 (by assumption)|exact PO _ (by assumption)|exact SI _ (by assumption)|exact Hd (by assumption)|exact Xr (SI _) (by assumption)|exact Pp (by assumption))
theorem OM:∀(k:Nd){s:CS}{e:Ba}{out:List (lU×T1)}{x:Er},DY s e k out=.error x→x.2.2≠0
 |.nil,_,_,_,_,h=>by cases h
 |.cons op ln co tx nm k r,s,e,out,x,h=>by
   unfold DY at h
   split at h
   · rename_i h1;cases h;exact kE h1
   · exact OM r h
   · exact OM r h
theorem Zx{s:CS}:∀{l:List (lU×T1)}{x:Er},JH s l=.error x→x.2.2≠0
 | [],_,h=>by cases h
 |(n,t)::l,x,h=>by
   unfold JH at h
   split at h
   · rename_i h1;cases h;exact Kj h1
   · split at h
     · rename_i h1;cases h;exact Zx h1
     · cases h
theorem Xg{x:Er}(h:C5 k=.error x):x.2.2≠0:=by
 unfold C5 at h
 split at h
 · rename_i h1;cases h;exact OM k h1
 · exact Zx h
end Go.SP
namespace Go.Proofs.YtkahkniflkadoabGreatDoor
open Go.SW Go.SP Go.RowKit Go.Proofs.Tryz
abbrev RB:=RI (List (lU×lU))
def M4(src:lU):RB:=bif (CW src).2.2.2==0 then C5 (CW src).1 else .error ((CW src).2.1,(CW src).2.2.1,(CW src).2.2.2)
def ZD:RB→Int×Int×Int
 |.error e=>e
 |.ok _=>(0,0,0)
def pP:RB→List (lU×lU)
 |.error _=>[]
 |.ok l=>l
abbrev uN(r:RB)(x:Option Addr×Nat):Value:=.tuple #[.slice x.1 (pP r).length x.2,.agg #[.int .i64 (ZD r).1,.int .i64 (ZD r).2.1],.int .i64 (ZD r).2.2]
def uF(r:RB)(w:World)(f:Fq):Value→World→Prop:=B4 (α:=Option Addr×Nat) (uN r) (λ_=>True) (λx=>[λw f=>L6 w f (pP r) x.1 x.2]) w f
variable {f:Fq}{a:Option Addr}{w w':World}{src:lU}
theorem Wv.out{nds:Nd}{v:Value}(h:Wv nds w f v w'):uF (C5 nds) w f v w':=by
 obtain⟨f',hE,h⟩:=h
 cases hi:C5 nds with
 |error er =>
   rw[hi] at h;exact⟨(none,0),f',h,tQ,hE,⟨Nat.zero_le _,.inl rfl⟩,tQ⟩
 |ok bs =>
   rw[hi] at h;obtain⟨a,c,h1,h2⟩:=h;exact⟨(a,c),f',h1,tQ,hE,h2,tQ⟩
theorem XA(w:World)(f:Fq)(hv:Vl w f)(hG:EM w f)(nds:Nd)(na:Option Addr)(nc:Nat)(hwt:nds.wft)(hsz:nds.size≤200000)(htb:nds.txb)(hN:AD w f nds na nc) :
   Bq prog 7 #[.slice na nds.len nc] w (uF (C5 nds) w f):=(T7 w f hv hG nds na nc hwt hsz htb hN).mono λ_ _ h=>Wv.out h
theorem H2(src:lU):uE (CW src).1:=ZQ 200 src
theorem Q2(h:(CW src).2.2.2=0):M4 src=C5 (CW src).1:=by unfold M4;rw[h];rfl
theorem Zp(h:(CW src).2.2.2≠0):M4 src=.error ((CW src).2.1,(CW src).2.2.1,(CW src).2.2.2):=by
 unfold M4;rw[show ((CW src).2.2.2==0)=false by simpa using h];rfl
theorem U5:∀(a b:Nd)(x off:Nat),N8 w f (a.app b) x off→N8 w f a x off
 |.nil,_,_,_,_=>trivial
 |.cons _ _ _ _ _ _ r,b,x,off,⟨h1,h2⟩=>⟨h1,U5 r b x _ h2⟩
theorem len_app:∀(a b:Nd),(a.app b).len=a.len+b.len
 |.nil,b=>(Nat.zero_add _).symm
 |.cons _ _ _ _ _ _ r,b=>by show (r.app b).len+1=r.len+1+b.len;rw[len_app r b];omega
theorem cW{a b:Nd}{x:Option Addr}{c:Nat}(h:AD w f (a.app b) x c):AD w f a x c:=by
 refine⟨by have:=h.1;rw[len_app] at this;omega,?_⟩
 cases a with
 |nil=>exact .inl rfl
 |cons op ln co tx nm k r =>
   rcases h.2 with h|⟨y,off,h1,h2⟩
   · cases h
   · exact .inr ⟨y,off,h1,U5 _ b _ _ h2⟩
theorem L6.opn{l:List (lU×lU)}{c:Nat}(h:L6 w f l a c)(hl:l≠[]):∃x:Nat×Nat,a=some ⟨x.1,x.2,none⟩∧Cs w f x.1 x.2 (bC l) :=
 h.2.elim (λh=>absurd h hl) λ⟨b,off,h1,h2⟩=>⟨(b,off),h1,h2⟩
end Go.Proofs.YtkahkniflkadoabGreatDoor
namespace Go.Proofs.YtkahkniflkadoabGreatDoor
open Go.SW Go.SP Go.RowKit Go.Lib
section
variable{P:Program}{w:World}
variable {e t:TypeId}
theorem Pc{g:Nat}{k:IntKind}{zero:Array Value}(h:w.ShapedOpen P)(hg:g<P.globals.size)
   (h0:((begin P (λ_ _=>0) default).world.heap[g]?).bind Obj.row?=some (zero,t)) (hz:zero.size=1)
   (hb:P.buildable t=true) (hc:P.cellTypes P.depth t=some [t]) (hu:P.underlying t=some (.int k)):∃m,w.cell? ⟨g,0,none⟩=some (.int k m):=by
 obtain⟨cs,hh,hs,hr⟩:=h.1 g zero t hg h0;obtain⟨ts,hts,_,hall⟩:=hr hb;rw[hc] at hts
 cases hts
 have h1:0<cs.size:=oM;obtain⟨u,hu',hok⟩:=hall 0 cs[0] (by simp[h1]);have:u=t:=by simpa using hu'.symm
 subst this;have hcell:w.cell? ⟨g,0,none⟩=some cs[0]:=by simp[World.cell?,hh,h1]
 rw[hcell];unfold Cell.ok at hok;rw[hu] at hok
 cases hv:cs[0] with
 |int k' m =>
   rw[hv] at hok
   have hk:k'=k:=by
     simp at hok;exact hok.1
   exact⟨m,by rw[hk]⟩
 |_=>rw[hv] at hok;simp at hok
theorem IT{n:String}{g:Nat}{cs:Array Value}(hg:P.globalNamed n=some g)(hv:w.var? P n=some cs)(o:Nat):w.cell? ⟨g,o,none⟩=cs.toList[o]?:=by
 rw[World.var?_cell hg hv o,Array.getElem?_toList]
theorem Tw{n:String}{g:Nat}{b:Bool}(hn:P.globalNamed n=some g)(hy:(P.globals[g]?).map (·.type)=some t)(ht:P.underlying t=some .bool)(h:VarReads P w n (.lit (.bool b))):w.cell? ⟨g,0,none⟩=some (.bool b):=by
 obtain⟨g',t',cs,fuel,p,hg,hty,hvar,hd⟩:=h;obtain rfl:=Option.some.inj (hn.symm.trans hg);obtain rfl:=Option.some.inj (hy.symm.trans hty);obtain⟨b',hc,hx⟩:=DataW.trod_bool ht hd;rw[IT hn hvar,hc]
 cases hx
 rfl
theorem RS{n:String}{g:Nat}{ms}{d:DataW Unit}(hn:P.globalNamed n=some g)(hy:(P.globals[g]?).map (·.type)=some t)(ht:P.underlying t=some (.interface ms))(h:VarReads P w n d) :
   ∃v,w.cell? ⟨g,0,none⟩=some v∧(v=.nilIface∨∃te pe,v=.iface te pe):=by
 obtain⟨g',t',cs,fuel,p,hg,hty,hvar,hd⟩:=h;obtain rfl:=Option.some.inj (hn.symm.trans hg);obtain rfl:=Option.some.inj (hy.symm.trans hty);rw[IT hn hvar]
 cases fuel with
 |zero=>simp[DataW.trod] at hd
 |succ fuel =>
   unfold DataW.trod at hd;rw[ht] at hd;generalize cs.toList=l at hd
   split at hd
   all_goals first
     |(rename_i heq;cases heq;done)
     |(rename_i h1 h2;cases h1;done)
     |(exact⟨_,rfl,.inl rfl⟩)
     |(exact⟨_,rfl,.inr ⟨_,_,rfl⟩⟩)
     |cases hd
theorem Sj{n:String}{g:Nat}{fs:Array Field}{f:Field}{k:IntKind}{z:Int}{ds:List (DataW Unit)}(hn:P.globalNamed n=some g)(hy:(P.globals[g]?).map (·.type)=some t)(ht:P.underlying t=some (.struct fs))
   (hf:fs[0]?=some f) (hfo:f.offset=0) (hft:P.underlying f.type=some (.int k)) (hfc:P.cellsOf f.type=1) (h:VarReads P w n (.agg (.lit (.int k z)::ds))):w.cell? ⟨g,0,none⟩=some (.int k z):=by
 obtain⟨g',t',cs,fuel,p,hg,hty,hvar,hd⟩:=h;obtain rfl:=Option.some.inj (hn.symm.trans hg);obtain rfl:=Option.some.inj (hy.symm.trans hty);obtain⟨xs,m,rfl,hx,hl,hxl,hall⟩:=DataW.trod_struct ht hd;have h0:=hall 0 f hf;have e0:xs.map (·.1)=.lit (.int k z)::ds:=by have:=congrArg Prod.fst hx;simpa using this.symm
 cases xs with
 |nil=>cases e0
 |cons x xs =>
   simp only[List.map_cons,List.cons.injEq] at e0;obtain⟨z',hz,hz2,_⟩:=DataW.trod_int hft (h0.trans (by rfl));rw[IT hn hvar]
   have hzz:z'=z:=by
     have:=hz2▸e0.1;simpa using this
   subst hzz;rw[hfo,hfc,List.drop_zero] at hz
   cases hcs:cs.toList with
   |nil=>rw[hcs] at hz;cases hz
   |cons c r=>rw[hcs] at hz;simp at hz;simp[hz]
theorem Qt{n:String}{g:Nat}{l:List (DataW Unit)}{c:Nat}{m:Int}(hn:P.globalNamed n=some g)(hy:(P.globals[g]?).map (·.type)=some t)(ht:P.underlying t=some (.array 256 e))(he:P.underlying e=some (.int .u8))(hc1:P.cellsOf e=1)
   (h:VarReads P w n (.agg l)) (hc:c<256) (hl:l[c]?=some (.lit (.int .u8 m))):w.cell? ⟨g,c,none⟩=some (.int .u8 m):=by
 obtain⟨g',t',cs,fuel,p,hg,hty,hvar,hd⟩:=h;obtain rfl:=Option.some.inj (hn.symm.trans hg);obtain rfl:=Option.some.inj (hy.symm.trans hty);obtain⟨xs,k,rfl,hx,hcl,hxl,hall⟩:=DataW.trod_array ht hd;have e0:xs.map (·.1)=l:=by have:=congrArg Prod.fst hx;simpa using this.symm
 have h1:=hall c hc;rw[hc1,Nat.mul_one] at h1;have hxc:xs[c]?=some (xs[c]'oM):=List.getElem?_eq_getElem oM;rw[hxc] at h1;obtain⟨z,hz,hz2,_⟩:=DataW.trod_int he h1;have e1:l[c]?=some ((xs[c]'oM).1):=by rw[← e0,List.getElem?_map,hxc];rfl
 rw[e1,hz2] at hl;have hzm:z=m:=by simpa using hl
 subst hzm;rw[IT hn hvar];have h2:((cs.toList.drop c).take 1)[0]?=some (.int .u8 z):=by rw[hz];rfl
 rw[List.getElem?_take] at h2;simpa using h2
theorem OK{n:String}{g:Nat}{k:FloatKind}{l:List Nat}(hn:P.globalNamed n=some g)(hy:(P.globals[g]?).map (·.type)=some t)(ht:P.underlying t=some (.slice e))(he:P.underlying e=some (.float k))(hc:P.cellsOf e=1)
   (hl:0<l.length) (h:VarReads P w n (.slice (l.map λx=>.lit (.float k x)) [])):∃b off len cap,w.cell? ⟨g,0,none⟩=some (.slice (some ⟨b,off,none⟩) len cap)∧l.length≤len∧∀(j v:Nat),l[j]?=some v→w.cell? ⟨b,off+j,none⟩=some (.float k v):=by
 obtain⟨g',t',cs,fuel,p,hg,hty,hvar,hd⟩:=h;obtain rfl:=Option.some.inj (hn.symm.trans hg);obtain rfl:=Option.some.inj (hy.symm.trans hty);rcases DataW.trod_slice ht hd with ⟨_,hx⟩|⟨a,len,cap,el,rs,m,rfl,hcs,hx,_,hlc,_,hel,helem,hsp,_⟩
 · cases hx
 have e0:=congrArg Prod.fst hx;simp only[DataW.slice.injEq] at e0;have hlen:len=l.length:=by have:=congrArg List.length e0.1;simp at this;omega
 have hcell:∀(j v:Nat),l[j]?=some v→w.cell? (a.add j)=some (.float k v):=by
   intro j v hv;obtain⟨hj,hjv⟩:=List.getElem?_eq_some_iff.1 hv;have h1:=helem j oM;rw[hc,Nat.mul_one] at h1;obtain⟨b,hb⟩:∃b,el[j]?=some b:=⟨el[j]'oM,List.getElem?_eq_getElem oM⟩;rw[hb] at h1;obtain⟨ce,hce,hte⟩:=Option.bind_eq_some_iff.1 h1
   have hb1:b.1=.lit (.float k v):=by
     have:=congrArg (·[j]?) e0.1;simp[hb,hv] at this;exact this.symm
   have hce2:ce=[.float k v]:=by
     cases m with
     |zero=>simp[DataW.trod] at hte
     |succ m =>
       unfold DataW.trod at hte;rw[he] at hte
       split at hte <;> simp_all
       obtain⟨⟨rfl,_⟩,rfl⟩:=hte;simpa using hb1
   obtain⟨_,_,hcc⟩:=World.cells?_some hce;have h0:=hcc 0 oM;rw[hce2] at h0;have e1:(a.add j).add 0=a.add j:=by simp[Addr.add]
   rw[e1] at h0;exact h0
 obtain⟨R,o,sR⟩:=a
 obtain rfl:sR=none:=by
   obtain⟨v0,hv0⟩:∃v,l[0]?=some v:=⟨l[0],List.getElem?_eq_getElem hl⟩;have h00:=hcell 0 v0 hv0;have:(Addr.add ⟨R,o,sR⟩ 0)=⟨R,o,sR⟩:=by simp[Addr.add]
   rw[this] at h00;exact Go.Proofs.cell_spot h00
 refine⟨R,o,len,cap,?_,oM,λj v hv=>?_⟩
 · rw[IT hn hvar,hcs];rfl
 · have:=hcell j v hv
   rwa[DZ] at this
end
end Go.Proofs.YtkahkniflkadoabGreatDoor
namespace Go.SW
open Go.RowKit
def Z0(w:World):Fq:=λb=>match w.heap[b]? with
 |some (.cells cs _ _)=>cs.size
 |_=>0
theorem SM(w:World):Vl w (Z0 w):=λb h=>by
 unfold Z0;rw[Array.getElem?_eq_none h]
variable {b o:Nat}{w:World}
theorem K2{v:Value}(h:w.cell? ⟨b,o,none⟩=some v):o<Z0 w b:=by
 unfold Z0;unfold World.cell? at h
 cases hb:w.heap[b]? with
 |none=>rw[hb] at h;cases h
 |some x =>
   rw[hb] at h
   cases x with
   |cells c e fr=>simpa using (Array.getElem?_eq_some_iff.1 h).1
   |_=>cases h
end Go.SW
namespace Go.Proofs.YtkahkniflkadoabGreatDoor
open Go.SW Go.SP Go.RowKit Go.Lib Go.ChangeShapes Go.WideShapes Go.ChangeAt
theorem own:ownKnob Tryz.prog.godebug=none:=kR
def S2:List Nat:=[4607182418800017408,4621819117588971520,4636737291354636288,4652007308841189376,4666723172467343360,4681608360884174848,4696837146684686336,4711630319722168320,4726483295884279808,4741671816366391296,4756540486875873280,4771362005757984768,4786511204640096256,4801453603149578240,4816244402031689728,4831355200913801216,4846369599423283200,4861130398305394688,4876203697187506176,4891288408196988160,4906019910204099648,4921056587992461136,4936209963552724370]
variable {args:Array Value}{fid:FuncId}{j:Nat}{W:World}
theorem VN{v:Nat}(h:FJ[j]?=some v):S2[j]?=some v:=by
 have e:FJ=S2.take 15:=rfl;rw[e,List.getElem?_take] at h
 split at h
 · exact h
 · cases h
abbrev Ue:List (String×DataW Unit):=Rows.schemaManyRow.laid
theorem Kl(k:Nat){n:String}{d:DataW Unit}(h:laidMet Tryz.prog Ue W)(hk:Ue[k]?=some (n,d):=by rfl):VarReads Tryz.prog W n d:=laidMet.reads h (List.mem_of_getElem? hk)
theorem iG:(Rows.laid_strings_asciiSpace:DataW Unit)=.agg ((List.range 256).map λc=>.lit (.int .u8 (if Lib.isSp (UInt8.ofNat c) then 1 else 0))):=kR
theorem nU(h:laidMetH Tryz.prog Ue W)(hS:W.ShapedOpen Tryz.prog):Gl W∧∀c:Nat,c<256→W.cell? ⟨0,c,none⟩=some (.int .u8 (if Lib.isSp (UInt8.ofNat c) then 1 else 0)):=by
 rw[MakeChecks.laidMetH_plain _ _ _ (by kernel_rfl)] at h;refine⟨⟨?_,?_,?_,?_,?_⟩,?_⟩
 · exact Pc (t:=3) (zero:=#[.int .i64 0]) hS (of_decide_eq_true kR) kR kR kR kR Tryz.underlying3
 · obtain⟨ms,hm⟩:=Hl (show Zq Tryz.prog 169=true by kernel_rfl)
   exact RS (t:=169) kR kR hm (Kl 10 h)
 · exact Tw (t:=4) kR kR Tryz.underlying4 (Kl 4 h)
 · exact Sj (t:=282) kR kR (fs:=Tryz.prog.fieldsOf 282) kR (f:=(Tryz.prog.fieldsOf 282)[0]!) kR kR kR kR
     (Kl 3 h)
 · obtain⟨b,off,n,c,h1,h2,h3⟩:=OK (l:=S2) kR kR (t:=317) (e:=198) kR kR kR dC (Kl 6 h)
   exact⟨b,off,n,c,h1,Nat.le_trans dC h2,λj v hv=>h3 j v (VN hv)⟩
 · intro c hc
   have hr:=Kl 13 h;rw[iG] at hr;exact Qt (t:=181) (e:=5) kR kR kR kR kR hr hc (by rw[List.getElem?_map,List.getElem?_range hc];rfl)
theorem dG(h:laidMetH Tryz.prog Ue W)(hS:W.ShapedOpen Tryz.prog):Da W (Z0 W)∧EM W (Z0 W):=by
 obtain⟨⟨⟨m,hm⟩,⟨v,h1,h2⟩,h3,h4,⟨b,off,n,c,h5,h6,h7⟩⟩,h8⟩:=nU h hS;refine⟨λw' f' hF=>?_,⟨m,λj v hj=>?_⟩,λc hc=>⟨K2 (h8 c hc),h8 c hc⟩⟩
 · have k:∀{b o:Nat}{v:Value},W.cell? ⟨b,o,none⟩=some v→w'.cell? ⟨b,o,none⟩=some v:=λ{b o v} h=>((hF b).2 o (K2 h)).trans h
   exact⟨⟨m,k hm⟩,⟨v,k h1,h2⟩,k h3,k h4,⟨b,off,n,c,k h5,h6,λj v hv=>k (h7 j v hv)⟩⟩
 · cases j with
   |zero=>cases hj;exact⟨K2 hm,hm⟩
   |succ j=>cases hj
theorem Zk(h:Bq Tryz.prog fid args W (B4 (α:=Unit) (λ_=>.bool true) (λ_=>True) (λ_=>[]) W (Z0 W))):Bq Tryz.prog fid args W λv w'=>v=.bool true∧AR W w' :=
 h.mono λ_ _ ⟨_,_,h1,_,h2,_⟩=>⟨h1,h2.stp.ext⟩
end Go.Proofs.YtkahkniflkadoabGreatDoor
namespace Go.SP
structure Hw where
 met:List lU
 keeps:Bool
def Js:List lU→lU→Int
 | [],_ => -1
 |k::l,n=>if k==n then 0 else (let j:=Js l n;if j<0 then j else j+1)
def aG(vars:List lU)(tx:lU):lU:=39::(Utf8.encode (97+Js vars tx)).data.toList
def Ch(dn:lU→Bool)(tx:lU)(s:Hw):Hw :=
 ⟨if dn tx&&!s.met.contains tx then s.met++[tx] else s.met,s.keeps&&!(tx==Eh)&&!(tx==I8)⟩
def allS(dn:lU→Bool)(vars:List lU):Nd→Hw→lU×Hw
 |.nil,s=>([],s)
 |.cons op _ _ tx _ k r,s =>
   let a:=if op==31 then (aG vars tx,s)
     else if k.len=0 then (tx,Ch dn tx s)
     else ([40]++tx++(allS dn vars k (Ch dn tx s)).1++[41],(allS dn vars k (Ch dn tx s)).2)
   let b:=allS dn vars r a.2
   (32::(a.1++b.1),b.2)
def CX(dn:lU→Bool)(vars:List lU)(op:Int)(tx:lU)(k:Nd)(s:Hw):lU×Hw :=
 if op==31 then (aG vars tx,s)
 else if k.len=0 then (tx,Ch dn tx s)
 else ([40]++tx++(allS dn vars k (Ch dn tx s)).1++[41],(allS dn vars k (Ch dn tx s)).2)
def C7:Nd→List lU×Nd×Nd
 |.nil=>([],.nil,.nil)
 |.cons op ln co tx nm k r=>if op==31 then (tx::(C7 r).1,.cons op ln co tx nm k (C7 r).2.1,(C7 r).2.2) else ([],.nil,.cons op ln co tx nm k r)
def Fv(dn:lU→Bool)(vars:List lU):Nd→Hw→List lU×Hw
 |.nil,s=>([],s)
 |.cons _ _ _ tx _ k r,s=>((tx++(allS dn vars k s).1)::(Fv dn vars r (allS dn vars k s).2).1,(Fv dn vars r (allS dn vars k s).2).2)
def FT:List lU→lU
 | []=>[]
 | [a]=>a
 |a::b::l=>a++44::FT (b::l)
def FP(dn:lU→Bool)(tx:lU)(k:Nd)(s:Hw):lU×Hw :=
 let v:=C7 k
 let c:=Fv dn v.1 v.2.2 s
 ([124]++tx++(allS dn v.1 v.2.1 c.2).1++[61]++FT c.1,(allS dn v.1 v.2.1 c.2).2)
def Ct:Nd→List (lU×Nd)
 |.nil=>[]
 |.cons op _ _ tx _ k r=>if op==41 then Ct r++[(tx,k)] else Ct r
def Bf(ds:List (lU×Nd))(tx:lU):Bool:=(AS ds tx).isSome
def Kc(ds:List (lU×Nd)):Nat→Nat→lU→Hw→lU×Hw
 |0,_,t,s=>(t,s)
 |n+1,i,t,s=>match s.met[i]? with
   |none=>(t,s)
   |some d=>Kc ds n (i+1) (t++(FP (Bf ds) d ((AS ds d).getD .nil) s).1) (FP (Bf ds) d ((AS ds d).getD .nil) s).2
def N0(ds:List (lU×Nd))(op:Int)(tx:lU)(k:Nd):lU×Hw :=
 Kc ds (ds.length+1) 0 (CX (Bf ds) [] op tx k ⟨[],true⟩).1 (CX (Bf ds) [] op tx k ⟨[],true⟩).2
def PY(ds:List (lU×Nd)):Nd→List (lU×lU)→Except Er (List (lU×lU))
 |.nil,out=>.ok out
 |.cons op ln co tx _ k r,out=>if op==43 then (if (out.length:Int)==100 then .error (ln,co,4) else match k with
     |.nil=>PY ds r out
     |.cons o l c x _ k1 _=>let w:=N0 ds o x k1
       if !w.2.keeps then .error (l,c,17) else if w.1.length>1000 then .error (l,c,4) else PY ds r (out++[(tx,w.1)]))
   else PY ds r out
def cL(nds:Nd):Except Er (List (lU×lU)):=PY (Ct nds) nds []
end Go.SP
namespace Go.Proofs.YtkahkniflkadoabGreatDoor
open Go.SW Go.SP Go.RowKit
def FK(src:lU):Option RB:=match M4 src with
 |.error _=>none
 |.ok _=>some (cL (CW src).1)
def vB(o:Option RB)(x:Option Addr×Nat):Value:=match o with
 |none=>.tuple #[.slice none 0 0,.agg #[.int .i64 0,.int .i64 0],.int .i64 0,.bool false]
 |some r=>.tuple #[.slice x.1 (pP r).length x.2,.agg #[.int .i64 (ZD r).1,.int .i64 (ZD r).2.1],.int .i64 (ZD r).2.2,.bool true]
def vM:Option RB→List (lU×lU)
 |none=>[]
 |some r=>pP r
def vH(o:Option RB)(w:World)(f:Fq):Value→World→Prop:=B4 (α:=Option Addr×Nat) (vB o) (λ_=>True) (λx=>[λw f=>L6 w f (vM o) x.1 x.2]) w f
def WX:lU:=[40,100,97,116,97,32,108,105,115,116,32,40,39,120,41,32,40,78,105,108,41,32,40,67,111,110,115,32,39,120,32,40,108,105,115,116,32,39,120,41,41,41,32,40,114,111,111,116,32,114,32,40,108,105,115,116,32,105,110,116,41,32,78,105,108,41]
def Y9:lU:=[40,114,111,111,116,32,114,32,40,45,62,32,105,110,116,32,105,110,116,41,32,110,101,103,41]
def gS:List (lU×lU):=[([114],[40,108,105,115,116,32,105,110,116,41,124,108,105,115,116,32,39,97,61,78,105,108,44,67,111,110,115,32,39,97,32,40,108,105,115,116,32,39,97,41])]
set_option maxRecDepth 100000 in
theorem fA:FK WX=some (.ok gS):=kR
set_option maxRecDepth 100000 in
theorem gA:FK Y9=some (.error (1,9,17)):=kR
def Yg(i:Nat):lU:=[40,114,111,111,116,32,114]++[UInt8.ofNat (97+i / 26),UInt8.ofNat (97+i % 26)]++[32,105,110,116,32,49,41,10]
def Ic:Nat→lU
 |0=>[]
 |n+1=>Ic n++Yg n
def GY(n:Nat):Bool:=match FK (Ic n) with
 |some (.ok l)=>decide (n≤100)&&l.length==n
 |some (.error e)=>decide (100<n)&&(e.1==101&&(e.2.1==1&&e.2.2==4))
 |none=>false
set_option maxRecDepth 1000000 in
theorem pL:GY 97=true:=kR
set_option maxRecDepth 1000000 in
theorem pV:GY 98=true:=kR
set_option maxRecDepth 1000000 in
theorem qM:GY 99=true:=kR
set_option maxRecDepth 1000000 in
theorem qX:GY 100=true:=kR
set_option maxRecDepth 1000000 in
theorem qH:GY 101=true:=kR
set_option maxRecDepth 1000000 in
theorem nI:GY 102=true:=kR
set_option maxRecDepth 1000000 in
theorem oK:GY 103=true:=kR
variable {n:Nat}
theorem UT(h1:97≤n)(h2:n≤103):GY n=true:=by
 rcases (show n=97∨n=98∨n=99∨n=100∨n=101∨n=102∨n=103 by omega) with rfl|rfl|rfl|rfl|rfl|rfl|rfl
 · exact pL
 · exact pV
 · exact qM
 · exact qX
 · exact qH
 · exact nI
 · exact oK
theorem X5(h1:97≤n)(h2:n≤100):∃l:List (lU×lU),FK (Ic n)=some (.ok l)∧l.length=n:=by
 have h:=UT h1 oM;unfold GY at h
 split at h
 · rename_i l hl
   simp only[Bool.and_eq_true,beq_iff_eq] at h;exact⟨l,hl,h.2⟩
 · simp only[Bool.and_eq_true,decide_eq_true_eq] at h;omega
 · cases h
theorem cM(h1:100<n)(h2:n≤103):FK (Ic n)=some (.error (101,1,4)):=by
 have h:=UT oM h2;unfold GY at h
 split at h
 · simp only[Bool.and_eq_true,decide_eq_true_eq] at h;omega
 · rename_i e he
   obtain⟨a,b,c⟩:=e;simp only[Bool.and_eq_true,beq_iff_eq,decide_eq_true_eq] at h;obtain⟨_,rfl,rfl,rfl⟩:=h;exact he
 · cases h
theorem QR:∀n:Nat,(Ic n).length=17*n
 |0=>rfl
 |n+1=>by rw[Ic,List.length_append,QR n];simp[Yg];omega
end Go.Proofs.YtkahkniflkadoabGreatDoor
namespace Go.SP
open Go.SW Go.RowKit
def dI(w:World)(l:List lU)(a:Option Addr)(c:Nat):Prop:=l.length≤c∧(l=[]∨∃b off,a=some ⟨b,off,none⟩∧∀j v,(l.map S)[j]?=some v→w.cell? ⟨b,off+j,none⟩=some v)
def HN(w:World)(f:Fq)(l:List lU)(a:Option Addr)(c:Nat):Prop:=l.length≤c∧(l=[]∨∃b off,a=some ⟨b,off,none⟩∧Cs w f b off (l.map S))
section
variable{w:World}{f:Fq}{l:List lU}{a:Option Addr}{c:Nat}
theorem HN.mono:F6 (λw f=>HN w f l a c):=λ_ _ _ _ h hF=>⟨h.1,h.2.imp id λ⟨b,off,h1,h2⟩=>⟨b,off,h1,h2.mono hF⟩⟩
theorem HN.sw(h:HN w f l a c):dI w l a c:=⟨h.1,h.2.imp id λ⟨b,off,h1,h2⟩=>⟨b,off,h1,λj v hj=>(h2 j v hj).2⟩⟩
theorem dI.fz(h:dI w l a c):HN w (Z0 w) l a c:=⟨h.1,h.2.imp id λ⟨b,off,h1,h2⟩=>⟨b,off,h1,λj v hj=>⟨K2 (h2 j v hj),h2 j v hj⟩⟩⟩
theorem HN.get(h:HN w f l a c){i:Nat}{x:lU}(hx:l[i]?=some x):∃b off,a=some ⟨b,off,none⟩∧Cs w f b (off+i*1) [S x]:=by
 rcases h.2 with h|⟨b,off,h1,h2⟩
 · subst h;cases hx
 · refine⟨b,off,h1,λj v hj=>?_⟩
   cases j with
   |zero =>
     cases hj
     have:=h2 i (S x) (by rw[List.getElem?_map,hx];rfl);rw[Nat.mul_one,Nat.add_zero];exact this
   |succ j=>cases hj
theorem dI.row{e:TypeId}(h:BP w e 1 a c l.length (l.map S)):dI w l a c:=by
 rcases h.2 with ⟨_,_,hz⟩|⟨b,q,ha,hb,hmc,_,hq,ht⟩
 · exact⟨oM,.inl (by cases l with|nil=>rfl|cons _ _=>simp at hz)⟩
 · refine⟨hmc,.inr ⟨b,0,ha,λj v hj=>?_⟩⟩
   rw[Nat.zero_add,hb.cell];have hj2:=hj;rw[← ht,List.getElem?_take] at hj2
   split at hj2
   · exact hj2
   · cases hj2
end
theorem Zt{X:Cx}{w:World}{f:Fq}{H:List HB}{R:List RB}{B:List FB}{Fs:List (World→Fq→Prop)}{T:TypeId}{a:Option Addr}{c:Nat}{l:List lU}(hM:AN X w f H (⟨T,1,a,c,l.length,l.map S⟩::R) B Fs):∃f',AN X w f' H R B Fs∧HN w f' l a c:=by
 have hr:=hM.row _ (.head _);rcases hr.2 with ⟨_,_,hz⟩|⟨b,q,ha,hb,hmc,_,hq,ht⟩
 · simp only at hz
   exact⟨f,hM.less (List.Sublist.refl _) (List.sublist_cons_self _ _) (λ_ h=>h) (λ_ h=>h),oM,.inl (by cases l with|nil=>rfl|cons _ _=>simp at hz)⟩
 · simp only at ha
   subst ha;obtain⟨f',hM'⟩:=hM.done (i:=0) rfl rfl;refine⟨f',hM'.less (List.Sublist.refl _) (List.Sublist.refl _) (λ_ h=>.tail _ h) (λ_ h=>h),hmc,.inr ⟨b,0,rfl,hM'.fro _ (.head _)⟩⟩
def FO(w:World)(f:Fq):List (lU×Nd)→List (lU×Value)→Prop
 | [],es=>es=[]
 |(k,x)::l,es=>∃op ln co nm a c es',es=(k,.agg (JQ op ln co k nm a x.len c).toArray)::es'∧AD w f x a c∧FO w f l es'
theorem FO.mono{w w':World}{f f':Fq}(hF:Hh w f w' f'):∀(l:List (lU×Nd))(es:List (lU×Value)),FO w f l es→FO w' f' l es
 | [],_,h=>h
 |(_,_)::l,_,⟨op,ln,co,nm,a,c,es',h1,h2,h3⟩=>⟨op,ln,co,nm,a,c,es',h1,AD.mono _ _ _ _ h2 hF,FO.mono hF l es' h3⟩
theorem FO.look{w:World}{f:Fq}{n:lU}:∀{l:List (lU×Nd)}{es:List (lU×Value)},FO w f l es→(AS l n=none→Ej es n=none)∧∀x,AS l n=some x→∃op ln co nm a c,Ej es n=some (.agg (JQ op ln co n nm a x.len c).toArray)∧AD w f x a c
 | [],es,h=>by
   have h:es=[]:=h;subst h;exact⟨λ_=>rfl,λt h=>by cases h⟩
 |(k,x)::l,es,⟨op,ln,co,nm,a,c,es',h1,h2,h3⟩=>by
   subst h1;have ih:=FO.look (n:=n) h3;simp only[AS,Ej]
   by_cases hk:k=n
   · subst hk
     refine⟨λh=>by simp at h,λt' h=>?_⟩;simp at h;subst h;exact⟨op,ln,co,nm,a,c,by simp,h2⟩
   · have e1:(k==n)=false:=by simpa using hk
     have e2:(n==k)=false:=by simpa using λe:n=k=>hk e.symm
     rw[e1,e2];simpa using ih
def Fh(wb mb:Nat)(a:Option Addr)(b:Nat):Prop:=b=wb∨b=mb∨rb a=some b
structure Gi(T e:TypeId)(wb mb:Nat)(ds:List (lU×Nd))(sl kp:Value)(a:Option Addr)(c:Nat)(l:List lU)(w:World)(f:Fq):Prop where
 blk:AI w wb [.map (some mb),sl,kp] T
 map:∃es,BE BI w mb es∧FO w f ds es∧Il es
 row:BP w e 1 a c l.length (l.map S)
 ne:wb≠mb∧rb a≠some wb∧rb a≠some mb
section
variable{T e:TypeId}{wb mb:Nat}{ds:List (lU×Nd)}{sl sl' kp kp':Value}{a a':Option Addr}{c c':Nat}{l:List lU}{w w':World}{f f':Fq}{x:lU}
theorem Gi.stab:EL (Fh wb mb a) (Gi T e wb mb ds sl kp a c l):=λ_ _ _ _ h hF hb =>
 ⟨(hb wb (.inl rfl)).trans h.blk,let ⟨es,h1,h2,h3⟩:=h.map;⟨es,h1.heap (hb mb (.inr (.inl rfl))),FO.mono hF _ _ h2,h3⟩,⟨h.row.1,h.row.2.imp id λ⟨b,q,h1,h2,h3⟩=>⟨b,q,h1,(hb b (.inr (.inr (by rw[h1];rfl)))).trans h2,h3⟩⟩,h.ne⟩
variable {b:Nat}
theorem Gi.lt(h:Gi T e wb mb ds sl kp a c l w f)(hb:Fh wb mb a b):b<w.heap.size:=by
 rcases hb with rfl|rfl|hb
 · exact h.blk.lt
 · obtain⟨_,h1,_⟩:=h.map;exact h1.lt
 · exact h.row.lt hb
theorem Gi.app(h:Gi T e wb mb ds sl kp a c l w f)(hF:Hh w f w' f')(hr:BP w' e 1 a' c' (l.length+1) (l.map S++[S x]))(hG:E1 a w a' w'):Gi T e wb mb ds sl kp a' c' (l++[x]) w' f' where
 blk:=h.blk.grow hG (λe=>h.ne.2.1 e.symm)
 map:=let ⟨es,h1,h2,h3⟩:=h.map;⟨es,h1.heap (hG.block mb h1.lt (λe=>h.ne.2.2 e.symm)),FO.mono hF _ _ h2,h3⟩
 row:=by simpa using hr
 ne:=⟨h.ne.1,λe=>hG.own.elim (λo=>h.ne.2.1 (o.symm.trans e)) (λo=>absurd h.blk.lt (by rw[← Option.some.inj (o.symm.trans e)];exact Nat.lt_irrefl _)),λe=>hG.own.elim (λo=>h.ne.2.2 (o.symm.trans e)) (λo=>absurd (h.lt (.inr (.inl rfl))) (by rw[← Option.some.inj (o.symm.trans e)];exact Nat.lt_irrefl _))⟩
theorem Gi.store(h:Gi T e wb mb ds sl kp a c l w f)(hF:Hh w f w' f')(hC:FQ wb w w')(hb:AI w' wb [.map (some mb),sl',kp'] T):Gi T e wb mb ds sl' kp' a c l w' f' where
 blk:=hb
 map:=let ⟨es,h1,h2,h3⟩:=h.map;⟨es,h1.heap (hC.block mb (λe=>h.ne.1 e.symm)),FO.mono hF _ _ h2,h3⟩
 row:=BP.chgB h.row hC h.ne.2.1
 ne:=h.ne
end
variable {b:Nat}
theorem Fh.or{wb mb:Nat}{a a':Option Addr}(h:Fh wb mb a' b):Fh wb mb a b∨rb a'=some b:=h.elim (λh=>.inl (.inl h)) λh=>h.elim (λh=>.inl (.inr (.inl h))) .inr
abbrev L2(T e:TypeId)(wb mb:Nat)(ds:List (lU×Nd))(s:Hw)(a:Option Addr)(c:Nat):World→Fq→Prop:=Gi T e wb mb ds (.slice a s.met.length c) (.bool s.keeps) a c s.met
def Nd.cap:Nd→Nat
 |.nil=>0
 |.cons _ _ _ tx _ k r=>tx.length+8+k.cap+r.cap
theorem Nd.cap_le:∀k:Nd,k.txb→k.cap≤100008*k.size
 |.nil,_=>Nat.zero_le _
 |.cons _ _ _ tx _ k r,h=>by
   have h1:=Nd.cap_le k h.2.1;have h2:=Nd.cap_le r h.2.2;have h3:=h.1;simp only[Nd.cap,Nd.size];omega
end Go.SP
namespace Go.SW
open Go.RowKit Go.SP
section
variable{P:Program}{n:Nat}{Q:AU}{ds:List Deferred}{X:Cx}{R:List RB}{B:List FB}{Fs:List (World→Fq→Prop)}{fs:List Fr}{σ:Bc}{H:List HB}{k:JS}{na:Option Addr}{i c:Nat}
theorem uY{l:List lU}{v:lU}(j:Nat)(hj:nth Fs j=some (λw f=>HN w f l na c))(hx:l[i]?=some v)
   (h:∀x:Nat×Nat,na=some ⟨x.1,x.2,none⟩→A3 P n Q ds X R (⟨x.1,x.2+i*1,[S v]⟩::B) Fs k fs σ H):A3 P n Q ds X R B Fs k fs σ H :=
 LM (α:=Nat×Nat) (λx=>na=some ⟨x.1,x.2,none⟩) (λ_=>[_]) (λ_=>[]) (λ_ _ hM=>let ⟨b,off,h1,h2⟩:=HN.get (hM.fn hj) hx;⟨(b,off),h1,oE h2,nE⟩) (λ_=>Ax.mem tQ) h
end
end Go.SW
namespace Go.SP
open Go.SW Go.RowKit
theorem Pv{x:lU}:∀{l:List lU}{i:Nat},(l.take i).contains x=false→l[i]?=some x→Js l x=i
 |a::l,0,_,h=>by
   simp only[List.getElem?_cons_zero,Option.some.injEq] at h;subst h;unfold Js;rw[if_pos (by simp)];rfl
 |a::l,i+1,hn,h=>by
   rw[List.take_succ_cons,List.contains_cons,Bool.or_eq_false_iff] at hn;have ih:=Pv hn.2 (by simpa using h);unfold Js;rw[if_neg (by intro e;have:=beq_iff_eq.1 e;subst this;simp at hn),ih];simp only;rw[if_neg (by omega)];omega
theorem M1{x:lU}:∀{l:List lU},l.contains x=false→Js l x = -1
 | [],_=>rfl
 |a::l,h=>by
   rw[List.contains_cons,Bool.or_eq_false_iff] at h;unfold Js;rw[if_neg (by intro e;have:=beq_iff_eq.1 e;subst this;simp at h),M1 h.2];rfl
theorem RP(l:List lU)(x:lU) : -1≤Js l x∧Js l x<l.length∧(decide (0≤Js l x)=l.contains x):=by
 cases hc:l.contains x with
 |false=>rw[M1 hc];exact⟨Int.le_refl _,oM,rfl⟩
 |true =>
   have h1:∃i,l[i]?=some x∧(l.take i).contains x=false:=by
     induction l with
     |nil=>cases hc
     |cons a l ih =>
       by_cases e:x=a
       · exact⟨0,by rw[e];rfl,rfl⟩
       · rw[List.contains_cons,show (x==a)=false by simpa using e,Bool.false_or] at hc
         obtain⟨i,h1,h2⟩:=ih hc;exact⟨i+1,by simpa using h1,by rw[List.take_succ_cons,List.contains_cons,show (x==a)=false by simpa using e,h2];rfl⟩
   obtain⟨i,h1,h2⟩:=h1;rw[Pv h2 h1];have:=(List.getElem?_eq_some_iff.1 h1).1;exact⟨oM,oM,by simp⟩
theorem UJ(n:Int):(Utf8.encode n).data.toList.length≤4:=by
 unfold Utf8.encode;generalize (if Utf8.valid n=true then n.toNat else Utf8.runeError)=c
 by_cases h1:c<0x80
 · simp[h1]
 · by_cases h2:c<0x800
   · simp[h1,h2]
   · by_cases h3:c<0x10000
     · simp[h1,h2,h3]
     · simp[h1,h2,h3]
theorem QE(vs:List lU)(x:lU):(aG vs x).length≤5:=by
 unfold aG;have:=UJ (97+Js vs x);simp only[List.length_cons];omega
theorem E1.fle{a a':Option Addr}{w w':World}{f:Fq}(hG:E1 a w a' w')(hv:Vl w f)(h0:∀b,rb a=some b→f b=0):Hh w f w' f:=λb=>⟨Nat.le_refl _,λo ho=>by
 have hb:b<w.heap.size:=by
   rcases Nat.lt_or_ge b w.heap.size with h|h
   · exact h
   · have:=hv b h;omega
 exact Dg (hG.block b hb (λe=>by rw[h0 b e.symm] at ho;omega)) o⟩
variable {b:Nat}
theorem Kd{w w':World}{f:Fq}(hC:FQ b w w')(h0:f b=0):Hh w f w' f:=λk=>⟨Nat.le_refl _,λo ho=>Dg (hC.block k (λe=>by rw[e,h0] at ho;omega)) o⟩
theorem Nn(dn:lU→Bool)(tx:lU)(s:Hw):(Ch dn tx s).met.length≤s.met.length+1:=by
 unfold Ch;simp only
 split <;> simp
theorem DX(dn:lU→Bool)(vs:List lU):∀(k:Nd)(s:Hw),(allS dn vs k s).1.length≤k.cap∧(allS dn vs k s).2.met.length≤s.met.length+k.size
 |.nil,s=>⟨Nat.le_refl _,Nat.le_refl _⟩
 |.cons op ln co tx nm k r,s=>by
   have hv:=QE vs tx;have hm:=Nn dn tx s;have hk:=DX dn vs k (Ch dn tx s);unfold allS;simp only
   split
   · have hr:=DX dn vs r s
     simp only[List.length_cons,List.length_append,Nd.cap,Nd.size] at hr ⊢;omega
   · split
     · have hr:=DX dn vs r (Ch dn tx s)
       simp only[List.length_cons,List.length_append,Nd.cap,Nd.size] at hr ⊢;omega
     · have hr:=DX dn vs r (allS dn vs k (Ch dn tx s)).2
       simp only[List.length_cons,List.length_append,List.length_nil,Nd.cap,Nd.size] at hr ⊢;omega
theorem NN(dn:lU→Bool)(vs:List lU)(op ln co nm:Int)(tx:lU)(k r:Nd)(s:Hw):allS dn vs (.cons op ln co tx nm k r) s=(32::((CX dn vs op tx k s).1++(allS dn vs r (CX dn vs op tx k s).2).1),(allS dn vs r (CX dn vs op tx k s).2).2):=by
 unfold CX
 conv=>lhs;unfold allS
end Go.SP
namespace Go.SP
open Go.SW Go.RowKit
theorem ZK{n:Int}(h : -2147483648≤n∧n<2147483648):IntKind.i32.wrap n=n:=by
 unfold IntKind.wrap;simp[IntKind.bits,IntKind.signed];omega
theorem jJ(n:Int):Utf8.encode n=⟨(Utf8.encode n).data.toList.toArray⟩:=by simp
def U3(P:Program)(fid:FuncId)(T e:TypeId)(m:Nat):Prop:=∀(w:World)(f:Fq)(_:Vl w f)(wb mb:Nat)(ds:List (lU×Nd))(s:Hw)(oa:Option Addr)(oc:Nat),L2 T e wb mb ds s oa oc w f→(∀b,Fh wb mb oa b→f b=0)→∀(op ln co nm:Int)(tx:lU)(k:Nd)(na:Option Addr)(nc:Nat)(vs:List lU)(va:Option Addr)(vc:Nat),
 k.size<m→k.size≤200000→tx.length≤100000→k.txb→s.met.length+k.size+1≤1000000→vs.length≤1000000→AD w f k na nc→HN w f vs va vc →
 Bq P fid #[.pointer (some ⟨wb,0,none⟩),.agg #[.int .i64 op,.int .i64 ln,.int .i64 co,S tx,.int .i64 nm,.slice na k.len nc],.slice va vs.length vc] w (JD (α:=Option Addr×Nat) (λ_=>S (CX (Bf ds) vs op tx k s).1) (λ_=>True) (Fh wb mb oa) (λx=>Fh wb mb x.1) (λx=>L2 T e wb mb ds (CX (Bf ds) vs op tx k s).2 x.1 x.2) (λ_=>[]) w f)
def mU(P:Program)(fid:FuncId)(T e:TypeId)(m:Nat):Prop:=∀(w:World)(f:Fq)(_:Vl w f)(wb mb:Nat)(ds:List (lU×Nd))(s:Hw)(oa:Option Addr)(oc:Nat),L2 T e wb mb ds s oa oc w f→(∀b,Fh wb mb oa b→f b=0)→∀(k:Nd)(na:Option Addr)(nc:Nat)(vs:List lU)(va:Option Addr)(vc:Nat),
 k.size≤m→k.size≤200000→k.txb→s.met.length+k.size≤1000000→vs.length≤1000000→AD w f k na nc→HN w f vs va vc →
 Bq P fid #[.pointer (some ⟨wb,0,none⟩),.slice na k.len nc,.slice va vs.length vc] w (JD (α:=Option Addr×Nat) (λ_=>S (allS (Bf ds) vs k s).1) (λ_=>True) (Fh wb mb oa) (λx=>Fh wb mb x.1) (λx=>L2 T e wb mb ds (allS (Bf ds) vs k s).2 x.1 x.2) (λ_=>[]) w f)
end Go.SP
namespace Go.SP
theorem OA(dn:lU→Bool)(vs:List lU)(op:Int)(tx:lU)(k:Nd)(s:Hw):(CX dn vs op tx k s).1.length≤tx.length+7+k.cap∧(CX dn vs op tx k s).2.met.length≤s.met.length+k.size+1:=by
 have hv:=QE vs tx;have hm:=Nn dn tx s;have hk:=DX dn vs k (Ch dn tx s);unfold CX
 split
 · simp only;omega
 · split
   · simp only;omega
   · simp only[List.length_append,List.length_cons,List.length_nil];omega
end Go.SP
namespace Go.SP
open Go.SW Go.RowKit
variable {co ln nm:Int}{m:Nat}{r:Nd}{lo:Operand}{ty:TypeId}
theorem VY{op:Int}{tx:lU}{k:Nd}(h:(op==31)=true):C7 (.cons op ln co tx nm k r)=(tx::(C7 r).1,.cons op ln co tx nm k (C7 r).2.1,(C7 r).2.2):=by
 rw[C7,if_pos h]
theorem Wc{op:Int}{tx:lU}{k:Nd}(h:(op==31)=false):C7 (.cons op ln co tx nm k r)=([],.nil,.cons op ln co tx nm k r):=by
 rw[C7,if_neg (by rw[h];decide)]
theorem K8:∀l:List lU,FT l=Lib.join l [44]
 | []=>rfl
 | [a]=>by rw[Lib.join_cons];simp[FT,Lib.joinTail]
 |a::b::l=>by rw[FT,K8 (b::l),Lib.join_cons,Lib.join_cons];simp[Lib.joinTail]
theorem SR(l:List lU)(x:lU):(FT (l++[x])).length≤(FT l).length+1+x.length:=by
 cases l with
 |nil=>show x.length≤_;omega
 |cons a l =>
   rw[List.cons_append,K8,K8,Lib.join_cons,Lib.join_cons,Nc];simp only[List.length_append,List.length_cons,List.length_nil];omega
theorem LW(dn:lU→Bool)(vs:List lU)(op ln co nm:Int)(tx:lU)(k r:Nd)(s:Hw):Fv dn vs (.cons op ln co tx nm k r) s=((tx++(allS dn vs k s).1)::(Fv dn vs r (allS dn vs k s).2).1,(Fv dn vs r (allS dn vs k s).2).2):=rfl
theorem X9{dn:lU→Bool}{tx:lU}{k u:Nd}{s s2:Hw}{vs cs:List lU}(hv:C7 k=(vs,u,r))(hc:Fv dn vs r s=(cs,s2)):FP dn tx k s=([124]++tx++(allS dn vs u s2).1++[61]++FT cs,(allS dn vs u s2).2):=by
 unfold FP;rw[hv];simp only;rw[hc]
theorem PS:∀(x y:Nd),(x.app y).cap=x.cap+y.cap
 |.nil,y=>by show y.cap=0+_;omega
 |.cons _ _ _ _ _ _ r,y=>by
   have:=PS r y;show _+_+(r.app y).cap=_+_+r.cap+y.cap;omega
theorem Y7:∀(x y:Nd),(x.app y).txb→x.txb∧y.txb
 |.nil,_,h=>⟨tQ,h⟩
 |.cons _ _ _ _ _ _ r,y,h=>⟨⟨h.1,h.2.1,(Y7 r y h.2.2).1⟩,(Y7 r y h.2.2).2⟩
def rF(a:Option Addr)(c i:Nat):Option Addr:=if c=i then a else a.map (·.add (i*6))
theorem N8.drop{w:World}{f:Fq}:∀(u r:Nd)(b off:Nat),N8 w f (u.app r) b off→N8 w f r b (off+u.len*6)
 |.nil,r,b,off,h=>by show N8 w f r b (off+0*6);rw[Nat.zero_mul];exact h
 |.cons _ _ _ _ _ _ x,r,b,off,h=>by
   have:=N8.drop x r b _ h.2;rw[show off+(Nd.cons _ _ _ _ _ _ x).len*6=off+6+x.len*6 by simp only[Nd.len];omega];exact this
theorem AD.drop{w:World}{f:Fq}{u:Nd}{a:Option Addr}{c i:Nat}(h:AD w f (u.app r) a c)(hu:u.len=i):AD w f r (rF a c i) (c-i):=by
 have hl:=Nd.app_len u r;refine⟨by have:=h.1;omega,?_⟩;rcases h.2 with e|⟨b,off,h1,h2⟩
 · exact .inl (by cases u with|nil=>exact e|cons=>cases e)
 · have h3:=N8.drop u r b off h2
   unfold rF
   split
   · exact .inl (Nd.len0 (by have:=h.1;omega))
   · exact .inr ⟨b,off+i*6,by rw[h1];simp[Addr.add],hu▸h3⟩
theorem bZ{P:Program}{σ:Bc}{w:World}{T e:TypeId}{x:Operand}{i:Nat}{k1:IntKind}{a fa:Option Addr}{len cap:Nat}(hfa:fa=rF a cap i)(hm:len=i+m)(hx:ev σ x=some (.slice a len cap))(hlo:ev σ lo=some (.int k1 (i:Int)))(hs:Ii P T=some (e,6)):AG P σ (.slice T x (some lo) none none) ty w (.slice fa m (cap-i)) w:=by
 subst hfa;have h:=KK (ty:=ty) (w:=w) hx hlo hs (show i≤len by omega);rw[show len-i=m by omega] at h;exact h
abbrev DS:=List (lU×Nd)
def Gd(ds:DS)(s:Hw):Prop:=s.met.Nodup∧∀x,x∈s.met→Bf ds x=true
structure Rl(ds:DS)(s t:Hw):Prop where
 gd:Gd ds s→Gd ds t
 pre:s.met <+: t.met
section
variable{ds:DS}{s t u:Hw}{vs:List lU}{op:Int}{tx:lU}
theorem Rl.refl:Rl ds s s:=⟨id,List.prefix_refl _⟩
theorem Rl.trans(h1:Rl ds s t)(h2:Rl ds t u):Rl ds s u:=⟨λh=>h2.gd (h1.gd h),h1.pre.trans h2.pre⟩
theorem Rl.meet:Rl ds s (Ch (Bf ds) tx s):=by
 unfold Ch
 by_cases hc:(Bf ds tx&&!s.met.contains tx)=true
 · simp only[hc,if_true]
   rw[Bool.and_eq_true,Bool.not_eq_true'] at hc;refine⟨λh=>⟨?_,?_⟩,List.prefix_append _ _⟩
   · simp only
     rw[List.nodup_append];refine⟨h.1,by simp,λa ha b hb e=>?_⟩;rw[List.mem_singleton] at hb;subst e hb;rw[List.contains_iff_mem.2 ha] at hc;exact absurd hc.2 dC
   · intro x hx
     rcases List.mem_append.1 hx with hx|hx
     · exact h.2 x hx
     · rw[List.mem_singleton.1 hx];exact hc.1
 · simp only[hc]
   exact⟨id,List.prefix_refl _⟩
theorem Rl.all:∀(k:Nd)(s:Hw),Rl ds s (allS (Bf ds) vs k s).2
 |.nil,_=>.refl
 |.cons op ln co tx nm k r,s=>by
   rw[NN];refine .trans ?_ (Rl.all r _);unfold CX
   split
   · exact .refl
   · split
     · exact .meet
     · exact .trans .meet (Rl.all k _)
theorem Rl.text{k:Nd}:Rl ds s (CX (Bf ds) vs op tx k s).2:=by
 unfold CX
 split
 · exact .refl
 · split
   · exact .meet
   · exact .trans .meet (Rl.all k _)
theorem Rl.cons:∀(k:Nd)(s:Hw),Rl ds s (Fv (Bf ds) vs k s).2
 |.nil,_=>.refl
 |.cons _ _ _ _ _ k r,s=>.trans (Rl.all k s) (Rl.cons r _)
theorem Rl.data{k:Nd}:Rl ds s (FP (Bf ds) tx k s).2:=.trans (Rl.cons _ _) (Rl.all _ _)
end
theorem Lt:∀k:Nd,k=(C7 k).2.1.app (C7 k).2.2
 |.nil=>rfl
 |.cons op ln co tx nm k r=>by
   rw[C7]
   split
   · show _=Nd.cons op ln co tx nm k ((C7 r).2.1.app (C7 r).2.2)
     rw[← Lt r]
   · rfl
theorem O0(dn:lU→Bool)(vs:List lU):∀(k:Nd)(s:Hw),(FT (Fv dn vs k s).1).length≤k.cap
 |.nil,s=>Nat.le_refl _
 |.cons op ln co tx nm k r,s=>by
   have h1:=(DX dn vs k s).1;have h2:=O0 dn vs r (allS dn vs k s).2;rw[LW];show (FT ((tx++(allS dn vs k s).1)::(Fv dn vs r (allS dn vs k s).2).1)).length≤tx.length+8+k.cap+r.cap;generalize (Fv dn vs r (allS dn vs k s).2).1=l at h2
   cases l with
   |nil=>simp only[FT,List.length_append];omega
   |cons a l=>simp only[FT,List.length_append,List.length_cons] at h2 ⊢;omega
theorem VP(dn:lU→Bool)(tx:lU)(k:Nd)(s:Hw):(FP dn tx k s).1.length≤k.cap+tx.length+2:=by
 have h1:=O0 dn (C7 k).1 (C7 k).2.2 s;have h2:=(DX dn (C7 k).1 (C7 k).2.1 (Fv dn (C7 k).1 (C7 k).2.2 s).2).1;have h3:k.cap=(C7 k).2.1.cap+(C7 k).2.2.cap:=by rw[← PS,← Lt]
 unfold FP;simp only[List.length_append,List.length_cons,List.length_nil];omega
def wD(φ:lU→Nd→Nat)(ds:DS)(x:lU):Nat:=match AS ds x with|some k=>φ x k|none=>0
theorem Oc(g:lU→Nat)(n:lU):∀l:List lU,l.Nodup→(l.map g).sum≤g n+((l.filter (· != n)).map g).sum
 | [],_=>Nat.zero_le _
 |a::l,h=>by
   have ih:=Oc g n l (List.nodup_cons.1 h).2
   by_cases e:a=n
   · subst e
     have:(a::l).filter (· != a)=l:=by
       rw[List.filter_cons_of_neg (by simp),List.filter_eq_self];intro x hx;have:x≠a:=λe=>(List.nodup_cons.1 h).1 (e▸hx);simpa using this
     rw[this];simp
   · rw[List.filter_cons_of_pos (by simpa using e)]
     simp only[List.map_cons,List.sum_cons];omega
theorem Rk{α:Type}{n x:lU}{v:α}{l:List (lU×α)}(h:x≠n):AS ((n,v)::l) x=AS l x:=by
 rw[D7,if_neg (by simpa using λe:n=x=>h e.symm)]
theorem Sb(φ:lU→Nd→Nat):∀(ds:DS)(l:List lU),l.Nodup→(∀x,x∈l→Bf ds x=true)→(l.map (wD φ ds)).sum≤(ds.map λp=>φ p.1 p.2).sum
 | [],l,_,h=>by
   cases l with
   |nil=>exact Nat.le_refl _
   |cons a l=>have:=h a (.head _);cases this
 |(n,k)::ds,l,hn,h=>by
   have h1:=Oc (wD φ ((n,k)::ds)) n l hn
   have h2:(l.filter (· != n)).map (wD φ ((n,k)::ds))=(l.filter (· != n)).map (wD φ ds):=List.map_congr_left λx hx=>by
     have:x≠n:=by simpa using (List.mem_filter.1 hx).2
     unfold wD;rw[Rk this]
   have h3:=Sb φ ds (l.filter (· != n)) (List.Sublist.nodup List.filter_sublist hn) λx hx=>by
     have hx':=List.mem_filter.1 hx;have h5:=h x hx'.1;have e:x≠n:=by simpa using hx'.2
     unfold Bf at h5 ⊢;rw[Rk e] at h5;exact h5
   have h4:wD φ ((n,k)::ds) n=φ n k:=by unfold wD;rw[D7,if_pos (by simp)]
   rw[h2] at h1;simp only[List.map_cons,List.sum_cons];omega
def Z6(x:lU)(k:Nd):Nat:=k.cap+x.length+2
theorem PR{α:Type}:∀l:List α,(l.map λ_=>1).sum=l.length
 | []=>rfl
 |a::l=>by simp only[List.map_cons,List.sum_cons,List.length_cons,PR l];omega
theorem Uz{ds:DS}{s:Hw}(h:Gd ds s):s.met.length≤ds.length:=by
 have h1:=Sb (λ_ _=>1) ds s.met h.1 h.2
 have e1:s.met.map (wD (λ_ _=>1) ds)=s.met.map λ_=>1:=List.map_congr_left λx hx=>by
   have:=h.2 x hx;unfold wD;unfold Bf at this
   cases hl:AS ds x with
   |none=>rw[hl] at this;cases this
   |some k=>rfl
 rw[e1,PR] at h1;have:=PR ds;omega
theorem WZ{ds:DS}{s:Hw}(h:Gd ds s)(i:Nat):((s.met.take i).map (wD Z6 ds)).sum≤(ds.map λp=>Z6 p.1 p.2).sum :=
 Sb Z6 ds _ (List.Sublist.nodup (List.take_sublist _ _) h.1) λx hx=>h.2 x (List.mem_of_mem_take hx)
variable {i mb:Nat}{M:Nat→Prop}{dx:Nd}{a:Option Addr}{e:TypeId}
theorem UY{ds:DS}{t d:lU}{s:Hw}(hx:s.met[i]?=some d)(hd:AS ds d=some dx)(hi:i<ds.length) :
   Kc ds (ds.length+1-i) i t s=Kc ds (ds.length+1-(i+1)) (i+1) (t++(FP (Bf ds) d dx s).1) (FP (Bf ds) d dx s).2:=by
 rw[show ds.length+1-i=(ds.length+1-(i+1))+1 by omega,Kc,hx];simp only[hd,Option.getD_some]
theorem X3{ds:DS}{t:lU}{s:Hw}(hx:s.met.length≤i)(hi:i≤ds.length):Kc ds (ds.length+1-i) i t s=(t,s):=by
 rw[show ds.length+1-i=(ds.length-i)+1 by omega,Kc,List.getElem?_eq_none hx]
theorem YP{ds:DS}{T:Nat}{t d:lU}{s:Hw}(hx:s.met[i]?=some d)(hd:AS ds d=some dx)(ht:t.length≤T+((s.met.take i).map (wD Z6 ds)).sum) :
   (t++(FP (Bf ds) d dx s).1).length≤T+(((FP (Bf ds) d dx s).2.met.take (i+1)).map (wD Z6 ds)).sum:=by
 obtain⟨z,hz⟩:=(Rl.data (ds:=ds) (s:=s) (tx:=d) (k:=dx)).pre;have hi:=(List.getElem?_eq_some_iff.1 hx).1;have hl:=VP (Bf ds) d dx s;have hw:wD Z6 ds d=dx.cap+d.length+2:=by unfold wD;rw[hd];rfl
 rw[← hz,List.take_append_of_le_length (by omega),List.take_add_one,hx];simp only[List.map_append,List.sum_append,Option.toList_some,List.map_cons,List.map_nil,List.sum_cons,List.sum_nil,List.length_append];omega
theorem KT{α:Type}{n:lU}{v:α}:∀{l:List (lU×α)},AS l n=some v→(n,v)∈l
 |(k,x)::l,h=>by
   rw[D7] at h
   split at h
   · rename_i e;cases h;rw[eq_of_beq e];exact .head _
   · exact .tail _ (KT h)
theorem N1:∀{nds:Nd}{p:lU×Nd},p∈Ct nds→nds.txb→p.2.size+1≤nds.size∧p.1.length≤100000∧p.2.txb
 |.cons op ln co tx nm k r,p,h,hx=>by
   have hr:p∈Ct r→p.2.size+1≤k.size+r.size+1∧p.1.length≤100000∧p.2.txb:=λh=>by
     have:=N1 h hx.2.2;exact⟨oM,this.2⟩
   show p.2.size+1≤k.size+r.size+1∧_;rw[Ct] at h
   split at h
   · rcases List.mem_append.1 h with h|h
     · exact hr h
     · rw[List.mem_singleton.1 h]
       exact⟨by simp only;omega,hx.1,hx.2.1⟩
   · exact hr h
theorem My:∀nds:Nd,((Ct nds).map λp=>Z6 p.1 p.2).sum≤nds.cap∧(Ct nds).length≤nds.len
 |.nil=>⟨Nat.le_refl _,Nat.le_refl _⟩
 |.cons op ln co tx nm k r=>by
   have h:=My r;rw[Ct];show _≤tx.length+8+k.cap+r.cap∧_≤r.len+1
   split
   · simp only[List.map_append,List.sum_append,List.map_cons,List.map_nil,List.sum_cons,List.sum_nil,Z6,List.length_append,List.length_cons,List.length_nil] at h ⊢;omega
   · omega
theorem Tk{a b:DS}{tx:lU}{k:Nd}(h:((a++(tx,k)::b).map (·.1)).Nodup):AS b tx=none:=by
 rw[List.map_append,List.nodup_append] at h;have h2:=(List.nodup_cons.1 h.2.1).1
 cases hl:AS b tx with
 |none=>rfl
 |some v=>exact absurd (List.mem_map.2 ⟨_,KT hl,rfl⟩) h2
def OI:Nd→Prop
 |.nil=>True
 |.cons op _ _ _ _ k r=>(op=43→k≠.nil)∧OI r
section
variable{ds:DS}{op ln co nm o l c m:Int}{tx x:lU}{k r k1 q:Nd}{out:List (lU×lU)}{w:lU×Hw}
theorem Yd(h:(op==43)=false):PY ds (.cons op ln co tx nm k r) out=PY ds r out:=by cases k <;> (conv=>lhs;unfold PY;rw[if_neg (by rw[h];decide)])
theorem Yf(h:(op==43)=true)(h2:((out.length:Int)==100)=true):PY ds (.cons op ln co tx nm k r) out=.error (ln,co,4):=by cases k <;> (unfold PY;rw[if_pos h,if_pos h2])
theorem MD(h:(op==43)=true)(h2:((out.length:Int)==100)=false)(hw:N0 ds o x k1=w):PY ds (.cons op ln co tx nm (.cons o l c x m k1 q) r) out=if !w.2.keeps then .error (l,c,17) else if w.1.length>1000 then .error (l,c,4) else PY ds r (out++[(tx,w.1)]):=by
 rw[PY,if_pos h,if_neg (by rw[h2];decide)];simp only[hw]
theorem Xb(h:(op==43)=true)(h2:((out.length:Int)==100)=false)(hw:N0 ds o x k1=w)(h3:(!w.2.keeps)=true):PY ds (.cons op ln co tx nm (.cons o l c x m k1 q) r) out=.error (l,c,17):=by
 rw[MD h h2 hw,if_pos h3]
theorem Z8(h:(op==43)=true)(h2:((out.length:Int)==100)=false)(hw:N0 ds o x k1=w)(h3:(!w.2.keeps)=false)(h4:1000<w.1.length):PY ds (.cons op ln co tx nm (.cons o l c x m k1 q) r) out=.error (l,c,4):=by
 rw[MD h h2 hw,if_neg (by rw[h3];decide),if_pos h4]
theorem gJ(h:(op==43)=true)(h2:((out.length:Int)==100)=false)(hw:N0 ds o x k1=w)(h3:(!w.2.keeps)=false)(h4:w.1.length≤1000):PY ds (.cons op ln co tx nm (.cons o l c x m k1 q) r) out=PY ds r (out++[(tx,w.1)]):=by
 rw[MD h h2 hw,if_neg (by rw[h3];decide),if_neg oM]
end
def Z3(mb:Nat)(ds:DS)(w:World)(f:Fq):Prop:=∃es,BE BI w mb es∧FO w f ds es∧Il es
theorem Z3.stab{ds:DS}(hm:M mb):EL M (Z3 mb ds):=λ_ _ _ _ ⟨es,h1,h2,h3⟩ hF hb=>⟨es,h1.heap (hb mb hm),FO.mono hF _ _ h2,h3⟩
theorem X4{w:World}{c:Nat}{l:List lU}(h:BP w e 1 a c l.length (l.map S)){x:lU}(hx:l[i]?=some x):∃b q,a=some ⟨b,0,none⟩∧AI w b q e∧q[i]?=some (S x):=by
 have hi:=(List.getElem?_eq_some_iff.1 hx).1;rcases h.2 with ⟨_,_,hz⟩|⟨b,q,ha,hb,hmc,_,hq,ht⟩
 · omega
 · refine⟨b,q,ha,hb,?_⟩
   have h1:(q.take (l.length*1))[i]?=some (S x):=by rw[ht,List.getElem?_map,hx];rfl
   rw[List.getElem?_take] at h1
   split at h1
   · exact h1
   · cases h1
end Go.SP
namespace Go.SW
variable {Q:AU}{σ:Bc}{X:Cx}{Fs:List (World→Fq→Prop)}{B:List FB}{fs:List Fr}{H:List HB}{n:Nat}{P:Program}
theorem tK{ds:List Deferred}{R:List RB}{k:JS}(MI':Nat→Prop)(I':World→Fq→Prop)(h1:∀b,MI' b→X.MI b)(h2:∀w f,X.I w f→I' w f)(h3:EL MI' I')
   (h:A3 P n Q ds {X with MI:=MI',I:=I' } R B Fs k fs σ H):A3 P n Q ds X R B Fs k fs σ H:=λw f hM =>
 h w f {hM with res:=h2 w f hM.res,stab:=h3,mi:=λb hb=>hM.mi b (h1 b hb),own:=λb hb=>let ⟨x,y,z⟩:=hM.own b hb;⟨x,y,λh=>z (h1 b h)⟩}
end Go.SW
namespace Go.SP
open Go.SW Go.RowKit
variable {σ:Bc}{b i:Nat}{P:Program}{T e ty:TypeId}
theorem XI{w:World}{x:Operand}{k c:Nat}{l:List lU}{s:lU}(hx:ev σ x=some (.pointer (some ⟨b,0+i*1,none⟩)))(hT:AO P T=some (false,k))(hr:BP w e 1 (some ⟨b,0,none⟩) c l.length (l.map S))(hl:l[i]?=some s):AG P σ (.load T x) ty w (S s) w:=by
 obtain⟨b',q,h1,h2,h3⟩:=X4 hr hl
 cases h1
 exact Ai hx hT h2 (by rw[Nat.zero_add,Nat.mul_one];exact h3)
theorem cD{k:Nd}(h:k≠.nil):∃op ln co tx nm k1 r,k=.cons op ln co tx nm k1 r:=by
 cases k with
 |nil=>exact absurd rfl h
 |cons op ln co tx nm k1 r=>exact⟨_,_,_,_,_,_,_,rfl⟩
theorem Gd.nil{ds:DS}{b:Bool}:Gd ds ⟨[],b⟩:=⟨List.nodup_nil,λ_ h=>by cases h⟩
end Go.SP
namespace Go.SP
variable {s:CS}{co ln:Int}{k:Nd}
theorem S4{s1:CS}{e e1:Ba}{op:Int}{tx:lU}{b:Option (lU×T1)}(h:Dn s e op ln co tx k=.ok (b,e1,s1)) :
   if op==41 then AS s.datas tx=none∧∃q,s1.datas=(tx,q)::s.datas else s1.datas=s.datas:=by
 unfold Dn at h
 split at h
 · rename_i h1
   rw[if_pos h1]
   split at h
   · cases h
   · rename_i s2 hd
     cases h
     unfold Gt at hd
     split at hd
     · cases hd
     · rename_i h2
       rw[Bool.or_eq_true,not_or] at h2
       split at hd
       · cases hd
       · simp only at hd
         split at hd
         · cases hd
         · cases hd
           exact⟨by cases hl:AS s.datas tx with|none=>rfl|some v=>rw[hl] at h2;exact absurd rfl h2.1,_,rfl⟩
 · rename_i h1
   rw[if_neg h1]
   split at h
   · cases h;rfl
   · split at h
     · split at h
       · cases h
       · split at h
         · cases h
         · split at h
           · cases h;rfl
           · split at h
             · cases h
             · rename_i hx
               split at h
               · cases h
               · rename_i hh
                 cases h
                 exact (Eb.has hh).2.1.trans (FW Eb _ hx).2.1
     · split at h
       · split at h
         · cases h
         · rename_i hx
           split at h
           · cases h
           · cases h
             exact (FW Eb _ hx).2.1
       · split at h
         · split at h
           · cases h
           · rename_i hx
             split at h
             · cases h
             · cases h
               exact (ON Eb (FW Eb _) hx).2.1
         · split at h
           · cases h
           · rename_i hx
             cases h
             exact (FW Eb _ hx).2.1
theorem Nv:∀(nds:Nd){s:CS}{e:Ba}{out:List (lU×T1)}{r:List (lU×T1)×CS},DY s e nds out=.ok r→(∀p,p∈Ct nds→AS s.datas p.1=none)∧((Ct nds).map (·.1)).Nodup
 |.nil,_,_,_,_,_=>⟨(λ_ h=>by cases h),List.nodup_nil⟩
 |.cons op ln co tx nm k r,s,e,out,q,h=>by
   rw[DY] at h
   have key:∀{b:Option (lU×T1)}{e1:Ba}{s1:CS}{out2:List (lU×T1)},Dn s e op ln co tx k=.ok (b,e1,s1)→DY s1 e1 r out2=.ok q→(∀p,p∈Ct (.cons op ln co tx nm k r)→AS s.datas p.1=none)∧((Ct (.cons op ln co tx nm k r)).map (·.1)).Nodup:=by
     intro b e1 s1 out2 h1 h2;have hd:=S4 h1;have ih:=Nv r h2;rw[Ct]
     split at hd
     · rename_i h41
       rw[if_pos h41];obtain⟨hn,v,hs⟩:=hd
       have hr:∀p,p∈Ct r→AS s.datas p.1=none∧p.1≠tx:=λp hp=>by
         have h5:=ih.1 p hp;rw[hs,D7] at h5
         split at h5
         · cases h5
         · rename_i h6
           exact⟨h5,λe=>h6 (by rw[e];simp)⟩
       refine⟨λp hp=>?_,?_⟩
       · rcases List.mem_append.1 hp with hp|hp
         · exact (hr p hp).1
         · rw[List.mem_singleton.1 hp];exact hn
       · rw[List.map_append,List.nodup_append]
         refine⟨ih.2,by simp,λa ha b hb e=>?_⟩;obtain⟨p,hp,rfl⟩:=List.mem_map.1 ha;have hb:b=tx:=by simpa using hb
         exact (hr p hp).2 (e.trans hb)
     · rename_i h41
       rw[if_neg h41];rw[hd] at ih;exact ih
   split at h
   · cases h
   · rename_i h1;exact key h1 h
   · rename_i h1;exact key h1 h
theorem Vp{nds:Nd}{bs:List (lU×lU)}(h:C5 nds=.ok bs):((Ct nds).map (·.1)).Nodup:=by
 unfold C5 at h
 split at h
 · cases h
 · rename_i h1;exact (Nv nds h1).2
theorem QZ:∀{nds:Nd},nds.wft→OI nds
 |.nil,_=>trivial
 |.cons op ln co tx nm k r,⟨h1,h2⟩=>by
   refine⟨λe=>?_,QZ h2⟩;rcases h1 with h|⟨_,h⟩|⟨h,_⟩
   · omega
   · obtain⟨_,_,_,_,_,_,_,rfl⟩:=Cr h dC
     exact λh=>by cases h
   · omega
end Go.SP
